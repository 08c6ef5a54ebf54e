/- FnExactRootGet: the program's RootGet returns what the reference's returns, for all arguments. (part 1 of 7: JkCore, JkGlob, JkState, JkExec, JkFoot, JkCode, JkTurn, JkOps1, JkOps2, JkOps3, JkOps4, JkOps5, JkOps6, JkOps7, JkOps8, JkOps9, JkOps10, JkOpsD, JkOps11, JkOps12, JkOps13, JkOps14, JkOps15) Conditions: none beyond the statement. -/
import Derived.Calls
import Derived.Below
import Derived.WalkKit
import Derived.Laws.AppendOwn
import Derived.Great.BuildSlice
import Derived.IntWalk
import Derived.Laws.Tables
import Derived.MapKept
import Derived.Laws.BytesArg
import Derived.Lib.ConvBytes
set_option linter.unusedSimpArgs false
set_option linter.unusedVariables false
namespace Go.Jk
abbrev F:=List UInt8
structure aG where
 path:F
 kind:Int
 mode:Int
 text:F
structure bG where
 name:F
 kind:Int
 aW:F
structure aT where
 name:F
 aW:F
 bh:List bG
 bK:List aG
structure arS where
 name:F
 text:F
structure aaR where
 name:F
 text:F
structure Source where
 name:F
 sum:F
structure Piece where
 name:F
 fC:F
structure al2 where
 name:F
 aW:F
 lets:List aaR
 builds:List bG
 runs:List bG
 sources:List Source
 pieces:List Piece
 steps:List F
structure ark where
 at_:Int
 lines:List F
inductive aH where
 |i64|u8|u32|bool|str|entry|need|pack|file|lt|source|piece|recipe|hunk|uE
 deriving DecidableEq
@[reducible] def den:aH->Type
 |.i64|.u8|.u32=>Int
 |.bool=>Bool
 |.str=>F
 |.entry=>aG
 |.need=>bG
 |.pack=>aT
 |.file=>arS
 |.lt=>aaR
 |.source=>Source
 |.piece=>Piece
 |.recipe=>al2
 |.hunk=>ark
 |.uE=>List Bool
inductive aJ:Type where
 |int (k:IntKind) (n:Int)
 |bool (b:Bool)
 |str (s:F)
 |sl (t:aH) (xs:List (den t))
 |fn (g:FuncId) (bE:List (List aJ))
 |map (t:aH) (es:List (F×den t))
 |err (T:Nat) (D:Option Int)
def enc:(t:aH)->den t->List aJ
 |.i64,n=>[.int .i64 n]
 |.u8,n=>[.int .u8 n]
 |.u32,n=>[.int .u32 n]
 |.bool,b=>[.bool b]
 |.str,s=>[.str s]
 |.entry,e=>[.str e.path,.int .i64 e.kind,.int .i64 e.mode,.str e.text]
 |.need,n=>[.str n.name,.int .i64 n.kind,.str n.aW]
 |.pack,p=>[.str p.name,.str p.aW,.sl .need p.bh,.sl .entry p.bK]
 |.file,f=>[.str f.name,.str f.text]
 |.lt,f=>[.str f.name,.str f.text]
 |.source,f=>[.str f.name,.str f.sum]
 |.piece,f=>[.str f.name,.str f.fC]
 |.recipe,r=>[.str r.name,.str r.aW,.sl .lt r.lets,.sl .need r.builds,.sl .need r.runs,.sl .source r.sources,.sl .piece r.pieces,.sl .str r.steps]
 |.hunk,h=>[.int .i64 h.at_,.sl .str h.lines]
 |.uE,b=>[.sl .bool b]
def aA:aH->Nat
 |.i64|.u8|.u32|.bool|.str|.uE=>1
 |.entry=>4
 |.need=>3
 |.pack=>4
 |.file|.lt|.source|.piece|.hunk=>2
 |.recipe=>8
def dec:(t:aH)->List aJ->Option (den t)
 |.i64,[.int .i64 n]=>some n
 |.u8,[.int .u8 n]=>some n
 |.u32,[.int .u32 n]=>some n
 |.bool,[.bool b]=>some b
 |.str,[.str s]=>some s
 |.entry,[.str a,.int .i64 k,.int .i64 m,.str b]=>some ⟨a,k,m,b⟩
 |.need,[.str a,.int .i64 k,.str b]=>some ⟨a,k,b⟩
 |.pack,[.str a,.str b,.sl .need ns,.sl .entry es]=>some ⟨a,b,ns,es⟩
 |.file,[.str a,.str b]=>some ⟨a,b⟩
 |.lt,[.str a,.str b]=>some ⟨a,b⟩
 |.source,[.str a,.str b]=>some ⟨a,b⟩
 |.piece,[.str a,.str b]=>some ⟨a,b⟩
 |.recipe,[.str a,.str b,.sl .lt ab,.sl .need bs,.sl .need lM,.sl .source aV,.sl .piece ps,.sl .str b5]=>some ⟨a,b,ab,bs,lM,aV,ps,b5⟩
 |.hunk,[.int .i64 n,.sl .str ab]=>some ⟨n,ab⟩
 |.uE,[.sl .bool b]=>some b
 |_,_=>none
theorem fW:∀(t:aH) (x:den t),(enc t x).length=aA t:=by
 intro t x;cases t<;>rfl
theorem kd(t:aH):0<aA t:=by cases t<;>decide
theorem o6:∀(t:aH) (ds:List aJ) (x:den t),dec t ds=some x->enc t x=ds:=by
 intro t ds x h;unfold dec at h;split at h<;>first|(cases h;rfl)|cases h
def flat(t:aH)(xs:List (den t)):List aJ:=xs.flatMap (enc t)
theorem eG(t:aH)(xs:List (den t)):(flat t xs).length=xs.length*aA t:=by
 unfold flat;induction xs with
 |nil=>simp
 |cons x xs ih=>simp[List.flatMap_cons,fW,ih,Nat.add_mul,Nat.add_comm]
theorem pX(t:aH)(xs ys:List (den t)):flat t (xs++ys)=flat t xs++flat t ys:=by
 simp[flat,List.flatMap_append]
theorem flat_get(t:aH)(xs:List (den t))(i j:Nat)(x:den t)(hx:xs[i]? =some x)(hj:j<aA t):
  (flat t xs)[i*aA t+j]? =(enc t x)[j]? :=by
 induction xs generalizing i with
 |nil=>simp at hx
 |cons y ys ih=>
  cases i with
  |zero=>
   simp only[List.getElem?_cons_zero,Option.some.injEq] at hx;subst hx;simp only[Nat.zero_mul,Nat.zero_add,flat,List.flatMap_cons];rw[List.getElem?_append_left (by rw[fW];exact hj)]
  |succ i=>
   simp only[List.getElem?_cons_succ] at hx;have:=ih i hx;simp only[flat,List.flatMap_cons] at this ⊢;rw[List.getElem?_append_right (by rw[fW,Nat.add_mul];omega),fW]
   rw[<-this];congr 1
   rw[Nat.add_mul];omega
theorem aig(t:aH)(xs:List (den t))(i:Nat)(x:den t):
  flat t (xs.set i x)=(flat t xs).take (i*aA t)++(if i<xs.length then enc t x else [])++(flat t xs).drop ((i+1)*aA t):=by
 induction xs generalizing i with
 |nil=>simp[flat]
 |cons y ys ih=>
  cases i with
  |zero=>
   simp only[List.set_cons_zero,flat,List.flatMap_cons,Nat.zero_mul,List.take_zero,List.nil_append,List.length_cons,Nat.zero_lt_succ,if_true,Nat.zero_add,Nat.one_mul];rw[List.drop_append_of_le_length (by rw[fW];omega)]
   rw[show List.drop (aA t) (enc t y)=[] from List.drop_eq_nil_of_le (by rw[fW];exact Nat.le_refl _)]
   rfl
  |succ i=>
   have h:=ih i;simp only[flat] at h;simp only[List.set_cons_succ,flat,List.flatMap_cons,List.length_cons];rw[h];have e1:List.take ((i+1)*aA t) (enc t y++ys.flatMap (enc t))=enc t y++(ys.flatMap (enc t)).take (i*aA t):=by
    rw[List.take_append,List.take_of_length_le (by rw[fW,Nat.add_mul];omega),fW]
    congr 2
    rw[Nat.add_mul];omega
   have e2:List.drop ((i+1+1)*aA t) (enc t y++ys.flatMap (enc t))=(ys.flatMap (enc t)).drop ((i+1)*aA t):=by
    rw[List.drop_append,List.drop_eq_nil_of_le (by rw[fW,Nat.add_mul,Nat.add_mul];omega),fW,List.nil_append]
    congr 1
    rw[Nat.add_mul (i+1) 1];omega
   rw[e1,e2];simp only[Nat.add_lt_add_iff_right,List.append_assoc]
def jj:List Int:=[1116352408,1899447441,3049323471,3921009573,961987163,1508970993,2453635748,2870763221,3624381080,310598401,607225278,1426881987,1925078388,2162078206,2614888103,3248222580,3835390401,4022224774,264347078,604807628,770255983,1249150122,1555081692,1996064986,2554220882,2821834349,2952996808,3210313671,3336571891,3584528711,113926993,338241895,666307205,773529912,1294757372,1396182291,1695183700,1986661051,2177026350,2456956037,2730485921,2820302411,3259730800,3345764771,3516065817,3600352804,4094571909,275423344,430227734,506948616,659060556,883997877,958139571,1322822218,1537002063,1747873779,1955562222,2024104815,2227730452,2361852424,2428436474,2756734187,3204031479,3329325298]
def VE:List Int:=(List.range 20).map fun i=>((10^i:Nat):Int)
def pd(w:World)(g:Nat)(k:IntKind)(zs:List Int):Prop:=∃T fz,w.heap[g]? =some (.cells (zs.map fun z=>Value.int k z).toArray T fz)
def sK:TypeId:=235
def mC:TypeId:=5
def lH:List Nat:=[1,4]
def oB(w:World):Prop:=pd w 1 .u32 jj/\pd w 4 .u64 VE
theorem anh{w w':World}(h:∀b,b∈lH->w'.heap[b]? =w.heap[b]?)(k:oB w):oB w':=by
 obtain⟨⟨lV,f0,h0⟩,⟨cQ,f1,h1⟩⟩:=k;exact⟨⟨lV,f0,(h 1 (by simp[lH])).trans h0⟩,⟨cQ,f1,(h 4 (by simp[lH])).trans h1⟩⟩
theorem pd.lt{w:World}{g:Nat}{k:IntKind}{zs:List Int}(h:pd w g k zs):g<w.heap.size:=by
 obtain⟨T,f,h⟩:=h;exact(Array.getElem?_eq_some_iff.1 h).1
theorem aup{w:World}(k:oB w)(b:Nat)(h:b∈lH):b<w.heap.size:=by
 simp only[lH,List.mem_cons,List.not_mem_nil,or_false] at h;rcases h with rfl|rfl
 ·exact k.1.lt
 ·exact k.2.lt
inductive az:Type where
 |d (v:aJ)
 |nil (t:aH) -- ot nil slice
 |own (o s:Nat) -- ot whole of a row of uo own
 |ptr (o s off:Nat) -- a pointer axu a box of uo own
 |eQ (cells:List aJ) (off:Nat) -- a pointer ER cells xF M6 only read
 |eR (o s:Nat) (t:aH) (k off:Nat) -- a pointer ER awY k of a row of uo own,Mg cell 'qD
 |clo (g:FuncId) (bE:List (Nat×Nat)) -- a closure over boxes of uo own
 |cL (v:Value) -- axs this value
 |fresh (t:aH) (xs:List (den t)) -- a row xF aw4 else holds (akn caller and callee alone)
 |jb (t:aH) (xs:List (den t)) -- ot same,with ot rows in Mg elements
 |dH -- in a anp first cell:nil,or ot anp own address (strings.aw0)
 |any
inductive bH:Type where
 |ag (l:az)
 |agg (ab:List az)
inductive aI:Type where
 |av (a:bH)
 |kq (as:List bH)
inductive Site:Type where
 |box (s:Nat) (cells:List az)
 |row (s:Nat) (t:aH) (xs:List (den t))
 |da (s:Nat) (t:aH) (xs:List (den t))
 |map (s:Nat) (t:aH) (es:List (F×den t))
 |deep (s:Nat) (t:aH) (xs:List (den t)) -- a row of uo own with ot rows in Mg elements
 |dead (s:Nat)
def Site.b':Site->Nat
 |.box s _|.row s _ _|.da s _ _|.map s _ _|.deep s _ _|.dead s=>s
def Site.live:Site->Bool
 |.box _ _|.row _ _ _|.map _ _ _|.deep _ _ _=>true
 |_=>false
def look{aB:Type}:List (Nat×aB)->Nat->Option aB
 |[],_=>none
 |(k,v)::r,n=>bif k.beq n then some v else look r n
def cg{aB:Type}:List (Nat×aB)->Nat->aB->List (Nat×aB)
 |[],n,v=>[(n,v)]
 |(k,w)::r,n,v=>bif k.beq n then(k,v)::r else(k,w)::cg r n v
theorem ko{a b:Nat}(h:¬a=b):a.beq b=false:=by
 cases e:a.beq b
 ·rfl
 ·exact absurd (Nat.eq_of_beq_eq_true e) h
theorem cC{aB:Type}(l:List (Nat×aB))(n m:Nat)(v:aB):look (cg l n v) m=if n=m then some v else look l m:=by
 induction l with
 |nil=>
  simp only[cg,look];by_cases h:n=m
  ·subst h;simp
  ·have:n.beq m=false:=ko h;simp[this,h]
 |cons p l ih=>
  obtain⟨k,w⟩:=p;simp only[cg];by_cases h:k=n
  ·subst h;simp only[Nat.beq_refl,cond_true,look];by_cases hm:k=m
   ·subst hm;simp
   ·have:k.beq m=false:=ko hm;simp[this,hm]
  ·have hb:k.beq n=false:=ko h;simp only[hb,cond_false,look];by_cases hm:k=m
   ·subst hm;have:¬n=k:=fun e=>h e.symm
    simp[this]
   ·have:k.beq m=false:=ko hm;simp[this,ih]
structure af where
 cO:List (Nat×aI)
 sites:List (Nat×Site)
 nt:Nat
def af.get(st:af)(t:Nat):aI:=match look st.cO t with|some v=>v|none=>.av (.ag .any)
def af.aa(st:af)(o:Nat):Option Site:=look st.sites o
def af.set(st:af)(t:Nat)(v:aI):af:={st with cO:=cg st.cO t v}
def af.dK(st:af)(o:Nat)(s:Site):af:={st with sites:=cg st.sites o s}
@[simp] theorem af.I_(st:af)(t u:Nat)(v:aI):(st.set t v).get u=if t=u then v else st.get u:=by
 unfold af.set af.get;rw[cC];by_cases h:t=u<;>simp[h]
@[simp] theorem af.ag7(st:af)(t o:Nat)(v:aI):(st.set t v).aa o=st.aa o:=rfl
@[simp] theorem af.als(st:af)(t:Nat)(v:aI):(st.set t v).nt=st.nt:=rfl
@[simp] theorem af.adf(st:af)(o u:Nat)(s:Site):(st.dK o s).get u=st.get u:=rfl
@[simp] theorem af.nP(st:af)(o M:Nat)(s:Site):(st.dK o s).aa M=if o=M then some s else st.aa M:=by
 unfold af.dK af.aa;simp only[cC]
@[simp] theorem af.ad5(st:af)(o:Nat)(s:Site):(st.dK o s).nt=st.nt:=rfl
def oH:(t:aH)->den t->Value
 |.i64,n=>.int .i64 n
 |.bool,b=>.bool b
 |_,_=>undef
def h7(l:F):Value:=.string ⟨l.toArray⟩
def n5(arr:Array MapEntry):List (Value×Value):=arr.toList.map fun e=>(e.key,e.val)
def kL(t:aH)(es:List (F×den t)):List (Value×Value):=es.map fun p=>(h7 p.1,oH t p.2)
def na(w:World)(b:Nat)(t:aH)(es:List (F×den t)):Prop:=∃arr clock,w.heap[b]? =some (.map arr clock)/\n5 arr=kL t es
theorem na.of{w w':World}{b:Nat}{t:aH}{es:List (F×den t)}(h:w'.heap[b]? =w.heap[b]?)(m:na w b t es):na w' b t es:=by
 obtain⟨arr,c,h1,h2⟩:=m;exact⟨arr,c,h.trans h1,h2⟩
theorem na.lt{w:World}{b:Nat}{t:aH}{es:List (F×den t)}(m:na w b t es):b<w.heap.size:=by
 obtain⟨arr,c,h1,h2⟩:=m;rcases Nat.lt_or_ge b w.heap.size with h|h
 ·exact h
 ·rw[Array.getElem?_eq_none h] at h1;cases h1
inductive bm(w:World)(av:Nat->Prop):aJ->Value->Prop where
 |int (k:IntKind) (n:Int):bm w av (.int k n) (.int k n)
 |bool (b:Bool):bm w av (.bool b) (.bool b)
 |str (l:F) (s:ByteArray) (h:s.data.toList=l):bm w av (.str l) (.string s)
 |nil (t:aH):bm w av (.sl t []) (.slice none 0 0)
 |sl (t:aH) (xs:List (den t)) (a:Addr) (cap:Nat) (cs:List Value) (n:Nat) (hn:n=xs.length) (hcap:n<=cap) (hb:xs≠[]->¬av a.block)
   (hl:cs.length=(flat t xs).length)
   (hc:∀j u,cs[j]? =some u->w.cell? (a.add j)=some u)
   (hr:∀j (h:j<(flat t xs).length) (ae:j<cs.length),bm w av ((flat t xs)[j]) (cs[j])):bm w av (.sl t xs) (.slice (some a) n cap)
 |fn (g:FuncId) (bE:List (List aJ)) (bs:List Nat) (jL:Nat->List Value) (lb:Array Value) (hlb:lb=(bs.map fun b=>Value.pointer (some ⟨b,0,none⟩)).toArray) (qU:bs.length=bE.length)
   (hb:∀b,b∈bs->¬av b) (hlt:∀b,b∈bs->b<w.heap.size)
   (hl:∀i (h:i<bE.length),(jL i).length=(bE[i]).length)
   (hc:∀i (h:i<bs.length) j u,(jL i)[j]? =some u->w.cell? ⟨bs[i],j,none⟩=some u)
   (hr:∀i (h:i<bE.length) j (h1:j<(bE[i]).length) (h2:j<(jL i).length),bm w av ((bE[i])[j]) ((jL i)[j])):
   bm w av (.fn g bE) (.func (.func g) #[] lb)
 |xN (t:aH):bm w av (.map t []) (.map none)
 |map (t:aH) (es:List (F×den t)) (b:Nat) (hb:¬av b) (hm:na w b t es):bm w av (.map t es) (.map (some b))
 |x1 (T:TypeId):bm w av (.err T none) .nilIface
 |err (T:TypeId) (n:Int):bm w av (.err T (some n)) (.iface T (.agg #[.int .i64 n]))
theorem bm.jt{w:World}{av:Nat->Prop}{d:aJ}{v:Value}(r:bm w av d v):v.oneCell'=true:=by
 cases r<;>rfl
def x7(v:Value):Prop:=v=.slice none 0 0\/∃b n c,v=.slice (some ⟨b,0,none⟩) n c
def bq:Value->Option Nat
 |.slice (some a) _ _=>some a.block
 |.pointer (some a)=>some a.block
 |.map (some b)=>some b
 |_=>none
def b0:Value->Value
 |.tuple vs=>vs.toList.headD undef
 |v=>v
def bJ:Value->List Nat
 |.tuple vs=>vs.toList.flatMap fun v=>(bq v).toList
 |v=>(bq v).toList
theorem gT{v:Value}{b:Nat}(h:bq v=some b):b∈bJ v:=by
 cases v<;>first|(show b∈(bq _).toList;rw[h];simp)|cases h
section
variable (B:Nat->Value)(sites:List (Nat×Site))(w:World)(av:Nat->Prop)
def Ref(o s:Nat)(p:Prop):Prop:=∃aa,look sites o=some aa/\s<=aa.b'/\(aa.b'=s->p)
def dF:az->Value->Prop
 |.d x,v=>bm w av x v
 |.nil _,v=>v=.slice none 0 0
 |.own o s,v=>v.oneCell'=true/\Ref sites o s (v=b0 (B o))
 |.ptr o s off,v=>∃b,v=.pointer (some ⟨b,off,none⟩)/\Ref sites o s (b0 (B o)=.pointer (some ⟨b,0,none⟩))
 |.eQ cells off,v=>∃b D,v=.pointer (some ⟨b,D+off,none⟩)/\¬av b/\b<w.heap.size/\∃cs:List Value,cs.length=cells.length/\(∀j u,cs[j]? =some u->w.cell? ⟨b,D+j,none⟩=some u)/\
   ∀j (h:j<cells.length) (ae:j<cs.length),bm w av (cells[j]) (cs[j])
 |.eR o s t k off,v=>∃b,v=.pointer (some ⟨b,k*aA t+off,none⟩)/\Ref sites o s (∃n c,b0 (B o)=.slice (some ⟨b,0,none⟩) n c)
 |.clo g bE,v=>∃vs:List Value,v=.func (.func g) #[] vs.toArray/\vs.length=bE.length/\∀i (h:i<bE.length) (ae:i<vs.length),Ref sites (bE[i]).1 (bE[i]).2 (vs[i]=b0 (B (bE[i]).1))
 |.cL u,v=>v=u
 |.fresh _ _,_=>False
 |.jb _ _,_=>False
 |.dH,_=>True
 |.any,_=>True
def aH.fu:aH->Bool
 |.u8=>true
 |_=>false
def mu(u:Bool)(e:TypeId)(cur:Array Value)(fz:Nat×Nat):Prop:=(u=true->e=mC)/\(fz=(0,0)\/u=true/\cur.size<=fz.1)
def rowAt(w:World)(u:Bool)(e:TypeId)(size:Nat)(v:Value)(n:Nat)(xs:List Value):Prop:=
 xs.length=n*size/\((v=.slice none 0 0/\n=0)\/
  ∃g cap cur fz,v=.slice (some ⟨g,0,none⟩) n cap/\mu u e cur fz/\w.heap[g]? =some (.cells cur e fz)/\n<=cap/\cap<=maxLen/\cur.size=cap*size/\cur.toList.take (n*size)=xs)
theorem v7(w:World)(u:Bool)(e:TypeId)(size:Nat):rowAt w u e size (.slice none 0 0) 0 []:=⟨by simp,.inl ⟨rfl,rfl⟩⟩
theorem jR{w:World}{u:Bool}{e:TypeId}{size:Nat}{v:Value}{n:Nat}{xs:List Value}(h:rowAt w u e size v n xs):b0 v=v/\bJ v=(bq v).toList:=by
 rcases h.2 with⟨rfl,_⟩|⟨g,cap,cur,fz,rfl,_⟩<;>exact⟨rfl,rfl⟩
theorem wH{w:World}{u:Bool}{e:TypeId}{size:Nat}{v:Value}{n:Nat}{xs:List Value}{b:Nat}(h:rowAt w u e size v n xs)(hb:b∈bJ v):bq v=some b:=by
 rw[(jR h).2] at hb;simpa using hb
theorem td{w w':World}{u:Bool}{e:TypeId}{size:Nat}{v:Value}{n:Nat}{xs:List Value}(h:rowAt w u e size v n xs)(hb:∀b,bq v=some b->w'.heap[b]? =w.heap[b]?):rowAt w' u e size v n xs:=by
 refine⟨h.1,?_⟩;rcases h.2 with hn|⟨g,cap,cur,fz,hv,r1,r2,jJ⟩
 ·exact .inl hn
 ·refine .inr ⟨g,cap,cur,fz,hv,r1,?_,jJ⟩;rw[hb g (by rw[hv];rfl)];exact r2
def cu(w:World)(av:Nat->Prop)(ds:List aJ)(vs:List Value):Prop:=vs.length=ds.length/\∀j (h:j<ds.length) (ae:j<vs.length),bm w av (ds[j]) (vs[j])
def aJ.plain:aJ->Bool
 |.sl _ _|.fn _ _|.map _ _=>false
 |_=>true
inductive Deep(w:World)(av:Nat->Prop):List aJ->List Value->List Value->Prop where
 |nil:Deep w av [] [] []
 |row (u:aH) (ys:List (den u)) (e:TypeId) (ab:List Value) (hp:∀d,d∈flat u ys->d.plain=true) {c:Value} {ds:List aJ} {cs ns:List Value} (h:rowAt w u.fu e (aA u) c ys.length ab) (hr:cu w av (flat u ys) ab) (k:Deep w av ds cs ns):Deep w av (.sl u ys::ds) (c::cs) (c::ns)
 |leaf {d:aJ} {c:Value} {ds:List aJ} {cs ns:List Value} (hp:d.plain=true) (h:bm w av d c) (k:Deep w av ds cs ns):Deep w av (d::ds) (c::cs) ns
def oc(cells:List az)(T:TypeId)(cur:List Value)(b:Nat):Prop:=cells.head?=some .dH->T=sK/\(cur.head?=some (.pointer none)\/cur.head?=some (.pointer (some ⟨b,0,none⟩)))
def gZ:bH->Value->Prop
 |.ag l,v=>dF B sites w av l v
 |.agg ab,v=>∃vs:List Value,v=.agg vs.toArray/\vs.length=ab.length/\∀j (h:j<ab.length) (ae:j<vs.length),dF B sites w av (ab[j]) (vs[j])
def cj:aI->Value->Prop
 |.av a,v=>gZ B sites w av a v
 |.kq as,v=>∃vs:List Value,v=.tuple vs.toArray/\vs.length=as.length/\∀j (h:j<as.length) (ae:j<vs.length),gZ B sites w av (as[j]) (vs[j])
def jS(o:Nat):Site->Prop
 |.box _ cells=>∃b T,∃cur:List Value,B o=.pointer (some ⟨b,0,none⟩)/\w.heap[b]? =some (.cells cur.toArray T (0,0))/\cur.length=cells.length/\
   (∀u∈cur,u.oneCell'=true)/\oc cells T cur b/\∀j (h:j<cells.length) (ae:j<cur.length),dF B sites w av (cells[j]) (cur[j])
 |.row _ t xs=>∃e,∃cs:List Value,rowAt w t.fu e (aA t) (B o) xs.length cs/\∀j (h:j<(flat t xs).length) (ae:j<cs.length),bm w av ((flat t xs)[j]) (cs[j])
 |.da _ t xs=>bm w av (.sl t xs) (b0 (B o))/\x7 (b0 (B o))
 |.map _ t es=>∃b,B o=.map (some b)/\na w b t es
 |.deep _ t xs=>∃e v,∃ns cs:List Value,B o=.tuple (v::ns).toArray/\(bJ (B o)).Nodup/\rowAt w t.fu e (aA t) v xs.length cs/\Deep w av (flat t xs) cs ns
 |.dead _=>True
end
theorem kb{v:Value}{ns:List Value}{b:Nat}:b∈bJ (.tuple (v::ns).toArray) <-> bq v=some b\/∃n,n∈ns/\bq n=some b:=by
 simp[bJ]
def bY(sites:List (Nat×Site))(o:Nat):Prop:=∃aa,look sites o=some aa/\aa.live=true
def ar(X:Nat->Prop)(B:Nat->Value)(sites:List (Nat×Site))(b:Nat):Prop:=X b\/∃o,bY sites o/\b∈bJ (B o)
structure Fr(U:List Nat)(O w:World):Prop where
 os:w.os=O.os
 tape:w.tape=O.tape
 output:w.output=O.output
 size:O.heap.size<=w.heap.size
 block:∀b,b<O.heap.size->b∉U->w.heap[b]? =O.heap[b]?
theorem Fr.refl(U:List Nat)(w:World):Fr U w w:=⟨rfl,rfl,rfl,Nat.le_refl _,fun _ _ _=>rfl⟩
structure jc(w:World)(U:List Nat)(X:Nat->Prop):Prop where
 ok:oB w
 U:∀b,b∈lH->b∉U
 X:∀b,b∈lH->¬X b
 lt:∀b,b∈lH->b<w.heap.size
theorem jc.less{w:World}{U:List Nat}{X X':Nat->Prop}(G:jc w U X)(h:∀b,b∈lH->X' b->X b):jc w U X':=⟨G.ok,G.U,fun b hb hx=>G.X b hb (h b hb hx),G.lt⟩
theorem jc.amU{w:World}{U:List Nat}{X X':Nat->Prop}(G:jc w U X)(h:∀b,X' b->X b\/b∈U):jc w U X':=⟨G.ok,G.U,fun b hb hx=>(h b hx).elim (G.X b hb) (G.U b hb),G.lt⟩
structure ai(O:World)(U:List Nat)(X:Nat->Prop)(B:Nat->Value)(st:af)(tm:Array Value)(w:World):Prop where
 nt:tm.size=st.nt
 cO:∀t,cj B st.sites w (ar X B st.sites) (st.get t) (tm.getD t undef)
 sites:∀o aa,look st.sites o=some aa->jS B st.sites w (ar X B st.sites) o aa
 dC:∀o M b,bY st.sites o->bY st.sites M->b∈bJ (B o)->b∈bJ (B M)->o=M
 cf:∀o b,bY st.sites o->b∈bJ (B o)->¬X b/\(b∈U\/O.heap.size<=b)
 frame:Fr U O w
 old:∀b,X b->b<w.heap.size
 fC:jc O U X
inductive cp:Type where
 |none
 |int (k:IntKind)
 |bool
 |str
 |ptr
 |func
 |slice (e:TypeId) (t:aH) (bytes:Nat)
 |struct (bM:List (Nat×Nat)) (n:Nat) (z:List az) (eq:Bool)
 |map (k e:TypeId) (t:aH)
 |arr (e:TypeId) (t:aH) (n:Nat)
 |iface
def y1:(t:aH)->Option (den t)
 |.i64|.u8|.u32=>some (0:Int)
 |.bool=>some false
 |.str=>some ([]:F)
 |_=>none
def u3:aH->Option az
 |.i64=>some (.d (.int .i64 0))
 |.u8=>some (.d (.int .u8 0))
 |.u32=>some (.d (.int .u32 0))
 |.bool=>some (.d (.bool false))
 |.str=>some (.d (.str []))
 |_=>none
def cp.agg:cp->Bool
 |.struct _ _ _ _|.arr _ _ _=>true
 |_=>false
def cp.known:cp->Bool
 |.none=>false
 |_=>true
def cp.size:cp->Nat
 |.struct _ n _ _=>n
 |.arr _ _ n=>n
 |_=>1
def cp.zero:cp->Option (List az)
 |.none=>Option.none
 |.int k=>some [.d (.int k 0)]
 |.bool=>some [.d (.bool false)]
 |.str=>some [.d (.str [])]
 |.ptr=>some [.cL (.pointer Option.none)]
 |.func=>some [.cL .nilFunc]
 |.slice _ t _=>some [.nil t]
 |.struct _ _ z _=>some z
 |.map _ _ _=>some [.cL (.map Option.none)]
 |.arr _ t n=>(u3 t).map (List.replicate n)
 |.iface=>some [.cL .nilIface]
inductive Arg:Type where
 |av (a:bH)
 |eg (cells:List az)
structure x4:Type 1 where
 J:Type
 comp:Option J
 eg:J->List (List az)
 ft:J->List bH
 e':J->List az -- rows xF axj anf,as axk axI back
abbrev aK:=List Arg->x4
def x4.fail:x4:=⟨Unit,Option.none,fun _=>[],fun _=>[],fun _=>[]⟩
structure Ctx:Type 1 where
 tt:TypeId->cp
 bM:FuncId->Option aK
 lL:FuncId->Option FuncId:=fun _=>none
 oI:FuncId->Bool:=fun _=>false
 op:FuncId->Bool:=fun _=>false
 iH:FuncId->Bool:=fun _=>false -- a agD copy check
 bs:FuncId->Bool:=fun _=>false -- a agD String
 gt:Nat->Option ((t:aH)×List (den t)):=fun _=>none -- ot awV tables
 eu:Bool:=false -- rows of rows M6 made as uo own,whole
structure dn:Type 1 where
 J:Type
 comp:Option J
 val:J->aI
 us:J->List (Nat×Site)
 sM:J->Bool
def dn.fail:dn:=⟨Unit,Option.none,fun _=>.av (.ag .any),fun _=>[],fun _=>false⟩
def dn.ok(v:aI):dn:=⟨Unit,some (),fun _=>v,fun _=>[],fun _=>true⟩
def dn.fR(v:aI)(us:List (Nat×Site)):dn:=⟨Unit,some (),fun _=>v,fun _=>us,fun _=>true⟩
def dn.eN{J:Type}(c:Option J)(f:J->aI):dn:=⟨J,c,f,fun _=>[],fun _=>true⟩
def dn.fN{J:Type}(c:Option J)(f:J->aI)(us:J->List (Nat×Site)):dn:=⟨J,c,f,us,fun _=>true⟩
def aQ{aB:Type}(xs:List aB)(i:Int):Option aB:=if 0<=i then xs[i.toNat]? else none
def aU(n:Nat)(i:Int):Option Nat:=if 0<=i/\i<n then some i.toNat else none
def bD{aB:Type}(xs:List aB)(cX hi:Int):Option (List aB):=if 0<=cX/\cX<=hi/\hi<=xs.length then some ((xs.take hi.toNat).drop cX.toNat) else none
def room:Nat:=140737488355328
def cw{aB:Type}(bytes:Nat)(xs ys:List aB):Option (List aB):=if(xs.length+ys.length)*bytes<=room/\xs.length+ys.length<=maxLen then some (xs++ys) else none
def ch(s t:F):Option F:=if((s.length+t.length:Nat):Int)>IntKind.i64.max then none else some (s++t)
def nc(k:IntKind)(x y:Int):Option Int:=if y=0 then none else some (k.wrap (x.tdiv y))
def lr(x y:Int):Option Int:=if y=0 then none else some (x.tmod y)
def mn(k:IntKind)(x y:Int):Option Int:=if y<0 then none else some (k.wrap (x*2^(min y.toNat k.bits)))
def fM(k:IntKind)(x y:Int):Option Int:=if y<0 then none else some (x.fdiv (2^(min y.toNat k.bits)))
def j2{aB:Type}(bytes:Nat)(n c:Int)(z:aB):Option (List aB):=if 0<=n/\n<=c/\c*bytes<=room/\c<=maxLen then some (List.replicate n.toNat z) else none
def h9(x y:Int):Int:=if y>x then y else x
def nf(x y:Int):Int:=if y<x then y else x
def eS(k:IntKind)(x y:Int):Int:=k.wrap (BitVec.ofInt k.bits x &&& BitVec.ofInt k.bits y).toNat
def iD(k:IntKind)(x y:Int):Int:=k.wrap (BitVec.ofInt k.bits x ||| BitVec.ofInt k.bits y).toNat
def dx(k:IntKind)(x y:Int):Int:=k.wrap (BitVec.ofInt k.bits x ^^^ BitVec.ofInt k.bits y).toNat
def bytesOf(s:F):List Int:=s.map fun b=>(b.toNat:Int)
def strOf(xs:List Int):F:=xs.map fun n=>UInt8.ofNat n.toNat
abbrev one(d:aJ):aI:=.av (.ag (.d d))
abbrev bP(l:az):aI:=.av (.ag l)
def wZ(ti:cp):Value->aI
 |.int k n=>one (.int k n)
 |.bool b=>one (.bool b)
 |.string s=>one (.str s.data.toList)
 |.slice none 0 0=>match ti with|.slice _ t _=>bP (.nil t)|_=>bP (.cL (.slice none 0 0))
 |.map none=>match ti with|.map _ _ t=>one (.map t [])|_=>bP (.cL (.map none))
 |.agg _|.tuple _=>bP .any
 |v=>bP (.cL v)
def aS(C:Ctx)(st:af)(T:TypeId):Operand->aI
 |.tmp t=>st.get t
 |.const v=>wZ (C.tt T) v
 |.global g=>bP (.cL (.pointer (some ⟨g,0,none⟩)))
 |.func f=>bP (.clo f [])
def rowOf(st:af)(o s:Nat):Option ((t:aH)×List (den t)):=
 match st.aa o with
 |some (.row au t xs)=>bif au.beq s then some ⟨t,xs⟩ else none
 |some (.da au t xs)=>bif au.beq s then some ⟨t,xs⟩ else none
 |_=>none
def mW(st:af)(o s:Nat):Option ((t:aH)×List (den t)):=
 match st.aa o with
 |some (.deep au t xs)=>bif au.beq s then some ⟨t,xs⟩ else none
 |_=>none
def qz(st:af)(o s:Nat):Option ((t:aH)×List (den t)):=match rowOf st o s with
 |some x=>some x
 |none=>mW st o s
def gn(st:af)(o s:Nat):Option (List az):=
 match st.aa o with
 |some (.box au cells)=>bif au.beq s then some cells else none
 |_=>none
def mapOf(st:af):az->Option ((t:aH)×List (F×den t))
 |.d (.map t es)=>some ⟨t,es⟩
 |.own o s=>match st.aa o with
  |some (.map au t es)=>bif au.beq s then some ⟨t,es⟩ else none
  |_=>none
 |_=>none
def li{aB:Type}:List (F×aB)->F->Option aB
 |[],_=>none
 |(k,v)::r,n=>bif k==n then some v else li r n
def qm{aB:Type}:List (F×aB)->F->aB->List (F×aB)
 |[],n,v=>[(n,v)]
 |(k,w)::r,n,v=>bif k==n then(k,v)::r else(k,w)::qm r n v
def KC:(t:aH)->aJ->Option (den t)
 |.i64,.int .i64 n=>some n
 |.bool,.bool b=>some b
 |_,_=>none
def xA:(t:aH)->Option (den t)->Option aJ
 |.i64,D=>some (.int .i64 (D.getD 0))
 |.bool,D=>some (.bool (D.getD false))
 |_,_=>none
def aZ(st:af)(o:Nat):Nat:=match st.aa o with|some x=>x.b'+1|none=>0
def nm(st:af)(o s:Nat)(t:aH)(xs:List (den t)):List (Nat×Site):=match st.aa o with
 |some (.da _ _ _)=>[]
 |_=>[(o,.da s t xs)]
def kx(st:af):az->Option (aJ×List (Nat×Site))
 |.d v=>some (v,[])
 |.nil t=>some (.sl t [],[])
 |.own o s=>match rowOf st o s with
  |some ⟨t,xs⟩=>some (.sl t xs,nm st o s t xs)
  |none=>match mW st o s with
   |some ⟨t,xs⟩=>some (.sl t xs,[(o,.da s t xs)])
   |none=>none
 |.clo g []=>some (.fn g [],[])
 |_=>none
def iB(st:af):List az->Option (List aJ×List (Nat×Site))
 |[]=>some ([],[])
 |l::ab=>match kx st l,iB st ab with
  |some (d,us),some (ds,vs)=>some (d::ds,us++vs)
  |_,_=>none
def aH.iv:aH->Bool
 |.pack|.recipe|.hunk|.uE=>true
 |_=>false
def sink(st:af):az->Option (aJ×List (Nat×Site))
 |.d (.int k n)=>some (.int k n,[])
 |.d (.bool b)=>some (.bool b,[])
 |.d (.str s)=>some (.str s,[])
 |.nil t=>some (.sl t [],[])
 |.own o s=>match st.aa o with
  |some (.row au t xs)=>bif au.beq s&&!t.iv then some (.sl t xs,[(o,.dead s)]) else none
  |_=>none
 |_=>none
def sinks(st:af):List az->Option (List aJ×List (Nat×Site))
 |[]=>some ([],[])
 |l::ab=>match sink st l,sinks st ab with
  |some (d,us),some (ds,vs)=>some (d::ds,us++vs)
  |_,_=>none
def bH.cells:bH->List az
 |.ag l=>[l]
 |.agg ab=>ab
def az.storable:az->Bool
 |.any|.dH|.fresh _ _|.jb _ _|.eQ _ _|.eR _ _ _ _ _=>false
 |.cL (.agg _)|.cL (.tuple _)=>false
 |_=>true
def hH:List az->Bool
 |[]=>true
 |l::ab=>l.storable&&hH ab
def cut(agg:Bool)(off n:Nat)(ab:List az):Option aI:=
 bif agg then(bif Nat.ble (off+n) ab.length then some (.av (.agg ((ab.drop off).take n))) else none)
 else match ab.drop off with|l::_=>some (bP l)|[]=>none
def cM(ds:List aJ):List az:=ds.map .d
def bA{aB:Type}(old:List aB)(off:Nat)(new:List aB):List aB:=old.take off++new++old.drop (off+new.length)
def Cy:aJ->aJ->Option Bool
 |.int k a,.int k' b=>if k=k' then some (a==b) else none
 |.bool a,.bool b=>some (a==b)
 |.str a,.str b=>some (a==b)
 |_,_=>none
def w0:List az->List az->Option Bool
 |[.d a],[.d b]=>Cy a b
 |.d a::as,.d b::bs=>match Cy a b,w0 as bs with
  |some x,some y=>some (x&&y)
  |_,_=>none
 |_,_=>none
def UY(op:BinOp)(k:IntKind)(x y:Int):dn:=
 match op with
 |.add=>.ok (one (.int k (k.wrap (x+y))))
 |.sub=>.ok (one (.int k (k.wrap (x-y))))
 |.mul=>.ok (one (.int k (k.wrap (x*y))))
 |.quo=>.eN (nc k x y) fun n=>one (.int k n)
 |.rem=>.eN (lr x y) fun n=>one (.int k n)
 |.and=>.ok (one (.int k (eS k x y)))
 |.or=>.ok (one (.int k (iD k x y)))
 |.xor=>.ok (one (.int k (dx k x y)))
 |.eql=>.ok (one (.bool (x==y)))
 |.neq=>.ok (one (.bool (x !=y)))
 |.lss=>.ok (one (.bool (decide (x<y))))
 |.leq=>.ok (one (.bool (decide (x<=y))))
 |.gtr=>.ok (one (.bool (decide (x>y))))
 |.geq=>.ok (one (.bool (decide (x>=y))))
 |_=>.fail
def UH(op:BinOp)(s t:F):dn:=
 match op with
 |.add=>.eN (ch s t) fun r=>one (.str r)
 |.eql=>.ok (one (.bool (s==t)))
 |.neq=>.ok (one (.bool (!(s==t))))
 |.lss=>.ok (one (.bool (Op.bytesLess s t)))
 |.leq=>.ok (one (.bool (Op.bytesLess s t||s==t)))
 |.gtr=>.ok (one (.bool (!(Op.bytesLess s t||s==t))))
 |.geq=>.ok (one (.bool (!(Op.bytesLess s t))))
 |_=>.fail
def TX(op:BinOp)(k:IntKind)(a:Int)(k':IntKind)(b:Int):dn:=
 match op with
 |.shl=>.eN (mn k a b) fun n=>one (.int k n)
 |.shr=>.eN (fM k a b) fun n=>one (.int k n)
 |op=>if k=k' then UY op k a b else .fail
def Uj(op:BinOp)(ti:cp)(a b:Bool):dn:=
 match ti with
 |.bool=>match op with
  |.eql=>.ok (one (.bool (a==b)))
  |.neq=>.ok (one (.bool (!(a==b))))
  |_=>.fail
 |_=>.fail
def si:List az->List az->Bool
 |[],[]=>true
 |.d (.int _ _)::z,.d (.int _ _)::l=>si z l
 |.d (.bool _)::z,.d (.bool _)::l=>si z l
 |.d (.str _)::z,.d (.str _)::l=>si z l
 |_,_=>false
def Vc(op:BinOp)(ti:cp)(xs ys:List az):dn:=
 match ti with
 |.struct _ n z true=>bif xs.length.beq n&&si z xs then
   match w0 xs ys with
   |some b=>match op with
    |.eql=>.ok (one (.bool b))
    |.neq=>.ok (one (.bool (!b)))
    |_=>.fail
   |none=>.fail
  else .fail
 |_=>.fail
def Dk(op:BinOp)(ti:cp)(D:Option Int):dn:=
 match ti with
 |.iface=>match op with
  |.eql=>.ok (one (.bool D.isNone))
  |.neq=>.ok (one (.bool D.isSome))
  |_=>.fail
 |_=>.fail
def CA:Operand->Bool
 |.const .nilIface=>true
 |_=>false
def J'(op:BinOp)(ti:cp):aI->dn
 |.av (.ag (.d (.err _ D)))=>Dk op ti D
 |.av (.ag (.cL .nilIface))=>Dk op ti none
 |_=>.fail
def Ls(op:BinOp)(ti:cp)(x y:aI):dn:=
 match x,y with
 |.av (.ag (.d (.int k a))),.av (.ag (.d (.int k' b)))=>TX op k a k' b
 |.av (.ag (.d (.str s))),.av (.ag (.d (.str t)))=>UH op s t
 |.av (.ag (.d (.bool a))),.av (.ag (.d (.bool b)))=>Uj op ti a b
 |.av (.agg xs),.av (.agg ys)=>Vc op ti xs ys
 |_,_=>.fail
def uu(agg:Bool)(n:Nat)(st:af)(a:aI):dn:=
 match a with
 |.av (.ag (.ptr o s off))=>match gn st o s with
  |some cells=>match cut agg off n cells with|some v=>.ok v|none=>.fail
  |none=>.fail
 |.av (.ag (.eQ cells off))=>match cut agg off n (cM cells) with|some v=>.ok v|none=>.fail
 |.av (.ag (.eR o s u k off))=>match rowOf st o s with
  |some ⟨t,xs⟩=>if t=u/\off+n<=aA t then .eN (xs[k]?) fun x=>match cut agg off n (cM (enc t x)) with|some v=>v|none=>bP .any else .fail
  |none=>.fail
 |_=>.fail
def keys{aB:Type}:List (Nat×aB)->List Nat
 |[]=>[]
 |p::r=>p.1::keys r
def gG(n:Nat):List Nat->Bool
 |[]=>false
 |m::r=>n.beq m||gG n r
def fm:List Nat->Bool
 |[]=>true
 |n::r=>!gG n r&&fm r
def aJ.jh:aJ->Bool
 |.int _ _|.bool _|.str _=>true
 |_=>false
def tS(n:Nat)(st:af)(a:aI)(v:bH):dn:=
 bif v.cells.length.beq n then
 match a with
 |.av (.ag (.ptr o s off))=>match gn st o s with
  |some cells=>bif Nat.ble (off+n) cells.length&&hH v.cells then .fR (bP (.cL undef)) [(o,.box s (bA cells off v.cells))] else .fail
  |none=>.fail
 |.av (.ag (.eR o s u k off))=>match st.aa o with
  |some (.row au t xs)=>bif au.beq s&&Nat.ble (off+n) (aA t)&&decide (t=u) then
    match iB st v.cells with
    |some (ds,us)=>bif(look us o).isNone then .fN ((xs[k]?).bind fun x=>dec t (bA (enc t x) off ds)) (fun _=>bP (.cL undef)) fun x=>us++[(o,.row s t (xs.set k x))] else .fail
    |none=>.fail
   else .fail
  |some (.deep au t xs)=>bif au.beq s&&decide (t=u) then(bif off.beq 0&&n.beq (aA t) then
    match sinks st v.cells with
    |some (ds,us)=>bif(look us o).isNone&&fm (keys us) then .fN ((xs[k]?).bind fun _=>dec t ds) (fun _=>bP (.cL undef)) fun x=>us++[(o,.deep s t (xs.set k x))] else .fail
    |none=>.fail
   else match v.cells with
    |[.d d]=>bif d.jh&&Nat.blt off (aA t) then .fN ((xs[k]?).bind fun x=>dec t (bA (enc t x) off [d])) (fun _=>bP (.cL undef)) fun x=>[(o,.deep s t (xs.set k x))] else .fail
    |_=>.fail)
   else .fail
  |_=>.fail
 |_=>.fail
 else .fail
def tf(u:aH)(st:af)(x:aI)(i:Int):dn:=
 match x with
 |.av (.ag (.d (.sl t xs)))=>if t=u then .eN (aQ xs i) fun x=>bP (.eQ (enc t x) 0) else .fail
 |.av (.ag (.own o s))=>match qz st o s with
  |some ⟨t,xs⟩=>if t=u then .eN (aU xs.length i) fun k=>bP (.eR o s t k 0) else .fail
  |none=>.fail
 |_=>.fail
def FL(off:Nat):aI->dn
 |.av (.ag (.ptr o s D))=>.ok (bP (.ptr o s (D+off)))
 |.av (.ag (.eQ cells D))=>.ok (bP (.eQ cells (D+off)))
 |.av (.ag (.eR o s t k D))=>.ok (bP (.eR o s t k (D+off)))
 |_=>.fail
def jy(mq:Int):Option aI->Option Int
 |none=>some mq
 |some (.av (.ag (.d (.int _ n))))=>some n
 |some _=>none
def tV(ti:cp)(st:af)(x:aI)(cX hi:Option aI):dn:=
 match x with
 |.av (.ag (.d (.str s)))=>match ti,jy 0 cX,jy s.length hi with
  |.str,some l,some h=>.eN (bD s l h) fun r=>one (.str r)
  |_,_,_=>.fail
 |.av (.ag (.d (.sl t xs)))=>match ti,jy 0 cX,jy xs.length hi with
  |.slice _ u _,some l,some h=>if t=u then .eN (bD xs l h) fun r=>one (.sl t r) else .fail
  |_,_,_=>.fail
 |.av (.ag (.nil t))=>match ti,jy 0 cX,jy 0 hi with
  |.slice _ _ _,some l,some h=>.eN (bD ([]:List (den t)) l h) fun r=>one (.sl t r)
  |_,_,_=>.fail
 |.av (.ag (.own o s))=>match rowOf st o s with
  |some ⟨t,xs⟩=>match ti,jy 0 cX,jy xs.length hi with
   |.slice _ u _,some l,some h=>if t=u then .fN (bD xs l h) (fun r=>one (.sl t r)) fun _=>nm st o s t xs else .fail
   |_,_,_=>.fail
  |none=>.fail
 |_=>.fail
def uM(ti:cp)(st:af)(x:aI):dn:=
 match ti,x with
 |.str,.av (.ag (.d (.str s)))=>.ok (one (.int .i64 s.length))
 |.slice _ _ _,.av (.ag (.d (.sl _ xs)))=>.ok (one (.int .i64 xs.length))
 |.slice _ _ _,.av (.ag (.nil _))=>.ok (one (.int .i64 0))
 |.slice _ _ _,.av (.ag (.own o s))=>match qz st o s with
  |some ⟨_,xs⟩=>.ok (one (.int .i64 xs.length))
  |none=>.fail
 |.map _ _ _,.av (.ag l)=>match mapOf st l with
  |some ⟨_,es⟩=>.ok (one (.int .i64 es.length))
  |none=>.fail
 |_,_=>.fail
def uj(st:af):aI->Option aJ
 |.av (.ag (.d (.sl t xs)))=>some (.sl t xs)
 |.av (.ag (.d (.str s)))=>some (.str s)
 |.av (.ag (.nil t))=>some (.sl t [])
 |.av (.ag (.own o s))=>match rowOf st o s with|some ⟨t,xs⟩=>some (.sl t xs)|none=>none
 |_=>none
def rJ(bytes:Nat)(t:aH)(dst:Nat)(st:af)(s:aI)(ys:List (den t)):dn:=
 match s with
 |.av (.ag (.nil _))=>.fN (cw bytes [] ys) (fun _=>bP (.own dst (aZ st dst))) fun r=>[(dst,.row (aZ st dst) t r)]
 |.av (.ag (.own o s))=>match st.aa o with
  |some (.row au be xs)=>bif au.beq s then
    if ae:be=t then .fN (cw bytes (ae▸xs:List (den t)) ys) (fun _=>bP (.own dst (aZ (st.dK o (.dead s)) dst)))
     fun r=>[(o,.dead s),(dst,.row (aZ (st.dK o (.dead s)) dst) t r)]
    else .fail
   else .fail
  |_=>.fail
 |_=>.fail
def tP(bytes:Nat)(t:aH)(dst:Nat)(st:af)(s x:aI):dn:=
 match uj st x with
 |none=>.fail
 |some d=>match d with
  |.sl u ys=>if h:u=t then rJ bytes t dst st s (h▸ys:List (den t)) else .fail
  |_=>.fail
def tR(bytes:Nat)(t:aH)(dst:Nat)(st:af)(s x:aI):dn:=
 match x with
 |.av (.ag (.own M u))=>match mW st M u with
  |some ⟨be,ys⟩=>if h:be=t then(match s with
   |.av (.ag (.nil _))=>.fN (cw bytes [] (h▸ys:List (den t))) (fun _=>bP (.own dst (aZ (st.dK M (.dead u)) dst))) fun r=>[(M,.dead u),(dst,.deep (aZ (st.dK M (.dead u)) dst) t r)]
   |.av (.ag (.own o s))=>match mW st o s with
    |some ⟨t2,xs⟩=>if h2:t2=t then(bif o.beq M then .fail else
      .fN (cw bytes (h2▸xs:List (den t)) (h▸ys)) (fun _=>bP (.own dst (aZ ((st.dK M (.dead u)).dK o (.dead s)) dst)))
       fun r=>[(M,.dead u),(o,.dead s),(dst,.deep (aZ ((st.dK M (.dead u)).dK o (.dead s)) dst) t r)]) else .fail
    |none=>.fail
   |_=>.fail) else .fail
  |none=>.fail
 |_=>.fail
def xd(st:af):aI->Bool
 |.av (.ag (.own o s))=>(mW st o s).isSome
 |_=>false
def tQ(bytes:Nat)(t:aH)(dst:Nat)(st:af)(s x:aI):dn:=
 match x with
 |.av (.ag (.d (.str y)))=>if h:t=.u8 then rJ bytes t dst st s (h▸(bytesOf y:List (den .u8))) else .fail
 |_=>.fail
def se(eu:Bool)(bytes o:Nat)(st:af)(ty:aH)(n m:Int)(z:List az):dn:=match bif eu&&ty.iv then sinks st z else none with
 |some (ds,us)=>match dec ty ds with
  |some eO=>bif us.isEmpty then .fN (j2 bytes n m eO) (fun _=>bP (.own o (aZ st o))) fun r=>[(o,.deep (aZ st o) ty r)] else .fail
  |none=>.fail
 |none=>match iB st z with
  |some (ds,_)=>match dec ty ds with
   |some eO=>.fN (j2 bytes n m eO) (fun _=>bP (.own o (aZ st o))) fun r=>[(o,.row (aZ st o) ty r)]
   |none=>.fail
  |none=>.fail
def mr(t:aH)(st:af):List bH->Option (List (den t)×List (Nat×Site))
 |[]=>some ([],[])
 |a::as=>match iB st a.cells with
  |some (ds,us)=>match dec t ds,mr t st as with
   |some x,some (xs,vs)=>some (x::xs,us++vs)
   |_,_=>none
  |none=>none
def nX(t:aH)(st:af):List bH->Option (List (den t)×List (Nat×Site))
 |[]=>some ([],[])
 |a::as=>match sinks st a.cells with
  |some (ds,us)=>match dec t ds,nX t st as with
   |some x,some (xs,vs)=>some (x::xs,us++vs)
   |_,_=>none
  |none=>none
def nn:aI->Option bH
 |.av a=>some a
 |.kq _=>none
def ob:List aI->Option (List bH)
 |[]=>some []
 |v::vs=>match nn v,ob vs with|some a,some as=>some (a::as)|_,_=>none
def qf:Nat->List (Nat×Operand)->Bool
 |_,[]=>true
 |n,(i,_)::r=>i.beq n&&qf (n+1) r
def isByte:cp->Bool
 |.int .u8=>true
 |_=>false
def uD(C:Ctx)(src dst:TypeId)(o:Nat)(st:af)(x:aI):dn:=
 match C.tt src,C.tt dst,x with
 |.none,_,_=>.fail
 |_,.int k,.av (.ag (.d (.int _ n)))=>.ok (one (.int k (k.wrap n)))
 |_,.str,.av (.ag (.d (.str s)))=>.ok (one (.str s))
 |.slice e .u8 _,.str,.av (.ag (.d (.sl .u8 xs)))=>bif isByte (C.tt e) then .ok (one (.str (strOf xs))) else .fail
 |.slice e .u8 _,.str,.av (.ag (.nil _))=>bif isByte (C.tt e) then .ok (one (.str [])) else .fail
 |.slice e .u8 _,.str,.av (.ag (.own M s))=>match rowOf st M s with
  |some ⟨.u8,xs⟩=>bif isByte (C.tt e) then .ok (one (.str (strOf xs))) else .fail
  |_=>.fail
 |.str,.slice e .u8 _,.av (.ag (.d (.str s)))=>bif isByte (C.tt e) then .fN (if s.length<=maxLen then some () else none) (fun _=>bP (.own o (aZ st o))) fun _=>[(o,.row (aZ st o) .u8 (bytesOf s))] else .fail
 |_,_,_=>.fail
def l'(st:af):List (Nat×Nat)->Option (List (List aJ)×List (Nat×Site)×List Nat)
 |[]=>some ([],[],[])
 |(o,s)::r=>match gn st o s with
  |some cells=>match iB st cells,l' st r with
   |some (ds,us),some (rest,vs,bs)=>some (ds::rest,us++vs,o::bs)
   |_,_=>none
  |none=>none
def og(st:af):az->Option (az×List (Nat×Site)×List Nat)
 |.eQ cells 0=>some (.eQ cells 0,[],[])
 |.clo g (c::cs)=>match l' st (c::cs) with|some (ds,us,bs)=>some (.d (.fn g ds),us,bs)|none=>none
 |l=>match kx st l with|some (d,us)=>some (.d d,us,[])|none=>none
def mY(st:af):List az->Option (List az×List (Nat×Site)×List Nat)
 |[]=>some ([],[],[])
 |l::ab=>match og st l,mY st ab with
  |some (a,us,bs),some (as,vs,cs)=>some (a::as,us++vs,bs++cs)
  |_,_=>none
def oa(st:af):az->Option (az×List (Nat×Site))
 |.d v=>some (.d v,[])
 |.nil t=>some (.fresh t [],[])
 |.own o s=>match st.aa o with
  |some (.row au t xs)=>bif au.beq s then some (.fresh t xs,[(o,.dead s)]) else none
  |some (.da au t xs)=>bif au.beq s then some (.d (.sl t xs),[]) else none
  |some (.deep au t xs)=>bif au.beq s then some (.jb t xs,[(o,.dead s)]) else none
  |_=>none
 |.dH=>some (.dH,[])
 |.cL v=>some (.cL v,[])
 |_=>none
def xm:List az->List az
 |.cL (.pointer none)::r=>.dH::r
 |l=>l
def kU(st:af):List az->Option (List az×List (Nat×Site))
 |[]=>some ([],[])
 |l::ab=>match oa st l,kU st ab with
  |some (a,us),some (as,vs)=>some (a::as,us++vs)
  |_,_=>none
structure kW where
 as:List Arg
 e7:List (Nat×Site) -- rows xF M6 e7,as aw2 ayu frozen
 gm:List Nat -- boxes xF M6 e7
 gone:List (Nat×Site) -- boxes xF go over,and rows in axl
 boxes:List (Nat×Nat) -- ot boxes:aa,b'
 rows:List (Option (Nat×Nat)) -- ot cells of axi holds anf rows:a axa aa,b'
def jQ(st:af):List aI->Option kW
 |[]=>some ⟨[],[],[],[],[],[]⟩
 |.av (.ag (.ptr o s 0))::vs=>match gn st o s,jQ st vs with
  |some cells,some r=>match kU st cells with
   |some (cs,gone)=>some ⟨.eg cs::r.as,r.e7,r.gm,((o,.dead s)::gone)++r.gone,(o,s)::r.boxes,r.rows⟩
   |none=>none
  |_,_=>none
 |.av (.ag l)::vs=>match og st l,jQ st vs with
  |some (a,us,bs),some r=>some ⟨.av (.ag a)::r.as,us++r.e7,bs++r.gm,r.gone,r.boxes,[]⟩
  |_,_=>none
 |.av (.agg ab)::vs=>match mY st ab,jQ st vs with
  |some (as,us,bs),some r=>some ⟨.av (.agg as)::r.as,us++r.e7,bs++r.gm,r.gone,r.boxes,[]⟩
  |_,_=>none
 |_::_=>none
def mU(st:af):az->Option (az×List (Nat×Site)×List (Nat×Site)×List Nat)
 |.own o s=>match oa st (.own o s) with|some (a,us)=>some (a,us,[],[])|none=>none
 |.nil t=>some (.fresh t [],[],[],[])
 |l=>match og st l with|some (a,us,bs)=>some (a,[],us,bs)|none=>none
def mQ(st:af):List az->Option (List az×List (Nat×Site)×List (Nat×Site)×List Nat)
 |[]=>some ([],[],[],[])
 |l::ab=>match mU st l,mQ st ab with
  |some (a,us,bM,bs),some (as,vs,gs,cs)=>some (a::as,us++vs,bM++gs,bs++cs)
  |_,_=>none
def az.tF:az->Bool
 |.fresh _ _|.jb _ _=>false
 |_=>true
def gR:List az->Bool
 |[]=>true
 |l::ab=>l.tF&&gR ab
def mj(st:af):az->Option (Nat×Nat)
 |.own o s=>match st.aa o with
  |some (.row _ _ _)|some (.deep _ _ _)=>some (o,s)
  |_=>none
 |_=>none
def pa(st:af)(ab dI:List az):List (Option (Nat×Nat)):=bif gR dI then [] else ab.map (mj st)
def lf(st:af):List aI->Option kW
 |[]=>some ⟨[],[],[],[],[],[]⟩
 |.av (.ag l)::vs=>match mU st l,lf st vs with
  |some (a,us,ab,bs),some r=>some ⟨.av (.ag a)::r.as,ab++r.e7,bs++r.gm,us++r.gone,r.boxes,pa st [l] [a]++r.rows⟩
  |_,_=>none
 |.av (.agg as)::vs=>match mQ st as,lf st vs with
  |some (kz,us,ab,bs),some r=>some ⟨.av (.agg kz)::r.as,ab++r.e7,bs++r.gm,us++r.gone,r.boxes,pa st as kz++r.rows⟩
  |_,_=>none
 |_::_=>none
def tG(b:Bool)(st:af)(vs:List aI):Option kW:=bif b then lf st vs else jQ st vs
def az.iv:az->Bool
 |.d (.sl _ _)|.d (.fn _ _)|.d (.map _ _)=>true
 |.d _=>false
 |.fresh t _=>t.iv
 |.dH|.cL _|.jb _ _=>false
 |_=>true
def oS:List az->Bool
 |[]=>false
 |l::ab=>l.iv||oS ab
def tj:List bH->Bool
 |[]=>false
 |a::as=>oS a.cells||tj as
def th:List (List az)->Bool
 |[]=>false
 |a::as=>oS a||th as
def take(st:af)(n:Nat):List az->List az×List (Nat×Site)
 |[]=>([],[])
 |.fresh t xs::ab=>let r:=take st (n+1) ab;(.own n (aZ st n)::r.1,(n,.row (aZ st n) t xs)::r.2)
 |.jb t xs::ab=>let r:=take st (n+1) ab;(.own n (aZ st n)::r.1,(n,.deep (aZ st n) t xs)::r.2)
 |l::ab=>let r:=take st (n+1) ab;(l::r.1,r.2)
def ea(st:af)(n:Nat):List bH->List bH×List (Nat×Site)
 |[]=>([],[])
 |.ag l::as=>let x:=take st n [l];let r:=ea st (n+100) as;((match x.1 with|[gj]=>.ag gj|ab=>.agg ab)::r.1,x.2++r.2)
 |.agg ab::as=>let x:=take st n ab;let r:=ea st (n+100) as;(.agg x.1::r.1,x.2++r.2)
def fK(st:af):List (Nat×Nat)->List (List az)->List (Nat×Site)
 |(o,s)::bs,cs::cF=>let x:=take st (1000000+o*100) cs;x.2++(o,.box s x.1)::fK st bs cF
 |_,_=>[]
def qb:List (Option (Nat×Nat))->List Nat
 |[]=>[]
 |none::r=>qb r
 |some p::r=>p.1::qb r
def fo:List (Option (Nat×Nat))->List az->List (Nat×Site)
 |some (o,s)::r,.fresh t xs::ab=>(o,.row s t xs)::fo r ab
 |some (o,s)::r,.jb t xs::ab=>(o,.deep s t xs)::fo r ab
 |_::r,_::ab=>fo r ab
 |_,_=>[]
def UK:List bH->aI
 |[a]=>.av a
 |as=>.kq as
def fr:List Nat->List Nat->Bool
 |[],_=>true
 |n::r,l=>!gG n l&&fr r l
def qy(dst:Nat)(st:af)(S:aK)(a:kW):dn:=
 let r:=S a.as
 {J:=r.J,comp:=r.comp
  val:=fun y=>UK (ea st (2000000+dst*10000) (r.ft y)).1
  us:=fun y=>(bif tj (r.ft y)||th (r.eg y)||oS (r.e' y) then a.e7 else [])++a.gone++(fK st a.boxes (r.eg y)++fo a.rows (r.e' y))++(ea st (2000000+dst*10000) (r.ft y)).2
  sM:=fun y=>fm (keys a.gone)&&fr (keys a.e7++a.gm) (keys a.gone)&&fm (keys ((fK st a.boxes (r.eg y)++fo a.rows (r.e' y))++(ea st (2000000+dst*10000) (r.ft y)).2))&&
   fr (keys a.e7++a.gm) (keys ((fK st a.boxes (r.eg y)++fo a.rows (r.e' y))++(ea st (2000000+dst*10000) (r.ft y)).2))&&(!(tj (r.ft y)||th (r.eg y)||oS (r.e' y))||a.gm.isEmpty)&&(fm (qb a.rows)&&fr (qb a.rows) (keys (fK st a.boxes (r.eg y))))}
def callee(v:aI):Option (FuncId×List (Nat×Nat)):=
 match v with
 |.av (.ag (.clo g bE))=>some (g,bE)
 |_=>none
def ho(C:Ctx)(st:af):List Operand->List TypeId->List aI
 |[],_=>[]
 |x::xs,[]=>aS C st 0 x::ho C st xs []
 |x::xs,T::cZ=>aS C st T x::ho C st xs cZ
def l9:List (List aJ)->List Arg
 |[]=>[]
 |c::cs=>.av (.ag (.eQ c 0))::l9 cs
def tU(g:FuncId)(n:Nat)(st:af):List aI->dn
 |[.av (.ag (.d (.str s))),.av (.ag (.d (.str p)))]=>.fR (bP (.clo g [(n,aZ st n),(n+1,aZ st (n+1)),(n+2,aZ st (n+2))]))
   [(n,.box (aZ st n) [.d (.str p)]),(n+1,.box (aZ st (n+1)) [.d (.str s)]),(n+2,.box (aZ st (n+2)) [.d (.int .i64 0)])]
 |_=>.fail
def copyV(st:af):List aI->dn
 |[.av (.ag (.ptr o s 0))]=>match st.aa o with
  |some (.box au [.dH,l])=>bif au.beq s then .fR (.kq []) [(o,.box s [.dH,l])] else .fail
  |_=>.fail
 |_=>.fail
def tD(st:af):List aI->dn
 |[.av (.ag (.ptr o s 0))]=>match gn st o s with
  |some [_,.nil .u8]=>.ok (one (.str []))
  |some [_,.own M u]=>match st.aa M with
   |some (.row b9 .u8 xs)=>bif b9.beq u then .fR (one (.str (strOf xs))) [(M,.da u .u8 xs)] else .fail
   |_=>.fail
  |_=>.fail
 |_=>.fail
def um(n:Nat)(st:af):List aI->dn
 |[.av (.ag (.d (.sl .u8 xs)))]=>.fR (bP (.ptr n (aZ st n) 0)) [(n,.box (aZ st n) [.d (.sl .u8 (xs.take 2000)),.d (.int .i64 0)])]
 |_=>.fail
def mO(C:Ctx)(dst:Nat)(st:af)(f:aI)(vs:List aI):dn:=
  match f with
  |.av (.ag (.clo g bE))=>match C.lL g with
   |some cG=>match bE with
    |[]=>tU cG (3000000+dst*10) st vs
    |_=>.fail
   |none=>bif C.op g then(match bE with
    |[]=>um (4000000+dst) st vs
    |_=>.fail) else bif C.iH g then(match bE with
    |[]=>copyV st vs
    |_=>.fail) else bif C.bs g then(match bE with
    |[]=>tD st vs
    |_=>.fail) else match C.bM g,tG (C.oI g) st vs,l' st bE with
    |some S,some a,some (cs,us,bs)=>qy dst st S {a with as:=a.as++l9 cs,e7:=a.e7++us,gm:=a.gm++bs}
    |_,_,_=>.fail
  |.av (.ag (.d (.fn g bE)))=>match C.bM g,jQ st vs with
    |some S,some a=>qy dst st S {a with as:=a.as++l9 bE}
    |_,_=>.fail
  |_=>.fail
def DN(t:aH)(xs:List (den t))(n:Nat):List az:=match y1 t with
 |some z=>(List.range n).flatMap fun j=>cM (enc t (xs.getD j z))
 |none=>[]
def uU(t:aH):List az->Option (List (den t))
 |[]=>some []
 |.d d::ab=>match dec t [d],uU t ab with
  |some x,some xs=>some (x::xs)
  |_,_=>none
 |_=>none
def long{aB:Type}(n:Nat)(xs:List aB):Option (List aB):=if xs.length=n then some xs else none
def sd(o:Nat)(st:af)(t:aH)(n:Nat)(xs:List (den t)):dn:=bif xs.length.beq n&&Nat.ble n 1000 then .fR (bP (.eR o (aZ st o) t 0 0)) [(o,.row (aZ st o) t xs)] else .fail
def ug(o:Nat)(st:af)(t:aH)(n:Nat):dn:=match y1 t with
 |some z=>sd o st t n (List.replicate n z)
 |none=>.fail
def uW(o:Nat)(st:af)(t:aH)(n:Nat)(v:aI):dn:=match v with
 |.av (.agg ab)=>match uU t ab with
  |some xs=>sd o st t n xs
  |none=>.fail
 |_=>.fail
def uv(st:af)(t:aH)(n:Nat)(a:aI):dn:=match a with
 |.av (.ag (.eR o s u 0 0))=>match rowOf st o s with
  |some ⟨be,xs⟩=>if be=t/\be=u then .eN (long n xs) fun xs=>.av (.agg (DN be xs n)) else .fail
  |none=>.fail
 |_=>.fail
def tT(st:af)(t:aH)(n:Nat)(a:aI)(v:bH):dn:=match a,v with
 |.av (.ag (.eR o s u 0 0)),.agg ab=>match st.aa o with
  |some (.row au be xs)=>if be=t/\be=u/\au=s then(match uU be ab with
   |some ys=>bif ys.length.beq n then .fN (long n xs) (fun _=>bP (.cL undef)) fun _=>[(o,.row s be ys)] else .fail
   |none=>.fail) else .fail
  |_=>.fail
 |_,_=>.fail
def tg(C:Ctx)(st:af)(t:aH)(n:Nat)(x:aI)(i:Int):dn:=match x with
 |.av (.ag (.eR o s u 0 0))=>match rowOf st o s with
  |some ⟨be,xs⟩=>if be=t/\be=u then .eN ((long n xs).bind fun xs=>aU xs.length i) fun k=>bP (.eR o s be k 0) else .fail
  |none=>.fail
 |.av (.ag (.cL (.pointer (some ⟨g,0,none⟩))))=>match C.gt g with
  |some ⟨be,xs⟩=>bif decide (be=t)&&xs.length.beq n then .eN (aQ xs i) fun x=>bP (.eQ (enc be x) 0) else .fail
  |none=>.fail
 |_=>.fail
def J3(t:aH)(n:Nat)(x:aI)(i:Int):dn:=match x with
 |.av (.agg ab)=>match uU t ab with
  |some xs=>bif xs.length.beq n then .eN (aQ xs i) fun x=>(match enc t x with|[d]=>bP (.d d)|_=>bP .any) else .fail
  |none=>.fail
 |_=>.fail
def tW(st:af)(t:aH)(n:Nat)(x:aI)(cX hi:Option aI):dn:=match x with
 |.av (.ag (.eR o s u 0 0))=>match rowOf st o s,jy 0 cX,jy n hi with
  |some ⟨be,xs⟩,some l,some h=>if be=t/\be=u then .fN ((long n xs).bind fun xs=>bD xs l h) (fun r=>bP (.d (.sl be r))) fun _=>nm st o s be xs else .fail
  |_,_,_=>.fail
 |_=>.fail
def l7(C:Ctx)(st:af)(D:Oper):dn:=
 match D.op with
 |.makeMap t r=>match D.dst,C.tt t with
  |some o,.map _ _ ty=>match r with
   |none=>.fR (bP (.own o (aZ st o))) [(o,.map (aZ st o) ty [])]
   |some x=>match aS C st 0 x with
    |.av (.ag (.d (.int _ _)))=>.fR (bP (.own o (aZ st o))) [(o,.map (aZ st o) ty [])]
    |_=>.fail
  |_,_=>.fail
 |.mapUpdate t m k x=>t_ C st t m k x
 |.insert t m k x=>t_ C st t m k x
 |.lookup t m k c=>match C.tt t,aS C st t m,aS C st 0 k with
  |.map _ _ ty,.av (.ag l),.av (.ag (.d (.str n)))=>match mapOf st l with
   |some ⟨u,es⟩=>bif decide (u=ty) then(match xA u (li es n) with
    |some d=>.ok (bif c then .kq [.ag (.d d),.ag (.d (.bool (li es n).isSome))] else one d)
    |none=>.fail) else .fail
   |none=>.fail
  |_,_,_=>.fail
 |.makeInterface t x=>match C.tt t,aS C st t x with
  |.struct _ _ _ _,.av (.agg [.d (.int .i64 n)])=>.ok (one (.err t (some n)))
  |_,_=>.fail
 |_=>.fail
where
 t_ (C:Ctx) (st:af) (t:TypeId) (m k x:Operand):dn:=match C.tt t,aS C st t m,aS C st 0 k,aS C st 0 x with
  |.map _ _ ty,.av (.ag (.own o s)),.av (.ag (.d (.str n))),.av (.ag (.d d))=>match st.aa o with
   |some (.map au u es)=>bif au.beq s&&decide (u=ty) then(match KC u d with
    |some v=>.fR (bP (.cL undef)) [(o,.map s u (qm es n v))]
    |none=>.fail) else .fail
   |_=>.fail
  |_,_,_,_=>.fail
def step(C:Ctx)(st:af)(D:Oper):dn:=
 match D.op with
 |.move x|.assign x=>.ok (aS C st D.type x)
 |.pick c a b=>match aS C st D.type c with
  |.av (.ag (.d (.bool true)))=>.ok (aS C st D.type a)
  |.av (.ag (.d (.bool false)))=>.ok (aS C st D.type b)
  |_=>.fail
 |.alloc elem=>match D.dst,C.tt elem with
  |some o,.arr _ t n=>ug o st t n
  |some o,ti=>match ti.zero with
   |some z=>.fR (bP (.ptr o (aZ st o) 0)) [(o,.box (aZ st o) (bif elem.beq sK then xm z else z))]
   |none=>.fail
  |_,_=>.fail
 |.box elem x=>match D.dst,C.tt elem with
  |some o,.arr _ t n=>uW o st t n (aS C st elem x)
  |some o,_=>match nn (aS C st elem x) with
   |some a=>bif hH a.cells then .fR (bP (.ptr o (aZ st o) 0)) [(o,.box (aZ st o) a.cells)] else .fail
   |none=>.fail
  |_,_=>.fail
 |.build t parts=>match C.tt t with
  |.struct bM _ z _=>n7 C st bM z parts.toList
  |.arr _ ty n=>match u3 ty with
   |some z=>n7 C st ((List.range n).map fun j=>(j,1)) (List.replicate n z) parts.toList
   |none=>.fail
  |_=>.fail
 |.buildSlice t len parts=>match D.dst,C.tt t with
  |some o,.slice e ty _=>bif parts.toList.length.beq len&&qf 0 parts.toList&&Nat.ble (len*aA ty) 1000 then
    match ob (parts.toList.map fun p=>aS C st e p.2) with
    |some as=>match bif C.eu&&ty.iv then nX ty st as else none with
     |some (xs,us)=>bif fm (keys us)&&(look us o).isNone then .fR (bP (.own o (aZ st o))) (us++[(o,.deep (aZ st o) ty xs)]) else .fail
     |none=>match mr ty st as with
      |some (xs,us)=>.fR (bP (.own o (aZ st o))) (us++[(o,.row (aZ st o) ty xs)])
      |none=>.fail
    |none=>.fail
   else .fail
  |_,_=>.fail
 |.load t a=>match C.tt t with
  |.arr _ ty n=>uv st ty n (aS C st t a)
  |ti=>bif ti.known then uu ti.agg ti.size st (aS C st t a) else .fail
 |.store t a x=>match nn (aS C st t x) with
  |some v=>match C.tt t with
   |.arr _ ty n=>tT st ty n (aS C st t a) v
   |ti=>bif ti.known then tS ti.size st (aS C st t a) v else .fail
  |none=>.fail
 |.nilCheck x=>match aS C st D.type x with
  |.av (.ag (.ptr o s f))=>.ok (bP (.ptr o s f))
  |.av (.ag (.eQ cs f))=>.ok (bP (.eQ cs f))
  |.av (.ag (.eR o s t k f))=>.ok (bP (.eR o s t k f))
  |_=>.fail
 |.binOp op t x y _=>bif CA y then J' op (C.tt t) (aS C st t x) else Ls op (C.tt t) (aS C st t x) (aS C st t y)
 |.unOp op _ x=>match op,aS C st D.type x with
  |.not,.av (.ag (.d (.bool b)))=>.ok (one (.bool (!b)))
  |.neg,.av (.ag (.d (.int k n)))=>.ok (one (.int k (k.wrap (0-n))))
  |.xor,.av (.ag (.d (.int k n)))=>.ok (one (.int k (dx k (if k.signed then-1 else k.max) n)))
  |_,_=>.fail
 |.convert src dst x=>(match D.dst with|some o=>uD C src dst o st (aS C st src x)|none=>.fail)
 |.makeFunc fn first captured=>match fn with
  |.func g=>bif first.toList.isEmpty then(match pc C st captured.toList with|some bE=>.ok (bP (.clo g bE))|none=>.fail) else .fail
  |_=>.fail
 |.makeSlice t l c=>match D.dst,C.tt t,aS C st 0 l,aS C st 0 c with
  |some o,.slice e ty bytes,.av (.ag (.d (.int _ n))),.av (.ag (.d (.int _ m)))=>match(C.tt e).zero with
   |some z=>se C.eu bytes o st ty n m z
   |none=>.fail
  |_,_,_,_=>.fail
 |.slice t x cX hi ET=>match ET with
  |none=>match C.tt t with
   |.arr _ ty n=>tW st ty n (aS C st t x) (cX.map (aS C st 0)) (hi.map (aS C st 0))
   |ti=>tV ti st (aS C st t x) (cX.map (aS C st 0)) (hi.map (aS C st 0))
  |some _=>.fail
 |.fieldAddr s x f=>match C.tt s with
  |.struct bM _ _ _=>match bM[f]? with
   |some (off,_)=>FL off (aS C st 0 x)
   |none=>.fail
  |_=>.fail
 |.indexAddr t x i=>match C.tt t,aS C st 0 i with
  |.slice _ ty _,.av (.ag (.d (.int _ n)))=>tf ty st (aS C st t x) n
  |.arr _ ty m,.av (.ag (.d (.int _ n)))=>tg C st ty m (aS C st t x) n
  |_,_=>.fail
 |.index t x i=>match C.tt t,aS C st t x,aS C st 0 i with
  |.str,.av (.ag (.d (.str s))),.av (.ag (.d (.int _ n)))=>.eN (aQ s n) fun b=>one (.int .u8 b.toNat)
  |.arr _ ty m,v,.av (.ag (.d (.int _ n)))=>J3 ty m v n
  |_,_,_=>.fail
 |.extract t i=>match aS C st 0 t with
  |.kq as=>match as[i]? with
   |some a=>.ok (.av a)
   |none=>.fail
  |_=>.fail
 |.call c=>match c.callee with
  |.value f=>match D.dst with
   |some d=>mO C d st (aS C st 0 f) (ho C st c.args.toList c.argTypes.toList)
   |none=>mO C 0 st (aS C st 0 f) (ho C st c.args.toList c.argTypes.toList)
  |.builtin b=>match b,D.dst,c.args.toList,c.argTypes.toList with
   |.len,_,[x],[t]=>uM (C.tt t) st (aS C st t x)
   |.append,some o,[s,x],[t,u]=>match C.tt t,C.tt u with
    |.slice _ ty bytes,.slice _ _ _=>bif xd st (aS C st u x) then tR bytes ty o st (aS C st t s) (aS C st u x) else tP bytes ty o st (aS C st t s) (aS C st u x)
    |.slice _ ty bytes,.str=>tQ bytes ty o st (aS C st t s) (aS C st u x)
    |_,_=>.fail
   |.max,_,[x,y],_=>match aS C st D.type x,aS C st D.type y with
    |.av (.ag (.d (.int k a))),.av (.ag (.d (.int _ b)))=>.ok (one (.int k (h9 a b)))
    |_,_=>.fail
   |.max,_,[x,y,z,u,v],_=>match aS C st D.type x,aS C st D.type y,aS C st D.type z,aS C st D.type u,aS C st D.type v with
    |.av (.ag (.d (.int k a))),.av (.ag (.d (.int _ b))),.av (.ag (.d (.int _ c))),.av (.ag (.d (.int _ d))),.av (.ag (.d (.int _ e)))=>.ok (one (.int k (h9 (h9 (h9 (h9 a b) c) d) e)))
    |_,_,_,_,_=>.fail
   |.min,_,[x,y],_=>match aS C st D.type x,aS C st D.type y with
    |.av (.ag (.d (.int k a))),.av (.ag (.d (.int _ b)))=>.ok (one (.int k (nf a b)))
    |_,_=>.fail
   |_,_,_,_=>.fail
  |_=>.fail
 |_=>l7 C st D
where
 n7 (C:Ctx) (st:af) (bM:List (Nat×Nat)):List az->List (Nat×Operand)->dn
  |z,[]=>.ok (.av (.agg z))
  |z,(i,x)::r=>match bM[i]?,nn (aS C st 0 x) with
   |some (off,n),some a=>bif a.cells.length.beq n&&hH a.cells&&Nat.ble (off+n) z.length then n7 C st bM (bA z off a.cells) r else .fail
   |_,_=>.fail
 pc (C:Ctx) (st:af):List Operand->Option (List (Nat×Nat))
  |[]=>some []
  |x::r=>match aS C st 0 x,pc C st r with
   |.av (.ag (.ptr o s 0)),some l=>some ((o,s)::l)
   |_,_=>none
def JM(C:Ctx)(st:af)(D:Oper):Option (((t:aH)×List (den t))×Bool):=
 match D.op with
 |.binOp op T x (.const (.slice none 0 0)) _=>match C.tt T with
  |.slice _ _ _=>match op with
   |.eql=>match aS C st T x with
    |.av (.ag (.d (.sl t xs)))=>some (⟨t,xs⟩,false)
    |_=>none
   |.neq=>match aS C st T x with
    |.av (.ag (.d (.sl t xs)))=>some (⟨t,xs⟩,true)
    |_=>none
   |_=>none
  |_=>none
 |_=>none
def az.names:az->List Nat
 |.own o _|.ptr o _ _|.eR o _ _ _ _=>[o]
 |.clo _ bE=>keys bE
 |_=>[]
def c5:List az->List Nat
 |[]=>[]
 |l::ab=>l.names++c5 ab
def qa:List bH->List Nat
 |[]=>[]
 |a::as=>c5 a.cells++qa as
def aI.names:aI->List Nat
 |.av a=>c5 a.cells
 |.kq as=>qa as
def zS(st:af)(o:Nat):List Nat:=match st.aa o with
 |some (.box _ cells)=>c5 cells
 |_=>[]
def e5(st:af):List Nat->List Nat
 |[]=>[]
 |o::r=>o::(zS st o++e5 st r)
def me:Op->List Operand
 |.move x|.assign x|.makeInterface _ x|.box _ x|.load _ x|.nilCheck x|.unOp _ _ x|.convert _ _ x|.fieldAddr _ x _|.extract x _=>[x]
 |.pick c a b=>[c,a,b]
 |.build _ ps|.buildSlice _ _ ps=>ps.toList.map (·.2)
 |.store _ a v|.binOp _ _ a v _|.makeSlice _ a v|.indexAddr _ a v|.index _ a v=>[a,v]
 |.makeFunc _ _ captured=>captured.toList
 |.slice _ x l h _=>x::(l.toList++h.toList)
 |.call c=>(match c.callee with|.value f=>[f]|_=>[])++c.args.toList
 |.lookup _ m k _=>[m,k]
 |.mapUpdate _ m k x|.insert _ m k x=>[m,k,x]
 |.makeMap _ r=>r.toList
 |_=>[]
def oY(st:af):List Operand->List Nat
 |[]=>[]
 |.tmp t::r=>(st.get t).names++oY st r
 |_::r=>oY st r
def qc:List Operand->List Nat
 |[]=>[]
 |.tmp t::r=>t::qc r
 |_::r=>qc r
def CB:Op->Bool
 |.call c=>match c.callee with
  |.value _=>true
  |_=>false
 |_=>false
def Kf(C:Ctx):Op->List Nat
 |.makeSlice t _ _=>match C.tt t with
  |.slice e _ _=>match(C.tt e).zero with
   |some z=>c5 z
   |none=>[]
  |_=>[]
 |_=>[]
def looks:Op->Bool
 |.load _ _|.store _ _ _|.slice _ _ _ _ _|.indexAddr _ _ _|.convert _ _ _|.buildSlice _ _ _|.call _|.lookup _ _ _ _|.mapUpdate _ _ _ _|.insert _ _ _ _=>true
 |_=>false
def Kr(C:Ctx)(st:af)(D:Oper):List Nat:=(bif looks D.op then e5 st (oY st (me D.op)) else [])++D.dst.toList++Kf C D.op
def RF(u:Nat):List Oper->List Nat
 |[]=>[]
 |D::r=>(match D.op,D.dst with
  |.move (.tmp t),some d=>bif Nat.beq d u then [t] else []
  |_,_=>[])++RF u r
def G0(all:List Oper):List Oper->List Nat
 |[]=>[]
 |D::r=>(match D.op with
  |.slice _ (.tmp u) _ _ _=>u::RF u all
  |_=>[])++G0 all r
def Va(st:af)(t:Nat):List (Nat×Site):=match st.get t with
 |.av (.ag (.own o s))=>match st.aa o with
  |some (.row au t xs)=>bif au.beq s then [(o,.da au t xs)] else []
  |_=>[]
 |_=>[]
def CO(st:af):List Nat->List (Nat×Site)
 |[]=>[]
 |t::r=>Va st t++CO st r
def af.iP(st:af):List (Nat×Site)->af
 |[]=>st
 |(o,s)::r=>(st.dK o s).iP r
def af.cm(st:af)(dst:Option Nat)(v:aI)(us:List (Nat×Site)):af:=
 match dst with
 |some t=>(st.iP us).set t v
 |none=>st.iP us
def ce(st:af):Option Nat->Bool
 |some t=>Nat.blt t st.nt
 |none=>true
abbrev Cc:aI:=bP (.cL undef)
section
variable {R:Type}
open Classical in
noncomputable def rm{t:aH}(xs:List (den t))(a b:Option R):Option R:=if xs=[]->a=b then b else none
def lh(C:Ctx)(st:af)(D:Oper)(K:af->Option R):Option R:=
 bif ce st D.dst then(step C st D).comp.bind fun y=>bif(step C st D).sM y then K (st.cm D.dst ((step C st D).val y) ((step C st D).us y)) else none else none
noncomputable def xo(C:Ctx)(st:af)(D:Oper)(K:af->Option R):Option R:=
 match JM C st D with
 |some (⟨t,xs⟩,neg)=>bif ce st D.dst then rm xs (K (st.cm D.dst (one (.bool (!neg))) [])) (K (st.cm D.dst (one (.bool neg)) [])) else none
 |none=>lh C st D K
def tX(st:af)(D:Oper)(K:af->Option R):Option R:=
 bif ce st D.dst then K (st.cm D.dst Cc []) else none
noncomputable def wU(C:Ctx)(ops:Array Oper)(st:af)(D:Oper)(K:af->Option R):Option R:=
 match D.guard with
 |none=>xo C st D K
 |some (j,want)=>match(ops[j]?).bind (·.dst) with
  |some t=>match st.get t with
   |.av (.ag (.d (.bool b)))=>bif(bif want then b else !b) then xo C (st.set t (one (.bool want))) D K else tX (st.set t (one (.bool (!want)))) D K
   |.av (.ag (.cL (.tuple _)))=>tX st D K
   |_=>none
  |none=>none
structure r_:Type 1 where
 o:Nat
 s:Nat
 t:aH
 xs:List (den t)
 k:Nat
 off:Nat
 S:aK
 i:IntKind
 n:Int
 d1:Nat
 eu:Nat
 v:aI
def af.pf(st:af)(q:r_):af:=(st.set q.d1 (bP .any)).set q.eu q.v
def xc(C:Ctx)(st:af)(D:Oper):Option (Nat×aI):=match D.op,D.dst,D.guard with
 |.move x,some eu,none=>bif Nat.blt eu st.nt then some (eu,aS C st D.type x) else none
 |_,_,_=>none
def uq(C:Ctx)(st:af)(o1 gf o2:Oper):Option r_:=
 match o1.op,o1.dst,o1.guard,o2.op,o2.guard with
 |.load T a,some d1,none,.call c,none=>match aS C st T a with
  |.av (.ag (.eR o s u k off))=>match st.aa o,c.callee,c.args.toList with
   |some (.deep au t xs),.value (.func g),[.tmp d2,x]=>match xc C (st.set d1 (bP .any)) gf with
    |some (eu,v)=>match C.tt T,aS C ((st.set d1 (bP .any)).set eu v) 0 x,C.bM g with
     |.slice _ _ _,.av (.ag (.d (.int i n))),some S=>bif d2.beq d1&&au.beq s&&decide (t=u)&&Nat.blt d1 st.nt&&!eu.beq d1 then some ⟨o,au,t,xs,k,off,S,i,n,d1,eu,v⟩ else none
     |_,_,_=>none
    |none=>none
   |_,_,_=>none
  |_=>none
 |_,_,_,_,_=>none
def US(st:af)(o2:Oper)(q:r_)(x:den q.t)(K:af->Option R):List bH->List (List az)->List az->Option R
 |[.ag (.d d)],[],[.fresh b9 oo]=>match dec q.t (bA (enc q.t x) q.off [.sl b9 oo]) with
  |some db=>bif d.jh&&!b9.iv&&ce st o2.dst then K ((st.pf q).cm o2.dst (one d) [(q.o,.deep q.s q.t (q.xs.set q.k db))]) else none
  |none=>none
 |_,_,_=>none
def SI(st:af)(o2:Oper)(q:r_)(K:af->Option R):Option R:=
 (q.xs[q.k]?).bind fun x=>match(enc q.t x)[q.off]? with
  |some (.sl u ys)=>(q.S [.av (.ag (.fresh u ys)),.av (.ag (.d (.int q.i q.n)))]).comp.bind fun y=>
    US st o2 q x K ((q.S [.av (.ag (.fresh u ys)),.av (.ag (.d (.int q.i q.n)))]).ft y) ((q.S [.av (.ag (.fresh u ys)),.av (.ag (.d (.int q.i q.n)))]).eg y) ((q.S [.av (.ag (.fresh u ys)),.av (.ag (.d (.int q.i q.n)))]).e' y)
  |_=>none
noncomputable def nZ(C:Ctx)(ops:Array Oper):List Oper->af->(af->Option R)->Option R
 |[],st,K=>K st
 |[D],st,K=>wU C ops st D K
 |[D,o2],st,K=>wU C ops st D fun ah=>nZ C ops [o2] ah K
 |D::gf::o2::r,st,K=>match uq C st D gf o2 with
  |some q=>SI st o2 q fun ah=>nZ C ops r ah K
  |none=>wU C ops st D fun ah=>nZ C ops (gf::o2::r) ah K
structure Rec where
 D:Oper
 go:Bool
 v:aI
 us:List (Nat×Site)
 lM:List Nat
 rn:List Nat
 EG:Bool
def xi:List Nat->Bool
 |[]=>false
 |n::r=>Nat.ble 1000000 n||xi r
def uL(d:Option Nat)(l:List Nat):Bool:=match d with|some d=>gG d l|none=>false
def nh(a b:Rec):Bool:=
 uL a.D.dst b.lM||uL a.D.dst b.D.dst.toList||uL b.D.dst a.lM||
 !fr (keys a.us) (b.rn++keys b.us)||!fr (keys b.us) a.rn||(a.EG&&xi (keys b.us))||(b.EG&&xi (keys a.us))
def m_(acc:List (Nat×Rec×List Nat)):List Edge->List Nat
 |[]=>[]
 |e::r=>bif Region.binds .any e then(match look acc e.on with|some x=>e.on::(x.2++m_ acc r)|none=>m_ acc r) else m_ acc r
def tO(i:Nat):List Edge->Bool
 |[]=>true
 |e::r=>(!Region.binds .any e||Nat.blt e.on i)&&tO i r
def tZ(yU:List Nat)(x:Rec):List (Nat×Rec×List Nat)->Bool
 |[]=>true
 |(j,y,_)::r=>(gG j yU||!nh y x)&&tZ yU x r
def SX(i:Nat):List Oper->Bool
 |[]=>false
 |D::r=>(match D.guard with|some (j,_)=>Nat.beq i j|none=>false)||SX i r
def KX(g:Bool)(v:aI)(K:aI->Option R):Option R:=
 bif g then(match v with
  |.av (.ag (.d (.bool b)))=>bif b then K (one (.bool true)) else K (one (.bool false))
  |v=>K v) else K v
def B8(C:Ctx)(g:Bool)(st:af)(D:Oper)(gs:List Nat)(K:Rec->Option R):Option R:=
 (step C st D).comp.bind fun y=>bif(step C st D).sM y then KX g ((step C st D).val y) fun v=>
  K ⟨D,true,v,(step C st D).us y,gs++qc (me D.op),Kr C st D,CB D.op⟩ else none
def HM(D:Oper)(gs:List Nat)(K:Rec->Option R):Option R:=K ⟨D,false,Cc,[],gs,[],false⟩
def Kb(C:Ctx)(ops:Array Oper)(g:Bool)(st:af)(D:Oper)(K:Rec->Option R):Option R:=
 match D.guard with
 |none=>B8 C g st D [] K
 |some (j,want)=>match(ops[j]?).bind (·.dst) with
  |some t=>match st.get t with
   |.av (.ag (.d (.bool b)))=>bif(bif want then b else !b) then B8 C g st D [t] K else HM D [t] K
   |.av (.ag (.cL (.tuple _)))=>HM D [t] K
   |_=>none
  |none=>none
def CW(C:Ctx)(ops:Array Oper):List Oper->Nat->List (Nat×Rec×List Nat)->af->(af->Option R)->Option R
 |[],_,_,st,K=>K st
 |D::r,i,acc,st,K=>bif ce st D.dst&&tO i D.after.toList then Kb C ops (SX i r) st D fun x=>
   bif tZ (m_ acc D.after.toList) x acc then CW C ops r (i+1) ((i,x,m_ acc D.after.toList)::acc) (st.cm D.dst x.v x.us) K else none
  else none
def S7(C:Ctx)(ops:Array Oper)(st:af)(K:af->Option R):Option R:=CW C ops ops.toList 0 [] (st.iP (CO st (G0 ops.toList ops.toList))) K
inductive Out:Type where
 |norm (st:af)
 |exit (id:Nat) (st:af)
 |ret (st:af)
structure ap8:Type 1 where
 J:Type
 comp:Option J
 out:J->Out
 run:(R:Type)->J->(Out->Option R)->Option R
 run_eq:∀(R:Type) (y:J) (K:Out->Option R),run R y K=K (out y)
abbrev ij:=af->ap8
structure iC:Type 1 extends Ctx where
 pr:Nat->Option ij
def wrap(C:iC)(p:Nat)(st:af)(K:Out->Option R)(x:Option R):Option R:=
 match C.pr p with
 |some f=>(f st).comp.bind fun y=>(f st).run R y K
 |none=>x
noncomputable def exec(C:iC):Code->Nat->af->(Out->Option R)->Option R
 |.skip,_,st,K=>K (.norm st)
 |.region _ ops false,p,st,K=>wrap C p st K (nZ C.toCtx ops ops.toList st fun ah=>K (.norm ah))
 |.region _ ops true,p,st,K=>wrap C p st K (S7 C.toCtx ops st fun ah=>K (.norm ah))
 |.seq a b,p,st,K=>wrap C p st K (exec C a (2*p) st fun
  |.norm ah=>exec C b (2*p+1) ah K
  |D=>K D)
 |.cond c a b,p,st,K=>wrap C p st K (match aS C.toCtx st 0 c with
  |.av (.ag (.d (.bool t)))=>bif t then exec C a (2*p) st K else exec C b (2*p+1) st K
  |_=>none)
 |.block id c,p,st,K=>wrap C p st K (exec C c (2*p) st fun
  |.exit jH ah=>bif jH.beq id then K (.norm ah) else K (.exit jH ah)
  |D=>K D)
 |.loop _,p,st,K=>wrap C p st K none
 |.rangeFunc _ _ _ _,p,st,K=>wrap C p st K none
 |.exit id,_,st,K=>K (.exit id st)
 |.ret,_,st,K=>K (.ret st)
 |_,_,_,_=>none
end
section
variable {B aD:Nat->Value}{sites bw:List (Nat×Site)}{w w':World}{av b4:Nat->Prop}
structure ib(B aD:Nat->Value)(sites bw:List (Nat×Site))(w w':World)(av b4:Nat->Prop):Prop where
 ref:∀o aa,look sites o=some aa->∃bF,look bw o=some bF/\aa.b'<=bF.b'/\(bF.b'=aa.b'->b0 (aD o)=b0 (B o))
 bq:∀b,¬av b->b<w.heap.size->w'.heap[b]? =w.heap[b]?
 av:∀b,¬av b->b<w.heap.size->¬b4 b
theorem bm.goes{d:aJ}{v:Value}(G:ib B aD sites bw w w' av b4)(hs:w.heap.size<=w'.heap.size)(axJ:∀b,b4 b->b<w'.heap.size)(r:bm w av d v):bm w' b4 d v:=by
 induction r with
 |int k n=>exact .int k n
 |bool b=>exact .bool b
 |str l s h=>exact .str l s h
 |nil t=>exact .nil t
 |sl t xs a cap cs n hn hcap hb hl hc _ ih=>
  have key:xs≠[]->a.block<w.heap.size:=by
   intro hne;have oj:0<cs.length:=by
    rw[hl,eG];exact Nat.mul_pos (List.length_pos_iff.mpr hne) (kd t)
   have:=hc 0 (cs[0]) (List.getElem?_eq_getElem oj);have h2:=World.block_lt_of_cell? w _ this;have hN:(a.add 0).block=a.block:=by unfold Addr.add;split<;>rfl
   rwa[hN] at h2
  refine .sl t xs a cap cs n hn hcap (fun hx=>G.av _ (hb hx) (key hx)) hl (fun j u hu=>?_) ih
  have hcell:=hc j u hu;have hne:xs≠[]:=by
   rintro rfl;have:cs=[]:=List.eq_nil_of_length_eq_zero (by simpa[flat] using hl)
   subst this;simp at hu
  have hN:(a.add j).block=a.block:=by unfold Addr.add;split<;>rfl
  rw[World.cell?_of_block (w:=w) (a:=a.add j) (by rw[hN];exact G.bq _ (hb hne) (key hne))]
  exact hcell
 |fn g bE bs jL lb hlb qU hb hlt hl hc _ ih=>
  refine .fn g bE bs jL lb hlb qU (fun b hm=>G.av b (hb b hm) (hlt b hm)) (fun b hm=>Nat.lt_of_lt_of_le (hlt b hm) hs) hl (fun i hi j u hu=>?_) ih
  have hcell:=hc i hi j u hu;have hm:bs[i]∈bs:=List.getElem_mem hi;rw[World.cell?_of_block (w:=w) (a:=⟨bs[i],j,none⟩) (G.bq _ (hb _ hm) (hlt _ hm))];exact hcell
 |xN t=>exact .xN t
 |x1 T=>exact .x1 T
 |err T n=>exact .err T n
 |map t es b hb hm=>exact .map t es b (G.av b hb hm.lt) (hm.of (G.bq b hb hm.lt))
theorem Ref.goes{o s:Nat}{p k9:Prop}(G:ib B aD sites bw w w' av b4)(h:Ref sites o s p)(hp:b0 (aD o)=b0 (B o)->p->k9):Ref bw o s k9:=by
 obtain⟨aa,h1,h2,h3⟩:=h;obtain⟨bF,g1,g2,g3⟩:=G.ref o aa h1;refine⟨bF,g1,Nat.le_trans h2 g2,fun e=>?_⟩
 have:bF.b'=aa.b':=by omega
 exact hp (g3 this) (h3 (by omega))
theorem dF.goes{l:az}{v:Value}(G:ib B aD sites bw w w' av b4)(hs:w.heap.size<=w'.heap.size)(b8:∀b,b4 b->b<w'.heap.size)(h:dF B sites w av l v):dF aD bw w' b4 l v:=by
 cases l with
 |d x=>exact bm.goes G hs b8 h
 |nil t=>exact h
 |own o s=>exact⟨h.1,Ref.goes G h.2 (fun e p=>by rw[e];exact p)⟩
 |ptr o s off=>obtain⟨b,h1,h2⟩:=h;exact⟨b,h1,Ref.goes G h2 (fun e p=>by rw[e];exact p)⟩
 |eQ cells off=>
  obtain⟨b,D,hv,hb,hlt,cs,hl,hc,hr⟩:=h;refine⟨b,D,hv,G.av b hb hlt,Nat.lt_of_lt_of_le hlt hs,cs,hl,fun j u hu=>?_,fun j h1 h2=>(hr j h1 h2).goes G hs b8⟩
  have hcell:=hc j u hu;rw[World.cell?_of_block (w:=w) (a:=⟨b,D+j,none⟩) (G.bq b hb hlt)];exact hcell
 |eR o s t k off=>obtain⟨b,h1,h2⟩:=h;exact⟨b,h1,Ref.goes G h2 (fun e p=>by rw[e];exact p)⟩
 |clo g bE=>
  obtain⟨vs,hv,hl,hr⟩:=h;exact⟨vs,hv,hl,fun i h1 h2=>Ref.goes G (hr i h1 h2) (fun e p=>p.trans e.symm)⟩
 |cL u=>exact h
 |fresh t xs=>exact h
 |jb t xs=>exact h
 |dH=>trivial
 |any=>trivial
theorem gZ.goes{a:bH}{v:Value}(G:ib B aD sites bw w w' av b4)(hs:w.heap.size<=w'.heap.size)(b8:∀b,b4 b->b<w'.heap.size)(h:gZ B sites w av a v):gZ aD bw w' b4 a v:=by
 cases a with
 |ag l=>exact dF.goes G hs b8 h
 |agg ab=>
  obtain⟨vs,hv,hl,hr⟩:=h;exact⟨vs,hv,hl,fun j h1 h2=>(hr j h1 h2).goes G hs b8⟩
theorem cj.goes{a:aI}{v:Value}(G:ib B aD sites bw w w' av b4)(hs:w.heap.size<=w'.heap.size)(b8:∀b,b4 b->b<w'.heap.size)(h:cj B sites w av a v):cj aD bw w' b4 a v:=by
 cases a with
 |av a=>exact gZ.goes G hs b8 h
 |kq as=>
  obtain⟨vs,hv,hl,hr⟩:=h;exact⟨vs,hv,hl,fun j h1 h2=>(hr j h1 h2).goes G hs b8⟩
theorem cu.goes{ds:List aJ}{vs:List Value}(G:ib B aD sites bw w w' av b4)(hs:w.heap.size<=w'.heap.size)(b8:∀b,b4 b->b<w'.heap.size)(h:cu w av ds vs):cu w' b4 ds vs:=
 ⟨h.1,fun j h1 h2=>(h.2 j h1 h2).goes G hs b8⟩
theorem Deep.goes{ds:List aJ}{cs ns:List Value}(G:ib B aD sites bw w w' av b4)(hs:w.heap.size<=w'.heap.size)(b8:∀b,b4 b->b<w'.heap.size)(h:Deep w av ds cs ns):
  (∀n,n∈ns->∀b,Jk.bq n=some b->w'.heap[b]? =w.heap[b]?)->Deep w' b4 ds cs ns:=by
 induction h with
 |nil=>intro _;exact .nil
 |row u ys e ab hp h hr _ ih=>intro hk;exact .row u ys e ab hp (td h (hk _ List.mem_cons_self)) (hr.goes G hs b8) (ih fun n hn=>hk n (List.mem_cons_of_mem _ hn))
 |leaf hp h _ ih=>intro hk;exact .leaf hp (h.goes G hs b8) (ih hk)
theorem jS.goes{o:Nat}{aa:Site}(G:ib B aD sites bw w w' av b4)(hs:w.heap.size<=w'.heap.size)(b8:∀b,b4 b->b<w'.heap.size)(bX:aD o=B o)
  (hb:aa.live=true->∀b,b∈Jk.bJ (B o)->w'.heap[b]? =w.heap[b]?) (h:jS B sites w av o aa):jS aD bw w' b4 o aa:=by
 cases aa with
 |box s cells=>
  obtain⟨b,T,cur,h1,h2,h3,aE,pK,br⟩:=h;have:=hb rfl b (gT (by rw[h1];rfl))
  exact⟨b,T,cur,bX.trans h1,this.trans h2,h3,aE,pK,fun j g1 g2=>(br j g1 g2).goes G hs b8⟩
 |row s t xs=>
  obtain⟨e,cs,h1,h2⟩:=h;refine⟨e,cs,?_,fun j g1 g2=>(h2 j g1 g2).goes G hs b8⟩
  rw[bX];exact td h1 fun b cd=>hb rfl b (gT cd)
 |da s t xs=>exact⟨by rw[bX];exact bm.goes G hs b8 h.1,by rw[bX];exact h.2⟩
 |map s t es=>
  obtain⟨b,h1,h2⟩:=h;exact⟨b,bX.trans h1,h2.of (hb rfl b (gT (by rw[h1];rfl)))⟩
 |deep s t xs=>
  obtain⟨e,v,ns,cs,h1,h2,h3,aE⟩:=h;have hk:∀b,bq v=some b\/(∃n,n∈ns/\bq n=some b)->w'.heap[b]? =w.heap[b]? :=fun b h=>hb rfl b (by rw[h1];exact kb.2 h)
  exact⟨e,v,ns,cs,bX.trans h1,by rw[bX];exact h2,td h3 fun b h=>hk b (.inl h),aE.goes G hs b8 fun n hn b h=>hk b (.inr ⟨n,hn,h⟩)⟩
 |dead s=>trivial
end
theorem ai.qA{O:World}{U:List Nat}{X:Nat->Prop}{B aD:Nat->Value}{st:af}{bw:List (Nat×Site)}{tm:Array Value}{w w':World}
  (S:ai O U X B st tm w)
  (sg:∀o aa,look st.sites o=some aa->∃bF,look bw o=some bF/\aa.b'<=bF.b'/\(bF.b'=aa.b'->b0 (aD o)=b0 (B o)))
  (hN:∀b,¬ar X B st.sites b->b<w.heap.size->w'.heap[b]? =w.heap[b]?)
  (b8:∀b,¬ar X B st.sites b->b<w.heap.size->¬ar X aD bw b)
  (apr:(∀{a v},cj B st.sites w (ar X B st.sites) a v->cj aD bw w' (ar X aD bw) a v)->∀o bF,look bw o=some bF->
   (look st.sites o=some bF/\aD o=B o/\(bF.live=true->∀b,b∈bJ (B o)->w'.heap[b]? =w.heap[b]?))\/jS aD bw w' (ar X aD bw) o bF)
  (anb:∀o M b,bY bw o->bY bw M->b∈bJ (aD o)->b∈bJ (aD M)->o=M)
  (am8:∀o b,bY bw o->b∈bJ (aD o)->¬X b/\(b∈U\/O.heap.size<=b))
  (hlt:∀o b,bY bw o->b∈bJ (aD o)->b<w'.heap.size)
  (alG:Fr U O w') (hs:w.heap.size<=w'.heap.size):
  ai O U X aD {st with sites:=bw} tm w':=by
 have G:ib B aD st.sites bw w w' (ar X B st.sites) (ar X aD bw):=⟨sg,hN,b8⟩;have xY:∀b,ar X aD bw b->b<w'.heap.size:=by
  rintro b (hx|⟨o,h1,h2⟩)
  ·exact Nat.lt_of_lt_of_le (S.old b hx) hs
  ·exact hlt o b h1 h2
 refine⟨S.nt,fun t=>(S.cO t).goes G hs xY,fun o bF bk=>?_,anb,am8,alG,fun b h=>Nat.lt_of_lt_of_le (S.old b h) hs,S.fC⟩
 rcases apr (fun h=>h.goes G hs xY) o bF bk with⟨h1,h2,h3⟩|h
 ·exact(S.sites o bF h1).goes G hs xY h2 h3
 ·exact h
def cz(tm:Array Value)(dst:Option Nat)(v:Value):Array Value:=
 match dst with
 |some d=>tm.setIfInBounds d v
 |none=>tm
section
variable {P:Program}{K:Act->World->Prop}{Q:Exit->Act->World->Prop}{D:Oper}{tm:Array Value}{w w':World}{vv:Value}
theorem nW(h:(execOp (Act.eval ⟨tm,[]⟩) D).run P w=.ok (.value vv) w')(hk:K ⟨cz tm D.dst vv,[]⟩ w'):D.wp P ⟨tm,[]⟩ w K Q:=by
 unfold Oper.wp;rw[h,Oper.upon_value];cases Y:D.dst with
 |none=>simp only[Y,cz] at hk;simpa[Act.put] using hk
 |some d=>simp only[Y,cz] at hk;simpa[Act.put] using hk
theorem akK(h:(execOp (Act.eval ⟨tm,[]⟩) D).run P w=.ok .skip w')(hk:K ⟨cz tm D.dst undef,[]⟩ w'):D.wp P ⟨tm,[]⟩ w K Q:=by
 unfold Oper.wp;rw[h,Oper.upon_skip];cases Y:D.dst with
 |none=>simp only[Y,cz] at hk;simpa[Act.put] using hk
 |some d=>simp only[Y,cz] at hk;simpa[Act.put] using hk
end
def aY(sites:List (Nat×Site)):List (Nat×Site)->List (Nat×Site)
 |[]=>sites
 |(o,s)::r=>aY (cg sites o s) r
theorem af.wE(st:af)(us:List (Nat×Site)):st.iP us={st with sites:=aY st.sites us}:=by
 induction us generalizing st with
 |nil=>rfl
 |cons p us ih=>obtain⟨o,s⟩:=p;simp only[af.iP,aY];rw[ih];rfl
theorem jq(sites:List (Nat×Site))(us vs:List (Nat×Site)):aY sites (us++vs)=aY (aY sites us) vs:=by
 induction us generalizing sites with
 |nil=>rfl
 |cons p us ih=>obtain⟨o,s⟩:=p;simp only[List.cons_append,aY];exact ih _
section
variable {O:World}{U:List Nat}{X:Nat->Prop}{B:Nat->Value}{st:af}{tm:Array Value}{w:World}
theorem ai.put(S:ai O U X B st tm w){t:Nat}{v:aI}{vv:Value}(ao:t<st.nt)(hv:cj B st.sites w (ar X B st.sites) v vv):
  ai O U X B (st.set t v) (tm.setIfInBounds t vv) w:=by
 refine⟨by simpa using S.nt,fun u=>?_,S.sites,S.dC,S.cf,S.frame,S.old,S.fC⟩
 rw[af.I_];by_cases h:t=u
 ·subst h;simp only[if_true];have:(tm.setIfInBounds t vv).getD t undef=vv:=by
   have h1:t<tm.size:=by rw[S.nt];exact ao
   simp[Array.getD,h1]
  rw[this];exact hv
 ·simp only[h,if_false];have:(tm.setIfInBounds t vv).getD u undef=tm.getD u undef:=by
   simp only[Array.getD_eq_getD_getElem?,Array.getElem?_setIfInBounds,h,if_false]
  rw[this];exact S.cO u
theorem ai.cm{dst:Option Nat}{v:aI}{vv:Value}{us:List (Nat×Site)}(S:ai O U X B {st with sites:=aY st.sites us} tm w)
  (Y:ce st dst=true) (hv:cj B (aY st.sites us) w (ar X B (aY st.sites us)) v vv):ai O U X B (st.cm dst v us) (cz tm dst vv) w:=by
 cases dst with
 |none=>simp only[af.cm,af.wE,cz];exact S
 |some t=>
  simp only[af.cm,af.wE,cz];have ao:t<st.nt:=by simpa[ce] using Y
  exact ai.put (st:={st with sites:=aY st.sites us}) S ao hv
theorem de(S:ai O U X B st tm w)(C:Ctx)(T:TypeId)(x:Operand):cj B st.sites w (ar X B st.sites) (aS C st T x) (Act.eval ⟨tm,[]⟩ x):=by
 cases x with
 |tmp t=>exact S.cO t
 |const v=>
  show cj _ _ _ _ (wZ (C.tt T) v) v;unfold wZ;split
  ·exact .int _ _
  ·exact .bool _
  ·exact .str _ _ rfl
  ·split<;>exact rfl
  ·split
   ·exact .xN _
   ·exact rfl
  ·trivial
  ·trivial
  ·exact rfl
 |global g=>exact rfl
 |func f=>
  refine⟨[],rfl,rfl,fun i h=>?_⟩
  simp at h
variable {P:Program}{C:Ctx}{D:Oper}{K:Act->World->Prop}{Q:Exit->Act->World->Prop}
def cJ(P:Program)(O:World)(U:List Nat)(X:Nat->Prop)(st:af)(tm:Array Value)(w:World)(D:Oper)(v:aI)(us:List (Nat×Site)):Prop:=
 ∀(K:Act->World->Prop) (Q:Exit->Act->World->Prop),(∀aD bU w',ai O U X aD (st.cm D.dst v us) bU w'->K ⟨bU,[]⟩ w')->D.wp P ⟨tm,[]⟩ w K Q
theorem dS(S:ai O U X B st tm w)(Y:ce st D.dst=true){v:aI}{vv:Value}
  (h:(execOp (Act.eval ⟨tm,[]⟩) D).run P w=.ok (.value vv) w) (hv:cj B st.sites w (ar X B st.sites) v vv):cJ P O U X st tm w D v []:=
 fun _ _ bC=>nW h (bC _ _ _ (ai.cm (us:=[]) S Y hv))
end
section
variable {P:Program}{w:World}
theorem abf(op:BinOp)(t:TypeId)(x y:Operand)(k k':IntKind)(a b:Int):(eqGuard op t x y (.int k a) (.int k' b)).run P w=.ok () w:=by
 unfold eqGuard;cases op<;>rfl
theorem aa2(op:BinOp)(t:TypeId)(x y:Operand)(a b:ByteArray):(eqGuard op t x y (.string a) (.string b)).run P w=.ok () w:=by
 unfold eqGuard;cases op<;>rfl
theorem N5(op:BinOp)(t:TypeId)(x y:Operand)(a b:Bool):(eqGuard op t x y (.bool a) (.bool b)).run P w=.ok () w:=by
 unfold eqGuard;cases op<;>rfl
def Holds(r:dn)(ec:aI->List (Nat×Site)->Prop):Prop:=∀y,r.comp=some y->r.sM y=true->ec (r.val y) (r.us y)
theorem Holds.fail{ec:aI->List (Nat×Site)->Prop}:Holds .fail ec:=fun _ h _=>by cases h
theorem Holds.ok{v:aI}{ec:aI->List (Nat×Site)->Prop}(h:ec v []):Holds (.ok v) ec:=fun _ _ _=>h
theorem Holds.fR{v:aI}{us:List (Nat×Site)}{ec:aI->List (Nat×Site)->Prop}(h:ec v us):Holds (.fR v us) ec:=fun _ _ _=>h
theorem Holds.eN{J:Type}{c:Option J}{f:J->aI}{ec:aI->List (Nat×Site)->Prop}(h:∀y,c=some y->ec (f y) []):Holds (.eN c f) ec:=fun y hy _=>h y hy
theorem Holds.fN{J:Type}{c:Option J}{f:J->aI}{us:J->List (Nat×Site)}{ec:aI->List (Nat×Site)->Prop}(h:∀y,c=some y->ec (f y) (us y)):Holds (.fN c f us) ec:=fun y hy _=>h y hy
def Plain(P:Program)(w:World)(s:Sem Value)(v:aI)(us:List (Nat×Site)):Prop:=
 ∃vv d,s.run P w=.ok vv w/\us=[]/\v=one d/\∀av,bm w av d vv
theorem Plain.mk{s:Sem Value}{vv:Value}{d:aJ}(h:s.run P w=.ok vv w)(hr:∀av,bm w av d vv):Plain P w s (one d) []:=⟨vv,d,h,rfl,rfl,hr⟩
theorem afl(op:BinOp)(T:TypeId)(k:IntKind)(a b:Int)(hs:op≠.shl)(fD:op≠.shr):
  Holds (UY op k a b) (Plain P w (binOp op T (.int k a) (.int k b))):=by
 cases op with
 |shl=>exact absurd rfl hs
 |shr=>exact absurd rfl fD
 |andNot=>exact .fail
 |quo=>
  refine Holds.eN fun y hy=>?_
  unfold nc at hy;split at hy
  ·cases hy
  ·rename_i hb;cases hy;exact .mk (by simp[binOp,Op.intDiv,hb]) fun av=>.int _ _
 |rem=>
  refine Holds.eN fun y hy=>?_
  unfold lr at hy;split at hy
  ·cases hy
  ·rename_i hb;cases hy;exact .mk (by simp[binOp,Op.intDiv,hb]) fun av=>.int _ _
 |add=>exact Holds.ok (.mk (by simp[binOp,Op.intArith]) fun av=>.int _ _)
 |sub=>exact Holds.ok (.mk (by simp[binOp,Op.intArith]) fun av=>.int _ _)
 |mul=>exact Holds.ok (.mk (by simp[binOp,Op.intArith]) fun av=>.int _ _)
 |and=>exact Holds.ok (.mk (by simp[binOp,Op.intBits,eS]) fun av=>.int _ _)
 |or=>exact Holds.ok (.mk (by simp[binOp,Op.intBits,iD]) fun av=>.int _ _)
 |xor=>exact Holds.ok (.mk (by simp[binOp,Op.intBits,dx]) fun av=>.int _ _)
 |eql=>exact Holds.ok (.mk (by simp[binOp,Op.intCmp]) fun av=>.bool _)
 |neq=>exact Holds.ok (.mk (by simp[binOp,Op.intCmp]) fun av=>.bool _)
 |lss=>exact Holds.ok (.mk (by simp[binOp,Op.intCmp]) fun av=>.bool _)
 |leq=>exact Holds.ok (.mk (by simp[binOp,Op.intCmp]) fun av=>.bool _)
 |gtr=>exact Holds.ok (.mk (by simp[binOp,Op.intCmp]) fun av=>.bool _)
 |geq=>exact Holds.ok (.mk (by simp[binOp,Op.intCmp]) fun av=>.bool _)
theorem afj(op:BinOp)(T:TypeId)(a b:ByteArray):
  Holds (UH op a.data.toList b.data.toList) (Plain P w (binOp op T (.string a) (.string b))):=by
 have e1:a.toList=a.data.toList:=ByteArray.toList_eq a;have e2:b.toList=b.data.toList:=ByteArray.toList_eq b;have c9:a.data.toList.length=a.size:=rfl;have fU:b.data.toList.length=b.size:=rfl;cases op with
 |add=>
  refine Holds.eN fun y hy=>?_
  simp only[ch,c9,fU] at hy;split at hy
  ·cases hy
  ·rename_i hc;cases hy;refine .mk (vv:=.string (a++b)) ?_ fun av=>.str _ _ (by simp[ByteArray.data_append])
   simp only[binOp,Op.stringOp,hc,if_false,Sem.run_pure]
 |eql=>exact Holds.ok (.mk (by rw[<-e1,<-e2];rfl) fun av=>.bool _)
 |neq=>exact Holds.ok (.mk (by rw[<-e1,<-e2];rfl) fun av=>.bool _)
 |lss=>exact Holds.ok (.mk (by rw[<-e1,<-e2];rfl) fun av=>.bool _)
 |leq=>exact Holds.ok (.mk (by rw[<-e1,<-e2];rfl) fun av=>.bool _)
 |gtr=>exact Holds.ok (.mk (by rw[<-e1,<-e2];rfl) fun av=>.bool _)
 |geq=>exact Holds.ok (.mk (by rw[<-e1,<-e2];rfl) fun av=>.bool _)
 |_=>exact .fail
end
def rB:az->Option Value
 |.d (.int k n)=>some (.int k n)
 |.d (.bool b)=>some (.bool b)
 |.d (.str [])=>some (.string ⟨#[]⟩)
 |.nil _=>some (.slice none 0 0)
 |.cL (.pointer none)=>some (.pointer none)
 |.cL .nilFunc=>some .nilFunc
 |.cL (.map none)=>some (.map none)
 |.cL .nilIface=>some .nilIface
 |_=>none
def l5:List az->Option (List Value)
 |[]=>some []
 |l::ab=>match rB l,l5 ab with
  |some v,some vs=>some (v::vs)
  |_,_=>none
theorem O5{l:az}{v:Value}(h:rB l=some v)(B:Nat->Value)(sites:List (Nat×Site))(w:World)(av:Nat->Prop):dF B sites w av l v/\v.oneCell'=true:=by
 unfold rB at h;split at h<;>first|cases h|skip
 ·exact⟨.int _ _,rfl⟩
 ·exact⟨.bool _,rfl⟩
 ·exact⟨.str _ _ rfl,rfl⟩
 ·exact⟨rfl,rfl⟩
 ·exact⟨rfl,rfl⟩
 ·exact⟨rfl,rfl⟩
 ·exact⟨rfl,rfl⟩
 ·exact⟨rfl,rfl⟩
theorem s':∀{ab:List az} {vs:List Value},l5 ab=some vs->vs.length=ab.length/\(∀u∈vs,u.oneCell'=true)/\
  ∀(B:Nat->Value) (sites:List (Nat×Site)) (w:World) (av:Nat->Prop) j (h:j<ab.length) (ae:j<vs.length),dF B sites w av (ab[j]) (vs[j]):=by
 intro ab;induction ab with
 |nil=>intro vs h;simp[l5] at h;subst h;exact⟨rfl,fun u hu=>by simp at hu,fun _ _ _ _ j h=>by simp at h⟩
 |cons l ab ih=>
  intro vs h;simp only[l5] at h;split at h
  ·rename_i v ca h1 h2;cases h;obtain⟨g1,g2,g3⟩:=ih h2;refine⟨by simp[g1],fun u hu=>?_,fun B sites w av j hj ku=>?_⟩
   ·rcases List.mem_cons.1 hu with rfl|hu
    ·exact(O5 h1 (fun _=>undef) [] default (fun _=>False)).2
    ·exact g2 u hu
   ·cases j with
    |zero=>exact(O5 h1 _ _ _ _).1
    |succ j=>exact g3 B sites w av j (by simpa using hj) (by simpa using ku)
  ·cases h
def oZ:Value->Value->Option Bool
 |.int k a,.int k' b=>if k=k' then some (a==b) else none
 |.bool a,.bool b=>some (a==b)
 |.string a,.string b=>some (a==b)
 |_,_=>none
def ka:List Value->List Value->Option Bool
 |[a],[b]=>oZ a b
 |a::as,b::bs=>match oZ a b,ka as bs with
  |some x,some y=>some (x&&y)
  |_,_=>none
 |_,_=>none
def qJ:List az->List Value->Bool
 |[],[]=>true
 |.d (.int _ _)::z,.int _ _::l=>qJ z l
 |.d (.bool _)::z,.bool _::l=>qJ z l
 |.d (.str _)::z,.string _::l=>qJ z l
 |_,_=>false
def jY(P:Program)(T:TypeId)(d:TypeDesc)(z:Value):Prop:=
 P.underlying T=some d/\(∀bM,d≠.struct bM)/\(∀n e,d≠.array n e)/\(P.info? T).map (fun i=>(i.size,i.zero))=some (1,some z)
def mapElem(P:Program)(e:TypeId):aH->Prop
 |.i64=>jY P e (.int .i64) (.int .i64 0)
 |.bool=>jY P e .bool (.bool false)
 |_=>False
def Jq(P:Program)(e:TypeId):aH->Prop
 |.i64=>jY P e (.int .i64) (.int .i64 0)
 |.u32=>jY P e (.int .u32) (.int .u32 0)
 |.bool=>jY P e .bool (.bool false)
 |.str=>jY P e .string (.string ⟨#[]⟩)
 |_=>False
def cp.ok(P:Program)(T:TypeId):cp->Prop
 |.none=>True
 |.int k=>jY P T (.int k) (.int k 0)
 |.bool=>jY P T .bool (.bool false)
 |.str=>jY P T .string (.string ⟨#[]⟩)
 |.ptr=>∃e,jY P T (.pointer e) (.pointer Option.none)
 |.func=>∃ps lM v,jY P T (.func ps lM v) .nilFunc
 |.slice e t bytes=>jY P T (.slice e) (.slice Option.none 0 0)/\∃z,(P.info? e).map (fun i=>(i.size,i.bytes,i.zero))=some (aA t,bytes,some z)/\z.cells.size=aA t/\(t.fu=true->e=mC)
 |.struct bM n z eq=>∃fields:Array Field,P.underlying T=some (.struct fields)/\
   (fields.toList.mapM (fun f=>(P.info? f.type).map fun i=>(f.offset,i.size))=some bM/\∀p∈bM,p.2≠0)/\
   (∃gi,(P.info? T).map (fun i=>(i.size,i.zero))=some (n,some (.agg gi))/\l5 z=some gi.toList/\z.length=n)/\
   (eq=true->P.eqGuardType P.depth T=false/\∀(vs us:List Value) (b:Bool) (w:World),ka vs us=some b->qJ z vs=true->(Op.equal T (.agg vs.toArray) (.agg us.toArray)).run P w=.ok b w)
 |.map k e t=>jY P T (.map k e) (.map Option.none)/\P.underlying k=some .string/\mapElem P e t
 |.iface=>∃jK,jY P T (.interface jK) .nilIface
 |.arr e t n=>P.underlying T=some (.array n e)/\(∃gi z,(P.info? T).map (fun i=>(i.size,i.zero))=some (n,some (.agg gi))/\u3 t=some z/\l5 (List.replicate n z)=some gi.toList)/\Jq P e t
section
variable {P:Program}{T:TypeId}{w:World}
theorem lZ{i:TypeInfo}(h:P.info? T=some i):(typeInfo T).run P w=.ok i w:=by
 simp[typeInfo,h]
theorem cp.Rz{ti:cp}(h:ti.ok P T)(hn:ti≠.none):(sizeOf T).run P w=.ok ti.size w:=by
 have key:∀{z:Option Value} {n:Nat},(P.info? T).map (fun i=>(i.size,i.zero))=some (n,z)->(sizeOf T).run P w=.ok n w:=by
  intro z n h;cases hi:P.info? T with
  |none=>simp[hi] at h
  |some i=>
   simp only[hi,Option.map_some,Option.some.injEq,Prod.mk.injEq] at h;simp[sizeOf,lZ hi,h.1]
 cases ti with
 |none=>exact absurd rfl hn
 |int k=>exact key h.2.2.2
 |bool=>exact key h.2.2.2
 |str=>exact key h.2.2.2
 |ptr=>obtain⟨e,h⟩:=h;exact key h.2.2.2
 |func=>obtain⟨_,_,_,h⟩:=h;exact key h.2.2.2
 |iface=>obtain⟨_,h⟩:=h;exact key h.2.2.2
 |slice e t b=>exact key h.1.2.2.2
 |map k e t=>exact key h.1.2.2.2
 |struct bM n z eq=>obtain⟨fields,_,_,⟨gi,h,_⟩,_⟩:=h;exact key h
 |arr e t n=>obtain⟨_,⟨gi,z,h,_⟩,_⟩:=h;exact key h
theorem cp.AG{ti:cp}(h:ti.ok P T){z:List az}(hz:ti.zero=some z):∃v,(zeroValue T).run P w=.ok v w/\l5 z=some v.cells.toList:=by
 have key:∀{z:Value} {n:Nat},(P.info? T).map (fun i=>(i.size,i.zero))=some (n,some z)->(zeroValue T).run P w=.ok z w:=by
  intro z n h;cases hi:P.info? T with
  |none=>simp[hi] at h
  |some i=>
   simp only[hi,Option.map_some,Option.some.injEq,Prod.mk.injEq] at h;simp[zeroValue,lZ hi,h.2]
 cases ti with
 |none=>cases hz
 |int k=>cases hz;exact⟨_,key h.2.2.2,rfl⟩
 |bool=>cases hz;exact⟨_,key h.2.2.2,rfl⟩
 |str=>cases hz;exact⟨_,key h.2.2.2,rfl⟩
 |ptr=>cases hz;obtain⟨e,h⟩:=h;exact⟨_,key h.2.2.2,rfl⟩
 |func=>cases hz;obtain⟨_,_,_,h⟩:=h;exact⟨_,key h.2.2.2,rfl⟩
 |iface=>cases hz;obtain⟨_,h⟩:=h;exact⟨_,key h.2.2.2,rfl⟩
 |slice e t b=>cases hz;exact⟨_,key h.1.2.2.2,rfl⟩
 |map k e t=>cases hz;exact⟨_,key h.1.2.2.2,rfl⟩
 |struct bM n eO eq=>cases hz;obtain⟨fields,_,_,⟨gi,h,h2,_⟩,_⟩:=h;exact⟨_,key h,h2⟩
 |arr e t n=>
  obtain⟨_,⟨gi,z0,h,h1,h2⟩,_⟩:=h;simp only[cp.zero,h1,Option.map_some,Option.some.injEq] at hz;subst hz;exact⟨_,key h,h2⟩
theorem cp.Qj{ti:cp}(h:ti.ok P T)(hn:ti≠.none):(isAgg T).run P w=.ok ti.agg w:=by
 have key:∀{d:TypeDesc},P.underlying T=some d->(∀bM,d≠.struct bM)->(∀n e,d≠.array n e)->(isAgg T).run P w=.ok false w:=by
  intro d h h1 h2;simp only[isAgg,Sem.run_bind,run_underlying h,Result.andThen_ok];cases d<;>first|rfl|exact absurd rfl (h1 _)|exact absurd rfl (h2 _ _)
 cases ti with
 |none=>exact absurd rfl hn
 |int k=>exact key h.1 h.2.1 h.2.2.1
 |bool=>exact key h.1 h.2.1 h.2.2.1
 |str=>exact key h.1 h.2.1 h.2.2.1
 |ptr=>obtain⟨e,h⟩:=h;exact key h.1 h.2.1 h.2.2.1
 |func=>obtain⟨_,_,_,h⟩:=h;exact key h.1 h.2.1 h.2.2.1
 |iface=>obtain⟨_,h⟩:=h;exact key h.1 h.2.1 h.2.2.1
 |slice e t b=>exact key h.1.1 h.1.2.1 h.1.2.2.1
 |map k e t=>exact key h.1.1 h.1.2.1 h.1.2.2.1
 |struct bM n z eq=>
  obtain⟨fields,h,_⟩:=h;simp only[isAgg,Sem.run_bind,run_underlying h,Result.andThen_ok];rfl
 |arr e t n=>
  obtain⟨h,_⟩:=h;simp only[isAgg,Sem.run_bind,run_underlying h,Result.andThen_ok];rfl
def ul(agg:Bool)(cs:List Value):Value:=bif agg then .agg cs.toArray else cs.headD undef
theorem s9{ti:cp}(h:ti.ok P T)(hn:ti≠.none)(a:Addr)(cs:List Value)(hl:cs.length=ti.size)(hc:∀j u,cs[j]? =some u->w.cell? (a.add j)=some u):
  (loadVar T a).run P w=.ok (ul ti.agg cs) w:=by
 simp only[loadVar,Sem.run_bind,cp.Qj h hn,Result.andThen_ok];cases Li:ti.agg with
 |true=>
  simp only[if_true,Sem.run_bind,cp.Rz h hn,Result.andThen_ok,ul,cond_true];rw[<-hl,run_loadCells_list w a cs hc];rfl
 |false=>
  have h1:ti.size=1:=by cases ti<;>first|rfl|cases Li
  rw[h1] at hl;match cs,hl with
  |[c],_=>
   have h0:=hc 0 c rfl;have ha:a.add 0=a:=by unfold Addr.add;simp
   rw[ha] at h0;simp[ul,h0]
end
section
variable {B:Nat->Value}{sites:List (Nat×Site)}{w:World}{av:Nat->Prop}
def cy(B:Nat->Value)(sites:List (Nat×Site))(w:World)(av:Nat->Prop)(ab:List az)(vs:List Value):Prop:=
 vs.length=ab.length/\∀j (h:j<ab.length) (ae:j<vs.length),dF B sites w av (ab[j]) (vs[j])
theorem cy.nil:cy B sites w av [] []:=⟨rfl,fun j h=>by simp at h⟩
theorem cy.cons{l:az}{ab:List az}{v:Value}{vs:List Value}(h:dF B sites w av l v)(hs:cy B sites w av ab vs):cy B sites w av (l::ab) (v::vs):=
 ⟨by simp[hs.1],fun j h1 h2=>by
  cases j with
  |zero=>exact h
  |succ j=>exact hs.2 j (by simpa using h1) (by simpa using h2)⟩
theorem cy.inv{l:az}{ab:List az}{vs:List Value}(h:cy B sites w av (l::ab) vs):∃v ca,vs=v::ca/\dF B sites w av l v/\cy B sites w av ab ca:=by
 obtain⟨h1,h2⟩:=h;match vs,h1 with
 |v::ca,h1=>
  exact⟨v,ca,rfl,h2 0 (by simp) (by simp),by simpa using h1,fun j g1 g2=>h2 (j+1) (by simpa using g1) (by simpa using g2)⟩
theorem cy.l8{vs:List Value}(h:cy B sites w av [] vs):vs=[]:=List.eq_nil_of_length_eq_zero h.1
theorem cy.drop{ab:List az}{vs:List Value}(n:Nat)(h:cy B sites w av ab vs):cy B sites w av (ab.drop n) (vs.drop n):=
 ⟨by simp[h.1],fun j h1 h2=>by simp only[List.getElem_drop];exact h.2 _ (by simp at h1;omega) (by simp at h2;omega)⟩
theorem cy.take{ab:List az}{vs:List Value}(n:Nat)(h:cy B sites w av ab vs):cy B sites w av (ab.take n) (vs.take n):=
 ⟨by simp[h.1],fun j h1 h2=>by simp only[List.getElem_take];exact h.2 _ (by simp at h1;omega) (by simp at h2;omega)⟩
theorem cy.append{ab dI:List az}{vs ca:List Value}(h:cy B sites w av ab vs)(ae:cy B sites w av dI ca):cy B sites w av (ab++dI) (vs++ca):=by
 induction ab generalizing vs with
 |nil=>rw[h.l8];exact ae
 |cons l ab ih=>
  obtain⟨v,yd,rfl,h1,h2⟩:=h.inv;exact .cons h1 (ih h2)
theorem cy.bA{ab dI:List az}{vs ca:List Value}(off:Nat)(h:cy B sites w av ab vs)(ae:cy B sites w av dI ca):cy B sites w av (Jk.bA ab off dI) (Jk.bA vs off ca):=by
 unfold Jk.bA;rw[ae.1];exact((h.take off).append ae).append (h.drop _)
theorem dF.jt{l:az}{u:Value}(h:dF B sites w av l u)(dO:l.storable=true):u.oneCell'=true:=by
 cases l with
 |d x=>exact bm.jt h
 |nil t=>rw[show u=_ from h];rfl
 |own o s=>exact h.1
 |ptr o s off=>obtain⟨b,rfl,_⟩:=h;rfl
 |eQ c D=>cases dO
 |eR _ _ _ _ _=>cases dO
 |clo g bE=>obtain⟨vs,rfl,_⟩:=h;rfl
 |cL x=>rw[show u=x from h];cases x<;>first|rfl|cases dO
 |fresh t xs=>cases dO
 |jb t xs=>cases dO
 |dH=>cases dO
 |any=>cases dO
theorem cy.jt{ab:List az}{vs:List Value}(h:cy B sites w av ab vs)(dO:hH ab=true):∀u∈vs,u.oneCell'=true:=by
 induction ab generalizing vs with
 |nil=>rw[h.l8];intro u hu;simp at hu
 |cons l ab ih=>
  obtain⟨v,ca,rfl,h1,h2⟩:=h.inv;simp only[hH,Bool.and_eq_true] at dO;intro u hu;rcases List.mem_cons.1 hu with rfl|hu
  ·exact h1.jt dO.1
  ·exact ih h2 dO.2 u hu
theorem gZ.cells{a:bH}{v:Value}(h:gZ B sites w av a v)(dO:hH a.cells=true):cy B sites w av a.cells v.cells.toList:=by
 cases a with
 |ag l=>
  have h1:v.oneCell'=true:=dF.jt h (by simpa[bH.cells,hH] using dO)
  have:v.cells=#[v]:=by cases v<;>first|rfl|cases h1
  rw[this];exact .cons h .nil
 |agg ab=>
  obtain⟨vs,rfl,h1,h2⟩:=h;exact⟨h1,h2⟩
theorem Ui{agg:Bool}{off n:Nat}{ab:List az}{vs:List Value}{v:aI}(hc:cut agg off n ab=some v)(h1:agg=false->n=1)(h:cy B sites w av ab vs):
  off+n<=vs.length/\cj B sites w av v (ul agg ((vs.drop off).take n)):=by
 unfold cut at hc;cases agg with
 |true=>
  simp only[cond_true] at hc;cases hb:Nat.ble (off+n) ab.length with
  |false=>simp[hb] at hc
  |true=>
   simp only[hb,cond_true,Option.some.injEq] at hc;subst hc;have hle:off+n<=ab.length:=Nat.le_of_ble_eq_true hb;have:=(h.drop off).take n;exact⟨by rw[h.1];exact hle,_,rfl,this.1,this.2⟩
 |false=>
  simp only[cond_false] at hc;have hn:=h1 rfl;subst hn;cases Y:ab.drop off with
  |nil=>simp[Y] at hc
  |cons l r=>
   simp only[Y,Option.some.injEq] at hc;subst hc;have _j:=h.drop off;rw[Y] at _j;obtain⟨u,us,hu,hl,_⟩:=_j.inv;have hlen:off<ab.length:=by
    rcases Nat.lt_or_ge off ab.length with h|h
    ·exact h
    ·rw[List.drop_eq_nil_of_le h] at Y;cases Y
   refine⟨by rw[h.1];omega,?_⟩
   rw[hu];exact hl
theorem iw{ds:List aJ}{vs:List Value}(hl:vs.length=ds.length)(h:∀j (h:j<ds.length) (ae:j<vs.length),bm w av (ds[j]) (vs[j])):cy B sites w av (cM ds) vs:=
 ⟨by simp[cM,hl],fun j h1 h2=>by simp only[cM,List.getElem_map];exact h j (by simpa[cM] using h1) h2⟩
end
theorem gV(b D j:Nat):(⟨b,D,none⟩:Addr).add j=⟨b,D+j,none⟩:=by
 unfold Addr.add;split<;>simp_all
def iL(w:World)(b D:Nat)(cs:List Value):Prop:=∀j u,cs[j]? =some u->w.cell? ⟨b,D+j,none⟩=some u
theorem iL.drop{w:World}{b D:Nat}{cs:List Value}(h:iL w b D cs)(m:Nat):iL w b (D+m) (cs.drop m):=by
 intro j u hu;rw[List.getElem?_drop] at hu;have:=h _ _ hu;rwa[Nat.add_assoc]
theorem iL.take{w:World}{b D:Nat}{cs:List Value}(h:iL w b D cs)(m:Nat):iL w b D (cs.take m):=by
 intro j u hu;rw[List.getElem?_take] at hu;split at hu
 ·exact h _ _ hu
 ·cases hu
theorem iL.row{w:World}{b:Nat}{cur:List Value}{T:TypeId}{cH:Nat×Nat}(h:w.heap[b]? =some (.cells cur.toArray T cH)):iL w b 0 cur:=by
 intro j u hu;rw[Nat.zero_add,cell_of_row w b j _ T cH h];simpa using hu
theorem vY(t:aH)(xs:List (den t))(k:Nat)(x:den t)(hx:xs[k]? =some x):((flat t xs).drop (k*aA t)).take (aA t)=enc t x:=by
 apply List.ext_getElem?;intro j;rw[List.getElem?_take,List.getElem?_drop];split
 ·rename_i hj;exact flat_get t xs k j x hx hj
 ·rename_i hj;rw[List.getElem?_eq_none (by rw[fW];omega)]
section
variable {P:Program}{C:iC}{O:World}{U:List Nat}{X:Nat->Prop}{B:Nat->Value}{st:af}{tm:Array Value}{w:World}
theorem hU{o s:Nat}{cells:List az}(h:gn st o s=some cells):look st.sites o=some (.box s cells):=by
 unfold gn af.aa at h;split at h
 ·rename_i au kf hl;cases hb:au.beq s with
  |false=>simp[hb] at h
  |true=>
   simp only[hb,cond_true,Option.some.injEq] at h;have:=Nat.eq_of_beq_eq_true hb;subst this h;exact hl
 ·cases h
theorem kE{o s:Nat}{t:aH}{xs:List (den t)}(h:rowOf st o s=some ⟨t,xs⟩):look st.sites o=some (.row s t xs)\/look st.sites o=some (.da s t xs):=by
 unfold rowOf af.aa at h;split at h
 ·rename_i au be iT hl;cases hb:au.beq s with
  |false=>simp[hb] at h
  |true=>
   simp only[hb,cond_true,Option.some.injEq] at h;have:=Nat.eq_of_beq_eq_true hb;subst this;cases h;exact .inl hl
 ·rename_i au be iT hl;cases hb:au.beq s with
  |false=>simp[hb] at h
  |true=>
   simp only[hb,cond_true,Option.some.injEq] at h;have:=Nat.eq_of_beq_eq_true hb;subst this;cases h;exact .inr hl
 ·cases h
theorem Ref.at{sites:List (Nat×Site)}{o s:Nat}{p:Prop}{aa:Site}(h:Ref sites o s p)(hl:look sites o=some aa)(hs:aa.b'=s):p:=by
 obtain⟨bF,h1,_,h3⟩:=h;rw[hl] at h1;cases h1;exact h3 hs
theorem Ref.mk{sites:List (Nat×Site)}{o s:Nat}{p:Prop}{aa:Site}(hl:look sites o=some aa)(hs:aa.b'=s)(hp:p):Ref sites o s p:=
 ⟨aa,hl,by omega,fun _=>hp⟩
theorem ai.box(S:ai O U X B st tm w){o s off:Nat}{cells:List az}(h:look st.sites o=some (.box s cells)){v:Value}(hv:dF B st.sites w (ar X B st.sites) (.ptr o s off) v):
  ∃b T cur,B o=.pointer (some ⟨b,0,none⟩)/\v=.pointer (some ⟨b,off,none⟩)/\w.heap[b]? =some (.cells (List.toArray cur) T (0,0))/\(∀u∈cur,u.oneCell'=true)/\cy B st.sites w (ar X B st.sites) cells cur:=by
 obtain⟨b,T,cur,h1,h2,h3,aE,_,br⟩:=S.sites o _ h;obtain⟨bf,g2,g3⟩:=hv;have g1:=Ref.at g3 h rfl;rw[h1] at g1;cases g1;exact⟨b,T,cur,h1,g2,h2,aE,h3,br⟩
theorem ai.row(S:ai O U X B st tm w){o s:Nat}{t:aH}{xs:List (den t)}(h:rowOf st o s=some ⟨t,xs⟩):
  ∃cs:List Value,cy B st.sites w (ar X B st.sites) (cM (flat t xs)) cs/\
   ((b0 (B o)=.slice none 0 0/\xs=[])\/∃b c,b0 (B o)=.slice (some ⟨b,0,none⟩) xs.length c/\iL w b 0 cs/\xs.length<=c):=by
 rcases kE h with h|h
 ·obtain⟨e,cs,h1,h2⟩:=S.sites o _ h;have hl:cs.length=(flat t xs).length:=by rw[eG];exact h1.1
  refine⟨cs,iw hl h2,?_⟩;rw[(jR h1).1];rcases h1.2 with⟨hn,h0⟩|⟨g,cap,cur,fz,hv,_,hg,hnc,_,_,htk⟩
  ·exact .inl ⟨hn,List.eq_nil_of_length_eq_zero h0⟩
  ·refine .inr ⟨_,_,hv,fun j u hu=>?_,hnc⟩
   rw[Nat.zero_add,cell_of_row w g j cur e fz hg];rw[<-htk,List.getElem?_take] at hu;split at hu
   ·simpa using hu
   ·cases hu
 ·obtain⟨h1,bT⟩:bm w (ar X B st.sites) (.sl t xs) (b0 (B o))/\x7 (b0 (B o)):=S.sites o _ h;generalize hv:b0 (B o)=v at h1 bT;cases h1 with
  |nil t=>exact⟨[],⟨rfl,fun j h=>by simp[cM,flat] at h⟩,.inl ⟨rfl,rfl⟩⟩
  |sl t xs a cap cs n hn hcap hb hl hc hr=>
   subst hn;rcases bT with bT|⟨b,n,c,bT⟩
   ·cases bT
   ·cases bT;exact⟨cs,iw hl hr,.inr ⟨b,cap,rfl,fun j u hu=>by have:=hc j u hu;rwa[gV] at this,hcap⟩⟩
def DT(g:Nat)(t:aH)(xs:List (den t)):Prop:=g∈lH/\∀w (av:Nat->Prop),oB w->∃T fz,∃cs:List Value,w.heap[g]? =some (.cells cs.toArray T fz)/\cs.length=(flat t xs).length/\∀j (h:j<(flat t xs).length) (ae:j<cs.length),bm w av ((flat t xs)[j]) (cs[j])
structure CtxOk(P:Program)(C:Ctx):Prop where
 tt:∀T,(C.tt T).ok P T
 gt:∀g t xs,C.gt g=some ⟨t,xs⟩->DT g t xs
theorem Ho{ti:cp}(h:ti.known=true):ti≠.none:=by rintro rfl;cases h
theorem HR{ti:cp}(h:ti.agg=false):ti.size=1:=by cases ti<;>first|rfl|cases h
theorem aio{agg:Bool}{off n:Nat}{ab:List az}(h:off+n<=ab.length)(h1:agg=false->n=1):cut agg off n ab≠none:=by
 unfold cut;cases agg with
 |true=>
  have:Nat.ble (off+n) ab.length=true:=Nat.ble_eq_true_of_le h;simp[this]
 |false=>
  have:=h1 rfl;simp only[cond_false];cases Y:ab.drop off with
  |nil=>have:=congrArg List.length Y;simp at this;omega
  |cons l r=>simp
theorem ajV(S:ai O U X B st tm w){C:Ctx}(H:CtxOk P C){D:Oper}{T:TypeId}{x:Operand}(ay:D.op=.load T x)(Y:ce st D.dst=true)(hk:(C.tt T).known=true):
  Holds (uu (C.tt T).agg (C.tt T).size st (aS C st T x)) (cJ P O U X st tm w D):=by
 have hn:=Ho hk;have bv:=de S C T x;have fin:∀{b p:Nat} {ab:List az} {vs:List Value} {off:Nat} {v:aI},Act.eval ⟨tm,[]⟩ x=.pointer (some ⟨b,p+off,none⟩)->iL w b p vs->cy B st.sites w (ar X B st.sites) ab vs->
   cut (C.tt T).agg off (C.tt T).size ab=some v->cJ P O U X st tm w D v []:=by
  intro b p ab vs off v hx hc hl gr;obtain⟨hle,Mw⟩:=Ui gr HR hl;refine dS S Y (vv:=ul (C.tt T).agg ((vs.drop off).take (C.tt T).size)) ?_ Mw;have cY:=s9 (P:=P) (w:=w) (H.tt T) hn ⟨b,p+off,none⟩ ((vs.drop off).take (C.tt T).size) (by simp;omega) (fun j u hu=>by rw[gV];exact(hc.drop off).take _ j u hu)
  unfold execOp;simp only[ay,Instr.loadAt,Instr.sureAddr,hx,Sem.run_bind,Sem.run_pure,Result.andThen_ok,cY]
 unfold uu;split
 ·rename_i o s off bZ;rw[bZ] at bv;split
  ·rename_i cells hb;split
   ·rename_i v gr;obtain⟨b,gB,cur,_,hv,hg,_,hl⟩:=S.box (hU hb) bv;exact Holds.ok (fin (p:=0) (by rw[Nat.zero_add];exact hv) (iL.row hg) hl gr)
   ·exact .fail
  ·exact .fail
 ·rename_i cells off bZ;rw[bZ] at bv;split
  ·rename_i v gr;obtain⟨b,p,hv,_,_,cs,hl,hc,hr⟩:=bv;exact Holds.ok (fin hv hc (iw hl hr) gr)
  ·exact .fail
 ·rename_i o s u k off bZ;rw[bZ] at bv;split
  ·rename_i t xs hrow;split
   ·rename_i px;obtain⟨rfl,hle⟩:=px;refine Holds.eN fun y hy=>?_
    have ep:xs[k]? =some y:=hy;obtain⟨cs,hl,hcell⟩:=S.row hrow;have dO:∃aa,look st.sites o=some aa/\aa.b'=s:=by
     rcases kE hrow with h|h<;>exact⟨_,h,rfl⟩
    obtain⟨aa,hh,k0⟩:=dO;obtain⟨b,hv,xW⟩:=bv;obtain⟨n,c,bX⟩:=Ref.at xW hh k0;cases gr:cut (C.tt T).agg off (C.tt T).size (cM (enc t y)) with
    |none=>exact absurd gr (aio (by simpa[cM,fW] using hle) HR)
    |some v=>
     rcases hcell with⟨qF,_⟩|⟨bf,fV,ej,hcs,_⟩
     ·rw[bX] at qF;cases qF
     ·rw[bX] at ej;cases ej;have e1:cM (enc t y)=((cM (flat t xs)).drop (k*aA t)).take (aA t):=by
       rw[<-vY t xs k y ep];simp[cM,List.map_drop,List.map_take]
      rw[e1] at gr;refine fin (p:=k*aA t) hv ?_ ((hl.drop (k*aA t)).take (aA t)) gr;have:=(hcs.drop (k*aA t)).take (aA t);rwa[Nat.zero_add] at this
   ·exact .fail
  ·exact .fail
 ·exact .fail
end
section
variable {P:Program}{O:World}{U:List Nat}{X:Nat->Prop}{B:Nat->Value}{st:af}{tm:Array Value}{w:World}
theorem wo{u:Bool}{e:TypeId}{size:Nat}{v:Value}{n:Nat}{xs:List Value}{b:Nat}(h:rowAt w u e size v n xs)(hb:bq v=some b):b<w.heap.size:=by
 rcases h.2 with⟨hn,_⟩|⟨g,cap,cur,fz,hv,_,hg,_⟩
 ·rw[hn] at hb;cases hb
 ·rw[hv] at hb;cases hb;exact(Array.getElem?_eq_some_iff.1 hg).1
theorem Deep.lt{av:Nat->Prop}{ds:List aJ}{cs ns:List Value}(h:Deep w av ds cs ns):∀n,n∈ns->∀b,bq n=some b->b<w.heap.size:=by
 induction h with
 |nil=>intro n hn;cases hn
 |row u ys e ab _ h _ _ ih=>
  intro n hn b hb;rcases List.mem_cons.1 hn with rfl|hn
  ·exact wo h hb
  ·exact ih n hn b hb
 |leaf _ _ _ ih=>exact ih
theorem ai.eH(S:ai O U X B st tm w){o b:Nat}(hl:bY st.sites o)(hb:b∈bJ (B o)):b<w.heap.size:=by
 obtain⟨aa,h1,h2⟩:=hl;have:=S.sites o aa h1;cases aa with
 |box s cells=>
  obtain⟨bf,T,cur,g1,g2,_⟩:=this;rw[g1] at hb;have hb:b∈[bf]:=hb;rw[List.mem_singleton.1 hb];exact(Array.getElem?_eq_some_iff.1 g2).1
 |row s t xs=>
  obtain⟨e,cs,g1,_⟩:=this;exact wo g1 (wH g1 hb)
 |map s t es=>
  obtain⟨bf,g1,g2⟩:=this;rw[g1] at hb;have hb:b∈[bf]:=hb;rw[List.mem_singleton.1 hb];exact g2.lt
 |deep s t xs=>
  obtain⟨e,v,ns,cs,g1,_,g2,g3⟩:=this;rw[g1] at hb;rcases kb.1 hb with hb|⟨n,hn,hb⟩
  ·exact wo g2 hb
  ·exact g3.lt n hn b hb
 |da=>cases h2
 |dead=>cases h2
theorem Cx{B aD:Nat->Value}{sites bw:List (Nat×Site)}{w w':World}{av b4:Nat->Prop}(go:∀{a:aI} {v:Value},cj B sites w av a v->cj aD bw w' b4 a v){ab:List az}{vs:List Value}
  (h:cy B sites w av ab vs):cy aD bw w' b4 ab vs:=by
 obtain⟨ca,h1,h2,h3⟩:=go (a:=.av (.agg ab)) (v:=.agg vs.toArray) ⟨vs,rfl,h.1,h.2⟩;have:vs=ca:=by simpa using h1
 subst this;exact⟨h2,h3⟩
theorem kK{B aD:Nat->Value}{sites bw:List (Nat×Site)}{w w':World}{av b4:Nat->Prop}(go:∀{a:aI} {v:Value},cj B sites w av a v->cj aD bw w' b4 a v){d:aJ}{v:Value}
  (h:bm w av d v):bm w' b4 d v:=go (a:=one d) (v:=v) h
theorem Pv{sites:List (Nat×Site)}{o:Nat}{aa bF:Site}(hl:look sites o=some aa)(h:bF.live=aa.live)(M:Nat):bY (cg sites o bF) M <-> bY sites M:=by
 unfold bY;rw[cC];by_cases e:o=M
 ·subst e;simp only[if_true,hl,Option.some.injEq];constructor
  ·rintro⟨s,rfl,h2⟩;exact⟨aa,rfl,h▸h2⟩
  ·rintro⟨s,rfl,h2⟩;exact⟨bF,rfl,h▸h2⟩
 ·simp only[e,if_false]
theorem ai.write(S:ai O U X B st tm w){o b:Nat}{aa bF:Site}{cur cur':Array Value}{T:TypeId}{cH:Nat×Nat}(hl:look st.sites o=some aa)(gE:aa.live=true)(alF:bF.live=true)(hs:bF.b'=aa.b')
  (bX:b∈bJ (B o)) (hg:w.heap[b]? =some (.cells cur T cH))
  (eZ:∀{bw:List (Nat×Site)} {w':World},bw=cg st.sites o bF->w'=w.setRow b cur'->w'.heap[b]? =some (.cells cur' T cH)->
   (∀{a v},cj B st.sites w (ar X B st.sites) a v->cj B bw w' (ar X B bw) a v)->jS B bw w' (ar X B bw) o bF):
  ai O U X B {st with sites:=cg st.sites o bF} tm (w.setRow b cur'):=by
 have cE:bY st.sites o:=⟨aa,hl,gE⟩;have ni:∀M,bY (cg st.sites o bF) M <-> bY st.sites M:=Pv hl (alF.trans gE.symm);have b8:∀bf,ar X B (cg st.sites o bF) bf <-> ar X B st.sites bf:=by
  intro bf;unfold ar;simp only[ni]
 have hne:∀bf,¬ar X B st.sites bf->bf≠b:=by
  rintro bf h rfl;exact h (.inr ⟨o,cE,bX⟩)
 refine S.qA (fun M s bB=>?_) (fun bf h _=>setRow_other w b bf _ (hne bf h)) (fun bf h _=>by rw[b8];exact h) (fun go M s bB=>?_) (fun M ρ bf h1 h2=>S.dC M ρ bf ((ni M).1 h1) ((ni ρ).1 h2))
  (fun M bf h=>S.cf M bf ((ni M).1 h)) (fun M bf h hb=>by rw[setRow_size];exact S.eH ((ni M).1 h) hb) ?_ (by rw[setRow_size];exact Nat.le_refl _)
 ·rw[cC];by_cases e:o=M
  ·subst e;rw[hl] at bB;cases bB;exact⟨bF,by simp,by omega,fun _=>rfl⟩
  ·exact⟨s,by simp[e,bB],Nat.le_refl _,fun _=>rfl⟩
 ·rw[cC] at bB;by_cases e:o=M
  ·subst e;simp only[if_true,Option.some.injEq] at bB;subst bB;exact .inr (eZ rfl rfl (setRow_heap w b cur cur' T cH hg) go)
  ·simp only[e,if_false] at bB;refine .inl ⟨bB,rfl,fun uQ bf cd=>setRow_other w b bf _ ?_⟩
   rintro rfl;exact e (S.dC o M _ cE ⟨s,bB,uQ⟩ bX cd)
 ·have aO:=S.frame;refine⟨aO.os,aO.tape,aO.output,by rw[setRow_size];exact aO.size,fun bf h1 h2=>?_⟩
  rw[setRow_other w b bf _ ?_]
  ·exact aO.block bf h1 h2
  ·rintro rfl;rcases(S.cf o _ cE bX).2 with h|h
   ·exact h2 h
   ·omega
theorem F8{av:Nat->Prop}{t:aH}{xs:List (den t)}{e:TypeId}{v:Value}{cs:List Value}(h1:rowAt w t.fu e (aA t) v xs.length cs)(h2:cu w av (flat t xs) cs)(hb:∀b,bq v=some b->¬av b):bm w av (.sl t xs) v/\x7 v:=by
 rcases h1.2 with⟨hn,h0⟩|⟨g,cap,cur,fz,hv,_,hg,hnc,_,_,htk⟩
 ·have:xs=[]:=List.eq_nil_of_length_eq_zero h0;subst this;rw[hn];exact⟨.nil t,.inl rfl⟩
 ·rw[hv];refine⟨?_,.inr ⟨_,_,_,rfl⟩⟩;refine .sl t xs _ cap cs xs.length rfl hnc (fun _=>hb g (by rw[hv];rfl)) h2.1 (fun j u hu=>?_) h2.2
  rw[gV,Nat.zero_add,cell_of_row w g j cur e fz hg];rw[<-htk,List.getElem?_take] at hu;split at hu
  ·simpa using hu
  ·cases hu
theorem cu.cons{av:Nat->Prop}{d:aJ}{ds:List aJ}{v:Value}{vs:List Value}(h:bm w av d v)(k:cu w av ds vs):cu w av (d::ds) (v::vs):=by
 refine⟨by simp[k.1],fun j g1 g2=>?_⟩
 cases j with
 |zero=>exact h
 |succ j=>exact k.2 j (by simpa using g1) (by simpa using g2)
theorem Deep.asK{w':World}{av b4:Nat->Prop}{ds:List aJ}{cs ns:List Value}(h:Deep w av ds cs ns)(go:∀{d v},bm w av d v->bm w' b4 d v):
  (∀n,n∈ns->∀b,bq n=some b->¬b4 b/\w'.heap[b]? =w.heap[b]?)->cu w' b4 ds cs:=by
 induction h with
 |nil=>intro _;exact⟨rfl,fun j h=>by simp at h⟩
 |row u ys e ab _ h hr _ ih=>
  intro hk;refine .cons (F8 (td h fun b hb=>(hk _ List.mem_cons_self b hb).2) ⟨hr.1,fun j g1 g2=>go (hr.2 j g1 g2)⟩ fun b hb=>(hk _ List.mem_cons_self b hb).1).1 (ih fun n hn=>hk n (List.mem_cons_of_mem _ hn))
 |leaf _ h _ ih=>intro hk;exact .cons (go h) (ih hk)
theorem ai.freeze(S:ai O U X B st tm w){o s:Nat}{t:aH}{xs:List (den t)}(hl:look st.sites o=some (.row s t xs)\/look st.sites o=some (.deep s t xs)):
  ai O U X B {st with sites:=cg st.sites o (.da s t xs)} tm w:=by
 have cE:bY st.sites o:=by rcases hl with hl|hl<;>exact⟨_,hl,rfl⟩
 have ek:∀M,bY (cg st.sites o (.da s t xs)) M->bY st.sites M/\M≠o:=by
  rintro M ⟨aa,h1,h2⟩;rw[cC] at h1;by_cases e:o=M
  ·subst e;simp at h1;subst h1;cases h2
  ·simp only[e,if_false] at h1;exact⟨⟨aa,h1,h2⟩,fun h=>e h.symm⟩
 have b8:∀bf,ar X B (cg st.sites o (.da s t xs)) bf->ar X B st.sites bf:=by
  rintro bf (h|⟨M,h1,h2⟩)
  ·exact .inl h
  ·exact .inr ⟨M,(ek M h1).1,h2⟩
 have hno:∀b,b∈bJ (B o)->¬ar X B (cg st.sites o (.da s t xs)) b:=by
  rintro b hb (hx|⟨M,g1,g2⟩)
  ·exact(S.cf o b cE hb).1 hx
  ·obtain⟨g3,g4⟩:=ek M g1;exact g4 (S.dC M o b g3 cE g2 hb)
 refine S.qA (fun M aa bB=>?_) (fun _ _ _=>rfl) (fun bf h _ ae=>h (b8 bf ae)) (fun go M aa bB=>?_) (fun M ρ bf h1 h2=>S.dC M ρ bf (ek M h1).1 (ek ρ h2).1)
  (fun M bf h=>S.cf M bf (ek M h).1) (fun M bf h hb=>S.eH (ek M h).1 hb) S.frame (Nat.le_refl _)
 ·rw[cC];by_cases e:o=M
  ·subst e;refine⟨.da s t xs,by simp,?_,fun _=>rfl⟩
   rcases hl with hl|hl<;>rw[hl] at bB<;>cases bB<;>exact Nat.le_refl _
  ·exact⟨aa,by simp[e,bB],Nat.le_refl _,fun _=>rfl⟩
 ·rw[cC] at bB;by_cases e:o=M
  ·subst e;simp only[if_true,Option.some.injEq] at bB;subst bB;refine .inr ?_
   show bm _ _ (.sl t xs) (b0 (B o))/\x7 (b0 (B o));rcases hl with hl|hl
   ·obtain⟨b_,cs,h1,h2⟩:=S.sites o _ hl;rw[(jR h1).1];exact F8 h1 ⟨by rw[eG];exact h1.1,fun j g1 g2=>kK go (h2 j g1 g2)⟩ fun b hb=>hno b (gT hb)
   ·obtain⟨b_,v,ns,cs,h0,_,h1,h2⟩:=S.sites o _ hl;have bT:b0 (B o)=v:=by rw[h0];rfl
    rw[bT];exact F8 h1 (h2.asK (kK go) fun n hn b hb=>⟨hno b (by rw[h0];exact kb.2 (.inr ⟨n,hn,hb⟩)),rfl⟩) fun b hb=>hno b (by rw[h0];exact kb.2 (.inl hb))
  ·simp only[e,if_false] at bB;exact .inl ⟨bB,rfl,fun _ _ _=>rfl⟩
theorem Q4{aB:Type}(l:List (Nat×aB))(n:Nat)(v:aB)(h:look l n=some v):cg l n v=l:=by
 induction l with
 |nil=>simp[look] at h
 |cons p l ih=>
  obtain⟨k,u⟩:=p;simp only[look] at h;simp only[cg];cases hb:k.beq n with
  |true=>simp only[hb,cond_true,Option.some.injEq] at h;subst h;simp
  |false=>simp only[hb,cond_false] at h;simp[ih h]
def dM(sites:List (Nat×Site))(us:List (Nat×Site)):Prop:=
 ∀o aa,(o,aa)∈us->∃s t,∃xs:List (den t),aa=.da s t xs/\(look sites o=some (.row s t xs)\/look sites o=some (.da s t xs)\/look sites o=some (.deep s t xs))
theorem dM.nil{sites:List (Nat×Site)}:dM sites []:=fun _ _ h=>by simp at h
theorem dM.append{sites us vs:List (Nat×Site)}(h:dM sites us)(ae:dM sites vs):dM sites (us++vs):=by
 intro o aa hm;rcases List.mem_append.1 hm with hm|hm
 ·exact h o aa hm
 ·exact ae o aa hm
theorem dM.step{sites us:List (Nat×Site)}{o:Nat}{aa:Site}(h:dM sites ((o,aa)::us)):dM (cg sites o aa) us:=by
 obtain⟨s,t,xs,rfl,hl⟩:=h o aa (by simp)
 intro M bF hm;obtain⟨au,be,iT,rfl,gx⟩:=h M bF (by simp[hm])
 refine⟨au,be,iT,rfl,?_⟩;rw[cC];by_cases e:o=M
 ·subst e;simp only[if_true];right;left;rcases hl with hl|hl|hl<;>rcases gx with gx|gx|gx<;>rw[hl] at gx<;>cases gx<;>rfl
 ·simp only[e,if_false];exact gx
theorem ai.B5{us:List (Nat×Site)}:∀{st:af},ai O U X B st tm w->dM st.sites us->ai O U X B {st with sites:=aY st.sites us} tm w:=by
 induction us with
 |nil=>intro st S _;exact S
 |cons p us ih=>
  obtain⟨o,aa⟩:=p;intro st S h;have ae:=h.step;obtain⟨s,t,xs,rfl,hl⟩:=h o aa (by simp)
  simp only[aY];rcases hl with hl|hl|hl
  ·exact ih (S.freeze (.inl hl)) ae
  ·rw[Q4 _ _ _ hl] at ae ⊢;exact ih S ae
  ·exact ih (S.freeze (.inr hl)) ae
theorem mJ{us:List (Nat×Site)}:∀{sites:List (Nat×Site)},dM sites us->∀o,(look (aY sites us) o=look sites o)\/(∃s t,∃xs:List (den t),(look sites o=some (.row s t xs)\/look sites o=some (.da s t xs)\/look sites o=some (.deep s t xs))/\look (aY sites us) o=some (.da s t xs)):=by
 induction us with
 |nil=>intro sites _ o;exact .inl rfl
 |cons p us ih=>
  obtain⟨M,aa⟩:=p;intro sites h o;obtain⟨s,t,xs,rfl,hl⟩:=h M aa (by simp)
  simp only[aY];have hc:=cC sites M o (.da s t xs);rcases ih h.step o with h1|⟨au,be,iT,h1,h2⟩
  ·by_cases e:M=o
   ·subst e;simp only[if_true] at hc;exact .inr ⟨s,t,xs,hl,h1.trans hc⟩
   ·simp only[e,if_false] at hc;exact .inl (h1.trans hc)
  ·by_cases e:M=o
   ·subst e;simp only[if_true] at hc;rw[hc] at h1;rcases h1 with h1|h1|h1
    ·cases h1
    ·cases h1;exact .inr ⟨s,t,xs,hl,h2⟩
    ·cases h1
   ·simp only[e,if_false] at hc;rw[hc] at h1;exact .inr ⟨au,be,iT,h1,h2⟩
theorem zp{us:List (Nat×Site)}:∀{sites:List (Nat×Site)},dM sites us->∀{o s:Nat} {t:aH} {xs:List (den t)},(o,Site.da s t xs)∈us->look (aY sites us) o=some (.da s t xs):=by
 intro sites h o s t xs hm;obtain⟨iX,t0,D2,he,hl⟩:=h o _ hm;cases he;rcases mJ h o with h1|⟨au,be,iT,h1,h2⟩
 ·-- named,and ayj aw1
  induction us generalizing sites with
  |nil=>simp at hm
  |cons p us ih=>
   obtain⟨M,aa⟩:=p;simp only[aY] at h1 ⊢;rcases List.mem_cons.1 hm with hm|hm
   ·cases hm;rcases mJ h.step o with h2|⟨au,be,iT,h2,h3⟩
    ·rw[h2,cC];simp
    ·rw[cC] at h2;simp at h2;obtain⟨rfl,rfl,h2⟩:=h2;rw[h3];cases h2;rfl
   ·have hc:=cC sites M o aa;by_cases e:M=o
    ·subst e;obtain⟨s1,t1,asi,rfl,hP⟩:=h M aa (by simp)
     have:Site.da s1 t1 asi=Site.da s t xs:=by
      rcases hl with hl|hl|hl<;>rcases hP with hP|hP|hP<;>rw[hl] at hP<;>cases hP<;>rfl
     cases this;simp only[if_true] at hc;rcases mJ h.step M with h2|⟨au,be,iT,h2,h3⟩
     ·rw[h2,hc]
     ·rw[hc] at h2;rcases h2 with h2|h2|h2
      ·cases h2
      ·cases h2;exact h3
      ·cases h2
    ·simp only[e,if_false] at hc;refine ih h.step hm (by rw[hc];exact hl) ?_
     rw[h1,hc]
 ·rcases hl with hl|hl|hl<;>rcases h1 with h1|h1|h1<;>rw[hl] at h1<;>cases h1<;>exact h2
end
section
variable {P:Program}{O:World}{U:List Nat}{X:Nat->Prop}{B:Nat->Value}{st:af}{tm:Array Value}{w:World}
structure lY(O:World)(U:List Nat)(X:Nat->Prop)(B:Nat->Value)(st:af)(tm:Array Value)(w:World)(vs:List (Nat×Site)):Prop where
 old:ai O U X B st tm w
 fz:dM st.sites vs
theorem lY.new{vs:List (Nat×Site)}(aO:lY O U X B st tm w vs):ai O U X B {st with sites:=aY st.sites vs} tm w:=aO.old.B5 aO.fz
theorem lY.go{vs:List (Nat×Site)}(aO:lY O U X B st tm w vs){a:aI}{v:Value}(h:cj B st.sites w (ar X B st.sites) a v):cj B (aY st.sites vs) w (ar X B (aY st.sites vs)) a v:=by
 have ek:∀M,bY (aY st.sites vs) M->bY st.sites M:=by
  rintro M ⟨aa,h1,h2⟩;rcases mJ aO.fz M with h|⟨s,t,xs,_,h⟩
  ·exact⟨aa,h▸h1,h2⟩
  ·rw[h] at h1;cases h1;cases h2
 refine h.goes ⟨fun o aa bk=>?_,fun _ _ _=>rfl,fun b hb _ cd=>hb ?_⟩ (Nat.le_refl _) ?_
 ·rcases mJ aO.fz o with h|⟨s,t,xs,h1,h2⟩
  ·exact⟨aa,h.trans bk,Nat.le_refl _,fun _=>rfl⟩
  ·refine⟨_,h2,?_,fun _=>rfl⟩
   rw[bk] at h1;rcases h1 with h1|h1|h1<;>cases h1<;>exact Nat.le_refl _
 ·rcases cd with h|⟨M,h1,h2⟩
  ·exact .inl h
  ·exact .inr ⟨M,ek M h1,h2⟩
 ·rintro b (h|⟨M,h1,h2⟩)
  ·exact aO.old.old b h
  ·exact aO.old.eH (ek M h1) h2
theorem akb{o s:Nat}{t:aH}{xs:List (den t)}(hr:rowOf st o s=some ⟨t,xs⟩):dM st.sites (nm st o s t xs):=by
 unfold nm;split
 ·exact .nil
 ·intro M aa hm;simp only[List.mem_singleton,Prod.mk.injEq] at hm;obtain⟨rfl,rfl⟩:=hm;exact⟨s,t,xs,rfl,(kE hr).imp id .inl⟩
theorem RP{o s:Nat}{t:aH}{xs:List (den t)}(hr:rowOf st o s=some ⟨t,xs⟩):aY st.sites (nm st o s t xs)=aY st.sites [(o,.da s t xs)]:=by
 unfold nm;split
 ·rename_i iX t0 D2 h0;have h0:look st.sites o=some (.da iX t0 D2):=h0;simp only[aY];rcases kE hr with h|h
  ·rw[h0] at h;cases h
  ·exact(Q4 _ _ _ h).symm
 ·rfl
theorem agn{sites us:List (Nat×Site)}(h:dM sites us){o s:Nat}{t:aH}{xs:List (den t)}(hl:look sites o=some (.da s t xs)):look (aY sites us) o=some (.da s t xs):=by
 rcases mJ h o with h1|⟨au,be,iT,h1,h2⟩
 ·rw[h1];exact hl
 ·rw[hl] at h1;rcases h1 with h1|h1|h1
  ·cases h1
  ·cases h1;exact h2
  ·cases h1
theorem vT{o s:Nat}{t:aH}{xs:List (den t)}(h:mW st o s=some ⟨t,xs⟩):look st.sites o=some (.deep s t xs):=by
 unfold mW at h;split at h
 ·rename_i au be iT hs;cases hb:au.beq s with
  |false=>rw[hb] at h;cases h
  |true=>
   rw[hb] at h;have:=Nat.eq_of_beq_eq_true hb;subst this;cases h;exact hs
 ·cases h
theorem Uh{l:az}{d:aJ}{us:List (Nat×Site)}(h:kx st l=some (d,us)):dM st.sites us:=by
 unfold kx at h;split at h
 ·cases h;exact .nil
 ·cases h;exact .nil
 ·rename_i o s;split at h
  ·rename_i t xs hr;cases h;exact akb hr
  ·split at h
   ·rename_i t xs hr;cases h;intro M aa hm;simp only[List.mem_singleton,Prod.mk.injEq] at hm;obtain⟨rfl,rfl⟩:=hm;exact⟨s,t,xs,rfl,.inr (.inr (vT hr))⟩
   ·cases h
 ·cases h;exact .nil
 ·cases h
theorem Ug{l:az}{d:aJ}{us vs:List (Nat×Site)}{v:Value}(h:kx st l=some (d,us))(hv:dF B st.sites w (ar X B st.sites) l v)
  (aO:lY O U X B st tm w vs) (ek:∀p,p∈us->p∈vs):bm w (ar X B (aY st.sites vs)) d v:=by
 unfold kx at h;split at h
 ·cases h;exact kK aO.go hv
 ·cases h;rw[show v=_ from hv];exact .nil _
 ·rename_i o s;split at h
  ·rename_i t xs hr;cases h;have hl:look (aY st.sites vs) o=some (.da s t xs):=by
    unfold nm at ek;split at ek
    ·rename_i iX t0 D2 h0;have h0:look st.sites o=some (.da iX t0 D2):=h0;rcases kE hr with h|h
     ·rw[h0] at h;cases h
     ·exact agn aO.fz h
    ·exact zp aO.fz (ek _ (List.mem_singleton.2 rfl))
   have:=aO.new.sites o _ hl;have j4:v=b0 (B o):=by
    rcases kE hr with h1|h1<;>exact Ref.at hv.2 h1 rfl
   rw[j4];exact this.1
  ·split at h
   ·rename_i t xs hr;cases h;have:=aO.new.sites o _ (zp aO.fz (ek _ (List.mem_singleton.2 rfl)));have j4:v=b0 (B o):=Ref.at hv.2 (vT hr) rfl;rw[j4];exact this.1
   ·cases h
 ·rename_i g;cases h;obtain⟨ab,rfl,hl,_⟩:=hv;have:ab=[]:=List.eq_nil_of_length_eq_zero (by simpa using hl)
  subst this;exact .fn g [] [] (fun _=>[]) _ rfl rfl (fun b hb=>by simp at hb) (fun b hb=>by simp at hb) (fun i hi=>by simp at hi) (fun i hi=>by simp at hi) (fun i hi=>by simp at hi)
 ·cases h
theorem Jn:∀{ab:List az} {ds:List aJ} {us:List (Nat×Site)},iB st ab=some (ds,us)->dM st.sites us:=by
 intro ab;induction ab with
 |nil=>intro ds us h;simp only[iB] at h;cases h;exact .nil
 |cons l ab ih=>
  intro ds us h;simp only[iB] at h;split at h
  ·rename_i d u1 hq u2 h1 h2;cases h;exact(Uh h1).append (ih h2)
  ·cases h
theorem B9:∀{ab:List az} {ds:List aJ} {us vs:List (Nat×Site)} {cs:List Value},iB st ab=some (ds,us)->cy B st.sites w (ar X B st.sites) ab cs->
  lY O U X B st tm w vs->(∀p,p∈us->p∈vs)->cu w (ar X B (aY st.sites vs)) ds cs:=by
 intro ab;induction ab with
 |nil=>intro ds us vs cs h hl _ _;simp only[iB] at h;cases h;rw[hl.l8];exact⟨rfl,fun j h=>by simp at h⟩
 |cons l ab ih=>
  intro ds us vs cs h hl aO ek;simp only[iB] at h;split at h
  ·rename_i d u1 hq u2 h1 h2;cases h;obtain⟨c,ky,rfl,hc,hcs⟩:=hl.inv;have r1:=Ug h1 hc aO (fun p hp=>ek p (List.mem_append.2 (.inl hp)))
   obtain⟨r2,jJ⟩:=ih h2 hcs aO (fun p hp=>ek p (List.mem_append.2 (.inr hp)))
   refine⟨by simp[r2],fun j g1 g2=>?_⟩
   cases j with
   |zero=>exact r1
   |succ j=>exact jJ j (by simpa using g1) (by simpa using g2)
  ·cases h
theorem mu.run{P:Program}{u:Bool}(g D:Nat)(t:TypeId)(fz:Nat×Nat):∀(vs:List Value) (i:Nat) (cur:Array Value) (w:World),w.heap[g]? =some (.cells cur t fz)->mu u t cur fz->D+i+vs.length<=cur.size->(∀v∈vs,v.oneCell'=true)->
  (storeCells ⟨g,D,none⟩ vs i).run P w=.ok () (w.setRow g (cur.toList.take (D+i)++vs++cur.toList.drop (D+i+vs.length)).toArray)
 |[],i,cur,w,hg,_,_,_=>by
  simp only[storeCells,List.append_nil,List.length_nil,Nat.add_zero,List.take_append_drop,Array.toArray_toList];rw[setRow_self w g cur t fz hg];rfl
 |v::rest,i,cur,w,hg,hz,hl,h1=>by
  have hi:D+i<cur.size:=by simp at hl;omega
  have apO:(⟨g,D,none⟩:Addr).add i=⟨g,D+i,none⟩:=by unfold Addr.add;split<;>simp_all
  have hcell:w.cell? ⟨g,D+i,none⟩=some cur[D+i]:=by simp[World.cell?,hg,hi]
  have apF:w.frozen? ⟨g,D+i,none⟩=false:=by
   rcases hz.2 with rfl|⟨_,hz⟩
   ·simp[World.frozen?,hg]
   ·simp only[World.frozen?,hg];have:¬fz.1<=D+i:=by omega
    simp[this]
  have dO:(store ((⟨g,D,none⟩:Addr).add i) v).run P w=.ok () (w.setRow g (cur.setIfInBounds (D+i) v)):=by
   rw[apO,run_store P w _ v _ (h1 v (by simp)),hcell]
   simp[apF,setCell_eq_setRow w g (D+i) cur t fz v hg]
  have ih:=mu.run (P:=P) (u:=u) g D t fz rest (i+1) (cur.setIfInBounds (D+i) v) (w.setRow g (cur.setIfInBounds (D+i) v)) (setRow_heap w g cur _ t _ hg)
   ⟨hz.1,hz.2.imp id fun h=>⟨h.1,by simpa using h.2⟩⟩ (by simp at hl ⊢;omega) (fun x hx=>h1 x (by simp[hx]))
  simp only[storeCells,Sem.run_bind,dO,Result.andThen_ok,ih,setRow_setRow];congr 3
  have e:=list_seg_step cur.toList (D+i) v rest (by simp at hl ⊢;omega)
  simpa[Array.toList_setIfInBounds,Nat.add_assoc] using e
theorem N6{u:Bool}{fz:Nat×Nat}{T:TypeId}{ti:cp}(h:ti.ok P T)(hn:ti≠.none){b off:Nat}{vv:Value}{cur:List Value}{gB:TypeId}(hg:w.heap[b]? =some (.cells cur.toArray gB fz))(hz:mu u gB cur.toArray fz)
  (hsz:vv.cells.toList.length=ti.size) (hle:off+vv.cells.toList.length<=cur.length) (h1:∀u∈vv.cells.toList,u.oneCell'=true):
  (storeVar T ⟨b,off,none⟩ vv).run P w=.ok () (w.setRow b (bA cur off vv.cells.toList).toArray):=by
 have hs:vv.cells.size=ti.size:=by simpa using hsz
 have:=mu.run (P:=P) b off gB fz vv.cells.toList 0 cur.toArray w hg hz (by simpa using hle) h1
 simp only[storeVar,Sem.run_bind,cp.Rz h hn,Result.andThen_ok,hs,ne_eq,not_true_eq_false,if_false];rw[this];simp[bA]
variable {D:Oper}
theorem ta{aD:Nat->Value}{w':World}{us:List (Nat×Site)}(S:ai O U X aD {st with sites:=aY st.sites us} tm w')(Y:ce st D.dst=true)
  (h:(execOp (Act.eval ⟨tm,[]⟩) D).run P w=.ok .skip w'):cJ P O U X st tm w D (bP (.cL undef)) us:=
 fun _ _ bC=>akK h (bC _ _ _ (ai.cm S Y rfl))
theorem jN{aD:Nat->Value}{w':World}{us:List (Nat×Site)}{v:aI}{vv:Value}(S:ai O U X aD {st with sites:=aY st.sites us} tm w')(Y:ce st D.dst=true)
  (h:(execOp (Act.eval ⟨tm,[]⟩) D).run P w=.ok (.value vv) w') (hv:cj aD (aY st.sites us) w' (ar X aD (aY st.sites us)) v vv):cJ P O U X st tm w D v us:=
 fun _ _ bC=>nW h (bC _ _ _ (ai.cm S Y hv))
theorem nO{aB:Type}(a:List aB)(off:Nat)(b:List aB)(h:off+b.length<=a.length):(bA a off b).length=a.length:=by
 unfold bA;simp only[List.length_append,List.length_take,List.length_drop];omega
theorem Fq{aB:Type}(a:List aB)(off n:Nat)(b:List aB)(h:off+b.length<=n)(hn:n<=a.length):(bA a off b).take n=bA (a.take n) off b:=by
 unfold bA;apply List.ext_getElem?;intro j;simp only[List.getElem?_take,List.getElem?_append,List.length_append,List.length_take,List.getElem?_drop];have m1:min off a.length=off:=by omega
 have m2:min off (min n a.length)=off:=by omega
 simp only[m1,m2];by_cases c1:j<off
 ·have c2:j<n:=by omega
  have c3:j<off+b.length:=by omega
  simp[c1,c2,c3]
 ·by_cases c3:j<off+b.length
  ·have c2:j<n:=by omega
   simp[c1,c2,c3]
  ·have e:off+b.length+(j-(off+b.length))=j:=by omega
   simp[c1,c3,e]
theorem adO{cells ab:List az}{T:TypeId}{cur vs:List Value}{b off:Nat}(h:oc cells T cur b)(hl:vs.length=ab.length)(hns:hH ab=true):oc (bA cells off ab) T (bA cur off vs) b:=by
 intro bT;unfold bA at bT ⊢;cases off with
 |zero=>
  cases ab with
  |nil=>
   cases vs with
   |nil=>simpa using h (by simpa using bT)
   |cons=>cases hl
  |cons l ab=>
   simp only[List.take_zero,List.nil_append,List.cons_append,List.head?_cons,Option.some.injEq] at bT;subst bT;cases hns
 |succ n=>
  cases cells with
  |nil=>
   cases ab with
   |nil=>simp at bT
   |cons l ab=>
    simp only[List.take_nil,List.nil_append,List.cons_append,List.head?_cons,Option.some.injEq] at bT;subst bT;cases hns
  |cons c cells=>
   simp only[List.take_succ_cons,List.cons_append,List.head?_cons,Option.some.injEq] at bT;subst bT;have:=h rfl;cases cur with
   |nil=>simp at this
   |cons v cur=>simpa using this
theorem ai.ag3(S:ai O U X B st tm w){o s off:Nat}{cells ab:List az}{v:Value}{vs:List Value}(hb:look st.sites o=some (.box s cells))(hv:dF B st.sites w (ar X B st.sites) (.ptr o s off) v)
  (hl:cy B st.sites w (ar X B st.sites) ab vs) (hle:off+ab.length<=cells.length) (h1:∀u∈vs,u.oneCell'=true) (hns:hH ab=true):
  ∃b T cur,v=.pointer (some ⟨b,off,none⟩)/\w.heap[b]? =some (.cells (List.toArray cur) T (0,0))/\off+vs.length<=cur.length/\
   ai O U X B {st with sites:=cg st.sites o (.box s (bA cells off ab))} tm (w.setRow b (bA cur off vs).toArray):=by
 obtain⟨b,T,cur,bX,pw,hg,iR,kt⟩:=S.box hb hv;have jV:off+vs.length<=cur.length:=by rw[hl.1,kt.1];exact hle
 refine⟨b,T,cur,pw,hg,jV,?_⟩;have hh:oc cells T cur b:=by
  obtain⟨b2,dV,XF,aw,an,_,_,bo,_⟩:=S.sites o _ hb;rw[bX] at aw;cases aw;rw[hg] at an;cases an;exact bo
 refine S.write hb rfl rfl rfl (gT (by rw[bX];rfl)) hg (fun hs hw hg' go=>?_)
 have Xr:=Cx go (kt.bA off hl);refine⟨b,T,_,bX,hg',Xr.1,fun u hu=>?_,adO hh hl.1 hns,Xr.2⟩
 unfold bA at hu;simp only[List.mem_append] at hu;rcases hu with(hu|hu)|hu
 ·exact iR u (List.mem_of_mem_take hu)
 ·exact h1 u hu
 ·exact iR u (List.mem_of_mem_drop hu)
theorem jP{B:Nat->Value}{sites:List (Nat×Site)}{w:World}{av:Nat->Prop}{ds:List aJ}{vs:List Value}(h:cy B sites w av (cM ds) vs):cu w av ds vs:=
 ⟨by simpa[cM] using h.1,fun j g1 g2=>by
  have:=h.2 j (by simpa[cM] using g1) g2
  simp only[cM,List.getElem_map] at this;exact this⟩
theorem acb{w:World}{av:Nat->Prop}{t:aH}{xs:List (den t)}{k:Nat}{db:den t}{cs ns:List Value}(hk:k<xs.length)(h:cu w av (flat t xs) cs)(ae:cu w av (enc t db) ns):
  cu w av (flat t (xs.set k db)) (bA cs (k*aA t) ns):=by
 have e:flat t (xs.set k db)=bA (flat t xs) (k*aA t) (enc t db):=by
  rw[aig,if_pos hk];unfold bA;rw[fW,Nat.add_mul,Nat.one_mul]
 rw[e];have a:=iw (B:=fun _=>undef) (sites:=[]) h.1 h.2
 have b:=iw (B:=fun _=>undef) (sites:=[]) ae.1 ae.2
 have c:=a.bA (k*aA t) b;have e2:bA (cM (flat t xs)) (k*aA t) (cM (enc t db))=cM (bA (flat t xs) (k*aA t) (enc t db)):=by
  simp[bA,cM,List.map_append,List.map_take,List.map_drop]
 rw[e2] at c;exact jP c
theorem ai.ag2(S:ai O U X B st tm w){o s k off:Nat}{t:aH}{xs:List (den t)}{x db:den t}{v:Value}{ds:List aJ}{vs:List Value}(hb:look st.sites o=some (.row s t xs))
  (hv:dF B st.sites w (ar X B st.sites) (.eR o s t k off) v) (hx:xs[k]? =some x) (ly:enc t db=bA (enc t x) off ds)
  (hl:cu w (ar X B st.sites) ds vs) (hle:off+ds.length<=aA t) (h1:∀u∈vs,u.oneCell'=true):
  ∃b T cur fz,v=.pointer (some ⟨b,k*aA t+off,none⟩)/\w.heap[b]? =some (.cells (List.toArray cur) T fz)/\mu t.fu T cur.toArray fz/\k*aA t+off+vs.length<=cur.length/\
   ai O U X B {st with sites:=cg st.sites o (.row s t (xs.set k db))} tm (w.setRow b (bA cur (k*aA t+off) vs).toArray):=by
 obtain⟨b,pw,kZ⟩:=hv;obtain⟨n,c,bX⟩:=Ref.at kZ hb rfl;obtain⟨e,cs,kT,dt⟩:=S.sites o _ hb;rw[(jR kT).1] at bX;have hk:k<xs.length:=by
  rcases Nat.lt_or_ge k xs.length with h|h
  ·exact h
  ·rw[List.getElem?_eq_none h] at hx;cases hx
 obtain⟨sB,h⟩:=kT;rcases h with⟨hn,_⟩|⟨g,cap,cur,fz,hQ,nC,hg,hnc,hcm,hcs,htk⟩
 ·rw[bX] at hn;cases hn
 ·rw[bX] at hQ;cases hQ;have nB:(k+1)*aA t<=xs.length*aA t:=Nat.mul_le_mul_right _ hk;have hk2:xs.length*aA t<=c*aA t:=Nat.mul_le_mul_right _ hnc;rw[Nat.add_mul,Nat.one_mul] at nB;have lA:vs.length=ds.length:=hl.1;have iR:cur.toList.length=c*aA t:=by simpa using hcs
  have jV:k*aA t+off+vs.length<=cur.toList.length:=by omega
  refine⟨b,e,cur.toList,fz,pw,by simpa using hg,by simpa using nC,jV,?_⟩
  refine S.write hb rfl rfl rfl (gT (by rw[bX];rfl)) hg (fun hs hw hg' go=>?_)
  have axD:cs.length=xs.length*aA t:=sB;refine⟨e,bA cs (k*aA t+off) vs,⟨?_,.inr ⟨b,c,_,fz,?_,?_,hg',?_,hcm,?_,?_⟩⟩,?_⟩
  ·rw[nO _ _ _ (by omega),List.length_set];exact sB
  ·rw[bX,List.length_set]
  ·refine⟨nC.1,?_⟩;rcases nC.2 with h|⟨h,ae⟩
   ·exact .inl h
   ·refine .inr ⟨h,?_⟩;rw[List.size_toArray,nO _ _ _ jV];simpa using ae
  ·rw[List.length_set];exact hnc
  ·rw[List.size_toArray,nO _ _ _ jV];exact iR
  ·rw[<-htk,List.length_set,List.toList_toArray];exact Fq _ _ _ _ (by omega) (by rw[iR];omega)
  ·have r0:cu w (ar X B st.sites) (flat t xs) cs:=⟨by rw[eG];exact sB,dt⟩
   have hh:=vY t xs k x hx;have r1:cu w (ar X B st.sites) (enc t x) ((cs.drop (k*aA t)).take (aA t)):=by
    have a:=iw (B:=fun _=>undef) (sites:=[]) r0.1 r0.2
    have bf:=(a.drop (k*aA t)).take (aA t);have e2:((cM (flat t xs)).drop (k*aA t)).take (aA t)=cM (enc t x):=by
     rw[<-hh];simp[cM,List.map_drop,List.map_take]
    rw[e2] at bf;exact jP bf
   have r2:cu w (ar X B st.sites) (enc t db) (bA ((cs.drop (k*aA t)).take (aA t)) off vs):=by
    rw[ly];have a:=iw (B:=fun _=>undef) (sites:=[]) r1.1 r1.2
    have bf:=iw (B:=fun _=>undef) (sites:=[]) hl.1 hl.2
    have fV:=a.bA off bf;have e2:bA (cM (enc t x)) off (cM ds)=cM (bA (enc t x) off ds):=by
     simp[bA,cM,List.map_append,List.map_take,List.map_drop]
    rw[e2] at fV;exact jP fV
   have jJ:=acb hk r0 r2;have bp:bA cs (k*aA t) (bA ((cs.drop (k*aA t)).take (aA t)) off vs)=bA cs (k*aA t+off) vs:=by
    unfold bA;apply List.ext_getElem?;intro j;simp only[List.getElem?_append,List.length_append,List.length_take,List.length_drop,List.getElem?_take,List.getElem?_drop];have m1:min (k*aA t) cs.length=k*aA t:=by omega
    have m2:min (k*aA t+off) cs.length=k*aA t+off:=by omega
    have m3:min (aA t) (cs.length-k*aA t)=aA t:=by omega
    have m4:min off (aA t)=off:=by omega
    simp only[m1,m2,m3,m4];by_cases c1:j<k*aA t
    ·have c2:j<k*aA t+off:=by omega
     have c3:j<k*aA t+off+vs.length:=by omega
     have dh:j<k*aA t+(off+vs.length+(aA t-(off+vs.length))):=by omega
     simp[c1,c2,c3,dh]
    ·by_cases c2:j<k*aA t+off
     ·have d1:j-k*aA t<off:=by omega
      have d2:j-k*aA t<off+vs.length:=by omega
      have d3:j-k*aA t<aA t:=by omega
      have c3:j<k*aA t+off+vs.length:=by omega
      have dh:j<k*aA t+(off+vs.length+(aA t-(off+vs.length))):=by omega
      have hD:k*aA t+(j-k*aA t)=j:=by omega
      simp[c1,c2,c3,dh,d1,d2,d3,hD]
     ·by_cases c3:j<k*aA t+off+vs.length
      ·have d1:¬j-k*aA t<off:=by omega
       have d2:j-k*aA t<off+vs.length:=by omega
       have dh:j<k*aA t+(off+vs.length+(aA t-(off+vs.length))):=by omega
       have hD:j-k*aA t-off=j-(k*aA t+off):=by omega
       simp[c1,c2,c3,dh,d1,d2,hD]
      ·by_cases dh:j<k*aA t+(off+vs.length+(aA t-(off+vs.length)))
       ·have d2:¬j-k*aA t<off+vs.length:=by omega
        have d1:¬j-k*aA t<off:=by omega
        have d5:off+vs.length+(j-k*aA t-(off+vs.length))<aA t:=by omega
        have hD:k*aA t+(off+vs.length+(j-k*aA t-(off+vs.length)))=k*aA t+off+vs.length+(j-(k*aA t+off+vs.length)):=by omega
        simp[c1,c2,c3,dh,d1,d2,d5,hD]
       ·have hD:k*aA t+(off+vs.length+(aA t-(off+vs.length)))+(j-(k*aA t+(off+vs.length+(aA t-(off+vs.length)))))=k*aA t+off+vs.length+(j-(k*aA t+off+vs.length)):=by omega
        simp[c1,c2,c3,dh,hD]
   rw[bp] at jJ;exact fun j g1 g2=>kK go (jJ.2 j g1 g2)
end
section
variable {P:Program}{O:World}{U:List Nat}{X:Nat->Prop}{B:Nat->Value}{st:af}{tm:Array Value}{w:World}
theorem kD{o:Nat}{aa:Site}(h:look st.sites o=some aa):aa.b'<aZ st o:=by
 unfold aZ af.aa;rw[h];exact Nat.lt_succ_self _
theorem ai.make(S:ai O U X B st tm w){o:Nat}{bF:Site}{nv:Value}{w':World}
  (hw:∀b,b<w.heap.size->w'.heap[b]? =w.heap[b]?) (hos:w'.os=w.os) (Km:w'.tape=w.tape) (xR:w'.output=w.output) (mh:w.heap.size<=w'.heap.size)
  (n3:∀aa,look st.sites o=some aa->aa.b'<bF.b') (hN:∀b,b∈bJ nv->w.heap.size<=b/\b<w'.heap.size)
  (eZ:∀{bw:List (Nat×Site)} {aD:Nat->Value},bw=cg st.sites o bF->aD o=nv->(∀{a v},cj B st.sites w (ar X B st.sites) a v->cj aD bw w' (ar X aD bw) a v)->
   (∀b,w.heap.size<=b->b∉bJ nv->¬ar X aD bw b)->(bF.live=false->∀b,b∈bJ nv->¬ar X aD bw b)->jS aD bw w' (ar X aD bw) o bF):
  ai O U X (fun M=>if M=o then nv else B M) {st with sites:=cg st.sites o bF} tm w':=by
 have cE:∀M,bY (cg st.sites o bF) M->(M=o/\bF.live=true)\/(M≠o/\bY st.sites M):=by
  rintro M ⟨aa,h1,h2⟩;rw[cC] at h1;by_cases e:o=M
  ·subst e;simp at h1;subst h1;exact .inl ⟨rfl,h2⟩
  ·simp only[e,if_false] at h1;exact .inr ⟨fun h=>e h.symm,aa,h1,h2⟩
 have b8:∀b,ar X (fun M=>if M=o then nv else B M) (cg st.sites o bF) b->ar X B st.sites b\/(b∈bJ nv/\bF.live=true):=by
  rintro b (h|⟨M,h1,h2⟩)
  ·exact .inl (.inl h)
  ·rcases cE M h1 with⟨rfl,h3⟩|⟨h3,aE⟩
   ·simp at h2;exact .inr ⟨h2,h3⟩
   ·simp only[h3,if_false] at h2;exact .inl (.inr ⟨M,aE,h2⟩)
 have hlt:∀b,ar X B st.sites b->b<w.heap.size:=by
  rintro b (h|⟨M,h1,h2⟩)
  ·exact S.old b h
  ·exact S.eH h1 h2
 refine S.qA (fun M aa bB=>?_) (fun b _ hb=>hw b hb) (fun b h hb ae=>?_) (fun go M aa bB=>?_) (fun M ρ b h1 h2 g1 g2=>?_) (fun M b h1 g1=>?_) (fun M b h1 g1=>?_) ?_ mh
 ·rw[cC];by_cases e:o=M
  ·subst e;exact⟨bF,by simp,Nat.le_of_lt (n3 aa bB),fun h=>by have:=n3 aa bB;omega⟩
  ·have b_:¬M=o:=fun h=>e h.symm
   exact⟨aa,by simp[e,bB],Nat.le_refl _,fun _=>by simp[b_]⟩
 ·rcases b8 b ae with ae|⟨ae,_⟩
  ·exact h ae
  ·have:=(hN b ae).1;omega
 ·rw[cC] at bB;by_cases e:o=M
  ·subst e;simp only[if_true,Option.some.injEq] at bB;subst bB;refine .inr (eZ rfl (by simp) go (fun b hb hne ae=>?_) (fun hl b hb ae=>?_))
   ·rcases b8 b ae with ae|⟨ae,_⟩
    ·have:=hlt b ae;omega
    ·exact hne ae
   ·rcases b8 b ae with ae|⟨_,ae⟩
    ·have:=hlt b ae;have:=(hN b hb).1;omega
    ·rw[hl] at ae;cases ae
  ·have b_:¬M=o:=fun h=>e h.symm
   simp only[e,if_false] at bB;exact .inl ⟨bB,by simp[b_],fun hl b hb=>hw b (S.eH ⟨aa,bB,hl⟩ hb)⟩
 ·rcases cE M h1 with⟨rfl,_⟩|⟨n1,c9⟩<;>rcases cE ρ h2 with⟨rfl,_⟩|⟨n2,fU⟩
  ·rfl
  ·simp only[if_true] at g1;simp only[n2,if_false] at g2;have:=S.eH fU g2;have:=(hN b g1).1;omega
  ·simp only[if_true] at g2;simp only[n1,if_false] at g1;have:=S.eH c9 g1;have:=(hN b g2).1;omega
  ·simp only[n1,if_false] at g1;simp only[n2,if_false] at g2;exact S.dC M ρ b c9 fU g1 g2
 ·rcases cE M h1 with⟨rfl,_⟩|⟨n1,c9⟩
  ·simp only[if_true] at g1;have hb:=(hN b g1).1;exact⟨fun hx=>by have:=S.old b hx;have:=S.frame.size;omega,.inr (Nat.le_trans S.frame.size hb)⟩
  ·simp only[n1,if_false] at g1;exact S.cf M b c9 g1
 ·rcases cE M h1 with⟨rfl,_⟩|⟨n1,c9⟩
  ·simp only[if_true] at g1;exact(hN b g1).2
  ·simp only[n1,if_false] at g1;exact Nat.lt_of_lt_of_le (S.eH c9 g1) mh
 ·have aO:=S.frame;exact⟨hos.trans aO.os,Km.trans aO.tape,xR.trans aO.output,Nat.le_trans aO.size mh,fun b h1 h2=>(hw b (Nat.lt_of_lt_of_le h1 aO.size)).trans (aO.block b h1 h2)⟩
theorem ai.append(S:ai O U X B st tm w){o dst s:Nat}{t:aH}{xs r:List (den t)}(hl:look st.sites o=some (.row s t xs)){nv:Value}{w':World}
  (hg:w.grownBy w' (B o).ownBlock) (hN:∀b,b∈bJ nv->b<w'.heap.size/\(b∈bJ (B o)\/w.heap.size<=b))
  (eZ:∀{bw:List (Nat×Site)} {aD:Nat->Value},aD dst=nv->(∀{a v},cj B st.sites w (ar X B st.sites) a v->cj aD bw w' (ar X aD bw) a v)->
   jS aD bw w' (ar X aD bw) dst (.row (aZ (st.dK o (.dead s)) dst) t r)):
  ai O U X (fun M=>if M=dst then nv else B M) {st with sites:=aY st.sites [(o,.dead s),(dst,.row (aZ (st.dK o (.dead s)) dst) t r)]} tm w':=by
 have bk:bY st.sites o:=⟨_,hl,rfl⟩;have ki:∀M,look (aY st.sites [(o,.dead s),(dst,.row (aZ (st.dK o (.dead s)) dst) t r)]) M=
   if dst=M then some (.row (aZ (st.dK o (.dead s)) dst) t r) else if o=M then some (.dead s) else look st.sites M:=by
  intro M;simp only[aY,cC]
 have n3:∀aa,look st.sites dst=some aa->aa.b'<aZ (st.dK o (.dead s)) dst:=by
  intro aa h;unfold aZ;rw[af.nP];by_cases e:o=dst
  ·subst e;rw[hl] at h;cases h;simp[Site.b']
  ·simp only[e,if_false,af.aa,h];exact Nat.lt_succ_self _
 have cE:∀M,bY (aY st.sites [(o,.dead s),(dst,.row (aZ (st.dK o (.dead s)) dst) t r)]) M->M=dst\/(M≠dst/\M≠o/\bY st.sites M):=by
  rintro M ⟨aa,h1,h2⟩;rw[ki] at h1;by_cases e:dst=M
  ·exact .inl e.symm
  ·simp only[e,if_false] at h1;by_cases e2:o=M
   ·simp only[e2,if_true,Option.some.injEq] at h1;subst h1;cases h2
   ·simp only[e2,if_false] at h1;exact .inr ⟨fun h=>e h.symm,fun h=>e2 h.symm,aa,h1,h2⟩
 have app:∀b,(B o).ownBlock=some b->b∈bJ (B o):=by
  intro b hb;refine gT ?_
  cases hv:B o<;>rw[hv] at hb<;>first|cases hb|skip
  rename_i a n c;cases a<;>first|exact hb|cases hb
 have xy:∀b,b<w.heap.size->b∉bJ (B o)->w'.heap[b]? =w.heap[b]? :=fun b hb hne=>hg.block b hb (fun e=>hne (app b e.symm))
 refine S.qA (fun M aa bB=>?_) (fun b h hb=>xy b hb (fun e=>h (.inr ⟨o,bk,e⟩))) (fun b h hb ae=>?_) (fun go M aa bB=>?_) (fun M ρ b h1 h2 g1 g2=>?_) (fun M b h1 g1=>?_) (fun M b h1 g1=>?_) ?_ hg.size
 ·rw[ki];by_cases e:dst=M
  ·subst e;refine⟨.row (aZ (st.dK o (.dead s)) dst) t r,by simp,?_,fun h=>?_⟩
   ·exact Nat.le_of_lt (n3 aa bB)
   ·have:=n3 aa bB;simp only[Site.b'] at h this;omega
  ·have b_:¬M=dst:=fun h=>e h.symm
   by_cases e2:o=M
   ·subst e2;rw[hl] at bB;cases bB;exact⟨.dead s,by simp[e],Nat.le_refl _,fun _=>by simp[b_]⟩
   ·exact⟨aa,by simp[e,e2,bB],Nat.le_refl _,fun _=>by simp[b_]⟩
 ·rcases ae with ae|⟨M,h1,h2⟩
  ·exact h (.inl ae)
  ·rcases cE M h1 with rfl|⟨n1,_,c9⟩
   ·simp only[if_true] at h2;rcases(hN b h2).2 with h3|h3
    ·exact h (.inr ⟨o,bk,h3⟩)
    ·omega
   ·simp only[n1,if_false] at h2;exact h (.inr ⟨M,c9,h2⟩)
 ·rw[ki] at bB;by_cases e:dst=M
  ·subst e;simp only[if_true,Option.some.injEq] at bB;subst bB;exact .inr (eZ (by simp) go)
  ·have b_:¬M=dst:=fun h=>e h.symm
   simp only[e,if_false] at bB;by_cases e2:o=M
   ·simp only[e2,if_true,Option.some.injEq] at bB;subst bB;exact .inr trivial
   ·simp only[e2,if_false] at bB;refine .inl ⟨bB,by simp[b_],fun gx b hb=>?_⟩
    have Z0:bY st.sites M:=⟨aa,bB,gx⟩;exact xy b (S.eH Z0 hb) (fun h=>e2 (S.dC o M b bk Z0 h hb))
 ·have key:∀M b,M≠dst->M≠o->bY st.sites M->b∈bJ (B M)->b∉bJ nv:=by
   intro M b n1 n2 c9 hb hn;rcases(hN b hn).2 with h3|h3
   ·exact n2 (S.dC M o b c9 bk hb h3)
   ·have:=S.eH c9 hb;omega
  rcases cE M h1 with rfl|⟨n1,m1,c9⟩<;>rcases cE ρ h2 with rfl|⟨n2,m2,fU⟩
  ·rfl
  ·simp only[if_true] at g1;simp only[n2,if_false] at g2;exact absurd g1 (key ρ b n2 m2 fU g2)
  ·simp only[if_true] at g2;simp only[n1,if_false] at g1;exact absurd g2 (key M b n1 m1 c9 g1)
  ·simp only[n1,if_false] at g1;simp only[n2,if_false] at g2;exact S.dC M ρ b c9 fU g1 g2
 ·rcases cE M h1 with rfl|⟨n1,_,c9⟩
  ·simp only[if_true] at g1;rcases(hN b g1).2 with h3|h3
   ·exact S.cf o b bk h3
   ·exact⟨fun hx=>by have:=S.old b hx;have:=S.frame.size;omega,.inr (Nat.le_trans S.frame.size h3)⟩
  ·simp only[n1,if_false] at g1;exact S.cf M b c9 g1
 ·rcases cE M h1 with rfl|⟨n1,_,c9⟩
  ·simp only[if_true] at g1;exact(hN b g1).1
  ·simp only[n1,if_false] at g1;exact Nat.lt_of_lt_of_le (S.eH c9 g1) hg.size
 ·have aO:=S.frame;refine⟨hg.os.trans aO.os,hg.tape.trans aO.tape,hg.output.trans aO.output,Nat.le_trans aO.size hg.size,fun b h1 h2=>?_⟩
  rw[xy b (Nat.lt_of_lt_of_le h1 aO.size) (fun e=>?_)]
  ·exact aO.block b h1 h2
  ·rcases(S.cf o b bk e).2 with h|h
   ·exact h2 h
   ·omega
end
def Src(w:World)(size:Nat)(x:Value)(m:Nat)(news:List Value):Prop:=
 news.length=m*size/\(∀u∈news,u.oneCell'=true)/\((x=.slice none 0 0/\m=0)\/(∃a c,x=.slice (some a) m c/\∀j u,news[j]? =some u->w.cell? (a.add j)=some u)\/∃s:ByteArray,x=.string s/\m=s.size/\size=1/\news=s.data.toList.map fun b=>Value.int .u8 b.toNat)
theorem Src.run{P:Program}{w w2:World}{size m:Nat}{x:Value}{news:List Value}(h:Src w size x m news)(hw:w2.heap=w.heap):(Builtin.firstCells size m x).run P w2=.ok news.toArray w2:=by
 obtain⟨h1,_,h2⟩:=h;rcases h2 with⟨rfl,rfl⟩|⟨a,c,rfl,h3⟩|⟨s,rfl,rfl,rfl,rfl⟩
 ·have:news=[]:=List.eq_nil_of_length_eq_zero (by simpa using h1)
  subst this;exact run_firstCells_none w2 size 0 0 0
 ·refine run_firstCells_some w2 size m a m c news h1 (fun j u hu=>?_)
  have:=h3 j u hu;unfold World.cell? at this ⊢;rw[hw];exact this
 ·have e:s.extract 0 s.size=s:=by simp
  show Result.ok ((s.extract 0 s.size).data.map fun b=>Value.int .u8 b.toNat) w2=_
  rw[e];congr 1
  apply Array.ext';simp
theorem Src.len{P:Program}{w w2:World}{size m:Nat}{x:Value}{news:List Value}(h:Src w size x m news):(Builtin.lenOf x).run P w2=.ok m w2:=by
 obtain⟨_,_,h2⟩:=h;rcases h2 with⟨rfl,rfl⟩|⟨a,c,rfl,_⟩|⟨s,rfl,rfl,_⟩<;>rfl
theorem vO{P:Program}{u:Bool}(w:World)(T Nu ty e:TypeId)(fa:u=true->e=mC)(i:TypeInfo)(z:Value)(size bytes:Nat)(ao:P.underlying T=some (.slice e))(j5:(∃ex,P.underlying Nu=some (.slice ex))\/P.underlying Nu=some .string)(hi:P.info? e=some i)
  (hz:i.zero=some z) (mh:i.size=size) (kv:i.bytes=bytes) (hzs:z.cells.size=size) (hsz:0<size)
  (v:Value) (n:Nat) (xs:List Value) (kT:∃b_,rowAt w u b_ size v n xs) (x:Value) (m:Nat) (news:List Value) (fi:Src w size x m news)
  (h63:n+m<=maxLen) (Ub:(n+m)*bytes<=140737488355328):
  ∃v' w',(Builtin.append_ #[T,Nu] ty #[v,x]).run P w=.ok v' w'/\(∃b_,rowAt w' u b_ size v' (n+m) (xs++news))/\w.grownBy w' v.ownBlock/\
   ∀b,bq v'=some b->b<w'.heap.size/\(bq v=some b\/w.heap.size<=b):=by
 subst mh kv;obtain⟨b_,hl0,kT⟩:=kT;have xf:n+m<=9223372036854775807:=by simp only[maxLen] at h63;omega
 have hlen:(xs++news).length=(n+m)*i.size:=by rw[List.length_append,hl0,fi.1,Nat.add_mul]
 have grown:∀(old:Nat),old<n+m->∀(row:Option Nat),
   rowAt (w.drew.alloc (.cells (xs.toArray++news.toArray++Builtin.zeroCells z.cells (grownCap w (n+m) old e-(n+m))) e)) u e i.size
    (.slice (some ⟨w.heap.size,0,none⟩) (n+m) (grownCap w (n+m) old e)) (n+m) (xs++news)/\
   w.grownBy (w.drew.alloc (.cells (xs.toArray++news.toArray++Builtin.zeroCells z.cells (grownCap w (n+m) old e-(n+m))) e)) row:=by
  intro old ay row;have hge:=grownCap_ge w (n+m) old e;have hcm:grownCap w (n+m) old e<=maxLen:=grownCap_le_maxLen w (n+m) old e h63;refine⟨⟨hlen,.inr ⟨w.heap.size,_,_,(0,0),rfl,⟨fa,.inl rfl⟩,heap_alloc_new w.drew _,hge,hcm,?_,?_⟩⟩,⟨rfl,rfl,rfl,by simp,fun k hk _=>RowKit.Below.heap_alloc w.drew _ k hk⟩⟩
  ·simp only[Array.size_append,List.size_toArray,size_zeroCells,hzs,hl0,fi.1,<-Nat.add_mul];congr 1
   omega
  ·simp only[Array.toList_append,List.append_assoc];rw[<-List.append_assoc,<-hlen];exact List.take_left
 have TT:∀{c:Nat} {D:Obj} {v:Value} b,bq (.slice (some ⟨w.heap.size,0,none⟩) (n+m) c)=some b->b<(w.drew.alloc D).heap.size/\(bq v=some b\/w.heap.size<=b):=by
  intro c D v b hb;cases hb;exact⟨by simp,.inr (Nat.le_refl _)⟩
 rcases kT with⟨rfl,rfl⟩|⟨g,cap,cur,fz,rfl,hfz,hg,hnc,hcm,hcs,mZ⟩
 ·have hx:xs=[]:=List.eq_nil_of_length_eq_zero (by simpa using hl0)
  subst hx;by_cases hm:m=0
  ·subst hm;have hn:news=[]:=List.eq_nil_of_length_eq_zero (by simpa using fi.1)
   subst hn;refine⟨.slice none 0 0,w,?_,⟨e,v7 w u e i.size⟩,⟨rfl,rfl,rfl,Nat.le_refl _,fun _ _ _=>rfl⟩,fun b hb=>by cases hb⟩
   rcases j5 with⟨ex,j5⟩|j5<;>simp[Builtin.append_,run_underlying ao,run_underlying j5,sizeOf,typeInfo,hi,fi.len,fi.run (w2:=w) rfl]
  ·have yK:=grown 0 (by omega) (Value.ownBlock (.slice none 0 0))
   refine⟨_,_,?_,⟨e,yK.1⟩,yK.2,TT⟩;have h63':¬(9223372036854775807<(m:Int)):=by omega
   have hb:=Ub;simp only[Nat.zero_add] at hb;have Lj:¬(281474976710656<Builtin.nextslicecap m 0*i.bytes):=by rw[nextslicecap_zero (by omega)];omega
   rcases j5 with⟨ex,j5⟩|j5<;>simp[Builtin.append_,run_underlying ao,run_underlying j5,sizeOf,typeInfo,zeroValue,hi,hz,fi.len,hm,h63',Lj,Question.forced,run_firstCells_none,fi.run (w2:=w.drew) rfl,newRow,grownCap]
 ·by_cases hroom:n+m<=cap
  ·have mo:n*i.size+news.length<=cur.size:=by rw[fi.1,hcs,<-Nat.add_mul];exact Nat.mul_le_mul_right _ hroom
   have dO:=mu.run (P:=P) g (n*i.size) b_ fz news 0 cur w hg hfz (by simpa using mo) fi.2.1
   simp only[Nat.add_zero] at dO;refine⟨.slice (some ⟨g,0,none⟩) (n+m) cap,w.setRow g (cur.toList.take (n*i.size)++news++cur.toList.drop (n*i.size+news.length)).toArray,?_,
    ⟨b_,hlen,.inr ⟨g,cap,_,fz,rfl,⟨hfz.1,hfz.2.imp id (fun h=>⟨h.1,?_⟩)⟩,setRow_heap w g cur _ b_ _ hg,hroom,hcm,?_,?_⟩⟩,⟨rfl,rfl,rfl,by simp,fun k _ hk=>setRow_other w g k _ (fun e=>hk (by simp[Value.ownBlock,e]))⟩,fun b hb=>?_⟩
   ·rcases j5 with⟨ex,j5⟩|j5<;>simp[Builtin.append_,run_underlying ao,run_underlying j5,sizeOf,typeInfo,hi,fi.len,hroom,fi.run (w2:=w) rfl,Addr.add_lit,dO]
   ·have:=h.2;simp only[List.size_toArray,List.length_append,List.length_take,List.length_drop,Array.length_toList];omega
   ·simp only[List.size_toArray,List.length_append,List.length_take,List.length_drop,Array.length_toList];omega
   ·rw[mZ,<-hlen];exact List.take_left
   ·cases hb;exact⟨by rw[setRow_size];exact(Array.getElem?_eq_some_iff.1 hg).1,.inl rfl⟩
  ·have yK:=grown cap (by omega) (Value.ownBlock (.slice (some ⟨g,0,none⟩) n cap))
   refine⟨_,_,?_,⟨e,yK.1⟩,yK.2,TT⟩;have holds:∀j u,xs[j]? =some u->w.drew.cell? ((⟨g,0,none⟩:Addr).add j)=some u:=by
    intro j u hu;rw[gV,Nat.zero_add,World.cell?_drew,cell_of_row w g j cur b_ fz hg];rw[<-mZ,List.getElem?_take] at hu;split at hu
    ·simpa using hu
    ·cases hu
   have h63':¬(9223372036854775807<((n:Int)+(m:Int))):=by omega
   have mo:=growslice_fits (need:=n+m) (old:=cap) (bytes:=i.bytes) (by omega) Ub
   have Lj:¬(281474976710656<Builtin.nextslicecap (n+m) cap*i.bytes):=by omega
   have Ex:=run_firstCells_some (P:=P) w.drew i.size n ⟨g,0,none⟩ n cap xs hl0 holds;rcases j5 with⟨ex,j5⟩|j5<;>simp[Builtin.append_,run_underlying ao,run_underlying j5,sizeOf,typeInfo,zeroValue,hi,hz,fi.len,hroom,h63',Lj,Question.forced,fi.run (w2:=w.drew) rfl,Ex,newRow,grownCap]
   all_goals
    congr 2
    apply Array.ext';simp[List.append_assoc]
section
variable {P:Program}{O:World}{U:List Nat}{X:Nat->Prop}{B:Nat->Value}{st:af}{tm:Array Value}{w:World}{D:Oper}
theorem ag4(S:ai O U X B st tm w){x:aI}{v:Value}{t:aH}{ys:List (den t)}(hx:cj B st.sites w (ar X B st.sites) x v)(h:uj st x=some (.sl t ys)):
  ∃news,Src w (aA t) v ys.length news/\cu w (ar X B st.sites) (flat t ys) news:=by
 have one:∀{news:List Value},cy B st.sites w (ar X B st.sites) (cM (flat t ys)) news->(∀u∈news,u.oneCell'=true):=by
  intro news h;refine h.jt ?_
  unfold cM;generalize flat t ys=l;induction l with
  |nil=>rfl
  |cons d l ih=>simpa[hH,az.storable] using ih
 unfold uj at h;split at h
 ·rename_i be iT;cases h;have hx:bm w (ar X B st.sites) (.sl t ys) v:=hx;cases hx with
  |nil t=>exact⟨[],⟨by simp,fun u hu=>by simp at hu,.inl ⟨rfl,rfl⟩⟩,rfl,fun j h=>by simp[flat] at h⟩
  |sl t xs a cap cs n hn hcap hb hl hc hr=>
   subst hn;have kt:=iw (B:=B) (sites:=st.sites) hl hr;exact⟨cs,⟨by rw[hl,eG],one kt,.inr (.inl ⟨a,cap,rfl,hc⟩)⟩,hl,hr⟩
 ·cases h
 ·rename_i be;cases h;rw[show v=_ from hx]
  exact⟨[],⟨by simp,fun u hu=>by simp at hu,.inl ⟨rfl,rfl⟩⟩,rfl,fun j h=>by simp[flat] at h⟩
 ·rename_i o s;split at h
  ·rename_i be iT hr;cases h;obtain⟨cs,hl,hc⟩:=S.row hr;have hv:v=b0 (B o):=by
    rcases kE hr with h1|h1<;>exact Ref.at hx.2 h1 rfl
   have cV:=jP hl;refine⟨cs,⟨by rw[cV.1,eG],one hl,?_⟩,cV⟩
   rw[hv];rcases hc with⟨h1,h2⟩|⟨b,c,h1,h2,_⟩
   ·subst h2;exact .inl ⟨h1,rfl⟩
   ·exact .inr (.inl ⟨⟨b,0,none⟩,c,h1,fun j u hu=>by rw[gV];exact h2 j u hu⟩)
  ·cases h
 ·cases h
theorem PE(S:ai O U X B st tm w){C:Ctx}(H:CtxOk P C){T dl:TypeId}{s x:Operand}{e:TypeId}{t:aH}{bytes:Nat}{dst:Nat}(a_:C.tt T=.slice e t bytes)(xx:(∃ex,P.underlying dl=some (.slice ex))\/P.underlying dl=some .string)
  (ay:D.op=.call {callee:=.builtin .append,args:=#[s,x],argTypes:=#[T,dl]}) (dy:D.dst=some dst) (Y:ce st D.dst=true) {ys:List (den t)} {news:List Value} (fi:Src w (aA t) (Act.eval ⟨tm,[]⟩ x) ys.length news)
  (dt:cu w (ar X B st.sites) (flat t ys) news):Holds (rJ bytes t dst st (aS C st T s) ys) (cJ P O U X st tm w D):=by
 have bL:=H.tt T;rw[a_] at bL;obtain⟨⟨eL,_⟩,z,hinfo,hzs,fa⟩:=bL;obtain⟨i,hi,qS⟩:∃i,P.info? e=some i/\(i.size,i.bytes,i.zero)=(aA t,bytes,some z):=by
  cases al:P.info? e with
  |none=>simp[al] at hinfo
  |some i=>exact⟨i,rfl,by simpa[al] using hinfo⟩
 simp only[Prod.mk.injEq] at qS;obtain⟨qS,yJ,vq⟩:=qS;have pj:=de S C T s;have runs:∀{v':Value} {w':World},(Builtin.append_ #[T,dl] D.type #[Act.eval ⟨tm,[]⟩ s,Act.eval ⟨tm,[]⟩ x]).run P w=.ok v' w'->
   (execOp (Act.eval ⟨tm,[]⟩) D).run P w=.ok (.value v') w':=by
  intro v' w' h;unfold execOp;simp only[ay,resolve,invoke,builtin,Sem.run_bind,Sem.run_pure,Result.andThen_ok,List.map_toArray,List.map_cons,List.map_nil,h]
 have one:∀{u:Bool} {b_:TypeId} {v':Value} {n m:Nat} {l:List Value} {w':World},rowAt w' u b_ n v' m l->v'.oneCell'=true:=by
  intro u b_ v' n m l w' h;rcases h.2 with⟨rfl,_⟩|⟨g,cap,cur,fz,rfl,_⟩<;>rfl
 unfold rJ;split
 ·-- a nil slice
  rename_i t2 bZ;rw[bZ] at pj;have qF:Act.eval ⟨tm,[]⟩ s=.slice none 0 0:=pj;refine Holds.fN fun r hr=>?_
  have cV:cw bytes [] ys=some r:=hr;unfold cw at cV;split at cV
  ·rename_i hb;cases cV;simp only[List.length_nil,Nat.zero_add,room] at hb;obtain⟨v',w',h1,⟨b_,h2⟩,h3,aE⟩:=vO (P:=P) (u:=t.fu) w T dl D.type e fa i z (aA t) bytes eL xx hi vq qS yJ hzs (kd _) (.slice none 0 0) 0 [] ⟨e,v7 w _ e _⟩ _ _ news fi
    (by rw[Nat.zero_add];exact hb.2) (by rw[Nat.zero_add];exact hb.1)
   rw[Nat.zero_add,List.nil_append] at h2;have b7:=S.make (o:=dst) (bF:=.row (aZ st dst) t ([]++ys)) (nv:=v') (w':=w') (fun b hb=>h3.block b hb (by simp[Value.ownBlock])) h3.os h3.tape h3.output h3.size
    (fun aa hs=>kD hs) (fun b hb=>by
     obtain⟨g1,g2⟩:=aE b (wH h2 hb);rcases g2 with g2|g2
     ·cases g2
     ·exact⟨g2,g1⟩) (fun hs bX go _ _=>by
     refine⟨b_,news,by rw[bX];simpa using h2,?_⟩
     intro j g1 g2;have auq:j<(flat t ys).length:=by simpa using g1
     simpa using kK go (dt.2 j auq g2))
   refine jN (us:=[(dst,.row (aZ st dst) t ([]++ys))]) b7 Y (runs (by rw[qF];exact h1)) ?_
   refine⟨one h2,Ref.mk (aa:=.row (aZ st dst) t ([]++ys)) ?_ rfl (by simp[(jR h2).1])⟩
   simp only[aY,cC];simp
  ·cases cV
 ·-- a row of uo own
  rename_i o s2 bZ;rw[bZ] at pj;split
  ·rename_i im t2 xs gh;have o9:look st.sites o=some (.row im t2 xs):=gh;cases EB:im.beq s2 with
   |false=>simp only[cond_false];exact .fail
   |true=>
    have k0:=Nat.eq_of_beq_eq_true EB;subst k0;simp only[cond_true];split
    ·rename_i iF;subst iF;refine Holds.fN fun r hr=>?_
     have cV:cw bytes xs ys=some r:=hr;unfold cw at cV;split at cV
     ·rename_i hb;cases cV;simp only[room] at hb;have hv:Act.eval ⟨tm,[]⟩ s=b0 (B o):=Ref.at pj.2 o9 rfl;obtain⟨fc,cs,kT,hcs⟩:=S.sites o _ o9;rw[(jR kT).1] at hv;obtain⟨v',w',h1,⟨b_,h2⟩,h3,aE⟩:=vO (P:=P) w T dl D.type e fa i z (aA t2) bytes eL xx hi vq qS yJ hzs (kd _) (B o) xs.length cs ⟨fc,kT⟩ _ _ news fi hb.2 hb.1;have b7:=S.append (dst:=dst) (r:=xs++ys) o9 (nv:=v') (w':=w') h3 (fun b hb=>by
       obtain⟨aw,an⟩:=aE b (wH h2 hb);exact⟨aw,an.imp gT id⟩) (fun bX go=>by
       refine⟨b_,cs++news,by rw[bX,List.length_append];exact h2,?_⟩
       have va:cu w (ar X B st.sites) (flat t2 xs) cs:=⟨by rw[eG];exact kT.1,hcs⟩
       have ol:=jP ((iw (B:=B) (sites:=st.sites) va.1 va.2).append (iw (B:=B) (sites:=st.sites) dt.1 dt.2)|>fun h=>by
        rw[show cM (flat t2 xs)++cM (flat t2 ys)=cM (flat t2 (xs++ys)) from by simp[cM,pX]] at h
        exact h)
       intro j g1 g2;exact kK go (ol.2 j g1 g2))
      refine jN (us:=[(o,.dead im),(dst,.row (aZ (st.dK o (.dead im)) dst) t2 (xs++ys))]) b7 Y (runs (by rw[hv];exact h1)) ?_
      refine⟨one h2,Ref.mk (aa:=.row (aZ (st.dK o (.dead im)) dst) t2 (xs++ys)) ?_ rfl (by simp[(jR h2).1])⟩
      simp only[aY,cC];simp
     ·cases cV
    ·exact .fail
  ·exact .fail
 ·exact .fail
theorem agB(S:ai O U X B st tm w){C:Ctx}(H:CtxOk P C){T dl:TypeId}{s x:Operand}{e ex:TypeId}{t u:aH}{bytes b2:Nat}{dst:Nat}(a_:C.tt T=.slice e t bytes)(fa:C.tt dl=.slice ex u b2)
  (ay:D.op=.call {callee:=.builtin .append,args:=#[s,x],argTypes:=#[T,dl]}) (dy:D.dst=some dst) (Y:ce st D.dst=true):
  Holds (tP bytes t dst st (aS C st T s) (aS C st dl x)) (cJ P O U X st tm w D):=by
 have qV:=H.tt dl;rw[fa] at qV;unfold tP;split
 ·exact .fail
 ·rename_i d nF;split
  ·rename_i be ys;split
   ·rename_i iF;subst iF;obtain⟨news,fi,dt⟩:=ag4 S (de S C dl x) nF;exact PE S H a_ (.inl ⟨_,qV.1.1⟩) ay dy Y fi dt
   ·exact .fail
  ·exact .fail
theorem aeE(S:ai O U X B st tm w){C:Ctx}(H:CtxOk P C){T dl:TypeId}{s x:Operand}{e:TypeId}{t:aH}{bytes:Nat}{dst:Nat}(a_:C.tt T=.slice e t bytes)(fa:C.tt dl=.str)
  (ay:D.op=.call {callee:=.builtin .append,args:=#[s,x],argTypes:=#[T,dl]}) (dy:D.dst=some dst) (Y:ce st D.dst=true):
  Holds (tQ bytes t dst st (aS C st T s) (aS C st dl x)) (cJ P O U X st tm w D):=by
 have qV:=H.tt dl;rw[fa] at qV;have bv:=de S C dl x;unfold tQ;split
 ·rename_i y hx;rw[hx] at bv;split
  ·rename_i iF;subst iF;have bv:bm w (ar X B st.sites) (.str y) (Act.eval ⟨tm,[]⟩ x):=bv;generalize hv:Act.eval ⟨tm,[]⟩ x=v at bv;cases bv with
   |str _ b hb=>
    subst hb;refine PE S H a_ (.inr qV.1) ay dy Y (news:=b.data.toList.map fun b=>Value.int .u8 b.toNat) ?_ ?_
    ·rw[hv];refine⟨by simp[bytesOf,aA],fun u hu=>?_,.inr (.inr ⟨b,rfl,?_,rfl,rfl⟩)⟩
     ·obtain⟨c,_,rfl⟩:=List.mem_map.1 hu;rfl
     ·simp only[bytesOf,List.length_map,Array.length_toList];rfl
    ·have e1:flat .u8 (bytesOf b.data.toList)=(b.data.toList.map fun b=>aJ.int .u8 b.toNat):=by
      unfold flat bytesOf;rw[List.flatMap_map];generalize b.data.toList=l;induction l with
      |nil=>rfl
      |cons a l ih=>simp only[List.flatMap_cons,List.map_cons,ih];rfl
     rw[e1];refine⟨by simp,fun j g1 g2=>?_⟩
     simp only[List.getElem_map];exact .int _ _
  ·exact .fail
 ·exact .fail
end
theorem foldl_set:∀(vs:List Value) (off k:Nat) (arr:Array Value),off+k+vs.length<=arr.size->
  (vs.zipIdx k).foldl (fun cs (x:Value×Nat)=>cs.setIfInBounds (off+x.2) x.1) arr=(bA arr.toList (off+k) vs).toArray:=by
 intro vs;induction vs with
 |nil=>intro off k arr h;simp[bA]
 |cons v vs ih=>
  intro off k arr h;simp only[List.zipIdx_cons,List.foldl_cons];rw[ih off (k+1) _ (by simp at h ⊢;omega)]
  congr 1
  simp only[List.length_cons] at h;unfold bA;rw[Array.toList_setIfInBounds];apply List.ext_getElem?;intro j;simp only[List.getElem?_append,List.length_append,List.length_take,List.length_set,List.getElem?_take,List.getElem?_drop,List.getElem?_set,List.length_cons,Array.length_toList];have m1:min (off+k) arr.size=off+k:=by omega
  have m2:min (off+(k+1)) arr.size=off+(k+1):=by omega
  simp only[m1,m2];by_cases c1:j<off+k
  ·have c2:j<off+(k+1):=by omega
   have c3:j<off+(k+1)+vs.length:=by omega
   have dh:j<off+k+(vs.length+1):=by omega
   have hS:¬off+k=j:=by omega
   simp[c1,c2,c3,dh,hS]
  ·by_cases c0:j=off+k
   ·subst c0;have c2:off+k<off+(k+1):=by omega
    have c3:off+k<off+(k+1)+vs.length:=by omega
    have dh:off+k<off+k+(vs.length+1):=by omega
    have hS:off+k<arr.size:=by omega
    simp[c2,c3,dh,hS]
   ·by_cases dh:j<off+k+(vs.length+1)
    ·have c2:¬j<off+(k+1):=by omega
     have c3:j<off+(k+1)+vs.length:=by omega
     have e:j-(off+k)=(j-(off+(k+1)))+1:=by omega
     simp[c1,c2,c3,dh,e]
    ·have c3:¬j<off+(k+1)+vs.length:=by omega
     have hS:¬off+k=off+(k+1)+vs.length+(j-(off+(k+1)+vs.length)):=by omega
     have e:off+(k+1)+vs.length+(j-(off+(k+1)+vs.length))=off+k+(vs.length+1)+(j-(off+k+(vs.length+1))):=by omega
     simp[c3,dh,hS,e];try(intro br;exfalso;omega)
theorem OW(v:Value)(off:Nat)(arr:Array Value)(h:off+v.cells.size<=arr.size):
  v.cells.zipIdx.foldl (fun cs (x:Value×Nat)=>cs.setIfInBounds (off+x.2) x.1) arr=(bA arr.toList off v.cells.toList).toArray:=by
 rw[<-Array.foldl_toList,Array.toList_zipIdx];exact foldl_set v.cells.toList off 0 arr (by simpa using h)
theorem Py(s:Nat):∀(vs:List (Nat×Value)) (n:Nat) (cells:Array Value),(∀j (h:j<vs.length),(vs[j]).1=n+j)->(∀p,p∈vs->p.2.cells.size=s)->(n+vs.length)*s<=cells.size->
  Instr.fill (fun i=>some (i*s,s)) cells vs=some (bA cells.toList (n*s) (vs.flatMap fun p=>p.2.cells.toList)).toArray:=by
 intro vs;induction vs with
 |nil=>intro n cells _ _ _;simp[Instr.fill,bA]
 |cons p vs ih=>
  obtain⟨i,v⟩:=p;intro n cells hi hs hle;have h0:i=n:=hi 0 (Nat.zero_lt_succ _);subst h0;have hv:v.cells.size=s:=hs (i,v) (by simp)
  have jV:i*s+s<=cells.size:=by
   have:(i+1)*s<=(i+(vs.length+1))*s:=Nat.mul_le_mul_right _ (by omega)
   simp only[List.length_cons] at hle;rw[Nat.add_mul,Nat.one_mul] at this;omega
  simp only[Instr.fill,hv];rw[if_neg (by simp;omega)]
  have qw:=OW v (i*s) cells (by omega)
  rw[qw];have hlen:v.cells.toList.length=s:=by simpa using hv
  have aph:(bA cells.toList (i*s) v.cells.toList).length=cells.toList.length:=nO _ _ _ (by simp;omega)
  rw[ih (i+1) _ (fun j h=>by have:=hi (j+1) (by simpa using h);simp at this;omega) (fun p hp=>hs p (by simp[hp])) (by
   simp only[List.length_cons] at hle;simp only[List.size_toArray,aph,Array.length_toList];have e:i+1+vs.length=i+(vs.length+1):=by omega
   rw[e];exact hle)]
  congr 2
  simp only[List.flatMap_cons,List.toList_toArray];have mA:(vs.flatMap fun p=>p.2.cells.toList).length=vs.length*s:=by
   clear ih hi hle;induction vs with
   |nil=>simp
   |cons q vs Mi=>
    have:q.2.cells.toList.length=s:=by simpa using hs q (by simp)
    rw[List.flatMap_cons,List.length_append,this,Mi (fun p hp=>hs p (by rcases List.mem_cons.1 hp with h|h<;>simp[h])),List.length_cons,Nat.add_mul];omega
  have apy:(i+(vs.length+1))*s<=cells.size:=by simpa using hle
  rw[Nat.add_mul,Nat.add_mul] at apy;unfold bA;apply List.ext_getElem?;intro j;have e1:(i+1)*s=i*s+s:=by rw[Nat.add_mul,Nat.one_mul]
  simp only[List.getElem?_append,List.length_append,List.length_take,List.getElem?_take,List.getElem?_drop,List.length_drop,Array.length_toList,hlen,mA,e1];have m1:min (i*s) cells.size=i*s:=by omega
  have m2:min (i*s+s) (i*s+s+(cells.size-(i*s+s)))=i*s+s:=by omega
  simp only[m1,m2];by_cases c1:j<i*s
  ·have c2:j<i*s+s:=by omega
   have c3:j<i*s+s+vs.length*s:=by omega
   have dh:j<i*s+(s+vs.length*s):=by omega
   simp[c1,c2,c3,dh]
  ·by_cases c2:j<i*s+s
   ·have c3:j<i*s+s+vs.length*s:=by omega
    have dh:j<i*s+(s+vs.length*s):=by omega
    have hS:j-i*s<s:=by omega
    simp[c1,c2,c3,dh,hS]
   ·by_cases c3:j<i*s+s+vs.length*s
    ·have dh:j<i*s+(s+vs.length*s):=by omega
     have hS:¬j-i*s<s:=by omega
     have e:j-i*s-s=j-(i*s+s):=by omega
     simp[c1,c2,c3,dh,hS,e]
    ·have dh:¬j<i*s+(s+vs.length*s):=by omega
     have hS:¬i*s+s+vs.length*s+(j-(i*s+s+vs.length*s))<i*s:=by omega
     have c6:¬i*s+s+vs.length*s+(j-(i*s+s+vs.length*s))<i*s+s:=by omega
     have e:i*s+s+(i*s+s+vs.length*s+(j-(i*s+s+vs.length*s))-(i*s+s))=i*s+(s+vs.length*s)+(j-(i*s+(s+vs.length*s))):=by omega
     simp[c3,dh,hS,c6,e]
theorem aej:∀(l:List (Nat×Operand)) (n:Nat),qf n l=true->∀j (h:j<l.length),(l[j]).1=n+j:=by
 intro l;induction l with
 |nil=>intro n _ j h;simp at h
 |cons p l ih=>
  obtain⟨i,x⟩:=p;intro n h j hj;simp only[qf,Bool.and_eq_true] at h;cases j with
  |zero=>simpa using Nat.eq_of_beq_eq_true h.1
  |succ j=>have:=ih (n+1) h.2 j (by simpa using hj);simp;omega
section
variable {P:Program}{O:World}{U:List Nat}{X:Nat->Prop}{B:Nat->Value}{st:af}{tm:Array Value}{w:World}{D:Oper}
theorem abz{ab:List az}(h:hH ab=true):ab.head?≠some .dH:=by
 intro bT;cases ab with
 |nil=>cases bT
 |cons l r=>
  simp only[List.head?_cons,Option.some.injEq] at bT;subst bT;cases h
theorem ai.SM(S:ai O U X B st tm w){o:Nat}{cells:List az}{vs:List Value}{T:TypeId}(hl:cy B st.sites w (ar X B st.sites) cells vs)(h1:∀u∈vs,u.oneCell'=true)(hns:oc cells T vs w.heap.size):
  ai O U X (fun M=>if M=o then .pointer (some ⟨w.heap.size,0,none⟩) else B M) {st with sites:=cg st.sites o (.box (aZ st o) cells)} tm (w.alloc (.cells vs.toArray T (0,0))):=
 S.make (fun b hb=>RowKit.Below.heap_alloc w _ b hb) rfl rfl rfl (by simp) (fun aa hs=>kD hs) (fun b hb=>by have hb:=List.mem_singleton.1 hb;subst hb;exact⟨Nat.le_refl _,by simp⟩)
  (fun hs bX go _ _=>⟨w.heap.size,T,vs,bX,heap_alloc_new w _,hl.1,h1,hns,fun j g1 g2=>(Cx go hl).2 j g1 g2⟩)
theorem ag8{B:Nat->Value}{sites:List (Nat×Site)}{av:Nat->Prop}{cells:List az}{T:TypeId}{cur:List Value}{b:Nat}(a_:T=sK)(h:cy B sites w av cells cur)(hs:cells.head?≠some .dH):cy B sites w av (xm cells) cur/\oc (xm cells) T cur b:=by
 unfold xm;split
 ·obtain⟨v,vs,rfl,h1,h2⟩:=h.inv;exact⟨.cons (show dF B sites w av .dH v from trivial) h2,fun _=>⟨a_,.inl (by rw[show v=_ from h1];rfl)⟩⟩
 ·exact⟨h,fun ae=>absurd ae hs⟩
theorem aiB(S:ai O U X B st tm w){C:Ctx}(H:CtxOk P C){elem:TypeId}{z:List az}{o:Nat}(ay:D.op=.alloc elem)(dy:D.dst=some o)(hz:(C.tt elem).zero=some z)(Y:ce st D.dst=true):
  cJ P O U X st tm w D (bP (.ptr o (aZ st o) 0)) [(o,.box (aZ st o) (bif elem.beq sK then xm z else z))]:=by
 obtain⟨v,hv,nu⟩:=cp.AG (w:=w) (H.tt elem) hz;obtain⟨h1,h2,h3⟩:=s' nu;have hns:z.head?≠some .dH:=by
  intro bT;cases z with
  |nil=>cases bT
  |cons l r=>
   simp only[List.head?_cons,Option.some.injEq] at bT;subst bT;simp[l5,rB] at nu
 have cY:(execOp (Act.eval ⟨tm,[]⟩) D).run P w=.ok (.value (.pointer (some ⟨w.heap.size,0,none⟩))) (w.alloc (.cells v.cells.toList.toArray elem (0,0))):=by
  unfold execOp;simp[ay,Instr.alloc,hv,newVar,newRow]
 have key:∀cells,cy B st.sites w (ar X B st.sites) cells v.cells.toList->oc cells elem v.cells.toList w.heap.size->
   cJ P O U X st tm w D (bP (.ptr o (aZ st o) 0)) [(o,.box (aZ st o) cells)]:=by
  intro cells hl hs;have b7:=S.SM (o:=o) (T:=elem) hl h2 hs;refine jN (us:=[(o,.box (aZ st o) cells)]) b7 Y (vv:=.pointer (some ⟨w.heap.size,0,none⟩)) cY ?_
  refine⟨_,rfl,Ref.mk (aa:=.box (aZ st o) cells) ?_ rfl (by simp[b0])⟩
  simp only[aY,cC];simp
 cases a_:elem.beq sK with
 |false=>exact key z ⟨h1,h3 _ _ _ _⟩ fun h=>absurd h hns
 |true=>
  obtain⟨aw,an⟩:=ag8 (b:=w.heap.size) (Nat.eq_of_beq_eq_true a_) (⟨h1,h3 B st.sites w (ar X B st.sites)⟩:cy B st.sites w (ar X B st.sites) z v.cells.toList) hns;exact key _ aw an
theorem alV(S:ai O U X B st tm w){elem:TypeId}{x:Operand}{a:bH}{o:Nat}(ay:D.op=.box elem x)(dy:D.dst=some o)(ha:gZ B st.sites w (ar X B st.sites) a (Act.eval ⟨tm,[]⟩ x))
  (dO:hH a.cells=true) (Y:ce st D.dst=true):cJ P O U X st tm w D (bP (.ptr o (aZ st o) 0)) [(o,.box (aZ st o) a.cells)]:=by
 have hl:=ha.cells dO;have b7:=S.SM (o:=o) (T:=elem) hl (hl.jt dO) (fun h=>absurd h (abz dO))
 refine jN (us:=[(o,.box (aZ st o) a.cells)]) b7 Y (vv:=.pointer (some ⟨w.heap.size,0,none⟩)) ?_ ?_
 ·unfold execOp;simp[ay,Instr.box,newVar,newRow]
 ·refine⟨_,rfl,Ref.mk (aa:=.box (aZ st o) a.cells) ?_ rfl (by simp[b0])⟩
  simp only[aY,cC];simp
theorem ai.IC(S:ai O U X B st tm w){o:Nat}{t:aH}{xs:List (den t)}{cs rest:List Value}{T:TypeId}{cap:Nat}(hl:cu w (ar X B st.sites) (flat t xs) cs)(hcap:cs.length+rest.length=cap*aA t)(hm:cap<=maxLen)(fa:t.fu=true->T=mC):
  ai O U X (fun M=>if M=o then .slice (some ⟨w.heap.size,0,none⟩) xs.length cap else B M) {st with sites:=cg st.sites o (.row (aZ st o) t xs)} tm (w.alloc (.cells (cs++rest).toArray T (0,0))):=by
 have hcl:cs.length=xs.length*aA t:=by rw[hl.1,eG]
 have hle:xs.length<=cap:=by
  have:xs.length*aA t<=cap*aA t:=by omega
  exact Nat.le_of_mul_le_mul_right this (kd t)
 refine S.make (fun b hb=>RowKit.Below.heap_alloc w _ b hb) rfl rfl rfl (by simp) (fun aa hs=>kD hs) (fun b hb=>by have hb:=List.mem_singleton.1 hb;subst hb;exact⟨Nat.le_refl _,by simp⟩)
  (fun hs bX go _ _=>⟨T,cs,⟨hcl,.inr ⟨w.heap.size,cap,_,(0,0),bX,⟨fa,.inl rfl⟩,heap_alloc_new w _,hle,hm,?_,?_⟩⟩,fun j g1 g2=>kK go (hl.2 j g1 g2)⟩)
 ·simp[hcap]
 ·rw[<-hcl];simp
theorem akf:∀{as:List bH} {t:aH} {xs:List (den t)} {us vs:List (Nat×Site)} {ws:List Value},mr t st as=some (xs,us)->ws.length=as.length->
  (∀j (h:j<as.length) (ae:j<ws.length),gZ B st.sites w (ar X B st.sites) (as[j]) (ws[j]))->lY O U X B st tm w vs->(∀p,p∈us->p∈vs)->
  xs.length=as.length/\cu w (ar X B (aY st.sites vs)) (flat t xs) (ws.flatMap fun v=>v.cells.toList)/\∀v,v∈ws->v.cells.size=aA t:=by
 intro as;induction as with
 |nil=>
  intro t xs us vs ws h hl _ _ _;simp only[mr] at h;cases h;have:ws=[]:=List.eq_nil_of_length_eq_zero hl;subst this;exact⟨rfl,⟨rfl,fun j h=>by simp[flat] at h⟩,fun v hv=>by simp at hv⟩
 |cons a as ih=>
  intro t xs us vs ws h hl eZ aO ek;match ws,hl with
  |v::ws,hl=>
  simp only[mr] at h;split at h
  ·rename_i ds u1 nj;split at h
   ·rename_i x iT u2 eM n';cases h;have b8:=eZ 0 (by simp) (by simp)
    simp only[List.getElem_cons_zero] at b8;have dO:hH a.cells=true:=by
     clear n' ih eZ b8 hl eM;generalize a.cells=ab at nj;induction ab generalizing ds u1 with
     |nil=>rfl
     |cons l ab ih=>
      simp only[iB] at nj;split at nj
      ·rename_i d aay hq pR h1 h2;simp only[hH,Bool.and_eq_true];refine⟨?_,ih _ _ (fun p hp=>ek p (by cases nj;rcases List.mem_append.1 hp with h|h<;>simp[h])) h2⟩
       unfold kx at h1;split at h1<;>first|rfl|cases h1
      ·cases nj
    have hP:=b8.cells dO;have yD:=B9 nj hP aO (fun p hp=>ek p (List.mem_append.2 (.inl hp)))
    obtain⟨g1,g2,g3⟩:=ih n' (by simpa using hl) (fun j h1 h2=>eZ (j+1) (by simpa using h1) (by simpa using h2)) aO (fun p hp=>ek p (List.mem_append.2 (.inr hp)))
    have pk:=o6 _ _ _ eM;refine⟨by simp[g1],?_,fun u hu=>?_⟩
    ·simp only[flat,List.flatMap_cons];rw[pk];have:=jP ((iw (B:=B) (sites:=st.sites) yD.1 yD.2).append (iw (B:=B) (sites:=st.sites) g2.1 g2.2)|>fun h=>by
      rw[show cM ds++cM (flat t iT)=cM (ds++flat t iT) from by simp[cM]] at h
      exact h)
     exact this
    ·rcases List.mem_cons.1 hu with rfl|hu
     ·have:u.cells.toList.length=ds.length:=yD.1;rw[<-pk,fW] at this;simpa using this
     ·exact g3 u hu
   ·cases h
  ·cases h
theorem akg:∀{as:List bH} {t:aH} {xs:List (den t)} {us:List (Nat×Site)},mr t st as=some (xs,us)->dM st.sites us:=by
 intro as;induction as with
 |nil=>intro t xs us h;simp only[mr] at h;cases h;exact .nil
 |cons a as ih=>
  intro t xs us h;simp only[mr] at h;split at h
  ·rename_i ds u1 nj;split at h
   ·rename_i x iT u2 eM n';cases h;exact(Jn nj).append (ih n')
   ·cases h
  ·cases h
theorem aa6{us:List (Nat×Site)}(h:dM st.sites us)(o:Nat):aZ {st with sites:=aY st.sites us} o=aZ st o:=by
 unfold aZ af.aa;simp only;rcases mJ h o with h1|⟨s,t,xs,h1,h2⟩
 ·rw[h1]
 ·rw[h2];rcases h1 with h1|h1|h1<;>rw[h1]<;>rfl
end
section
variable {P:Program}{O:World}{U:List Nat}{X:Nat->Prop}{B:Nat->Value}{st:af}{tm:Array Value}{w:World}{D:Oper}
theorem rk{v:aI}{a:bH}(h:nn v=some a):v=.av a:=by
 cases v with
 |av b=>cases h;rfl
 |kq _=>cases h
theorem PB:∀{vs:List aI} {as:List bH},ob vs=some as->vs.length=as.length/\∀j (h:j<vs.length) (ae:j<as.length),vs[j]=.av (as[j]):=by
 intro vs;induction vs with
 |nil=>intro as h;simp only[ob] at h;cases h;exact⟨rfl,fun j h=>by simp at h⟩
 |cons v vs ih=>
  intro as h;simp only[ob] at h;split at h
  ·rename_i a kz h1 h2;cases h;obtain⟨g1,g2⟩:=ih h2;refine⟨by simp[g1],fun j aw an=>?_⟩
   cases j with
   |zero=>exact rk h1
   |succ j=>exact g2 j (by simpa using aw) (by simpa using an)
  ·cases h
theorem pY{C:Ctx}(H:CtxOk P C){T e:TypeId}{t:aH}{bytes:Nat}(a_:C.tt T=.slice e t bytes):
  P.underlying T=some (.slice e)/\∃i z,P.info? e=some i/\i.size=aA t/\i.bytes=bytes/\i.zero=some z/\z.cells.size=aA t/\(t.fu=true->e=mC):=by
 have bL:=H.tt T;rw[a_] at bL;obtain⟨⟨eL,_⟩,z,hinfo,hzs⟩:=bL;refine⟨eL,?_⟩;cases al:P.info? e with
 |none=>simp[al] at hinfo
 |some i=>
  simp only[al,Option.map_some,Option.some.injEq,Prod.mk.injEq] at hinfo;exact⟨i,z,rfl,hinfo.1,hinfo.2.1,hinfo.2.2,hzs⟩
theorem N'{C:Ctx}(H:CtxOk P C){T e:TypeId}{t:aH}{bytes len:Nat}{parts:Array (Nat×Operand)}(a_:C.tt T=.slice e t bytes)(hlen:parts.toList.length=len)(ng:qf 0 parts.toList=true)(xf:len*aA t<=1000)
  {ws:List Value} (nx:ws=parts.toList.map fun p=>Act.eval ⟨tm,[]⟩ p.2) (hcs:∀v,v∈ws->v.cells.size=aA t) (hcl:(ws.flatMap fun v=>v.cells.toList).length=len*aA t):
  (Instr.buildSlice T len (parts.map fun(x:Nat×Operand)=>(x.1,Act.eval ⟨tm,[]⟩ x.2))).run P w=
   .ok (.slice (some ⟨w.heap.size,0,none⟩) len len) (w.alloc (.cells (ws.flatMap fun v=>v.cells.toList).toArray e)):=by
 obtain⟨eL,i,z,hi,h_,pG,lF,hzs,fa⟩:=pY H a_;have alD:(parts.map fun(x:Nat×Operand)=>(x.1,Act.eval ⟨tm,[]⟩ x.2)).toList=parts.toList.map fun p=>(p.1,Act.eval ⟨tm,[]⟩ p.2):=by simp
 have ana:((parts.toList.map fun p=>(p.1,Act.eval ⟨tm,[]⟩ p.2)).flatMap fun p:Nat×Value=>p.2.cells.toList)=ws.flatMap fun v=>v.cells.toList:=by
  simp[nx,List.flatMap_map]
 by_cases h0:len*i.size=0
 ·have hl0:len=0:=by
   rcases Nat.mul_eq_zero.1 h0 with h|h
   ·exact h
   ·have:=kd t;omega
  subst hl0;have pC:parts.toList=[]:=List.eq_nil_of_length_eq_zero hlen;have Ek:ws=[]:=by simp[nx,pC]
  have atx:parts=#[]:=by simpa using pC
  rw[Ek];have k1:∀f:Nat->Value,Array.map f (Array.range 0)=#[]:=fun f=>by apply Array.ext';simp
  simp[Instr.buildSlice,run_underlying eL,sizeOf,typeInfo,hi,atx,Instr.fill,newRow,k1]
 ·refine run_buildSlice w T e len _ _ i z eL hi lF (by rw[h_];omega) h0 ?_
  rw[alD];have am0:(((Array.range (len*i.size)).map fun x=>z.cells[x%z.cells.size]!)).size=len*i.size:=by simp
  have:=Py (aA t) (parts.toList.map fun p=>(p.1,Act.eval ⟨tm,[]⟩ p.2)) 0 ((Array.range (len*i.size)).map fun x=>z.cells[x%z.cells.size]!)
   (fun j h=>by have:=aej _ 0 ng j (by simpa using h);simpa using this)
   (fun p hp=>by
    obtain⟨q,al,rfl⟩:=List.mem_map.1 hp;exact hcs _ (by rw[nx];exact List.mem_map.2 ⟨q,al,rfl⟩))
   (by rw[am0,h_];simp[hlen])
  rw[h_] at this ⊢;rw[this,ana];congr 2
  unfold bA;rw[Nat.zero_mul,List.take_zero,List.nil_append,Nat.zero_add,hcl,List.drop_eq_nil_of_le (by simp),List.append_nil]
theorem abM(S:ai O U X B st tm w){C:Ctx}(H:CtxOk P C){T e:TypeId}{t:aH}{bytes len o:Nat}{parts:Array (Nat×Operand)}(a_:C.tt T=.slice e t bytes)(ay:D.op=.buildSlice T len parts)
  (dy:D.dst=some o) (Y:ce st D.dst=true) (hlen:parts.toList.length=len) (ng:qf 0 parts.toList=true) (xf:len*aA t<=1000) {as:List bH} {xs:List (den t)} {us:List (Nat×Site)}
  (has:ob (parts.toList.map fun p=>aS C st e p.2)=some as) (eM:mr t st as=some (xs,us)):
  cJ P O U X st tm w D (bP (.own o (aZ st o))) (us++[(o,.row (aZ st o) t xs)]):=by
 obtain⟨eL,i,z,hi,h_,pG,lF,hzs,fa⟩:=pY H a_;have hfz:=akg eM;have aO:lY O U X B st tm w us:=⟨S,hfz⟩;obtain⟨pJ,lG⟩:=PB has;let ws:List Value:=parts.toList.map fun p=>Act.eval ⟨tm,[]⟩ p.2
 have yv:ws.length=as.length:=by rw[<-pJ];simp[ws]
 have K3:∀j (h:j<as.length) (ae:j<ws.length),gZ B st.sites w (ar X B st.sites) (as[j]) (ws[j]):=by
  intro j h1 h2;have hj:j<(parts.toList.map fun p=>aS C st e p.2).length:=by rw[pJ];exact h1
  have:=lG j hj h1;simp only[List.getElem_map] at this;have bv:=de S C e (parts.toList[j]'(by simpa using hj)).2
  rw[this] at bv;have h3:cj B st.sites w (ar X B st.sites) (.av (as[j])) (ws[j]):=by simpa[ws] using bv
  exact h3
 obtain⟨hxl,dt,hcs⟩:=akf eM yv K3 aO (fun p hp=>hp)
 have rZ:xs.length=len:=by rw[hxl,<-yv];simpa[ws] using hlen
 have hcl:(ws.flatMap fun v=>v.cells.toList).length=len*aA t:=by rw[dt.1,eG,rZ]
 have hm:len<=maxLen:=by
  have:len*1<=len*aA t:=Nat.mul_le_mul_left _ (kd t);unfold maxLen;omega
 have b7:=aO.new.IC (o:=o) (xs:=xs) (cs:=ws.flatMap fun v=>v.cells.toList) (rest:=[]) (T:=e) (cap:=len) (by exact dt) (by simp[hcl]) hm fa
 rw[aa6 hfz,rZ,List.append_nil] at b7;have qn:aY st.sites (us++[(o,.row (aZ st o) t xs)])=cg (aY st.sites us) o (.row (aZ st o) t xs):=by rw[jq];rfl
 have cY:(Instr.buildSlice T len (parts.map fun(x:Nat×Operand)=>(x.1,Act.eval ⟨tm,[]⟩ x.2))).run P w=
   .ok (.slice (some ⟨w.heap.size,0,none⟩) len len) (w.alloc (.cells (ws.flatMap fun v=>v.cells.toList).toArray e)):=N' H a_ hlen ng xf rfl hcs hcl
 refine jN (us:=us++[(o,.row (aZ st o) t xs)]) (by rw[qn];exact b7) Y (vv:=.slice (some ⟨w.heap.size,0,none⟩) len len) ?_ ?_
 ·unfold execOp;simp only[ay,Sem.run_bind];have Ko:=cY;simp only[Ko,Result.andThen_ok,Sem.run_pure]
 ·rw[qn];refine⟨rfl,Ref.mk (aa:=.row (aZ st o) t xs) ?_ rfl (by simp[b0])⟩
  simp only[cC];simp
theorem abB{w:World}{av:Nat->Prop}{t:aH}{z:den t}{zs:List Value}(h:cu w av (enc t z) zs)(n:Nat):cu w av (flat t (List.replicate n z)) ((List.replicate n zs).flatten):=by
 induction n with
 |zero=>exact⟨rfl,fun j h=>by simp[flat] at h⟩
 |succ n ih=>
  have:=jP ((iw (B:=fun _=>undef) (sites:=[]) h.1 h.2).append (iw (B:=fun _=>undef) (sites:=[]) ih.1 ih.2)|>fun h=>by
   rw[show cM (enc t z)++cM (flat t (List.replicate n z))=cM (enc t z++flat t (List.replicate n z)) from by simp[cM]] at h
   exact h)
  simpa[List.replicate_succ,flat,List.flatMap_cons] using this
theorem aft(z:Array Value)(n:Nat)(hz:0<z.size):((Array.range (n*z.size)).map fun x=>z[x%z.size]!).toList=(List.replicate n z.toList).flatten:=by
 induction n with
 |zero=>simp
 |succ n ih=>
  rw[List.replicate_succ',List.flatten_append];rw[<-ih];apply List.ext_getElem?;intro j;have e:(n+1)*z.size=n*z.size+z.size:=by rw[Nat.add_mul,Nat.one_mul]
  simp only[Array.toList_map,Array.toList_range,List.getElem?_map,List.getElem?_append,List.length_map,List.length_range,List.flatten_cons,List.flatten_nil,List.append_nil,e];by_cases h1:j<n*z.size
  ·rw[List.getElem?_range (by omega)];simp[h1]
  ·by_cases h2:j<n*z.size+z.size
   ·rw[List.getElem?_range h2];have h3:j-n*z.size<z.size:=by omega
    have aE:j%z.size=j-n*z.size:=by
     have:j=z.size*n+(j-n*z.size):=by rw[Nat.mul_comm];omega
     conv=>lhs;rw[this]
     rw[Nat.mul_add_mod,Nat.mod_eq_of_lt h3]
    simp[h1,aE,h3]
   ·rw[List.getElem?_eq_none (by simp;omega)]
    have h3:¬j-n*z.size<z.size:=by omega
    simp[h1,h3]
theorem acy{l:az}{v:Value}{d:aJ}{us:List (Nat×Site)}(h:rB l=some v)(k:kx st l=some (d,us)):us=[]:=by
 cases l with
 |d x=>simp[kx] at k;exact k.2
 |nil t=>simp[kx] at k;exact k.2
 |own o s=>simp[rB] at h
 |clo g bE=>simp[rB] at h
 |_=>simp[kx] at k
theorem Oc{C:Ctx}{T e:TypeId}{t:aH}{bytes:Nat}{kn km:IntKind}{n m:Int}{i:TypeInfo}{v:Value}(eL:P.underlying T=some (.slice e))(hi:P.info? e=some i)(h_:i.size=aA t)(pG:i.bytes=bytes)
  (lF:i.zero=some v) (hzs:v.cells.size=aA t) (b1:0<=n) (b2:n<=m) (b3:m*bytes<=room) (lR:m<=maxLen):
  (Instr.makeSlice T (.int kn n) (.int km m)).run P w=.ok (.slice (some ⟨w.heap.size,0,none⟩) n.toNat m.toNat) (w.alloc (.cells ((List.replicate m.toNat v.cells.toList).flatten).toArray e)):=by
 unfold maxLen at lR;have aP:IntKind.i64.wrap n=n:=IntWalk.i64_in n (by omega)
 have w2:IntKind.i64.wrap m=m:=IntWalk.i64_in m (by omega)
 have K_:(decide (m<0)||decide (((i.bytes:Nat):Int)*m>2^48))=false:=by
  unfold room at b3;rw[pG];have:(bytes:Int)*m<=140737488355328:=by rw[Int.mul_comm];exact b3
  simp;omega
 have qo:((Array.range (m.toNat*i.size)).map fun x=>v.cells[x%v.cells.size]!)=((List.replicate m.toNat v.cells.toList).flatten).toArray:=by
  rw[<-aft v.cells m.toNat (by rw[hzs];exact kd t),hzs,h_]
 have sD:¬n<0:=by omega
 have jm:¬n>m:=by omega
 unfold Instr.makeSlice;simp only[Sem.run_bind,run_underlying eL,Result.andThen_ok,asInt,asIntOf,Sem.run_pure,lZ hi,aP,w2,K_,Bool.false_eq_true,sD,jm,decide_false,Bool.or_false,Bool.or_self,if_false,
  run_askRoom,sizeOf]
 by_cases hz0:m.toNat*i.size=0
 ·have vl:m.toNat=0:=by
   rcases Nat.mul_eq_zero.1 hz0 with h|h
   ·exact h
   ·have:=kd t;omega
  have k1:∀f:Nat->Value,Array.map f (Array.range 0)=#[]:=fun f=>by apply Array.ext';simp
  simp[vl,newRow,k1]
 ·simp[hz0,lF,zeroValue,lZ hi,newRow,qo]
theorem ach(S:ai O U X B st tm w){C:Ctx}(H:CtxOk P C){T e:TypeId}{t:aH}{bytes o:Nat}{l c:Operand}{kn km:IntKind}{n m:Int}{z:List az}{ds:List aJ}{us:List (Nat×Site)}{eO:den t}(a_:C.tt T=.slice e t bytes)(ay:D.op=.makeSlice T l c)
  (dy:D.dst=some o) (Y:ce st D.dst=true) (hl:aS C st 0 l=.av (.ag (.d (.int kn n)))) (hc:aS C st 0 c=.av (.ag (.d (.int km m)))) (hz:(C.tt e).zero=some z) (eT:iB st z=some (ds,us)) (eM:dec t ds=some eO):
  ∀r,j2 bytes n m eO=some r->cJ P O U X st tm w D (bP (.own o (aZ st o))) [(o,.row (aZ st o) t r)]:=by
 intro r hr;obtain⟨eL,i,gi,hi,h_,pG,lF,hzs,fa⟩:=pY H a_;obtain⟨v,hv,nu⟩:=cp.AG (w:=w) (H.tt e) hz;have Mq:v=gi:=by
  simp[zeroValue,typeInfo,hi,lF] at hv;exact hv.symm
 subst Mq;obtain⟨h1,h2,h3⟩:=s' nu;have er:us=[]:=by
  clear eM hz h3 h2 h1;have key:∀{ab:List az} {vs:List Value} {ds:List aJ} {us:List (Nat×Site)},l5 ab=some vs->iB st ab=some (ds,us)->us=[]:=by
   intro ab;induction ab with
   |nil=>intro vs ds us _ h;simp only[iB] at h;cases h;rfl
   |cons l ab ih=>
    intro vs ds us h1 h2;simp only[l5] at h1;split at h1
    ·rename_i v ca g1 g2;simp only[iB] at h2;split at h2
     ·rename_i d aay hq pR aw an;cases h2;rw[ih g2 an,List.append_nil];exact acy g1 aw
     ·cases h2
    ·cases h1
  exact key nu eT
 subst er;have aO:lY O U X B st tm w []:=⟨S,.nil⟩;have hrz:cu w (ar X B st.sites) ds v.cells.toList:=B9 eT ⟨h1,h3 _ _ _ _⟩ aO (fun p hp=>hp)
 rw[<-o6 _ _ _ eM] at hrz;unfold j2 at hr;split at hr
 ·rename_i hb;obtain⟨b1,b2,b3,lR⟩:=hb;cases hr;have e1:Act.eval ⟨tm,[]⟩ l=.int kn n:=by
   have:=de S C 0 l;rw[hl] at this;have this:bm _ _ (.int kn n) _:=this;generalize Act.eval ⟨tm,[]⟩ l=u at this;cases this;rfl
  have e2:Act.eval ⟨tm,[]⟩ c=.int km m:=by
   have:=de S C 0 c;rw[hc] at this;have this:bm _ _ (.int km m) _:=this;generalize Act.eval ⟨tm,[]⟩ c=u at this;cases this;rfl
  have xQ:=abB hrz n.toNat;have hlen:((List.replicate n.toNat v.cells.toList).flatten).length=n.toNat*aA t:=by
   rw[xQ.1,eG,List.length_replicate]
  have xe:(List.replicate m.toNat v.cells.toList).flatten=(List.replicate n.toNat v.cells.toList).flatten++(List.replicate (m.toNat-n.toNat) v.cells.toList).flatten:=by
   rw[<-List.flatten_append,List.replicate_append_replicate];congr 2;omega
  have hcap:((List.replicate n.toNat v.cells.toList).flatten).length+((List.replicate (m.toNat-n.toNat) v.cells.toList).flatten).length=m.toNat*aA t:=by
   rw[<-List.length_append,<-xe];simp[hzs]
  have hmax:m.toNat<=maxLen:=by omega
  have b7:=S.IC (o:=o) (T:=e) xQ hcap hmax fa;rw[List.length_replicate,<-xe] at b7;refine jN (us:=[(o,.row (aZ st o) t (List.replicate n.toNat eO))]) b7 Y (vv:=.slice (some ⟨w.heap.size,0,none⟩) n.toNat m.toNat) ?_ ?_
  ·unfold execOp;simp only[ay,e1,e2,Sem.run_bind];have cY:=Oc (C:=C) (w:=w) (kn:=kn) (km:=km) eL hi h_ pG lF hzs b1 b2 b3 lR;simp only[cY,Result.andThen_ok,Sem.run_pure]
  ·refine⟨rfl,Ref.mk (aa:=.row (aZ st o) t (List.replicate n.toNat eO)) ?_ rfl (by simp[b0])⟩
   simp only[aY,cC];simp
 ·cases hr
end
theorem af5{aB k7:Type}(g:aB->Option k7):∀{l:List aB} {r:List k7},l.mapM g=some r->∀{i:Nat} {y:k7},r[i]? =some y->∃x,l[i]? =some x/\g x=some y:=by
 intro l;induction l with
 |nil=>intro r h i y hy;simp at h;subst h;simp at hy
 |cons x l ih=>
  intro r h i y hy;simp only[List.mapM_cons,Option.bind_eq_bind,Option.pure_def] at h;cases hx:g x with
  |none=>simp[hx] at h
  |some z=>
   cases hl:l.mapM g with
   |none=>simp[hx,hl] at h
   |some eE=>
    simp only[hx,hl,Option.bind_some,Option.some.injEq] at h;subst h;cases i with
    |zero=>simp at hy;subst hy;exact⟨x,by simp,hx⟩
    |succ i=>simp at hy;simpa using ih hl hy
section
variable {P:Program}{O:World}{U:List Nat}{X:Nat->Prop}{B:Nat->Value}{st:af}{tm:Array Value}{w:World}{D:Oper}
theorem ja{k:IntKind}{n:Int}{v:Value}{av:Nat->Prop}(h:bm w av (.int k n) v):v=.int k n:=by cases h;rfl
theorem ke{b:Bool}{v:Value}{av:Nat->Prop}(h:bm w av (.bool b) v):v=.bool b:=by cases h;rfl
theorem hK{s:F}{v:Value}{av:Nat->Prop}(h:bm w av (.str s) v):∃b:ByteArray,v=.string b/\b.data.toList=s:=by
 cases h with
 |str l s h=>exact⟨s,rfl,h⟩
theorem kJ(S:ai O U X B st tm w){C:Ctx}{T:TypeId}{x:Operand}{k:IntKind}{n:Int}(h:aS C st T x=.av (.ag (.d (.int k n)))):Act.eval ⟨tm,[]⟩ x=.int k n:=by
 have:=de S C T x;rw[h] at this;exact ja this
theorem Ji(S:ai O U X B st tm w){C:Ctx}{T:TypeId}{x:Operand}{b:Bool}(h:aS C st T x=.av (.ag (.d (.bool b)))):Act.eval ⟨tm,[]⟩ x=.bool b:=by
 have:=de S C T x;rw[h] at this;exact ke this
theorem alQ(S:ai O U X B st tm w){C:Ctx}{T:TypeId}{x:Operand}{s:F}(h:aS C st T x=.av (.ag (.d (.str s)))):∃b:ByteArray,Act.eval ⟨tm,[]⟩ x=.string b/\b.data.toList=s:=by
 have:=de S C T x;rw[h] at this;exact hK this
theorem acP{C:Ctx}(H:CtxOk P C){T:TypeId}{bM:List (Nat×Nat)}{n:Nat}{z:List az}{eq:Bool}(a_:C.tt T=.struct bM n z eq):(cp.struct bM n z eq).ok P T:=by
 have:=H.tt T;rwa[a_] at this
theorem acu(S:ai O U X B st tm w){C:Ctx}(H:CtxOk P C){T:TypeId}{x:Operand}{f off Nw:Nat}{bM:List (Nat×Nat)}{n:Nat}{z:List az}{eq:Bool}(a_:C.tt T=.struct bM n z eq)(ay:D.op=.fieldAddr T x f)
  (Y:ce st D.dst=true) (hf:bM[f]? =some (off,Nw)):Holds (FL off (aS C st 0 x)) (cJ P O U X st tm w D):=by
 obtain⟨fields,eL,⟨apt,yE⟩,_⟩:=acP H a_;obtain⟨aaL,h1,h2⟩:=af5 _ apt hf;have h1':fields[f]? =some aaL:=by simpa using h1
 cases hi:P.info? aaL.type with
 |none=>simp[hi] at h2
 |some i=>
  simp only[hi,Option.map_some,Option.some.injEq,Prod.mk.injEq] at h2;have hsz:i.size≠0:=by rw[h2.2];exact yE (off,Nw) (List.mem_of_getElem? hf)
  have bv:=de S C 0 x;have run:∀{b p:Nat},Act.eval ⟨tm,[]⟩ x=.pointer (some ⟨b,p,none⟩)->(execOp (Act.eval ⟨tm,[]⟩) D).run P w=.ok (.value (.pointer (some ⟨b,p+off,none⟩))) w:=by
   intro b p hx;unfold execOp;simp only[ay,hx,Instr.fieldAt,Instr.sureAddr,Sem.run_bind,run_underlying eL,Result.andThen_ok,h1',Sem.run_pure,fieldPlace,sizeOf,lZ hi,hsz,if_false,h2.1,gV]
  unfold FL;split
  ·rename_i o s p bZ;rw[bZ] at bv;obtain⟨b,aw,an⟩:=bv;exact Holds.ok (dS S Y (run aw) ⟨b,rfl,an⟩)
  ·rename_i cells p bZ;rw[bZ] at bv;obtain⟨b,q,aw,an⟩:=bv;refine Holds.ok (dS S Y (run aw) ⟨b,q,by rw[Nat.add_assoc],an⟩)
  ·rename_i o s t k p bZ;rw[bZ] at bv;obtain⟨b,aw,an⟩:=bv;exact Holds.ok (dS S Y (run aw) ⟨b,by rw[Nat.add_assoc],an⟩)
  ·exact .fail
end
theorem wv(n:Nat)(l:List Nat):gG n l=true <-> n∈l:=by
 induction l with
 |nil=>simp[gG]
 |cons m l ih=>
  simp only[gG,Bool.or_eq_true,ih,List.mem_cons];constructor
  ·rintro(h|h)
   ·exact .inl (Nat.eq_of_beq_eq_true h)
   ·exact .inr h
  ·rintro(rfl|h)
   ·exact .inl (Nat.beq_refl n)
   ·exact .inr h
theorem pZ(l:List Nat):fm l=true <-> l.Nodup:=by
 induction l with
 |nil=>simp[fm]
 |cons n l ih=>
  simp only[fm,Bool.and_eq_true,ih,List.nodup_cons,Bool.not_eq_true'];constructor
  ·rintro⟨h1,h2⟩;exact⟨fun h=>(by rw[(wv n l).2 h] at h1;cases h1),h2⟩
  ·rintro⟨h1,h2⟩;refine⟨?_,h2⟩;cases h:gG n l with
   |false=>rfl
   |true=>exact absurd ((wv n l).1 h) h1
theorem l0{sites us:List (Nat×Site)}{o:Nat}(h:o∉keys us):look (aY sites us) o=look sites o:=by
 induction us generalizing sites with
 |nil=>rfl
 |cons p us ih=>
  obtain⟨n,s⟩:=p;simp only[keys,List.mem_cons,not_or] at h;simp only[aY];rw[ih h.2,cC];have:¬n=o:=fun e=>h.1 e.symm
  simp[this]
theorem G8{aB:Type}{us:List (Nat×aB)}{o:Nat}{s:aB}(h:(o,s)∈us):o∈keys us:=by
 induction us with
 |nil=>simp at h
 |cons p us ih=>
  rcases List.mem_cons.1 h with rfl|h
  ·exact List.mem_cons_self
  ·exact List.mem_cons_of_mem _ (ih h)
theorem p_{aB:Type}{us:List (Nat×aB)}{o:Nat}(h:o∈keys us):∃s,(o,s)∈us:=by
 induction us with
 |nil=>simp[keys] at h
 |cons p us ih=>
  obtain⟨n,s⟩:=p;rcases List.mem_cons.1 h with h|h
  ·exact⟨s,by rw[h];exact List.mem_cons_self⟩
  ·obtain⟨au,ae⟩:=ih h;exact⟨au,List.mem_cons_of_mem _ ae⟩
theorem hF{aB:Type}(a b:List (Nat×aB)):keys (a++b)=keys a++keys b:=by
 induction a with
 |nil=>rfl
 |cons p a ih=>simp[keys,ih]
section
variable {P:Program}{O:World}{U:List Nat}{X:Nat->Prop}{B:Nat->Value}{st:af}{tm:Array Value}{w:World}{D:Oper}
def cD(B:Nat->Value)(ks:List Nat):List Nat:=ks.flatMap fun o=>bJ (B o)
theorem ld(a b:List Nat):cD B (a++b)=cD B a++cD B b:=by simp[cD]
def fs(sites:List (Nat×Site))(us:List (Nat×Site)):Prop:=∀o au,(o,au)∈us->∃aa,look sites o=some aa/\aa.live=true/\au=.dead aa.b'
theorem fs.nil{sites:List (Nat×Site)}:fs sites []:=fun _ _ h=>by simp at h
theorem fs.append{sites us vs:List (Nat×Site)}(h:fs sites us)(ae:fs sites vs):fs sites (us++vs):=by
 intro o s hm;rcases List.mem_append.1 hm with hm|hm
 ·exact h o s hm
 ·exact ae o s hm
theorem aek:∀{us:List (Nat×Site)} {sites:List (Nat×Site)},fs sites us->∀M,(M∉keys us/\look (aY sites us) M=look sites M)\/(M∈keys us/\∃aa,look sites M=some aa/\aa.live=true/\look (aY sites us) M=some (.dead aa.b')):=by
 intro us;induction us with
 |nil=>intro sites _ M;exact .inl ⟨by simp[keys],rfl⟩
 |cons p us ih=>
  obtain⟨o,s⟩:=p;intro sites h M;obtain⟨aa,h1,h2,rfl⟩:=h o s List.mem_cons_self;by_cases hm:M∈keys us
  ·obtain⟨au,ig⟩:=p_ hm;obtain⟨bF,aw,an,rfl⟩:=h M au (List.mem_cons_of_mem _ ig);refine .inr ⟨List.mem_cons_of_mem _ hm,bF,aw,an,?_⟩;have:∀(us:List (Nat×Site)) (sites:List (Nat×Site)),(∀s,(M,s)∈us->s=.dead bF.b')->M∈keys us->look (aY sites us) M=some (.dead bF.b'):=by
    intro us;induction us with
    |nil=>intro _ _ h;simp[keys] at h
    |cons q us Mi=>
     obtain⟨ρ,r⟩:=q;intro sites hs hk;simp only[aY];by_cases hk2:M∈keys us
     ·exact Mi _ (fun s fD=>hs s (List.mem_cons_of_mem _ fD)) hk2
     ·rw[l0 hk2,cC];rcases List.mem_cons.1 hk with rfl|hk
      ·rw[hs r List.mem_cons_self];simp
      ·exact absurd hk hk2
   simp only[aY];refine this us _ (fun s hs=>?_) hm
   obtain⟨s2,g1,g2,g3⟩:=h M s (List.mem_cons_of_mem _ hs);rw[aw] at g1;cases g1;exact g3
  ·simp only[aY];rw[l0 hm,cC];by_cases e:o=M
   ·subst e;exact .inr ⟨List.mem_cons_self,aa,h1,h2,by simp⟩
   ·exact .inl ⟨fun hk=>(List.mem_cons.1 hk).elim (fun h=>e h.symm) hm,by simp[e]⟩
theorem Deep.len{av:Nat->Prop}{ds:List aJ}{cs ns:List Value}(h:Deep w av ds cs ns):cs.length=ds.length:=by
 induction h with
 |nil=>rfl
 |row _ _ _ _ _ _ _ _ ih=>simp[ih]
 |leaf _ _ _ ih=>simp[ih]
theorem Deep.cm{av:Nat->Prop}{ds hq:List aJ}{cs ky ns j1:List Value}(h:Deep w av ds cs ns)(ae:Deep w av hq ky j1):Deep w av (ds++hq) (cs++ky) (ns++j1):=by
 induction h with
 |nil=>exact ae
 |row u ys e ab hp h hr _ ih=>exact .row u ys e ab hp h hr ih
 |leaf hp h _ ih=>exact .leaf hp h ih
theorem Deep.inv{av:Nat->Prop}:∀{ds hq:List aJ} {cs ns:List Value},Deep w av (ds++hq) cs ns->∃sL _y gw Eb,cs=sL++_y/\ns=gw++Eb/\Deep w av ds sL gw/\Deep w av hq _y Eb:=by
 intro ds;induction ds with
 |nil=>intro hq cs ns h;exact⟨[],cs,[],ns,rfl,rfl,.nil,h⟩
 |cons d ds ih=>
  intro hq cs ns h;cases h with
  |row u ys e ab hp h hr k=>
   obtain⟨c1,c2,n1,n2,rfl,rfl,aw,an⟩:=ih k;exact⟨_::c1,c2,_::n1,n2,rfl,rfl,.row u ys e ab hp h hr aw,an⟩
  |leaf hp h k=>
   obtain⟨c1,c2,n1,n2,rfl,rfl,aw,an⟩:=ih k;exact⟨_::c1,c2,n1,n2,rfl,rfl,.leaf hp h aw,an⟩
theorem Deep.map{w':World}{av b4:Nat->Prop}{ds:List aJ}{cs ns:List Value}(h:Deep w av ds cs ns)(go:∀{d v},bm w av d v->bm w' b4 d v):
  (∀n,n∈ns->∀b,bq n=some b->w'.heap[b]? =w.heap[b]?)->Deep w' b4 ds cs ns:=by
 induction h with
 |nil=>intro _;exact .nil
 |row u ys e ab hp h hr _ ih=>intro hk;exact .row u ys e ab hp (td h (hk _ List.mem_cons_self)) ⟨hr.1,fun j g1 g2=>go (hr.2 j g1 g2)⟩ (ih fun n hn=>hk n (List.mem_cons_of_mem _ hn))
 |leaf hp h _ ih=>intro hk;exact .leaf hp (go h) (ih hk)
theorem Deep.one{av:Nat->Prop}{ds:List aJ}{cs ns:List Value}(h:Deep w av ds cs ns):∀u∈cs,u.oneCell'=true:=by
 induction h with
 |nil=>intro u hu;cases hu
 |row u ys e ab _ h _ _ ih=>
  intro v hv;rcases List.mem_cons.1 hv with rfl|hv
  ·rcases h.2 with⟨h,_⟩|⟨_,_,_,_,h,_⟩<;>rw[h]<;>rfl
  ·exact ih v hv
 |leaf _ h _ ih=>
  intro v hv;rcases List.mem_cons.1 hv with rfl|hv
  ·exact h.jt
  ·exact ih v hv
theorem aeG{o s:Nat}{t:aH}{xs:List (den t)}(h:qz st o s=some ⟨t,xs⟩):rowOf st o s=some ⟨t,xs⟩\/mW st o s=some ⟨t,xs⟩:=by
 unfold qz at h;split at h
 ·rename_i x hx;cases h;exact .inl hx
 ·exact .inr h
theorem ai.any(S:ai O U X B st tm w){o s:Nat}{t:aH}{xs:List (den t)}(h:qz st o s=some ⟨t,xs⟩):
  (∃aa,look st.sites o=some aa/\aa.b'=s)/\((b0 (B o)=.slice none 0 0/\xs=[])\/∃b c,b0 (B o)=.slice (some ⟨b,0,none⟩) xs.length c):=by
 rcases aeG h with h|h
 ·obtain⟨cs,_,hc⟩:=S.row h;refine⟨by rcases kE h with h|h<;>exact⟨_,h,rfl⟩,hc.imp id fun⟨b,c,h,_⟩=>⟨b,c,h⟩⟩
 ·have hl:=vT h;obtain⟨e,v,ns,cs,h1,_,h2,_⟩:=S.sites o _ hl;refine⟨⟨_,hl,rfl⟩,?_⟩;rw[h1];show(v=_/\_)\/∃b c,v=_;rcases h2.2 with⟨hv,h0⟩|⟨g,cap,cur,fz,hv,_⟩
  ·exact .inl ⟨hv,List.eq_nil_of_length_eq_zero h0⟩
  ·exact .inr ⟨g,cap,hv⟩
theorem ai.TS(S:ai O U X B st tm w){o:Nat}(h:bY st.sites o):(bJ (B o)).Nodup:=by
 obtain⟨aa,h1,h2⟩:=h;have:=S.sites o aa h1;cases aa with
 |box s cells=>obtain⟨b,T,cur,g,_⟩:=this;rw[g];simp[bJ,bq]
 |row s t xs=>
  obtain⟨e,cs,g,_⟩:=this;rw[(jR g).2];cases bq (B o)<;>simp
 |map s t es=>obtain⟨b,g,_⟩:=this;rw[g];simp[bJ,bq]
 |deep s t xs=>obtain⟨e,v,ns,cs,g1,g2,_⟩:=this;exact g2
 |da=>cases h2
 |dead=>cases h2
theorem ai.TR(S:ai O U X B st tm w):∀{ks:List Nat},(∀M,M∈ks->bY st.sites M)->ks.Nodup->(cD B ks).Nodup:=by
 intro ks;induction ks with
 |nil=>intro _ _;simp[cD]
 |cons k ks ih=>
  intro hl hn;obtain⟨n1,n2⟩:=List.nodup_cons.1 hn;unfold cD;rw[List.flatMap_cons];refine List.nodup_append.2 ⟨S.TS (hl k List.mem_cons_self),ih (fun M h=>hl M (List.mem_cons_of_mem _ h)) n2,fun a ha b hb e=>?_⟩
  subst e;obtain⟨M,bB,hb⟩:=List.mem_flatMap.1 hb;exact n1 (S.dC k M a (hl k List.mem_cons_self) (hl M (List.mem_cons_of_mem _ bB)) ha hb▸bB)
theorem ai.xZ(S:ai O U X B st tm w){o:Nat}{bF:Site}{nv:Value}{w':World}{ks:List (Nat×Site)}{K:List Nat}(qQ:fs st.sites ks)(bC:∀M,M∈K <-> M∈keys ks\/M=o/\bY st.sites o)
  (hw:∀b,b<w.heap.size->(∀M,M∈K->b∉bJ (B M))->w'.heap[b]? =w.heap[b]?) (hos:w'.os=w.os) (Km:w'.tape=w.tape) (xR:w'.output=w.output) (mh:w.heap.size<=w'.heap.size)
  (gE:bF.live=true) (n3:∀aa,look st.sites o=some aa->aa.b'<bF.b'\/(aa.b'=bF.b'/\b0 nv=b0 (B o)))
  (hN:∀b,b∈bJ nv->b<w'.heap.size/\((∃M,M∈K/\b∈bJ (B M))\/w.heap.size<=b))
  (eZ:∀{bw:List (Nat×Site)} {aD:Nat->Value},aD o=nv->(∀{a v},cj B st.sites w (ar X B st.sites) a v->cj aD bw w' (ar X aD bw) a v)->
   jS aD bw w' (ar X aD bw) o bF):
  ai O U X (fun M=>if M=o then nv else B M) {st with sites:=cg (aY st.sites ks) o bF} tm w':=by
 have qO:=aek qQ;have hold:∀M,M∈K->bY st.sites M:=by
  intro M h;rcases(bC M).1 h with h|⟨rfl,h⟩
  ·rcases qO M with⟨ae,_⟩|⟨_,aa,h1,h2,_⟩
   ·exact absurd h ae
   ·exact⟨aa,h1,h2⟩
  ·exact h
 have cE:∀M,bY (cg (aY st.sites ks) o bF) M->M=o\/(M≠o/\M∉K/\bY st.sites M):=by
  rintro M ⟨aa,h1,h2⟩;rw[cC] at h1;by_cases e:o=M
  ·exact .inl e.symm
  ·simp only[e,if_false] at h1;rcases qO M with⟨aw,an⟩|⟨aw,s,an,bo,cl⟩
   ·exact .inr ⟨fun h=>e h.symm,fun h=>((bC M).1 h).elim aw fun h=>e h.1.symm,aa,an▸h1,h2⟩
   ·rw[cl] at h1;cases h1;cases h2
 have xy:∀M b,M∉K->bY st.sites M->b∈bJ (B M)->w'.heap[b]? =w.heap[b]? :=fun M b h1 h2 h3=>hw b (S.eH h2 h3) fun ρ yq hb=>h1 (S.dC M ρ b h2 (hold ρ yq) h3 hb▸yq)
 refine S.qA (fun M aa bB=>?_) (fun b h hb=>hw b hb fun M bB ae=>h (.inr ⟨M,hold M bB,ae⟩)) (fun b h hb ae=>?_) (fun go M aa bB=>?_) (fun M ρ b h1 h2 g1 g2=>?_) (fun M b h1 g1=>?_) (fun M b h1 g1=>?_) ?_ mh
 ·rw[cC];by_cases e:o=M
  ·subst e;refine⟨bF,by simp,?_,fun h=>?_⟩
   ·rcases n3 aa bB with h|⟨h,_⟩<;>omega
   ·rcases n3 aa bB with ae|⟨_,ae⟩
    ·omega
    ·simpa using ae
  ·have b_:¬M=o:=fun h=>e h.symm
   rcases qO M with⟨aw,an⟩|⟨aw,s,an,bo,cl⟩
   ·exact⟨aa,by simp[e,an,bB],Nat.le_refl _,fun _=>by simp[b_]⟩
   ·rw[bB] at an;cases an;exact⟨.dead aa.b',by simp[e,cl],Nat.le_refl _,fun _=>by simp[b_]⟩
 ·rcases ae with ae|⟨M,h1,h2⟩
  ·exact h (.inl ae)
  ·rcases cE M h1 with rfl|⟨n1,n2,c9⟩
   ·simp only[if_true] at h2;rcases(hN b h2).2 with⟨ρ,h3,aE⟩|h3
    ·exact h (.inr ⟨ρ,hold ρ h3,aE⟩)
    ·omega
   ·simp only[n1,if_false] at h2;exact h (.inr ⟨M,c9,h2⟩)
 ·rw[cC] at bB;by_cases e:o=M
  ·subst e;simp only[if_true,Option.some.injEq] at bB;subst bB;exact .inr (eZ (by simp) go)
  ·have b_:¬M=o:=fun h=>e h.symm
   simp only[e,if_false] at bB;rcases qO M with⟨aw,an⟩|⟨aw,s,an,bo,cl⟩
   ·exact .inl ⟨an▸bB,by simp[b_],fun hl b hb=>xy M b (fun h=>((bC M).1 h).elim aw fun h=>e h.1.symm) ⟨aa,an▸bB,hl⟩ hb⟩
   ·rw[cl] at bB;cases bB;exact .inr trivial
 ·have key:∀M b,M∉K->bY st.sites M->b∈bJ (B M)->b∉bJ nv:=by
   intro M b n2 c9 hb hn;rcases(hN b hn).2 with⟨ρ,h3,aE⟩|h3
   ·exact n2 (S.dC M ρ b c9 (hold ρ h3) hb aE▸h3)
   ·have:=S.eH c9 hb;omega
  rcases cE M h1 with rfl|⟨n1,m1,c9⟩<;>rcases cE ρ h2 with rfl|⟨n2,m2,fU⟩
  ·rfl
  ·simp only[if_true] at g1;simp only[n2,if_false] at g2;exact absurd g1 (key ρ b m2 fU g2)
  ·simp only[if_true] at g2;simp only[n1,if_false] at g1;exact absurd g2 (key M b m1 c9 g1)
  ·simp only[n1,if_false] at g1;simp only[n2,if_false] at g2;exact S.dC M ρ b c9 fU g1 g2
 ·rcases cE M h1 with rfl|⟨n1,_,c9⟩
  ·simp only[if_true] at g1;rcases(hN b g1).2 with⟨ρ,h3,aE⟩|h3
   ·exact S.cf ρ b (hold ρ h3) aE
   ·exact⟨fun hx=>by have:=S.old b hx;have:=S.frame.size;omega,.inr (Nat.le_trans S.frame.size h3)⟩
  ·simp only[n1,if_false] at g1;exact S.cf M b c9 g1
 ·rcases cE M h1 with rfl|⟨n1,_,c9⟩
  ·simp only[if_true] at g1;exact(hN b g1).1
  ·simp only[n1,if_false] at g1;exact Nat.lt_of_lt_of_le (S.eH c9 g1) mh
 ·have aO:=S.frame;refine⟨hos.trans aO.os,Km.trans aO.tape,xR.trans aO.output,Nat.le_trans aO.size mh,fun b h1 h2=>?_⟩
  rw[hw b (Nat.lt_of_lt_of_le h1 aO.size) (fun M bB hb=>?_)]
  ·exact aO.block b h1 h2
  ·rcases(S.cf M b (hold M bB) hb).2 with h|h
   ·exact h2 h
   ·omega
theorem aet{t:aH}(h:t.iv=false)(x:den t):∀d,d∈enc t x->d.plain=true:=by
 cases t<;>first|(cases h;done)|(intro d Y;simp only[enc,List.mem_cons,List.not_mem_nil,or_false] at Y;(rcases Y with rfl|rfl|rfl|rfl|rfl);all_goals rfl)|skip
 all_goals(intro d Y;simp only[enc,List.mem_cons,List.not_mem_nil,or_false] at Y)
 all_goals first|(subst Y;rfl)|(rcases Y with rfl|rfl<;>rfl)|(rcases Y with rfl|rfl|rfl<;>rfl)|(rcases Y with rfl|rfl|rfl|rfl<;>rfl)
theorem FK{t:aH}(h:t.iv=false){xs:List (den t)}:∀d,d∈flat t xs->d.plain=true:=by
 intro d Y;simp only[flat,List.mem_flatMap] at Y;obtain⟨x,_,hx⟩:=Y;exact aet h x d hx
theorem G1(S:ai O U X B st tm w):∀{ab:List az} {ds:List aJ} {us:List (Nat×Site)} {vs:List Value},sinks st ab=some (ds,us)->cy B st.sites w (ar X B st.sites) ab vs->
  fs st.sites us/\∃ns,Deep w (ar X B st.sites) ds vs ns/\(ns.flatMap fun v=>(bq v).toList)=cD B (keys us):=by
 intro ab;induction ab with
 |nil=>intro ds us vs h hl;simp only[sinks] at h;cases h;rw[hl.l8];exact⟨.nil,[],.nil,rfl⟩
 |cons l ab ih=>
  intro ds us vs h hl;simp only[sinks] at h;split at h
  ·rename_i d u1 hq u2 h1 h2;cases h;obtain⟨v,ca,rfl,hv,hvs⟩:=hl.inv;obtain⟨g2,ns,an,bo⟩:=ih h2 hvs;unfold sink at h1;split at h1
   ·cases h1;exact⟨g2,ns,.leaf rfl hv an,bo⟩
   ·cases h1;exact⟨g2,ns,.leaf rfl hv an,bo⟩
   ·cases h1;exact⟨g2,ns,.leaf rfl hv an,bo⟩
   ·rename_i t;cases h1;have hv:v=.slice none 0 0:=hv;subst hv;exact⟨g2,_::ns,.row t [] 0 [] (fun d h=>by simp[flat] at h) (v7 w _ _ _) ⟨rfl,fun j h=>by simp[flat] at h⟩ an,by rw[List.flatMap_cons,bo];rfl⟩
   ·rename_i o s;split at h1
    ·rename_i au t xs gh;cases hb:(au.beq s&&!t.iv) with
     |false=>rw[hb] at h1;cases h1
     |true=>
      rw[hb] at h1;simp only[Bool.and_eq_true,Bool.not_eq_true'] at hb;have:=Nat.eq_of_beq_eq_true hb.1;subst this;cases h1;have al:look st.sites o=some (.row au t xs):=gh;obtain⟨e,cs,r1,r2⟩:=S.sites o _ al;have j4:v=B o:=(Ref.at hv.2 al rfl).trans (jR r1).1;subst j4;refine⟨fun M au hm=>?_,B o::ns,.row t xs e cs (FK hb.2) r1 ⟨by rw[eG];exact r1.1,r2⟩ an,?_⟩
      ·rcases List.mem_cons.1 hm with hm|hm
       ·cases hm;exact⟨_,al,rfl,rfl⟩
       ·exact g2 M au hm
      ·rw[List.flatMap_cons,bo,<-(jR r1).2];rfl
    ·cases h1
   ·cases h1
  ·cases h
theorem N7{ab:List az}:∀{ds:List aJ} {us:List (Nat×Site)},sinks st ab=some (ds,us)->hH ab=true:=by
 induction ab with
 |nil=>intro ds us _;rfl
 |cons l ab ih=>
  intro ds us h;simp only[sinks] at h;split at h
  ·rename_i d u1 hq u2 h1 h2;simp only[hH,Bool.and_eq_true];refine⟨?_,ih h2⟩;unfold sink at h1;split at h1<;>first|rfl|cases h1
  ·cases h
theorem afh(S:ai O U X B st tm w):∀{as:List bH} {t:aH} {xs:List (den t)} {us:List (Nat×Site)} {ws:List Value},nX t st as=some (xs,us)->ws.length=as.length->
  (∀j (h:j<as.length) (ae:j<ws.length),gZ B st.sites w (ar X B st.sites) (as[j]) (ws[j]))->
  xs.length=as.length/\fs st.sites us/\(∃ns,Deep w (ar X B st.sites) (flat t xs) (ws.flatMap fun v=>v.cells.toList) ns/\(ns.flatMap fun v=>(bq v).toList)=cD B (keys us))/\∀v,v∈ws->v.cells.size=aA t:=by
 intro as;induction as with
 |nil=>
  intro t xs us ws h hl _;simp only[nX] at h;cases h;have:ws=[]:=List.eq_nil_of_length_eq_zero hl;subst this;exact⟨rfl,.nil,⟨[],.nil,rfl⟩,fun v hv=>by simp at hv⟩
 |cons a as ih=>
  intro t xs us ws h hl eZ;match ws,hl with
  |v::ws,hl=>
  simp only[nX] at h;split at h
  ·rename_i ds u1 nj;split at h
   ·rename_i x iT u2 eM n';cases h;have b8:=eZ 0 (by simp) (by simp)
    simp only[List.getElem_cons_zero] at b8;have hP:=b8.cells (N7 nj);obtain⟨g1,gw,d1,b1⟩:=G1 S nj hP;obtain⟨g2,g3,⟨Eb,d2,b2⟩,g4⟩:=ih n' (by simpa using hl) (fun j h1 h2=>eZ (j+1) (by simpa using h1) (by simpa using h2))
    have pk:=o6 _ _ _ eM;refine⟨by simp[g2],g1.append g3,⟨gw++Eb,?_,?_⟩,fun u hu=>?_⟩
    ·simp only[flat,List.flatMap_cons];rw[pk];exact d1.cm d2
    ·rw[List.flatMap_append,b1,b2,hF,ld]
    ·rcases List.mem_cons.1 hu with rfl|hu
     ·have:u.cells.toList.length=ds.length:=d1.len;rw[<-pk,fW] at this;simpa using this
     ·exact g4 u hu
   ·cases h
  ·cases h
theorem OQ{aB:Type}{us:List (Nat×aB)}{o:Nat}(h:(look us o).isNone=true):o∉keys us:=by
 induction us with
 |nil=>simp[keys]
 |cons p us ih=>
  obtain⟨n,s⟩:=p;simp only[look] at h;cases hb:n.beq o with
  |true=>rw[hb] at h;cases h
  |false=>
   rw[hb] at h;intro hm;rcases List.mem_cons.1 hm with rfl|hm
   ·rw[Nat.beq_refl] at hb;cases hb
   ·exact ih h hm
theorem Am(t:aH){xs:List (den t)}{k:Nat}(hk:k<xs.length)(db:den t):flat t (xs.set k db)=flat t (xs.take k)++(enc t db++flat t (xs.drop (k+1))):=by
 rw[List.set_eq_take_append_cons_drop,if_pos hk,pX];rfl
theorem HJ(t:aH){xs:List (den t)}{k:Nat}{x:den t}(hx:xs[k]? =some x):flat t xs=flat t (xs.take k)++(enc t x++flat t (xs.drop (k+1))):=by
 have hk:k<xs.length:=(List.getElem?_eq_some_iff.1 hx).1;have:=Am t hk x;rw[<-this];congr 1
 have ly:xs[k]=x:=(List.getElem?_eq_some_iff.1 hx).2;rw[<-ly,List.set_getElem_self]
theorem ai.ae9(S:ai O U X B st tm w){o s k:Nat}{t:aH}{xs:List (den t)}{x db:den t}{v:Value}{us:List (Nat×Site)}{vs ns:List Value}(hb:look st.sites o=some (.deep s t xs))
  (hv:dF B st.sites w (ar X B st.sites) (.eR o s t k 0) v) (hx:xs[k]? =some x) (er:fs st.sites us) (hn:(keys us).Nodup) (bk:o∉keys us)
  (Y:Deep w (ar X B st.sites) (enc t db) vs ns) (hns:(ns.flatMap fun v=>(bq v).toList)=cD B (keys us)):
  ∃b T cur fz nv,v=.pointer (some ⟨b,k*aA t,none⟩)/\w.heap[b]? =some (.cells (List.toArray cur) T fz)/\mu t.fu T cur.toArray fz/\k*aA t+vs.length<=cur.length/\
   ai O U X (fun M=>if M=o then nv else B M) {st with sites:=cg (aY st.sites us) o (.deep s t (xs.set k db))} tm (w.setRow b (bA cur (k*aA t) vs).toArray):=by
 obtain⟨b,pw,kZ⟩:=hv;obtain⟨n,c,bX⟩:=Ref.at kZ hb rfl;obtain⟨e,v0,jE,cs,h0,eJ,hrow,mi⟩:=S.sites o _ hb;have hk:k<xs.length:=(List.getElem?_eq_some_iff.1 hx).1;rw[h0] at bX;replace bX:v0=.slice (some ⟨b,0,none⟩) n c:=bX
 obtain⟨sB,h⟩:=hrow;rcases h with⟨fv,_⟩|⟨g,cap,cur,fz,hQ,nC,hg,hnc,hcm,hcs,htk⟩
 ·rw[bX] at fv;cases fv
 ·rw[bX] at hQ;cases hQ;have nB:(k+1)*aA t<=xs.length*aA t:=Nat.mul_le_mul_right _ hk;have hk2:xs.length*aA t<=c*aA t:=Nat.mul_le_mul_right _ hnc;rw[Nat.add_mul,Nat.one_mul] at nB;have lA:vs.length=aA t:=by rw[Y.len,fW]
  have iR:cur.toList.length=c*aA t:=by simpa using hcs
  have jV:k*aA t+vs.length<=cur.toList.length:=by omega
  rw[HJ t hx] at mi;obtain⟨c1,_z,n1,iE,rfl,rfl,d1,d23⟩:=mi.inv;obtain⟨c2,c3,n2,e0,rfl,rfl,d2,d3⟩:=d23.inv;have c9:c1.length=k*aA t:=by rw[d1.len,eG,List.length_take,Nat.min_eq_left (Nat.le_of_lt hk)]
  have fU:c2.length=aA t:=by rw[d2.len,fW]
  have gE:bY st.sites o:=⟨_,hb,rfl⟩;have uR:b∈bJ (B o):=by rw[h0];exact kb.2 (.inl (by rw[bX];rfl))
  have U5:bq v0=some b:=by rw[bX];rfl
  have old:∀M,M∈keys us->bY st.sites M:=fun M h=>by
   obtain⟨au,ae⟩:=p_ h;obtain⟨aa,aw,an,_⟩:=er M au ae;exact⟨aa,aw,an⟩
  have axt:∀y,y∈n1++(n2++e0)->∀bf,bq y=some bf->bf∈bJ (B o):=fun y hy bf cd=>by rw[h0];exact kb.2 (.inr ⟨y,hy,cd⟩)
  have Eg:∀y,y∈ns->∀bf,bq y=some bf->∃M,M∈keys us/\bf∈bJ (B M):=fun y hy bf cd=>by
   have:bf∈ns.flatMap fun v=>(bq v).toList:=List.mem_flatMap.2 ⟨y,hy,by rw[cd];simp⟩
   rw[hns] at this;exact List.mem_flatMap.1 this
  have Dd:bJ (.tuple (v0::(n1++(ns++e0))).toArray)=b::((n1.flatMap fun v=>(bq v).toList)++(cD B (keys us)++e0.flatMap fun v=>(bq v).toList)):=by
   simp[bJ,U5,hns]
  have uB:bJ (B o)=b::((n1.flatMap fun v=>(bq v).toList)++((n2.flatMap fun v=>(bq v).toList)++e0.flatMap fun v=>(bq v).toList)):=by
   rw[h0];simp[bJ,U5]
  refine⟨b,e,cur.toList,fz,.tuple (v0::(n1++(ns++e0))).toArray,by simpa using pw,by simpa using hg,by simpa using nC,jV,?_⟩
  refine S.xZ (K:=o::keys us) er (fun M=>?_) (fun bf cd hne=>setRow_other w b bf _ ?_) rfl rfl rfl (by rw[setRow_size];exact Nat.le_refl _) rfl (fun aa hs=>?_) (fun bf cd=>?_) (fun {bw aD} ej go=>?_)
  ·constructor
   ·intro h;rcases List.mem_cons.1 h with rfl|h
    ·exact .inr ⟨rfl,gE⟩
    ·exact .inl h
   ·rintro(h|⟨rfl,_⟩)
    ·exact List.mem_cons_of_mem _ h
    ·exact List.mem_cons_self
  ·rintro rfl;exact hne o List.mem_cons_self uR
  ·rw[hb] at hs;cases hs;exact .inr ⟨rfl,by rw[h0];rfl⟩
  ·rw[setRow_size];rw[Dd] at cd;have:(∃M,M∈o::keys us/\bf∈bJ (B M)):=by
    simp only[List.mem_cons,List.mem_append] at cd;rcases cd with rfl|cd|cd|cd
    ·exact⟨o,List.mem_cons_self,uR⟩
    ·exact⟨o,List.mem_cons_self,by rw[uB];simp only[List.mem_cons,List.mem_append];exact .inr (.inl cd)⟩
    ·obtain⟨M,h1,h2⟩:=List.mem_flatMap.1 cd;exact⟨M,List.mem_cons_of_mem _ h1,h2⟩
    ·exact⟨o,List.mem_cons_self,by rw[uB];simp only[List.mem_cons,List.mem_append];exact .inr (.inr (.inr cd))⟩
   refine⟨?_,.inl this⟩;obtain⟨M,h1,h2⟩:=this;rcases List.mem_cons.1 h1 with rfl|h1
   ·exact S.eH gE h2
   ·exact S.eH (old M h1) h2
  ·have hg':=setRow_heap w b cur (bA cur.toList (k*aA t) vs).toArray e fz hg;have hb1:b∉(n1.flatMap fun v=>(bq v).toList)++((n2.flatMap fun v=>(bq v).toList)++e0.flatMap fun v=>(bq v).toList):=by
    have:=eJ;rw[uB] at this;exact(List.nodup_cons.1 this).1
   have kS:∀y,y∈n1++(ns++e0)->∀bf,bq y=some bf->(w.setRow b (bA cur.toList (k*aA t) vs).toArray).heap[bf]? =w.heap[bf]? :=by
    intro y hy bf cd;refine setRow_other w b bf _ ?_
    rintro rfl;simp only[List.mem_append] at hy;rcases hy with hy|hy|hy
    ·exact hb1 (List.mem_append.2 (.inl (List.mem_flatMap.2 ⟨y,hy,by rw[cd];simp⟩)))
    ·obtain⟨M,h1,h2⟩:=Eg y hy _ cd;exact bk (S.dC o M _ gE (old M h1) uR h2▸h1)
    ·exact hb1 (List.mem_append.2 (.inr (List.mem_append.2 (.inr (List.mem_flatMap.2 ⟨y,hy,by rw[cd];simp⟩)))))
   refine⟨e,v0,n1++(ns++e0),c1++(vs++c3),ej,?_,⟨?_,.inr ⟨b,c,_,fz,?_,?_,hg',?_,hcm,?_,?_⟩⟩,?_⟩
   ·rw[ej,Dd];have hu:=S.TR old hn;rw[uB] at eJ;obtain⟨m1,m2⟩:=List.nodup_cons.1 eJ;obtain⟨m3,m4,m5⟩:=List.nodup_append.1 m2;obtain⟨m6,m7,m8⟩:=List.nodup_append.1 m4;have apart:∀a,a∈cD B (keys us)->a∉bJ (B o):=by
     intro a ha fx;obtain⟨M,h1,h2⟩:=List.mem_flatMap.1 ha;exact bk (S.dC o M a gE (old M h1) fx h2▸h1)
    refine List.nodup_cons.2 ⟨fun h=>?_,List.nodup_append.2 ⟨m3,List.nodup_append.2 ⟨hu,m7,fun a ha bf cd e=>?_⟩,fun a ha bf cd e=>?_⟩⟩
    ·simp only[List.mem_append] at h;rcases h with h|h|h
     ·exact m1 (List.mem_append.2 (.inl h))
     ·exact apart _ h uR
     ·exact m1 (List.mem_append.2 (.inr (List.mem_append.2 (.inr h))))
    ·subst e;exact apart a ha (by rw[uB];simp only[List.mem_cons,List.mem_append];exact .inr (.inr (.inr cd)))
    ·subst e;rcases List.mem_append.1 cd with cd|cd
     ·exact apart a cd (by rw[uB];simp only[List.mem_cons,List.mem_append];exact .inr (.inl ha))
     ·exact m5 a ha a (List.mem_append.2 (.inr cd)) rfl
   ·rw[List.length_set];simp only[List.length_append] at sB ⊢;omega
   ·rw[bX,List.length_set]
   ·refine⟨nC.1,?_⟩;rcases nC.2 with h|⟨h,ae⟩
    ·exact .inl h
    ·refine .inr ⟨h,?_⟩;rw[List.size_toArray,nO _ _ _ jV];simpa using ae
   ·rw[List.length_set];exact hnc
   ·rw[List.size_toArray,nO _ _ _ jV];exact iR
   ·rw[List.length_set,List.toList_toArray,Fq _ _ _ _ (by omega) (by rw[iR];omega),htk]
    unfold bA;rw[<-c9,List.take_left' rfl,lA,<-fU,<-List.append_assoc,<-List.append_assoc,<-List.length_append,List.drop_left' rfl]
   ·rw[Am t hk];have kw:∀{d v},bm w (ar X B st.sites) d v->bm _ (ar X aD bw) d v:=kK go;exact(d1.map kw fun y hy=>kS y (List.mem_append.2 (.inl hy))).cm ((Y.map kw fun y hy=>kS y (List.mem_append.2 (.inr (List.mem_append.2 (.inl hy))))).cm (d3.map kw fun y hy=>kS y (List.mem_append.2 (.inr (List.mem_append.2 (.inr hy))))))
theorem ags(t:aH)(x db:den t):(enc t x).map aJ.plain=(enc t db).map aJ.plain:=by cases t<;>rfl
theorem OX{d:aJ}(h:d.jh=true):d.plain=true:=by cases d<;>first|rfl|cases h
theorem Ue{t:aH}{x:den t}{off:Nat}(h:off<aA t):∃d,(enc t x)[off]? =some d/\enc t x=(enc t x).take off++d::(enc t x).drop (off+1):=by
 have hl:off<(enc t x).length:=by rw[fW];exact h
 refine⟨(enc t x)[off],List.getElem?_eq_getElem hl,?_⟩;rw[List.getElem_cons_drop,List.take_append_drop]
theorem Pj{aB:Type}{l:List aB}{off:Nat}{d:aB}:bA l off [d]=l.take off++d::l.drop (off+1):=by simp[bA]
theorem ab4{aB:Type}{a b c:List aB}{y z:aB}{p:Nat}(h:p=a.length+b.length):bA (a++((b++y::c))) p [z]=a++(b++z::c):=by
 subst h;unfold bA;rw[<-List.append_assoc,<-List.length_append,List.take_left' rfl];have:(a++b++y::c).drop ((a++b).length+[z].length)=c:=by
  rw[List.drop_append,List.drop_eq_nil_of_le (by simp)]
  simp
 rw[this];simp
theorem ai.adL(S:ai O U X B st tm w){o s k off:Nat}{t:aH}{xs:List (den t)}{x db:den t}{v u:Value}{d:aJ}(hb:look st.sites o=some (.deep s t xs))
  (hv:dF B st.sites w (ar X B st.sites) (.eR o s t k off) v) (hx:xs[k]? =some x) (Y:dec t (bA (enc t x) off [d])=some db) (hp:d.jh=true) (ay:off<aA t) (hu:bm w (ar X B st.sites) d u):
  ∃b T cur fz,v=.pointer (some ⟨b,k*aA t+off,none⟩)/\w.heap[b]? =some (.cells (List.toArray cur) T fz)/\mu t.fu T cur.toArray fz/\k*aA t+off+1<=cur.length/\
   ai O U X B {st with sites:=cg st.sites o (.deep s t (xs.set k db))} tm (w.setRow b (bA cur (k*aA t+off) [u]).toArray):=by
 obtain⟨b,pw,kZ⟩:=hv;obtain⟨n,c,bX⟩:=Ref.at kZ hb rfl;obtain⟨e,v0,jE,cs,h0,eJ,hrow,mi⟩:=S.sites o _ hb;have hk:k<xs.length:=(List.getElem?_eq_some_iff.1 hx).1;rw[h0] at bX;replace bX:v0=.slice (some ⟨b,0,none⟩) n c:=bX
 obtain⟨sB,h⟩:=hrow;rcases h with⟨fv,_⟩|⟨g,cap,cur,fz,hQ,nC,hg,hnc,hcm,hcs,htk⟩
 ·rw[bX] at fv;cases fv
 ·rw[bX] at hQ;cases hQ;have nB:(k+1)*aA t<=xs.length*aA t:=Nat.mul_le_mul_right _ hk;have hk2:xs.length*aA t<=c*aA t:=Nat.mul_le_mul_right _ hnc;rw[Nat.add_mul,Nat.one_mul] at nB;have iR:cur.toList.length=c*aA t:=by simpa using hcs
  have jV:k*aA t+off+[u].length<=cur.toList.length:=by simp only[List.length_singleton];omega
  rw[HJ t hx] at mi;obtain⟨c1,_z,n1,iE,rfl,rfl,d1,d23⟩:=mi.inv;obtain⟨c2,c3,n2,e0,rfl,rfl,d2,d3⟩:=d23.inv;have c9:c1.length=k*aA t:=by rw[d1.len,eG,List.length_take,Nat.min_eq_left (Nat.le_of_lt hk)]
  have fU:c2.length=aA t:=by rw[d2.len,fW]
  obtain⟨d0,Ez,pk⟩:=Ue (x:=x) ay;have Dc:enc t db=(enc t x).take off++d::(enc t x).drop (off+1):=by rw[o6 _ _ _ Y,Pj]
  have pC:d0.plain=true:=by
   have h1:=congrArg (fun l=>l[off]?) (ags t x db)
   simp only[List.getElem?_map,Ez,Option.map_some] at h1;have h2:(enc t db)[off]? =some d:=by
    rw[Dc,List.getElem?_append_right (by simp[fW];omega)]
    simp[fW,Nat.min_eq_left (Nat.le_of_lt ay)]
   rw[h2] at h1;simp only[Option.map_some,Option.some.injEq] at h1;rw[h1];exact OX hp
  rw[pk] at d2;obtain⟨ze,auH,ES,yj,rfl,rfl,vH,auF⟩:=d2.inv;have ayn:ze.length=off:=by rw[vH.len,List.length_take,fW];omega
  have gE:bY st.sites o:=⟨_,hb,rfl⟩;have uR:b∈bJ (B o):=by rw[h0];exact kb.2 (.inl (by rw[bX];rfl))
  obtain⟨c0,iH,rfl,auD⟩:∃c0 iH,auH=c0::iH/\Deep w (ar X B st.sites) ((enc t x).drop (off+1)) iH yj:=by
   cases auF with
   |row u ys e ab pD h hr k'=>cases pC
   |leaf pD h k'=>exact⟨_,_,rfl,k'⟩
  have Kn:(fun M=>if M=o then B o else B M)=B:=by funext M;by_cases e:M=o<;>simp[e]
  have G:=S.xZ (o:=o) (bF:=.deep s t (xs.set k db)) (nv:=B o) (w':=w.setRow b (bA cur.toList (k*aA t+off) [u]).toArray) (ks:=[]) (K:=[o]) .nil (fun M=>by simp[keys];intro e;subst e;exact gE)
   (fun bf cd hne=>setRow_other w b bf _ (by rintro rfl;exact hne o (by simp) uR)) rfl rfl rfl (by rw[setRow_size];exact Nat.le_refl _) rfl (fun aa hs=>by rw[hb] at hs;cases hs;exact .inr ⟨rfl,rfl⟩)
   (fun bf cd=>⟨by rw[setRow_size];exact S.eH gE cd,.inl ⟨o,by simp,cd⟩⟩) (fun {bw aD} ej go=>?_)
  ·rw[Kn] at G;exact⟨b,e,cur.toList,fz,pw,by simpa using hg,by simpa using nC,by simpa using jV,G⟩
  ·have hg':=setRow_heap w b cur (bA cur.toList (k*aA t+off) [u]).toArray e fz hg;have hb1:∀y,y∈n1++(ES++yj++e0)->∀bf,bq y=some bf->bf≠b:=by
    rintro y hy bf cd rfl;have:=eJ;rw[h0] at this;simp only[bJ,List.flatMap_cons] at this;rw[bX] at this;exact(List.nodup_append.1 this).2.2 bf (by simp[bq]) bf (List.mem_flatMap.2 ⟨y,hy,by rw[cd];simp⟩) rfl
   have kS:∀y,y∈n1++(ES++yj++e0)->∀bf,bq y=some bf->(w.setRow b (bA cur.toList (k*aA t+off) [u]).toArray).heap[bf]? =w.heap[bf]? :=fun y hy bf cd=>setRow_other w b bf _ (hb1 y hy bf cd)
   have kw:∀{d v},bm w (ar X B st.sites) d v->bm _ (ar X aD bw) d v:=kK go;refine⟨e,v0,n1++(ES++yj++e0),c1++((ze++u::iH)++c3),ej.trans h0,by rw[ej];exact eJ,⟨?_,.inr ⟨b,c,_,fz,?_,?_,hg',?_,hcm,?_,?_⟩⟩,?_⟩
   ·rw[List.length_set];simp only[List.length_append,List.length_cons] at sB ⊢;omega
   ·rw[bX,List.length_set]
   ·refine⟨nC.1,?_⟩;rcases nC.2 with h|⟨h,ae⟩
    ·exact .inl h
    ·refine .inr ⟨h,?_⟩;rw[List.size_toArray,nO _ _ _ jV];simpa using ae
   ·rw[List.length_set];exact hnc
   ·rw[List.size_toArray,nO _ _ _ jV];exact iR
   ·rw[List.length_set,List.toList_toArray,Fq _ _ _ _ (by simp only[List.length_singleton];omega) (by rw[iR];omega),htk]
    simp only[List.append_assoc,List.cons_append];exact ab4 (by omega)
   ·rw[Am t hk,Dc];exact(d1.map kw fun y hy=>kS y (List.mem_append.2 (.inl hy))).cm ((((vH.map kw fun y hy=>kS y (by simp[hy])).cm (.leaf (OX hp) (kw hu) (auD.map kw fun y hy=>kS y (by simp[hy])))):Deep _ _ _ _ (ES++yj)).cm
     (d3.map kw fun y hy=>kS y (by simp[hy])))
theorem ai.RG(S:ai O U X B st tm w){o:Nat}{t:aH}{xs:List (den t)}{us:List (Nat×Site)}{cs ns rest:List Value}{T:TypeId}{cap:Nat}(er:fs st.sites us)(hn:(keys us).Nodup)(bk:o∉keys us)
  (Y:Deep w (ar X B st.sites) (flat t xs) cs ns) (hns:(ns.flatMap fun v=>(bq v).toList)=cD B (keys us)) (hcap:cs.length+rest.length=cap*aA t) (hm:cap<=maxLen) (fa:t.fu=true->T=mC):
  ai O U X (fun M=>if M=o then .tuple (.slice (some ⟨w.heap.size,0,none⟩) xs.length cap::ns).toArray else B M) {st with sites:=cg (aY st.sites us) o (.deep (aZ st o) t xs)} tm (w.alloc (.cells (cs++rest).toArray T (0,0))):=by
 have hcl:cs.length=xs.length*aA t:=by rw[Y.len,eG]
 have hle:xs.length<=cap:=by
  have:xs.length*aA t<=cap*aA t:=by omega
  exact Nat.le_of_mul_le_mul_right this (kd t)
 have old:∀M,M∈keys us->bY st.sites M:=fun M h=>by
  obtain⟨au,ae⟩:=p_ h;obtain⟨aa,aw,an,_⟩:=er M au ae;exact⟨aa,aw,an⟩
 obtain⟨K,bC⟩:∃K:List Nat,∀M,M∈K <-> M∈keys us\/M=o/\bY st.sites o:=by
  by_cases h:bY st.sites o
  ·exact⟨o::keys us,fun M=>by simp[h,or_comm]⟩
  ·exact⟨keys us,fun M=>by simp[h]⟩
 have Eg:∀y,y∈ns->∀bf,bq y=some bf->∃M,M∈keys us/\bf∈bJ (B M):=fun y hy bf cd=>by
  have:bf∈ns.flatMap fun v=>(bq v).toList:=List.mem_flatMap.2 ⟨y,hy,by rw[cd];simp⟩
  rw[hns] at this;exact List.mem_flatMap.1 this
 have Dd:bJ (.tuple (.slice (some ⟨w.heap.size,0,none⟩) xs.length cap::ns).toArray)=w.heap.size::cD B (keys us):=by
  simp only[bJ,List.flatMap_cons,hns];rfl
 refine S.xZ (K:=K) er bC (fun b hb _=>RowKit.Below.heap_alloc w _ b hb) rfl rfl rfl (by simp) rfl (fun aa hs=>.inl (kD hs)) (fun b hb=>?_) (fun {bw aD} ej go=>?_)
 ·rcases kb.1 hb with hb|⟨n,fv,hb⟩
  ·have hb:w.heap.size=b:=Option.some.inj hb;subst hb;exact⟨by simp,.inr (Nat.le_refl _)⟩
  ·obtain⟨M,h1,h2⟩:=Eg n fv b hb;have:=S.eH (old M h1) h2;exact⟨by simp;omega,.inl ⟨M,(bC M).2 (.inl h1),h2⟩⟩
 ·refine⟨T,_,ns,cs,ej,?_,⟨hcl,.inr ⟨w.heap.size,cap,_,(0,0),rfl,⟨fa,.inl rfl⟩,heap_alloc_new w _,hle,hm,by simp[hcap],by rw[<-hcl];simp⟩⟩,?_⟩
  ·rw[ej,Dd,List.nodup_cons];refine⟨fun h=>?_,S.TR old hn⟩
   obtain⟨M,h1,h2⟩:=List.mem_flatMap.1 h;have:=S.eH (old M h1) h2;omega
  ·refine Y.map (fun h=>kK go h) fun n fv b hb=>?_
   obtain⟨M,h1,h2⟩:=Eg n fv b hb;exact RowKit.Below.heap_alloc w _ b (S.eH (old M h1) h2)
theorem abr(S:ai O U X B st tm w){C:Ctx}(H:CtxOk P C){T e:TypeId}{t:aH}{bytes len o:Nat}{parts:Array (Nat×Operand)}(a_:C.tt T=.slice e t bytes)(ay:D.op=.buildSlice T len parts)
  (Y:ce st D.dst=true) (hlen:parts.toList.length=len) (ng:qf 0 parts.toList=true) (xf:len*aA t<=1000) {as:List bH} {xs:List (den t)} {us:List (Nat×Site)}
  (has:ob (parts.toList.map fun p=>aS C st e p.2)=some as) (eM:nX t st as=some (xs,us)) (hn:(keys us).Nodup) (bk:o∉keys us):
  cJ P O U X st tm w D (bP (.own o (aZ st o))) (us++[(o,.deep (aZ st o) t xs)]):=by
 obtain⟨eL,i,z,hi,h_,pG,lF,hzs,fa⟩:=pY H a_;obtain⟨pJ,lG⟩:=PB has;let ws:List Value:=parts.toList.map fun p=>Act.eval ⟨tm,[]⟩ p.2
 have yv:ws.length=as.length:=by rw[<-pJ];simp[ws]
 have K3:∀j (h:j<as.length) (ae:j<ws.length),gZ B st.sites w (ar X B st.sites) (as[j]) (ws[j]):=by
  intro j h1 h2;have hj:j<(parts.toList.map fun p=>aS C st e p.2).length:=by rw[pJ];exact h1
  have:=lG j hj h1;simp only[List.getElem_map] at this;have bv:=de S C e (parts.toList[j]'(by simpa using hj)).2
  rw[this] at bv;have h3:cj B st.sites w (ar X B st.sites) (.av (as[j])) (ws[j]):=by simpa[ws] using bv
  exact h3
 obtain⟨hxl,er,⟨ns,yM,hns⟩,hcs⟩:=afh S eM yv K3;have rZ:xs.length=len:=by rw[hxl,<-yv];simpa[ws] using hlen
 have hcl:(ws.flatMap fun v=>v.cells.toList).length=len*aA t:=by rw[yM.len,eG,rZ]
 have hm:len<=maxLen:=by
  have:len*1<=len*aA t:=Nat.mul_le_mul_left _ (kd t);unfold maxLen;omega
 have b7:=S.RG (o:=o) (rest:=[]) (T:=e) (cap:=len) er hn bk yM hns (by simp[hcl]) hm fa
 rw[rZ,List.append_nil] at b7;have qn:aY st.sites (us++[(o,.deep (aZ st o) t xs)])=cg (aY st.sites us) o (.deep (aZ st o) t xs):=by rw[jq];rfl
 have cY:=N' (tm:=tm) (w:=w) H a_ hlen ng xf (ws:=ws) rfl hcs hcl;refine jN (us:=us++[(o,.deep (aZ st o) t xs)]) (by rw[qn];exact b7) Y (vv:=.slice (some ⟨w.heap.size,0,none⟩) len len) ?_ ?_
 ·unfold execOp;simp only[ay,Sem.run_bind];have Ko:=cY;simp only[Ko,Result.andThen_ok,Sem.run_pure]
 ·rw[qn];refine⟨rfl,Ref.mk (aa:=.deep (aZ st o) t xs) ?_ rfl (by simp[b0])⟩
  simp only[cC];simp
theorem abq{av:Nat->Prop}{t:aH}{z:den t}{zs ns:List Value}(h:Deep w av (enc t z) zs ns)(n:Nat):Deep w av (flat t (List.replicate n z)) ((List.replicate n zs).flatten) ((List.replicate n ns).flatten):=by
 induction n with
 |zero=>exact .nil
 |succ n ih=>
  have:=h.cm ih;simpa[List.replicate_succ,flat,List.flatMap_cons] using this
theorem abE(S:ai O U X B st tm w){C:Ctx}(H:CtxOk P C){T e:TypeId}{t:aH}{bytes o:Nat}{l c:Operand}{kn km:IntKind}{n m:Int}{z:List az}{ds:List aJ}{us:List (Nat×Site)}{eO:den t}(a_:C.tt T=.slice e t bytes)(ay:D.op=.makeSlice T l c)
  (Y:ce st D.dst=true) (hl:aS C st 0 l=.av (.ag (.d (.int kn n)))) (hc:aS C st 0 c=.av (.ag (.d (.int km m)))) (hz:(C.tt e).zero=some z) (eT:sinks st z=some (ds,us)) (er:us.isEmpty=true) (eM:dec t ds=some eO):
  ∀r,j2 bytes n m eO=some r->cJ P O U X st tm w D (bP (.own o (aZ st o))) [(o,.deep (aZ st o) t r)]:=by
 intro r hr;obtain⟨eL,i,gi,hi,h_,pG,lF,hzs,fa⟩:=pY H a_;obtain⟨v,hv,nu⟩:=cp.AG (w:=w) (H.tt e) hz;have Mq:v=gi:=by
  simp[zeroValue,typeInfo,hi,lF] at hv;exact hv.symm
 subst Mq;obtain⟨h1,h2,h3⟩:=s' nu;have er:us=[]:=List.isEmpty_iff.1 er;subst er;obtain⟨_,ns,_i,yE⟩:=G1 S eT ⟨h1,h3 _ _ _ _⟩;rw[<-o6 _ _ _ eM] at _i;have yE:(ns.flatMap fun v=>(bq v).toList)=[]:=yE
 unfold j2 at hr;split at hr
 ·rename_i hb;obtain⟨b1,b2,b3,lR⟩:=hb;cases hr;have e1:Act.eval ⟨tm,[]⟩ l=.int kn n:=by
   have:=de S C 0 l;rw[hl] at this;have this:bm _ _ (.int kn n) _:=this;generalize Act.eval ⟨tm,[]⟩ l=u at this;cases this;rfl
  have e2:Act.eval ⟨tm,[]⟩ c=.int km m:=by
   have:=de S C 0 c;rw[hc] at this;have this:bm _ _ (.int km m) _:=this;generalize Act.eval ⟨tm,[]⟩ c=u at this;cases this;rfl
  have xQ:=abq _i n.toNat;have hlen:((List.replicate n.toNat v.cells.toList).flatten).length=n.toNat*aA t:=by
   rw[xQ.len,eG,List.length_replicate]
  have xe:(List.replicate m.toNat v.cells.toList).flatten=(List.replicate n.toNat v.cells.toList).flatten++(List.replicate (m.toNat-n.toNat) v.cells.toList).flatten:=by
   rw[<-List.flatten_append,List.replicate_append_replicate];congr 2;omega
  have hcap:((List.replicate n.toNat v.cells.toList).flatten).length+((List.replicate (m.toNat-n.toNat) v.cells.toList).flatten).length=m.toNat*aA t:=by
   rw[<-List.length_append,<-xe];simp[hzs]
  have hmax:m.toNat<=maxLen:=by omega
  have hns:(((List.replicate n.toNat ns).flatten).flatMap fun v=>(bq v).toList)=cD B (keys ([]:List (Nat×Site))):=by
   have:∀k,(((List.replicate k ns).flatten).flatMap fun v=>(bq v).toList)=[]:=fun k=>by
    induction k with
    |zero=>rfl
    |succ k ih=>rw[List.replicate_succ,List.flatten_cons,List.flatMap_append,yE,ih];rfl
   exact this _
  have b7:=S.RG (o:=o) (T:=e) (us:=[]) .nil List.nodup_nil (by simp[keys]) xQ hns hcap hmax fa
  rw[List.length_replicate,<-xe] at b7;refine jN (us:=[(o,.deep (aZ st o) t (List.replicate n.toNat eO))]) b7 Y (vv:=.slice (some ⟨w.heap.size,0,none⟩) n.toNat m.toNat) ?_ ?_
  ·unfold execOp;simp only[ay,e1,e2,Sem.run_bind];have cY:=Oc (C:=C) (w:=w) (kn:=kn) (km:=km) eL hi h_ pG lF hzs b1 b2 b3 lR;simp only[cY,Result.andThen_ok,Sem.run_pure]
  ·refine⟨rfl,Ref.mk (aa:=.deep (aZ st o) t (List.replicate n.toNat eO)) ?_ rfl (by simp[b0])⟩
   simp only[aY,cC];simp
 ·cases hr
theorem Src.alr{u:Bool}{e:TypeId}{size n:Nat}{v:Value}{cs:List Value}(h:rowAt w u e size v n cs)(apo:∀x∈cs,x.oneCell'=true):Src w size v n cs:=by
 refine⟨h.1,apo,?_⟩;rcases h.2 with⟨h1,h2⟩|⟨g,cap,cur,fz,h1,_,hg,_,_,_,htk⟩
 ·exact .inl ⟨h1,h2⟩
 ·refine .inr (.inl ⟨⟨g,0,none⟩,cap,h1,fun j u hu=>?_⟩)
  rw[gV,Nat.zero_add,cell_of_row w g j cur e fz hg];rw[<-htk,List.getElem?_take] at hu;split at hu
  ·simpa using hu
  ·cases hu
theorem SF{v:Value}{b:Nat}(h:v.ownBlock=some b):bq v=some b:=by
 cases v<;>first|cases h|skip
 rename_i a n c;cases a<;>first|exact h|cases h
theorem ai.PF(S:ai O U X B st tm w){dst b':Nat}{t:aH}{xs ys:List (den t)}{ks:List (Nat×Site)}{v0 v':Value}{EF sL jE gw:List Value}{w':World}{b_:TypeId}(qQ:fs st.sites ks)
  (d0:Deep w (ar X B st.sites) (flat t xs) EF jE) (d1:Deep w (ar X B st.sites) (flat t ys) sL gw) (dJ:(bJ (.tuple (v0::(jE++gw)).toArray)).Nodup) (DH:∀b,b∈bJ (.tuple (v0::(jE++gw)).toArray)->∃M,M∈keys ks/\b∈bJ (B M))
  (h2:rowAt w' t.fu b_ (aA t) v' (xs.length+ys.length) (EF++sL)) (h3:w.grownBy w' v0.ownBlock) (aE:∀b,bq v'=some b->b<w'.heap.size/\(bq v0=some b\/w.heap.size<=b)) (n3:∀aa,look st.sites dst=some aa->aa.b'<b'):
  ai O U X (fun M=>if M=dst then .tuple (v'::(jE++gw)).toArray else B M) {st with sites:=cg (aY st.sites ks) dst (.deep b' t (xs++ys))} tm w':=by
 have old:∀M,M∈keys ks->bY st.sites M:=fun M h=>by
  obtain⟨au,ae⟩:=p_ h;obtain⟨aa,aw,an,_⟩:=qQ M au ae;exact⟨aa,aw,an⟩
 obtain⟨K,bC⟩:∃K:List Nat,∀M,M∈K <-> M∈keys ks\/M=dst/\bY st.sites dst:=by
  by_cases h:bY st.sites dst
  ·exact⟨dst::keys ks,fun M=>by simp[h,or_comm]⟩
  ·exact⟨keys ks,fun M=>by simp[h]⟩
 have u':∀b,bq v0=some b->b∈bJ (.tuple (v0::(jE++gw)).toArray):=fun b h=>kb.2 (.inl h)
 have yp:∀n,n∈jE++gw->∀b,bq n=some b->b∈bJ (.tuple (v0::(jE++gw)).toArray):=fun n hn b h=>kb.2 (.inr ⟨n,hn,h⟩)
 have lt:∀b,b∈bJ (.tuple (v0::(jE++gw)).toArray)->b<w.heap.size:=fun b hb=>by
  obtain⟨M,aw,an⟩:=DH b hb;exact S.eH (old M aw) an
 have EZ:bJ (.tuple (v0::(jE++gw)).toArray)=(bq v0).toList++(jE++gw).flatMap fun v=>(bq v).toList:=by simp only[bJ,List.flatMap_cons]
 have awk:bJ (.tuple (v'::(jE++gw)).toArray)=(bq v').toList++(jE++gw).flatMap fun v=>(bq v).toList:=by simp only[bJ,List.flatMap_cons]
 rw[EZ] at dJ;obtain⟨a1,a2,a3⟩:=List.nodup_append.1 dJ;have kS:∀n,n∈jE++gw->∀b,bq n=some b->w'.heap[b]? =w.heap[b]? :=fun n hn b hb=>h3.block b (lt b (yp n hn b hb)) fun e=>
  a3 b (by rw[SF e.symm];simp) b (List.mem_flatMap.2 ⟨n,hn,by rw[hb];simp⟩) rfl
 refine S.xZ (K:=K) qQ bC (fun b hb hne=>h3.block b hb fun e=>?_) h3.os h3.tape h3.output h3.size rfl (fun aa hs=>.inl (n3 aa hs)) (fun b hb=>?_) (fun {bw aD} ej go=>?_)
 ·obtain⟨M,aw,an⟩:=DH b (u' b (SF e.symm));exact hne M ((bC M).2 (.inl aw)) an
 ·rcases kb.1 hb with hb|⟨n,hn,hb⟩
  ·obtain⟨aw,an⟩:=aE b hb;refine⟨aw,an.imp (fun h=>?_) id⟩
   obtain⟨M,aw,an⟩:=DH b (u' b h);exact⟨M,(bC M).2 (.inl aw),an⟩
  ·have hm:=yp n hn b hb;obtain⟨M,aw,an⟩:=DH b hm;exact⟨Nat.lt_of_lt_of_le (lt b hm) h3.size,.inl ⟨M,(bC M).2 (.inl aw),an⟩⟩
 ·refine⟨b_,v',jE++gw,EF++sL,ej,?_,by rw[List.length_append];exact h2,?_⟩
  ·rw[ej,awk];refine List.nodup_append.2 ⟨by cases bq v'<;>simp,a2,fun b hb c hc e=>?_⟩
   subst e;have hb:=Option.mem_toList.1 hb;rcases(aE b hb).2 with h|h
   ·exact a3 b (by rw[h];simp) b hc rfl
   ·have:=lt b (by rw[EZ];exact List.mem_append.2 (.inr hc))
    omega
  ·have kw:∀{d:aJ} {v:Value},bm w (ar X B st.sites) d v->bm w' (ar X aD bw) d v:=fun h=>kK go h
   rw[pX];exact(d0.map kw fun n hn=>kS n (List.mem_append.2 (.inl hn))).cm (d1.map kw fun n hn=>kS n (List.mem_append.2 (.inr hn)))
theorem Ob{o s dst:Nat}{aa:Site}(h:look st.sites o=some aa)(hs:aa.b'=s):aZ (st.dK o (.dead s)) dst=aZ st dst:=by
 unfold aZ;rw[af.nP];by_cases e:o=dst
 ·subst e;simp only[if_true,af.aa,h,hs];rfl
 ·simp only[e,if_false]
theorem aeF(S:ai O U X B st tm w){C:Ctx}(H:CtxOk P C){T dl:TypeId}{s x:Operand}{e ex:TypeId}{t u:aH}{bytes b2:Nat}{dst:Nat}(a_:C.tt T=.slice e t bytes)(fa:C.tt dl=.slice ex u b2)
  (ay:D.op=.call {callee:=.builtin .append,args:=#[s,x],argTypes:=#[T,dl]}) (dy:D.dst=some dst) (Y:ce st D.dst=true):
  Holds (tR bytes t dst st (aS C st T s) (aS C st dl x)) (cJ P O U X st tm w D):=by
 have qV:=H.tt dl;rw[fa] at qV;have xx:(∃ex,P.underlying dl=some (.slice ex))\/P.underlying dl=some .string:=.inl ⟨_,qV.1.1⟩;obtain⟨eL,i,z,hi,qS,yJ,vq,hzs,_o⟩:=pY H a_;have pj:=de S C T s;have qI:=de S C dl x;have runs:∀{v':Value} {w':World},(Builtin.append_ #[T,dl] D.type #[Act.eval ⟨tm,[]⟩ s,Act.eval ⟨tm,[]⟩ x]).run P w=.ok v' w'->
   (execOp (Act.eval ⟨tm,[]⟩) D).run P w=.ok (.value v') w':=by
  intro v' w' h;unfold execOp;simp only[ay,resolve,invoke,builtin,Sem.run_bind,Sem.run_pure,Result.andThen_ok,List.map_toArray,List.map_cons,List.map_nil,h]
 have one:∀{u:Bool} {b_:TypeId} {v':Value} {n m:Nat} {l:List Value} {w':World},rowAt w' u b_ n v' m l->v'.oneCell'=true:=by
  intro u b_ v' n m l w' h;rcases h.2 with⟨rfl,_⟩|⟨g,cap,cur,fz,rfl,_⟩<;>rfl
 unfold tR;split
 ·rename_i M s1 apH;rw[apH] at qI;split
  ·rename_i be ys apk;split
   ·rename_i iF;subst iF;have uP:=vT apk;obtain⟨ax7,Zg,xM,Lq,U3,Xb,amI,Kc⟩:=S.sites M _ uP;have Ej:Act.eval ⟨tm,[]⟩ x=Zg:=(Ref.at qI.2 uP rfl:_=b0 (B M)).trans (by rw[U3];rfl)
    have fi:Src w (aA be) (Act.eval ⟨tm,[]⟩ x) ys.length Lq:=by rw[Ej];exact .alr amI Kc.one
    have DK:bJ (B M)=(bq Zg).toList++xM.flatMap fun v=>(bq v).toList:=by rw[U3];simp only[bJ,List.flatMap_cons]
    rw[DK] at Xb;obtain⟨_,UT,_⟩:=List.nodup_append.1 Xb;have DG:∀d,aZ (st.dK M (.dead s1)) d=aZ st d:=fun d=>Ob uP rfl
    split
    ·-- ER nothing
     rename_i t2 bZ;rw[bZ] at pj;have qF:Act.eval ⟨tm,[]⟩ s=.slice none 0 0:=pj;refine Holds.fN fun r hr=>?_
     have cV:cw bytes [] ys=some r:=hr;unfold cw at cV;split at cV
     ·rename_i hb;cases cV;simp only[List.length_nil,Nat.zero_add,room] at hb;obtain⟨v',w',h1,⟨b_,h2⟩,h3,aE⟩:=vO (P:=P) (u:=be.fu) w T dl D.type e _o i z (aA be) bytes eL xx hi vq qS yJ hzs (kd _) (.slice none 0 0) 0 [] ⟨e,v7 w _ e _⟩ _ _ Lq fi
       (by rw[Nat.zero_add];exact hb.2) (by rw[Nat.zero_add];exact hb.1)
      have jp:bJ (.tuple (Value.slice none 0 0::([]++xM)).toArray)=xM.flatMap fun v=>(bq v).toList:=by simp only[bJ,List.flatMap_cons,List.nil_append];rfl
      have b7:=S.PF (dst:=dst) (b':=aZ (st.dK M (.dead s1)) dst) (ks:=[(M,.dead s1)]) (xs:=[]) (ys:=ys) (v0:=.slice none 0 0) (jE:=[]) (EF:=[]) (fun ρ au hm=>by
       simp only[List.mem_singleton,Prod.mk.injEq] at hm;obtain⟨rfl,rfl⟩:=hm;exact⟨_,uP,rfl,rfl⟩) .nil Kc (by rw[jp];exact UT) (fun b hb=>⟨M,by simp[keys],by rw[jp] at hb;rw[DK];exact List.mem_append.2 (.inr hb)⟩) h2 h3 aE (fun aa hs=>by rw[DG];exact kD hs)
      refine jN (us:=[(M,.dead s1),(dst,.deep (aZ (st.dK M (.dead s1)) dst) be ([]++ys))]) b7 Y (runs (by rw[qF];exact h1)) ?_
      refine⟨one h2,Ref.mk (aa:=.deep (aZ (st.dK M (.dead s1)) dst) be ([]++ys)) ?_ rfl (by simp[b0])⟩
      simp only[aY,cC];simp
     ·cases cV
    ·-- ER a deep row
     rename_i o s2 bZ;rw[bZ] at pj;split
     ·rename_i t2 xs apl;split
      ·rename_i iF;subst iF;cases EB:o.beq M with
       |true=>exact .fail
       |false=>
        have hne:o≠M:=fun e=>by subst e;rw[Nat.beq_refl] at EB;cases EB
        simp only[cond_false];refine Holds.fN fun r hr=>?_
        have cV:cw bytes xs ys=some r:=hr;unfold cw at cV;split at cV
        ·rename_i hb;cases cV;simp only[room] at hb;have xS:=vT apl;obtain⟨ax8,u6,KV,ap1,U4,Xc,amJ,alS⟩:=S.sites o _ xS;have Mw:Act.eval ⟨tm,[]⟩ s=u6:=(Ref.at pj.2 xS rfl:_=b0 (B o)).trans (by rw[U4];rfl)
         have Lm:bJ (B o)=(bq u6).toList++KV.flatMap fun v=>(bq v).toList:=by rw[U4];simp only[bJ,List.flatMap_cons]
         rw[Lm] at Xc;obtain⟨v',w',h1,⟨b_,h2⟩,h3,aE⟩:=vO (P:=P) (u:=t2.fu) w T dl D.type e _o i z (aA t2) bytes eL xx hi vq qS yJ hzs (kd _) u6 xs.length ap1 ⟨_,amJ⟩ _ _ Lq fi hb.2 hb.1;have jp:bJ (.tuple (u6::(KV++xM)).toArray)=((bq u6).toList++KV.flatMap fun v=>(bq v).toList)++xM.flatMap fun v=>(bq v).toList:=by
          simp only[bJ,List.flatMap_cons,List.flatMap_append,List.append_assoc]
         have apg:aZ ((st.dK M (.dead s1)).dK o (.dead s2)) dst=aZ st dst:=by
          have:(st.dK M (.dead s1)).aa o=some (.deep s2 t2 xs):=by
           rw[af.nP,if_neg (fun e=>hne e.symm)]
           exact xS
          exact(Ob (st:=st.dK M (.dead s1)) (s:=s2) this rfl).trans (DG dst)
         have b7:=S.PF (dst:=dst) (b':=aZ ((st.dK M (.dead s1)).dK o (.dead s2)) dst) (ks:=[(M,.dead s1),(o,.dead s2)]) (xs:=xs) (ys:=ys) (v0:=u6) (fun ρ au hm=>by
          simp only[List.mem_cons,List.not_mem_nil,or_false,Prod.mk.injEq] at hm;rcases hm with⟨rfl,rfl⟩|⟨rfl,rfl⟩
          ·exact⟨_,uP,rfl,rfl⟩
          ·exact⟨_,xS,rfl,rfl⟩) alS Kc (by
           rw[jp];refine List.nodup_append.2 ⟨Xc,UT,fun b hb c hc e=>?_⟩
           subst e;exact hne (S.dC o M b ⟨_,xS,rfl⟩ ⟨_,uP,rfl⟩ (by rw[Lm];exact hb) (by rw[DK];exact List.mem_append.2 (.inr hc)))) (fun b hb=>by
           rw[jp] at hb;rcases List.mem_append.1 hb with hb|hb
           ·exact⟨o,by simp[keys],by rw[Lm];exact hb⟩
           ·exact⟨M,by simp[keys],by rw[DK];exact List.mem_append.2 (.inr hb)⟩) h2 h3 aE (fun aa hs=>by rw[apg];exact kD hs)
         refine jN (us:=[(M,.dead s1),(o,.dead s2),(dst,.deep (aZ ((st.dK M (.dead s1)).dK o (.dead s2)) dst) t2 (xs++ys))]) b7 Y (runs (by rw[Mw];exact h1)) ?_
         refine⟨one h2,Ref.mk (aa:=.deep (aZ ((st.dK M (.dead s1)).dK o (.dead s2)) dst) t2 (xs++ys)) ?_ rfl (by simp[b0])⟩
         simp only[aY,cC];simp
        ·cases cV
      ·exact .fail
     ·exact .fail
    ·exact .fail
   ·exact .fail
  ·exact .fail
 ·exact .fail
end
section
variable {P:Program}{O:World}{U:List Nat}{X:Nat->Prop}{B:Nat->Value}{st:af}{tm:Array Value}{w:World}{D:Oper}
theorem ag1(S:ai O U X B st tm w){C:Ctx}(H:CtxOk P C){T:TypeId}{a x:Operand}{v:bH}(ay:D.op=.store T a x)(Y:ce st D.dst=true)(hk:(C.tt T).known=true)(hv:nn (aS C st T x)=some v):
  Holds (tS (C.tt T).size st (aS C st T a) v) (cJ P O U X st tm w D):=by
 have hn:=Ho hk;have pH:=de S C T a;have hex:=de S C T x;rw[rk hv] at hex;have hex:gZ B st.sites w (ar X B st.sites) v (Act.eval ⟨tm,[]⟩ x):=hex;have run:∀{b p:Nat} {cur:List Value} {gB:TypeId} {u:Bool} {fz:Nat×Nat},Act.eval ⟨tm,[]⟩ a=.pointer (some ⟨b,p,none⟩)->w.heap[b]? =some (.cells cur.toArray gB fz)->mu u gB cur.toArray fz->(Act.eval ⟨tm,[]⟩ x).cells.toList.length=(C.tt T).size->
   p+(Act.eval ⟨tm,[]⟩ x).cells.toList.length<=cur.length->(∀u∈(Act.eval ⟨tm,[]⟩ x).cells.toList,u.oneCell'=true)->
   (execOp (Act.eval ⟨tm,[]⟩) D).run P w=.ok .skip (w.setRow b (bA cur p (Act.eval ⟨tm,[]⟩ x).cells.toList).toArray):=by
  intro b p cur gB u fz h1 h2 hz h3 aE br;unfold execOp;simp only[ay,h1,Instr.storeAt,Instr.sureAddr,Sem.run_bind,Sem.run_pure,Result.andThen_ok,N6 (H.tt T) hn h2 hz h3 aE br]
 unfold tS;cases hlen:v.cells.length.beq (C.tt T).size with
 |false=>simp only[cond_false];exact .fail
 |true=>
  have rX:=Nat.eq_of_beq_eq_true hlen;simp only[cond_true];split
  ·rename_i o s off bZ;rw[bZ] at pH;split
   ·rename_i cells hb;cases hc:(Nat.ble (off+(C.tt T).size) cells.length&&hH v.cells) with
    |false=>simp only[cond_false];exact .fail
    |true=>
     simp only[cond_true];simp only[Bool.and_eq_true] at hc;have hle:=Nat.le_of_ble_eq_true hc.1;have hl:=hex.cells hc.2;obtain⟨b,gB,cur,h1,h2,h3,b7⟩:=S.ag3 (hU hb) pH hl (by rw[rX];exact hle) (hl.jt hc.2) hc.2
     exact Holds.fR (ta (us:=[(o,.box s (bA cells off v.cells))]) b7 Y (run (u:=false) h1 h2 ⟨(fun h=>by cases h),.inl rfl⟩ (by rw[hl.1];exact rX) h3 (hl.jt hc.2)))
   ·exact .fail
  ·rename_i o s u k off bZ;rw[bZ] at pH;split
   ·rename_i au t xs gh;have o9:look st.sites o=some (.row au t xs):=gh;cases hc:(au.beq s&&Nat.ble (off+(C.tt T).size) (aA t)&&decide (t=u)) with
    |false=>simp only[cond_false];exact .fail
    |true=>
     simp only[cond_true];simp only[Bool.and_eq_true,decide_eq_true_eq] at hc;obtain⟨⟨hc1,oz⟩,rfl⟩:=hc;have:=Nat.eq_of_beq_eq_true hc1;subst this;have hle:=Nat.le_of_ble_eq_true oz;split
     ·rename_i ds us eT;cases jm:(look us o).isNone with
      |false=>simp only[cond_false];exact .fail
      |true=>
       simp only[cond_true];refine Holds.fN fun db ly=>?_
       have kk:((xs[k]?).bind fun x=>dec t (bA (enc t x) off ds))=some db:=ly
       cases nw:xs[k]? with
       |none=>rw[nw] at kk;cases kk
       |some q4=>
        rw[nw] at kk;have eM:dec t (bA (enc t q4) off ds)=some db:=kk;have hfz:=Jn eT;have aO:lY O U X B st tm w us:=⟨S,hfz⟩;have dO:hH v.cells=true:=by
         clear hlen rX ly kk eM jm hfz aO;revert eT
         generalize v.cells=ab;intro eT;induction ab generalizing ds us with
         |nil=>rfl
         |cons l ab ih=>
          simp only[iB] at eT;split at eT
          ·rename_i d aay hq pR h1 h2;simp only[hH,Bool.and_eq_true];refine⟨?_,ih _ _ h2⟩;unfold kx at h1;split at h1<;>first|rfl|cases h1
          ·cases eT
        have hl:=hex.cells dO;have hr:=B9 eT hl aO (fun p hp=>hp)
        have hdl:ds.length=(C.tt T).size:=by
         have:=hr.1;rw[hl.1] at this;omega
        have K_:look (aY st.sites us) o=some (.row au t xs):=by
         rcases mJ hfz o with h|⟨s2,t2,axM,h,ae⟩
         ·rw[h];exact o9
         ·exfalso
          have:∀(us:List (Nat×Site)) (sites:List (Nat×Site)),look us o=none->look (aY sites us) o=look sites o:=by
           intro us;induction us with
           |nil=>intro sites _;rfl
           |cons p us ih=>
            obtain⟨M,aa⟩:=p;intro sites Da;simp only[look] at Da;cases hb:M.beq o with
            |true=>simp[hb] at Da
            |false=>
             simp only[hb,cond_false] at Da;simp only[aY];rw[ih _ Da,cC,if_neg];rintro rfl;simp at hb
          have h3:=this us st.sites (by simpa using jm)
          rw[ae,o9] at h3;cases h3
        have apI:=aO.go (a:=.av (.ag (.eR o au t k off))) pH;obtain⟨b,gB,cur,fz,h1,h2,hz,h3,b7⟩:=aO.new.ag2 K_ apI nw (o6 _ _ _ eM) hr (by rw[hdl];exact hle) (hl.jt dO)
        refine ta (aD:=B) (us:=us++[(o,.row au t (xs.set k db))]) ?_ Y (run h1 h2 hz (by rw[hl.1];exact rX) h3 (hl.jt dO))
        rw[jq];exact b7
     ·exact .fail
   ·rename_i au t xs gh;have o9:look st.sites o=some (.deep au t xs):=gh;cases hc:(au.beq s&&decide (t=u)) with
    |false=>simp only[cond_false];exact .fail
    |true=>
    simp only[cond_true];simp only[Bool.and_eq_true,decide_eq_true_eq] at hc;obtain⟨hc1,rfl⟩:=hc;have:=Nat.eq_of_beq_eq_true hc1;subst this;cases hc:(off.beq 0&&(C.tt T).size.beq (aA t)) with
    |false=>
     simp only[cond_false];split
     ·rename_i d qo;cases al:(d.jh&&Nat.blt off (aA t)) with
      |false=>simp only[cond_false];exact .fail
      |true=>
       simp only[cond_true];simp only[Bool.and_eq_true] at al;have atA:off<aA t:=Nat.le_of_ble_eq_true al.2;refine Holds.fN fun db ly=>?_
       have kk:((xs[k]?).bind fun x=>dec t (bA (enc t x) off [d]))=some db:=ly
       cases nw:xs[k]? with
       |none=>rw[nw] at kk;cases kk
       |some q4=>
        rw[nw] at kk;have eM:dec t (bA (enc t q4) off [d])=some db:=kk;have hl:=hex.cells (by rw[qo];rfl)
        rw[qo] at hl;obtain⟨sS,r0,hu,vg,yy⟩:=hl.inv;have k1:r0=[]:=yy.l8;subst k1;obtain⟨b,gB,cur,fz,h1,h2,hz,h3,b7⟩:=S.adL o9 pH nw eM al.1 atA vg;have hn1:(C.tt T).size=1:=by rw[<-rX,qo];rfl
        have cY:=run h1 h2 hz (by rw[hu,hn1];rfl) (by rw[hu];exact h3) (by rw[hu];intro v hv;rw[List.mem_singleton.1 hv];exact bm.jt vg)
        rw[hu] at cY;refine ta (aD:=B) (us:=[(o,.deep au t (xs.set k db))]) ?_ Y cY;exact b7
     ·exact .fail
    |true=>
     simp only[cond_true];simp only[Bool.and_eq_true] at hc;obtain⟨hc0,oz⟩:=hc;have:=Nat.eq_of_beq_eq_true hc0;subst this;split
     ·rename_i ds us eT;cases jm:((look us o).isNone&&fm (keys us)) with
      |false=>simp only[cond_false];exact .fail
      |true=>
       simp only[cond_true];rw[Bool.and_eq_true] at jm;refine Holds.fN fun db ly=>?_
       have kk:((xs[k]?).bind fun _=>dec t ds)=some db:=ly
       cases nw:xs[k]? with
       |none=>rw[nw] at kk;cases kk
       |some q4=>
        rw[nw] at kk;have eM:dec t ds=some db:=kk;have hl:=hex.cells (N7 eT);obtain⟨g1,ns,g2,g3⟩:=G1 S eT hl;rw[<-o6 _ _ _ eM] at g2;obtain⟨b,gB,cur,fz,nv,h1,h2,hz,h3,b7⟩:=S.ae9 o9 pH nw g1 ((pZ _).1 jm.2) (OQ jm.1) g2 g3;refine ta (aD:=fun M=>if M=o then nv else B M) (us:=us++[(o,.deep au t (xs.set k db))]) ?_ Y (run h1 h2 hz (by rw[hl.1];exact rX) h3 g2.one)
        rw[jq];exact b7
     ·exact .fail
   ·exact .fail
  ·exact .fail
theorem acq(S:ai O U X B st tm w){C:Ctx}(H:CtxOk P C){T e:TypeId}{t:aH}{bytes:Nat}{x i:Operand}{k:IntKind}{n:Int}(a_:C.tt T=.slice e t bytes)(hi:aS C st 0 i=.av (.ag (.d (.int k n))))(ay:D.op=.indexAddr T x i)
  (Y:ce st D.dst=true):
  Holds (tf t st (aS C st T x) n) (cJ P O U X st tm w D):=by
 obtain⟨eL,inf,z,lu,h_,pG,lF,hzs,_⟩:=pY H a_;have xV:=kJ S hi;have bv:=de S C T x;have run:∀{a:Addr} {len cap:Nat},Act.eval ⟨tm,[]⟩ x=.slice (some a) len cap->0<=n->n<len->(execOp (Act.eval ⟨tm,[]⟩) D).run P w=.ok (.value (.pointer (some (a.add (n.toNat*aA t))))) w:=by
  intro a len cap hx h0 h1;unfold execOp;simp[ay,hx,xV,Instr.indexAt,asIntOf,run_underlying eL,h0,h1,sizeOf,lZ lu,h_]
 unfold tf;split
 ·rename_i u xs bZ;split;case isFalse=>exact .fail
  rename_i px;subst px;rw[bZ] at bv;have bv:bm w (ar X B st.sites) (.sl u xs) (Act.eval ⟨tm,[]⟩ x):=bv;refine Holds.eN fun y hy=>?_
  have ep:aQ xs n=some y:=hy;unfold aQ at ep;split at ep
  ·rename_i h0;have hlt:n.toNat<xs.length:=by
    rcases Nat.lt_or_ge n.toNat xs.length with h|h
    ·exact h
    ·rw[List.getElem?_eq_none h] at ep;cases ep
   generalize hx:Act.eval ⟨tm,[]⟩ x=v at bv;cases bv with
   |nil=>simp at hlt
   |sl _ _ a cap cs m hm hcap hb hl hc hr=>
    subst hm;have hne:xs≠[]:=by rintro rfl;simp at hlt
    have hrow:cu w (ar X B st.sites) (flat u xs) cs:=⟨hl,hr⟩;have lB:a.spot=none:=by
     have oj:0<cs.length:=by rw[hl,eG];exact Nat.mul_pos (List.length_pos_iff.mpr hne) (kd u)
     have h1:=hc 0 cs[0] (List.getElem?_eq_getElem oj);have h2:a.add 0=a:=by unfold Addr.add;simp
     rw[h2] at h1;unfold World.cell? at h1;split at h1
     ·cases hs:a.spot with
      |none=>rfl
      |some _=>simp[hs] at h1
     ·cases h1
    obtain⟨pS,E1,auK⟩:=a;simp only at lB;subst lB;have hcs:iL w pS E1 cs:=fun j v hv=>by have:=hc j v hv;rwa[gV] at this
    refine dS S Y (run hx h0 (by omega)) ?_
    rw[gV];have hh:=vY u xs n.toNat y ep;have am6:=(hcs.drop (n.toNat*aA u)).take (aA u);have kt:=((iw (B:=B) (sites:=st.sites) hl hr).drop (n.toNat*aA u)).take (aA u);have e2:((cM (flat u xs)).drop (n.toNat*aA u)).take (aA u)=cM (enc u y):=by
     rw[<-hh];simp[cM,List.map_drop,List.map_take]
    rw[e2] at kt;have dt:=jP kt;have hlt2:pS<w.heap.size:=by
     have oj:0<cs.length:=by rw[hl,eG];exact Nat.mul_pos (List.length_pos_iff.mpr hne) (kd u)
     exact World.block_lt_of_cell? w _ (hcs 0 cs[0] (List.getElem?_eq_getElem oj))
    exact⟨pS,E1+n.toNat*aA u,by rw[Nat.add_zero],hb hne,hlt2,_,dt.1,am6,dt.2⟩
  ·cases ep
 ·rename_i o s bZ;rw[bZ] at bv;split
  ·rename_i u xs hrow;split;case isFalse=>exact .fail
   rename_i px;subst px;refine Holds.eN fun y hy=>?_
   have ep:aU xs.length n=some y:=hy;unfold aU at ep;split at ep
   ·rename_i hb;cases ep;obtain⟨⟨aa,hh,k0⟩,hcell⟩:=S.any hrow;have hv:Act.eval ⟨tm,[]⟩ x=b0 (B o):=Ref.at bv.2 hh k0;rcases hcell with⟨hn,pu⟩|⟨b,c,bX⟩
    ·subst pu;simp at hb;omega
    ·refine dS S Y (run (by rw[hv];exact bX) hb.1 hb.2) ?_
     rw[gV,Nat.zero_add];exact⟨b,by rw[Nat.add_zero],Ref.mk hh k0 ⟨_,_,bX⟩⟩
   ·cases ep
  ·exact .fail
 ·exact .fail
end
section
variable {P:Program}{O:World}{U:List Nat}{X:Nat->Prop}{B:Nat->Value}{st:af}{tm:Array Value}{w:World}{D:Oper}
theorem RX(S:ai O U X B st tm w){C:Ctx}{cX:Option Operand}{mq l:Int}(h:jy mq (cX.map (aS C st 0))=some l):
  (cX=none/\l=mq)\/∃x k,cX=some x/\Act.eval ⟨tm,[]⟩ x=.int k l:=by
 cases cX with
 |none=>simp only[Option.map_none,jy,Option.some.injEq] at h;exact .inl ⟨rfl,h.symm⟩
 |some x=>
  simp only[Option.map_some] at h;generalize hx:aS C st 0 x=v at h;unfold jy at h;split at h
  ·rename_i bZ;cases bZ
  ·rename_i k n bZ;cases h;cases bZ;exact .inr ⟨x,k,rfl,kJ S hx⟩
  ·cases h
theorem oR(t:aH)(xs:List (den t))(n:Nat):flat t (xs.take n)=(flat t xs).take (n*aA t):=by
 rcases Nat.lt_or_ge xs.length n with h|h
 ·rw[List.take_of_length_le (Nat.le_of_lt h),List.take_of_length_le (by rw[eG];exact Nat.mul_le_mul_right _ (Nat.le_of_lt h))]
 ·have:=pX t (xs.take n) (xs.drop n);rw[List.take_append_drop] at this;rw[this,List.take_left' (by rw[eG,List.length_take,Nat.min_eq_left h])]
theorem QH(t:aH)(xs:List (den t))(n:Nat):flat t (xs.drop n)=(flat t xs).drop (n*aA t):=by
 rcases Nat.lt_or_ge xs.length n with h|h
 ·rw[List.drop_eq_nil_of_le (Nat.le_of_lt h),List.drop_eq_nil_of_le (by rw[eG];exact Nat.mul_le_mul_right _ (Nat.le_of_lt h))]
  rfl
 ·have:=pX t (xs.take n) (xs.drop n);rw[List.take_append_drop] at this;rw[this,List.drop_left' (by rw[eG,List.length_take,Nat.min_eq_left h])]
theorem FB{P:Program}{w:World}(isSlice:Bool)(len cap:Nat)(cX hi:Option Value)(l h:Int)(gN:(cX=none/\l=0)\/∃k,cX=some (.int k l))(hhi:(hi=none/\h=len)\/∃k,hi=some (.int k h))
  (h0:0<=l) (h1:l<=h) (h2:h<=len) (hc:len<=cap):(Instr.sliceBounds isSlice len cap cX hi none).run P w=.ok (l.toNat,h.toNat,cap) w:=by
 have bT:0<=h:=by omega
 have _e:h<=cap:=by omega
 have ato:((h.toNat:Nat):Int)=h:=Int.toNat_of_nonneg bT;rcases gN with⟨rfl,rfl⟩|⟨k,rfl⟩<;>rcases hhi with⟨rfl,rfl⟩|⟨k',rfl⟩
 ·simp[Instr.sliceBounds]
 ·simp[Instr.sliceBounds,Instr.sliceBound,asIntOf,bT,_e]
 ·simp[Instr.sliceBounds,Instr.sliceBound,asIntOf,h0,h1]
 ·simp[Instr.sliceBounds,Instr.sliceBound,asIntOf,bT,_e,h0,ato,h1]
theorem ag0(s:ByteArray)(l h:Nat)(h2:h<=s.size):(s.extract l h).data.toList=(s.data.toList.take h).drop l:=by
 rw[ByteArray.data_extract,Array.toList_extract];simp[List.extract_eq_take_drop,List.drop_take]
theorem Tz{w:World}{av:Nat->Prop}{t:aH}{xs:List (den t)}{b D:Nat}{cs:List Value}(hb:xs≠[]->¬av b)(hr:cu w av (flat t xs) cs)(hc:iL w b D cs)(l h:Nat)(h1:l<=h)(h2:h<=xs.length)(a:Addr)(fV:Nat)(_l:h-l<=fV)
  (ha:a=⟨b,D+l*aA t,none⟩\/l=h) (_m:a.block=b):bm w av (.sl t ((xs.take h).drop l)) (.slice (some a) (h-l) fV):=by
 have hlen:((xs.take h).drop l).length=h-l:=by simp;omega
 by_cases Z':l=h
 ·subst Z';have:(xs.take l).drop l=[]:=List.eq_nil_of_length_eq_zero (by rw[hlen];omega)
  rw[this];exact .sl t [] a fV [] _ (by simp) _l (fun hx=>absurd rfl hx) rfl (fun j u hu=>by simp at hu) (fun j h=>by simp[flat] at h)
 ·rcases ha with ha|ha
  ·subst ha;have hf:flat t ((xs.take h).drop l)=((flat t xs).take (h*aA t)).drop (l*aA t):=by
    rw[QH,oR]
   have kt:=((iw (B:=fun _=>undef) (sites:=[]) hr.1 hr.2).take (h*aA t)).drop (l*aA t)
   have e2:((cM (flat t xs)).take (h*aA t)).drop (l*aA t)=cM (flat t ((xs.take h).drop l)):=by
    rw[hf];simp[cM,List.map_drop,List.map_take]
   rw[e2] at kt;have cV:=jP kt;refine .sl t _ _ fV _ _ hlen.symm _l (fun hx=>hb ?_) cV.1 (fun j u hu=>?_) cV.2
   ·rintro rfl;simp at hx
   ·rw[gV];exact((hc.take (h*aA t)).drop (l*aA t)) j u hu
  ·exact absurd ha Z'
theorem IA{w:World}{av:Nat->Prop}{t:aH}{xs:List (den t)}{a:Addr}{cs:List Value}(hb:xs≠[]->¬av a.block)(hr:cu w av (flat t xs) cs)(hc:∀j u,cs[j]? =some u->w.cell? (a.add j)=some u)
  (l h cap:Nat) (h1:l<=h) (h2:h<=xs.length) (hcap:xs.length<=cap):
  bm w av (.sl t ((xs.take h).drop l)) (.slice (if cap=l then some a else(some a).map (·.add (l*aA t))) (h-l) (cap-l)):=by
 by_cases hx:xs=[]
 ·subst hx;have:h=0:=by simpa using h2
  subst this;have hl0:l=0:=by omega
  subst hl0;have:((if cap=0 then some a else(some a).map (·.add (0*aA t))):Option Addr)=some a:=by
   split
   ·rfl
   ·simp[Addr.add]
  rw[this];exact .sl t [] a (cap-0) [] 0 rfl (by omega) (fun hx=>absurd rfl hx) rfl (fun j u hu=>by simp at hu) (fun j h=>by simp[flat] at h)
 ·have lB:a.spot=none:=by
   have oj:0<cs.length:=by rw[hr.1,eG];exact Nat.mul_pos (List.length_pos_iff.mpr hx) (kd t)
   have h1:=hc 0 cs[0] (List.getElem?_eq_getElem oj);have h2:a.add 0=a:=by unfold Addr.add;simp
   rw[h2] at h1;unfold World.cell? at h1;split at h1
   ·cases hs:a.spot with
    |none=>rfl
    |some _=>simp[hs] at h1
   ·cases h1
  obtain⟨pS,E1,auK⟩:=a;simp only at lB;subst lB;have hcs:iL w pS E1 cs:=fun j v hv=>by have:=hc j v hv;rwa[gV] at this
  split
  ·rename_i e;exact Tz hb hr hcs l h h1 h2 _ _ (by omega) (.inr (by omega)) rfl
  ·simp only[Option.map_some,gV];exact Tz hb hr hcs l h h1 h2 _ _ (by omega) (.inl rfl) rfl
theorem P2{v:aI}{us kp:List (Nat×Site)}(e:aY st.sites us=aY st.sites kp)(h:cJ P O U X st tm w D v us):cJ P O U X st tm w D v kp:=by
 have:st.cm D.dst v kp=st.cm D.dst v us:=by cases D.dst<;>simp only[af.cm,af.wE,e]
 intro K Q bC;rw[this] at bC;exact h K Q bC
theorem ag6(S:ai O U X B st tm w){C:Ctx}(H:CtxOk P C){T:TypeId}{x:Operand}{cX hi:Option Operand}(ay:D.op=.slice T x cX hi none)(Y:ce st D.dst=true):
  Holds (tV (C.tt T) st (aS C st T x) (cX.map (aS C st 0)) (hi.map (aS C st 0))) (cJ P O U X st tm w D):=by
 have bv:=de S C T x;have sh:∀{cX:Option Operand} {mq l:Int},jy mq (cX.map (aS C st 0))=some l->(cX.map (Act.eval ⟨tm,[]⟩)=none/\l=mq)\/∃k,cX.map (Act.eval ⟨tm,[]⟩)=some (.int k l):=by
  intro cX mq l h;rcases RX S h with⟨rfl,ae⟩|⟨x,k,rfl,ae⟩
  ·exact .inl ⟨rfl,ae⟩
  ·exact .inr ⟨k,by simp[ae]⟩
 have runs:∀{vv:Value},(Instr.sliceAt T (Act.eval ⟨tm,[]⟩ x) (cX.map (Act.eval ⟨tm,[]⟩)) (hi.map (Act.eval ⟨tm,[]⟩)) none).run P w=.ok vv w->(execOp (Act.eval ⟨tm,[]⟩) D).run P w=.ok (.value vv) w:=by
  intro vv h;unfold execOp;simp only[ay,Option.map_none,Sem.run_bind,h,Result.andThen_ok,Sem.run_pure]
 have xn:∀{e:TypeId} {t:aH} {bytes:Nat} {a:Option Addr} {len cap:Nat} {l h:Int},C.tt T=.slice e t bytes->Act.eval ⟨tm,[]⟩ x=.slice a len cap->jy 0 (cX.map (aS C st 0))=some l->jy len (hi.map (aS C st 0))=some h->
   0<=l->l<=h->h<=len->len<=cap->(execOp (Act.eval ⟨tm,[]⟩) D).run P w=.ok (.value (.slice (if cap=l.toNat then a else a.map (·.add (l.toNat*aA t))) (h.toNat-l.toNat) (cap-l.toNat))) w:=by
  intro e t bytes a len cap l h a_ hx gN hhi h0 h1 h2 hc;obtain⟨eL,inf,z,lu,h_,_⟩:=pY H a_;refine runs ?_
  have hb:=FB (P:=P) (w:=w) true len cap (cX.map (Act.eval ⟨tm,[]⟩)) (hi.map (Act.eval ⟨tm,[]⟩)) l h (sh gN) (sh hhi) h0 h1 h2 hc;simp only[Instr.sliceAt,Instr.slice,Sem.run_bind,run_underlying eL,Result.andThen_ok,hx,hb,sizeOf,lZ lu,h_,Sem.run_pure]
 unfold tV;split
 ·rename_i s bZ;rw[bZ] at bv;obtain⟨b,hx,hs⟩:=hK bv;split
  ·rename_i l h a_ gN hhi;have bL:=H.tt T;rw[a_] at bL;refine Holds.eN fun r hr=>?_
   have cV:bD s l h=some r:=hr;unfold bD at cV;split at cV
   ·rename_i hb;obtain⟨h0,h1,h2⟩:=hb;cases cV;have hsz:s.length=b.size:=by rw[<-hs];rfl
    rw[hsz] at h2 hhi;refine dS S Y (vv:=.string (b.extract l.toNat h.toNat)) (runs ?_) (.str _ _ ?_)
    ·have hb:=FB (P:=P) (w:=w) false b.size b.size (cX.map (Act.eval ⟨tm,[]⟩)) (hi.map (Act.eval ⟨tm,[]⟩)) l h (sh gN) (sh hhi) h0 h1 h2 (Nat.le_refl _);simp[Instr.sliceAt,Instr.slice,run_underlying bL.1,hx,hb]
    ·rw[ag0 b _ _ (by omega),hs]
   ·cases cV
  ·exact .fail
 ·rename_i t xs bZ;rw[bZ] at bv;have bv:bm w (ar X B st.sites) (.sl t xs) (Act.eval ⟨tm,[]⟩ x):=bv;split
  ·rename_i e u bytes l h a_ gN hhi;split;case isFalse=>exact .fail
   rename_i px;subst px;refine Holds.eN fun r hr=>?_
   have cV:bD xs l h=some r:=hr;unfold bD at cV;split at cV
   ·rename_i hb;obtain⟨h0,h1,h2⟩:=hb;cases cV;generalize hx:Act.eval ⟨tm,[]⟩ x=v at bv;cases bv with
    |nil=>
     have bT:h=0:=by simp at h2;omega
     have hl:l=0:=by omega
     subst bT hl;refine dS S Y (xn a_ hx gN hhi h0 h1 h2 (Nat.le_refl _)) ?_
     simp only[List.take_nil,List.drop_nil];exact bm.nil t
    |sl _ _ a cap cs m hm hcap hb hl hc hr=>
     subst hm;refine dS S Y (xn a_ hx gN hhi h0 h1 h2 hcap) ?_
     exact IA hb ⟨hl,hr⟩ hc l.toNat h.toNat cap (by omega) (by omega) hcap
   ·cases cV
  ·exact .fail
 ·rename_i t bZ;rw[bZ] at bv;have hx:Act.eval ⟨tm,[]⟩ x=.slice none 0 0:=bv;split
  ·rename_i e u bytes l h a_ gN hhi;refine Holds.eN fun r hr=>?_
   have cV:bD ([]:List (den t)) l h=some r:=hr;unfold bD at cV;split at cV
   ·rename_i hb;obtain⟨h0,h1,h2⟩:=hb;cases cV;have bT:h=0:=by simp at h2;omega
    have hl:l=0:=by omega
    subst bT hl;refine dS S Y (xn a_ hx gN hhi h0 h1 h2 (Nat.le_refl _)) ?_
    simp only[List.take_nil,List.drop_nil];exact bm.nil t
   ·cases cV
  ·exact .fail
 ·rename_i o s bZ;rw[bZ] at bv;split
  ·rename_i t xs hrow;split
   ·rename_i e u bytes l h a_ gN hhi;split;case isFalse=>exact .fail
    rename_i px;subst px;refine Holds.fN fun r hr=>?_
    have cV:bD xs l h=some r:=hr;unfold bD at cV;split at cV
    ·rename_i hb;obtain⟨h0,h1,h2⟩:=hb;cases cV;refine P2 (us:=[(o,.da s t xs)]) (RP hrow).symm ?_
     have hfz:dM st.sites [(o,.da s t xs)]:=by
      intro M aa hm;simp only[List.mem_singleton,Prod.mk.injEq] at hm;obtain⟨rfl,rfl⟩:=hm;exact⟨s,t,xs,rfl,(kE hrow).imp id .inl⟩
     have aO:lY O U X B st tm w [(o,.da s t xs)]:=⟨S,hfz⟩;have qO:=zp hfz (List.mem_singleton.2 rfl);obtain⟨dt,U9⟩:=aO.new.sites o _ qO;have hv:Act.eval ⟨tm,[]⟩ x=b0 (B o):=by
      rcases kE hrow with h1|h1<;>exact Ref.at bv.2 h1 rfl
     generalize hx:b0 (B o)=v at dt U9;rw[hx] at hv;cases dt with
     |nil=>
      have bT:h=0:=by simp at h2;omega
      have hl:l=0:=by omega
      subst bT hl;refine jN (us:=[(o,.da s t [])]) aO.new Y (xn a_ hv gN hhi h0 h1 h2 (Nat.le_refl _)) ?_
      simp only[List.take_nil,List.drop_nil];exact bm.nil t
     |sl _ _ a cap cs m hm hcap hb hl hc hr=>
      subst hm;refine jN (us:=[(o,.da s t xs)]) aO.new Y (xn a_ hv gN hhi h0 h1 h2 hcap) ?_
      exact IA hb ⟨hl,hr⟩ hc l.toNat h.toNat cap (by omega) (by omega) hcap
    ·cases cV
   ·exact .fail
  ·exact .fail
 ·exact .fail
end
section
variable {P:Program}{O:World}{U:List Nat}{X:Nat->Prop}{B:Nat->Value}{st:af}{tm:Array Value}{w:World}{D:Oper}
theorem ajN{av:Nat->Prop}{o s:Nat}{t:aH}{xs:List (den t)}{v:Value}(h:cj B st.sites w av (bP (.own o s)) v)(hr:rowOf st o s=some ⟨t,xs⟩):v=b0 (B o):=by
 rcases kE hr with h1|h1<;>exact Ref.at h.2 h1 rfl
theorem SL(S:ai O U X B st tm w){l:az}{v:Value}{t:aH}{es:List (F×den t)}(h:dF B st.sites w (ar X B st.sites) l v)(hm:mapOf st l=some ⟨t,es⟩):
  (v=.map none/\es=[])\/∃b,v=.map (some b)/\na w b t es:=by
 unfold mapOf at hm;split at hm
 ·cases hm;have h:bm w (ar X B st.sites) (.map t es) v:=h;cases h with
  |xN=>exact .inl ⟨rfl,rfl⟩
  |map _ _ b hb hm=>exact .inr ⟨b,rfl,hm⟩
 ·rename_i o s;split at hm
  ·rename_i au u vw hl;cases hb:au.beq s with
   |false=>rw[hb] at hm;cases hm
   |true=>
    rw[hb] at hm;have hs:=Nat.eq_of_beq_eq_true hb;subst hs;cases hm;have hl:look st.sites o=some (.map au _ es):=hl;have hv:v=b0 (B o):=Ref.at h.2 hl rfl;obtain⟨b,h1,h2⟩:=S.sites o _ hl;exact .inr ⟨b,by rw[hv,h1];rfl,h2⟩
  ·cases hm
 ·cases hm
theorem na.size{b:Nat}{t:aH}{es:List (F×den t)}{arr:Array MapEntry}(h:n5 arr=kL t es):arr.size=es.length:=by
 have:=congrArg List.length h;simpa[n5,kL] using this
theorem alw(S:ai O U X B st tm w){C:Ctx}(H:CtxOk P C){T:TypeId}{x:Operand}(ay:D.op=.call {callee:=.builtin .len,args:=#[x],argTypes:=#[T]})(Y:ce st D.dst=true):
  Holds (uM (C.tt T) st (aS C st T x)) (cJ P O U X st tm w D):=by
 have bv:=de S C T x;have bL:=H.tt T;have run:∀{vv:Value},(Builtin.len_ #[T] D.type #[Act.eval ⟨tm,[]⟩ x]).run P w=.ok vv w->(execOp (Act.eval ⟨tm,[]⟩) D).run P w=.ok (.value vv) w:=by
  intro vv h;unfold execOp;simp only[ay,resolve,invoke,builtin,Sem.run_bind,Sem.run_pure,Result.andThen_ok,List.map_toArray,List.map_cons,List.map_nil,h]
 unfold uM;split
 ·rename_i s a_ bZ;rw[bZ] at bv;rw[a_] at bL;obtain⟨b,hx,hs⟩:=hK bv;refine Holds.ok (dS S Y (run (vv:=.int .i64 s.length) ?_) (.int _ _));have:s.length=b.size:=by rw[<-hs];rfl
  simp[Builtin.len_,hx,run_underlying bL.1,goInt,this]
 ·rename_i e t b u xs a_ bZ;rw[bZ] at bv;rw[a_] at bL;have bv:bm w (ar X B st.sites) (.sl u xs) (Act.eval ⟨tm,[]⟩ x):=bv;refine Holds.ok (dS S Y (run (vv:=.int .i64 xs.length) ?_) (.int _ _));generalize Act.eval ⟨tm,[]⟩ x=v at bv;cases bv with
  |nil=>simp[Builtin.len_,run_underlying bL.1.1,goInt]
  |sl _ _ a cap cs n hn hcap hb hl hc hr=>simp[Builtin.len_,run_underlying bL.1.1,goInt,hn]
 ·rename_i e t b u a_ bZ;rw[bZ] at bv;rw[a_] at bL;have hx:Act.eval ⟨tm,[]⟩ x=.slice none 0 0:=bv;exact Holds.ok (dS S Y (run (vv:=.int .i64 0) (by simp[Builtin.len_,hx,run_underlying bL.1.1,goInt])) (.int _ _))
 ·rename_i e t b o s a_ bZ;rw[bZ] at bv;rw[a_] at bL;split
  ·rename_i u xs hrow;obtain⟨⟨aa,hh,k0⟩,hc⟩:=S.any hrow;have hv:Act.eval ⟨tm,[]⟩ x=b0 (B o):=Ref.at bv.2 hh k0;refine Holds.ok (dS S Y (run (vv:=.int .i64 xs.length) ?_) (.int _ _));rcases hc with⟨h1,h2⟩|⟨bf,c,h1⟩
   ·subst h2;simp[Builtin.len_,hv,h1,run_underlying bL.1.1,goInt]
   ·simp[Builtin.len_,hv,h1,run_underlying bL.1.1,goInt]
  ·exact .fail
 ·rename_i iG lQ u l a_ bZ;rw[bZ] at bv;rw[a_] at bL;split
  ·rename_i b9 es hm;refine Holds.ok (dS S Y (run (vv:=.int .i64 es.length) ?_) (.int _ _));rcases SL S bv hm with⟨h1,rfl⟩|⟨b,h1,arr,c,h2,h3⟩
   ·simp[Builtin.len_,h1,run_underlying bL.1.1,goInt]
   ·have hsz:=na.size (b:=b) h3;simp[Builtin.len_,h1,run_underlying bL.1.1,goInt,MapKept.run_getObj_map h2,hsz,Result.andThen]
  ·exact .fail
 ·exact .fail
theorem ah9(S:ai O U X B st tm w){C:Ctx}(H:CtxOk P C){T:TypeId}{x i:Operand}{s:F}{k:IntKind}{n:Int}(ay:D.op=.index T x i)(Y:ce st D.dst=true)(a_:C.tt T=.str)
  (hx:aS C st T x=.av (.ag (.d (.str s)))) (hi:aS C st 0 i=.av (.ag (.d (.int k n)))):Holds (.eN (aQ s n) fun b=>one (.int .u8 b.toNat)) (cJ P O U X st tm w D):=by
 have bL:=H.tt T;rw[a_] at bL;obtain⟨b,hb,hs⟩:=alQ S hx;have hn:=kJ S hi;refine Holds.eN fun y hy=>?_
 have ep:aQ s n=some y:=hy;unfold aQ at ep;split at ep
 ·rename_i h0;refine dS S Y (vv:=.int .u8 y.toNat) ?_ (.int _ _);have qH:b[n.toNat]? =some y:=by
   have:n.toNat<s.length:=by
    rcases Nat.lt_or_ge n.toNat s.length with h|h
    ·exact h
    ·rw[List.getElem?_eq_none h] at ep;cases ep
   rw[<-hs] at ep this;have hsz:n.toNat<b.size:=this;rw[getElem?_pos b n.toNat hsz];rw[List.getElem?_eq_getElem this] at ep;have h3:b.data[n.toNat]=y:=by simpa using ep
   rw[<-h3];rfl
  unfold execOp;simp[ay,hb,hn,Instr.index,asIntOf,run_underlying bL.1,h0,qH]
 ·cases ep
theorem bytes_beq(x y:ByteArray):(x==y)=(x.data.toList==y.data.toList):=by
 obtain⟨a⟩:=x;obtain⟨b⟩:=y;have h:((⟨a⟩:ByteArray)==⟨b⟩)=(a==b):=rfl;rw[h,Bool.eq_iff_iff];simp
theorem aih:∀{z ab:List az} {vs:List Value},si z ab=true->cy B st.sites w (ar X B st.sites) ab vs->qJ z vs=true:=by
 intro z;induction z with
 |nil=>
  intro ab vs h h1;cases ab with
  |nil=>rw[h1.l8];rfl
  |cons l ab=>cases h
 |cons c z ih=>
  intro ab vs h h1;unfold si at h;split at h
  ·rename_i hz;cases hz
  ·rename_i bZ;cases bZ;obtain⟨v,ca,rfl,a1,a2⟩:=h1.inv;rw[ja a1];exact ih h a2
  ·rename_i bZ;cases bZ;obtain⟨v,ca,rfl,a1,a2⟩:=h1.inv;rw[ke a1];exact ih h a2
  ·rename_i bZ;cases bZ;obtain⟨v,ca,rfl,a1,a2⟩:=h1.inv;obtain⟨x,rfl,hx⟩:=hK a1;exact ih h a2
  ·cases h
theorem adq:∀{ab jK:List az} {vs us:List Value} {b:Bool},w0 ab jK=some b->cy B st.sites w (ar X B st.sites) ab vs->cy B st.sites w (ar X B st.sites) jK us->ka vs us=some b:=by
 have leaf:∀{d e:aJ} {v u:Value} {b:Bool} {av:Nat->Prop},Cy d e=some b->bm w av d v->bm w av e u->oZ v u=some b:=by
  intro d e v u b av h h1 h2;unfold Cy at h;split at h
  ·rw[ja h1,ja h2];exact h
  ·rw[ke h1,ke h2];exact h
  ·obtain⟨x,rfl,hx⟩:=hK h1;obtain⟨y,rfl,hy⟩:=hK h2;subst hx hy;cases h;show some (x==y)=some (x.data.toList==y.data.toList);rw[bytes_beq]
  ·cases h
 intro ab;induction ab with
 |nil=>intro jK vs us b h _ _;cases jK<;>simp[w0] at h
 |cons l ab ih=>
  intro jK vs us b h h1 h2;obtain⟨v,ca,rfl,a1,a2⟩:=h1.inv;unfold w0 at h;split at h
  ·rename_i d e bZ;cases bZ;obtain⟨u,kp,rfl,b1,b2⟩:=h2.inv;rw[a2.l8,b2.l8];exact leaf h a1 b1
  ·rename_i d ds e es hne bZ;cases bZ;obtain⟨u,kp,rfl,b1,b2⟩:=h2.inv;split at h
   ·rename_i x y hx hy;cases h;have e1:=leaf hx a1 b1;have e2:=ih hy a2 b2;match ca,kp,e2 with
    |[],[],e2=>simp[ka] at e2
    |[],_::_,e2=>simp[ka] at e2
    |_::_,[],e2=>simp[ka] at e2
    |v2::axN,u2::axO,e2=>rw[ka,e1,e2];simp
   ·cases h
  ·cases h
theorem run_equal_bool{T:TypeId}(h:P.underlying T=some .bool)(a b:Bool):(Op.equal T (.bool a) (.bool b)).run P w=.ok (a==b) w:=by
 have e:Op.maxDepth=9999+1:=rfl;unfold Op.equal;rw[e];unfold Op.equalIn;simp only[Sem.run_bind,run_underlying h,Result.andThen_ok,Sem.run_pure]
theorem run_eql_bool{T:TypeId}(h:P.underlying T=some .bool)(a b:Bool):(binOp .eql T (.bool a) (.bool b)).run P w=.ok (.bool (a==b)) w:=by
 show((do pure (.bool (<-Op.equal T (.bool a) (.bool b)))):Sem Value).run P w=_
 simp only[Sem.run_bind,run_equal_bool h,Result.andThen_ok,Sem.run_pure]
theorem run_neq_bool{T:TypeId}(h:P.underlying T=some .bool)(a b:Bool):(binOp .neq T (.bool a) (.bool b)).run P w=.ok (.bool (!(a==b))) w:=by
 show((do pure (.bool (!(<-Op.equal T (.bool a) (.bool b))))):Sem Value).run P w=_
 simp only[Sem.run_bind,run_equal_bool h,Result.andThen_ok,Sem.run_pure]
theorem akm(S:ai O U X B st tm w){C:Ctx}(H:CtxOk P C){op:BinOp}{T oF:TypeId}{x y:Operand}(ay:D.op=.binOp op T x y oF)(Y:ce st D.dst=true):
  Holds (Ls op (C.tt T) (aS C st T x) (aS C st T y)) (cJ P O U X st tm w D):=by
 have hx:=de S C T x;have hy:=de S C T y;have bL:=H.tt T;have run:∀{vv:Value},(eqGuard op T x y (Act.eval ⟨tm,[]⟩ x) (Act.eval ⟨tm,[]⟩ y)).run P w=.ok () w->(binOp op T (Act.eval ⟨tm,[]⟩ x) (Act.eval ⟨tm,[]⟩ y)).run P w=.ok vv w->
   (execOp (Act.eval ⟨tm,[]⟩) D).run P w=.ok (.value vv) w:=by
  intro vv h1 h2;unfold execOp;simp only[ay,Sem.run_bind,h1,h2,Result.andThen_ok,Sem.run_pure]
 have plain:∀{r:dn},(eqGuard op T x y (Act.eval ⟨tm,[]⟩ x) (Act.eval ⟨tm,[]⟩ y)).run P w=.ok () w->Holds r (Plain P w (binOp op T (Act.eval ⟨tm,[]⟩ x) (Act.eval ⟨tm,[]⟩ y)))->Holds r (cJ P O U X st tm w D):=by
  intro r h1 h2 z hz hc;obtain⟨vv,d,g1,g2,g3,g4⟩:=h2 z hz hc;rw[g2,g3];exact dS S Y (run h1 g1) (g4 _)
 unfold Ls;split
 ·rename_i k a k' b hxe hye;rw[hxe] at hx;rw[hye] at hy;refine plain (by rw[ja hx,ja hy];exact abf _ _ _ _ _ _ _ _) ?_
  rw[ja hx,ja hy];unfold TX;split
  ·refine Holds.eN fun n hn=>?_
   have fv:mn k a b=some n:=hn;unfold mn at fv;split at fv
   ·cases fv
   ·rename_i hb;cases fv;exact .mk (by simp[binOp,Op.shift,hb]) fun av=>.int _ _
  ·refine Holds.eN fun n hn=>?_
   have fv:fM k a b=some n:=hn;unfold fM at fv;split at fv
   ·cases fv
   ·rename_i hb;cases fv;exact .mk (by simp[binOp,Op.shift,hb]) fun av=>.int _ _
  ·rename_i h1 h2;split
   ·rename_i hk;subst hk;exact afl _ T k a b h1 h2
   ·exact .fail
 ·rename_i s t hxe hye;rw[hxe] at hx;rw[hye] at hy;obtain⟨a,ha,hs⟩:=hK hx;obtain⟨b,hb,ao⟩:=hK hy;subst hs ao;refine plain (by rw[ha,hb];exact aa2 _ _ _ _ _ _) ?_
  rw[ha,hb];exact afj op T a b
 ·rename_i a b hxe hye;rw[hxe] at hx;rw[hye] at hy;unfold Uj;split
  ·rename_i a_;rw[a_] at bL;split
   ·refine plain (by rw[ke hx,ke hy];exact N5 _ _ _ _ _ _) (Holds.ok ?_)
    rw[ke hx,ke hy];exact .mk (run_eql_bool bL.1 _ _) fun av=>.bool _
   ·refine plain (by rw[ke hx,ke hy];exact N5 _ _ _ _ _ _) (Holds.ok ?_)
    rw[ke hx,ke hy];exact .mk (run_neq_bool bL.1 _ _) fun av=>.bool _
   ·exact .fail
  ·exact .fail
 ·rename_i xs ys hxe hye;rw[hxe] at hx;rw[hye] at hy;unfold Vc;split
  ·rename_i bM n z a_;rw[a_] at bL;cases hl:xs.length.beq n&&si z xs with
   |false=>exact .fail
   |true=>
    simp only[cond_true];simp only[Bool.and_eq_true] at hl;have gx:=Nat.eq_of_beq_eq_true hl.1;split
    ·rename_i b hb;obtain⟨vs,hv,kr,kZ⟩:=hx;obtain⟨us,hu,vg,yy⟩:=hy;have vt:=adq hb ⟨kr,kZ⟩ ⟨vg,yy⟩;obtain⟨fields,eL,_,⟨gi,hz,_,_⟩,bZ⟩:=bL;obtain⟨hg,La⟩:=bZ rfl;have:=La vs us b w vt (aih hl.2 ⟨kr,kZ⟩);split
     ·refine plain ?_ (Holds.ok ?_)
      ·rw[hv,hu];simp[eqGuard,hg]
      ·rw[hv,hu];refine .mk (vv:=.bool b) ?_ fun av=>.bool _
       show((do pure (.bool (<-Op.equal T (.agg vs.toArray) (.agg us.toArray)))):Sem Value).run P w=_
       simp only[Sem.run_bind,this,Result.andThen_ok,Sem.run_pure]
     ·refine plain ?_ (Holds.ok ?_)
      ·rw[hv,hu];simp[eqGuard,hg]
      ·rw[hv,hu];refine .mk (vv:=.bool (!b)) ?_ fun av=>.bool _
       show((do pure (.bool (!(<-Op.equal T (.agg vs.toArray) (.agg us.toArray))))):Sem Value).run P w=_
       simp only[Sem.run_bind,this,Result.andThen_ok,Sem.run_pure]
     ·exact .fail
    ·exact .fail
  ·exact .fail
 ·exact .fail
theorem ab8{T:TypeId}{jK:Array (String×TypeId)}(ao:P.underlying T=some (.interface jK))(gB:TypeId)(cW:Option Int)(v:Value)(hv:v=match cW with|none=>.nilIface|some n=>.iface gB (.agg #[.int .i64 n])):
  (Op.equal T v .nilIface).run P w=.ok cW.isNone w:=by
 have h:∀d:Nat,(Op.equalIn (d+1) T v .nilIface).run P w=.ok cW.isNone w:=fun d=>by
  subst hv;cases cW<;>simp[Op.equalIn,run_underlying ao]
 exact h 9999
theorem agp(S:ai O U X B st tm w){C:Ctx}(H:CtxOk P C){op:BinOp}{T oF:TypeId}{x y:Operand}(ay:D.op=.binOp op T x y oF)(Y:ce st D.dst=true)(hn:CA y=true):
  Holds (J' op (C.tt T) (aS C st T x)) (cJ P O U X st tm w D):=by
 have hy:y=.const .nilIface:=by
  unfold CA at hn;split at hn
  ·rfl
  ·cases hn
 subst hy;have hx:=de S C T x;have bL:=H.tt T;have key:∀(gB:TypeId) (cW:Option Int),(Act.eval ⟨tm,[]⟩ x=match cW with|none=>.nilIface|some n=>.iface gB (.agg #[.int .i64 n]))->Holds (Dk op (C.tt T) cW) (cJ P O U X st tm w D):=by
  intro gB cW hv;unfold Dk;split
  ·rename_i a_;rw[a_] at bL;obtain⟨jK,bL⟩:=bL;have he:=ab8 (P:=P) (w:=w) bL.1 gB cW _ hv;have hg:(eqGuard op T x (.const .nilIface) (Act.eval ⟨tm,[]⟩ x) .nilIface).run P w=.ok () w:=by
    rw[hv];cases cW<;>cases op<;>simp[eqGuard]
   split
   ·refine Holds.ok (dS S Y (vv:=.bool cW.isNone) ?_ (.bool _));unfold execOp;simp only[ay,Act.eval,Sem.run_bind,Result.andThen_ok,Sem.run_pure] at hg ⊢;rw[hg];simp only[Result.andThen_ok];have:(binOp .eql T (Act.eval ⟨tm,[]⟩ x) .nilIface).run P w=.ok (.bool cW.isNone) w:=by
     have e:binOp .eql T (Act.eval ⟨tm,[]⟩ x) .nilIface=(do pure (.bool (<-Op.equal T (Act.eval ⟨tm,[]⟩ x) .nilIface))):=by rw[hv];cases cW<;>rfl
     rw[e];simp only[Sem.run_bind,he,Result.andThen_ok,Sem.run_pure]
    simp only[Act.eval] at this;rw[this];rfl
   ·refine Holds.ok (dS S Y (vv:=.bool cW.isSome) ?_ (.bool _));unfold execOp;simp only[ay,Act.eval,Sem.run_bind,Result.andThen_ok,Sem.run_pure] at hg ⊢;rw[hg];simp only[Result.andThen_ok];have:(binOp .neq T (Act.eval ⟨tm,[]⟩ x) .nilIface).run P w=.ok (.bool cW.isSome) w:=by
     have e:binOp .neq T (Act.eval ⟨tm,[]⟩ x) .nilIface=(do pure (.bool (!(<-Op.equal T (Act.eval ⟨tm,[]⟩ x) .nilIface)))):=by rw[hv];cases cW<;>rfl
     rw[e];simp only[Sem.run_bind,he,Result.andThen_ok,Sem.run_pure];cases cW<;>rfl
    simp only[Act.eval] at this;rw[this];rfl
   ·exact .fail
  ·exact .fail
 unfold J';split
 ·rename_i gB cW hxe;rw[hxe] at hx;have hx:bm w (ar X B st.sites) (.err gB cW) (Act.eval ⟨tm,[]⟩ x):=hx;exact key gB cW (by revert hx;generalize Act.eval ⟨tm,[]⟩ x=vv;intro hx;cases hx<;>rfl)
 ·rename_i hxe;rw[hxe] at hx;exact key 0 none hx
 ·exact .fail
theorem aa7(S:ai O U X B st tm w){C:Ctx}(H:CtxOk P C){T:TypeId}{x:Operand}{n:Int}{bM z q e}(ay:D.op=.makeInterface T x)(Y:ce st D.dst=true)(a_:C.tt T=.struct bM q z e)
  (hx:aS C st T x=.av (.agg [.d (.int .i64 n)])):cJ P O U X st tm w D (one (.err T (some n))) []:=by
 have bL:=H.tt T;rw[a_] at bL;obtain⟨fields,hu,_⟩:=bL;have bv:=de S C T x;rw[hx] at bv;obtain⟨vs,h1,h2,h3⟩:=bv;match vs,h2,h1,h3 with
 |[v],_,h1,h3=>
  have hv:=ja (h3 0 (by simp) (by simp))
  simp only[List.getElem_cons_zero] at hv;subst hv;refine dS S Y (vv:=.iface T (.agg #[.int .i64 n])) ?_ (.err _ _);unfold execOp;simp[ay,Instr.makeInterface,run_underlying hu,h1]
end
section
variable {P:Program}{O:World}{U:List Nat}{X:Nat->Prop}{B:Nat->Value}{st:af}{tm:Array Value}{w:World}{D:Oper}
theorem tN(xs:List Int):flat .u8 xs=xs.map (aJ.int .u8):=by
 unfold flat;induction xs with
 |nil=>rfl
 |cons x xs ih=>simp only[List.flatMap_cons,List.map_cons,ih];rfl
theorem Ty{w:World}{av:Nat->Prop}{xs:List Int}{cs:List Value}(h:cu w av (flat .u8 xs) cs):cs=xs.map (Value.int .u8):=by
 obtain⟨h1,h2⟩:=h;rw[tN] at h1;apply List.ext_getElem
 ·rw[h1];simp
 ·intro j g1 g2;have g3:j<xs.length:=by simpa using g2
  have:=h2 j (by rw[tN];simpa using g3) g1
  have e:(flat .u8 xs)[j]'(by rw[tN];simpa using g3)=aJ.int .u8 xs[j]:=by simp[tN]
  rw[e] at this;rw[ja this];simp
theorem Oj{src dst e:TypeId}{a:Addr}{len cap:Nat}{xs:List Int}(hs:P.underlying src=some (.slice e))(he:P.underlying e=some (.int .u8))(Y:P.underlying dst=some .string)
  (hlen:xs.length=len) (hc:∀j u,(xs.map (Value.int .u8))[j]? =some u->w.cell? (a.add j)=some u):
  ∃b:ByteArray,(convert src dst (.slice (some a) len cap)).run P w=.ok (.string b) w/\b.data.toList=strOf xs:=by
 have hl:(loadCells a len).run P w=.ok (xs.map (Value.int .u8)).toArray w:=by
  have:=run_loadCells_list (P:=P) w a (xs.map (Value.int .u8)) hc;simpa[hlen] using this
 rw[run_convert_bytes_string w src dst e _ len cap hs he Y,run_bytesToString w a len cap xs hl,foldl_push_bytes];exact⟨_,rfl,by simp[strOf]⟩
theorem zH{ti:cp}(h:isByte ti=true):ti=.int .u8:=by
 unfold isByte at h;split at h
 ·rfl
 ·cases h
theorem agy(s:F):(bytesOf s).length=s.length:=by simp[bytesOf]
theorem air(S:ai O U X B st tm w){C:Ctx}(H:CtxOk P C){src dst:TypeId}{x:Operand}{o:Nat}(ay:D.op=.convert src dst x)(dy:D.dst=some o)(Y:ce st D.dst=true):
  Holds (uD C src dst o st (aS C st src x)) (cJ P O U X st tm w D):=by
 have bv:=de S C src x;have hs:=H.tt src;have ao:=H.tt dst;have run:∀{vv:Value} {w':World},(convert src dst (Act.eval ⟨tm,[]⟩ x)).run P w=.ok vv w'->(execOp (Act.eval ⟨tm,[]⟩) D).run P w=.ok (.value vv) w':=by
  intro vv w' h;unfold execOp;simp only[ay,Sem.run_bind,h,Result.andThen_ok,Sem.run_pure]
 have sn:∀{ti:cp},ti.ok P src->ti≠.none->∃d,P.underlying src=some d:=by
  intro ti h hn;cases ti with
  |none=>exact absurd rfl hn
  |int k=>exact⟨_,h.1⟩
  |bool=>exact⟨_,h.1⟩
  |str=>exact⟨_,h.1⟩
  |ptr=>obtain⟨_,h⟩:=h;exact⟨_,h.1⟩
  |func=>obtain⟨_,_,_,h⟩:=h;exact⟨_,h.1⟩
  |iface=>obtain⟨_,h⟩:=h;exact⟨_,h.1⟩
  |slice e t b=>exact⟨_,h.1.1⟩
  |map k e t=>exact⟨_,h.1.1⟩
  |struct bM n z eq=>obtain⟨f,h,_⟩:=h;exact⟨_,h⟩
  |arr e t n=>exact⟨_,h.1⟩
 unfold uD;split
 ·exact .fail
 ·rename_i k k' n hk hx hn;rw[hx] at bv;rw[hk] at ao;obtain⟨d,nF⟩:=sn hs (by rintro h;exact absurd h (by simpa using hn))
  refine Holds.ok (dS S Y (run (vv:=.int k (k.wrap n)) ?_) (.int _ _));rw[ja bv];simp[convert,run_underlying nF,run_underlying ao.1,Conv.intToInt]
 ·rename_i s hk hx hn;rw[hx] at bv;rw[hk] at ao;obtain⟨b,hb,dD⟩:=hK bv;obtain⟨d,nF⟩:=sn hs (by rintro h;exact absurd h (by simpa using hn))
  refine Holds.ok (dS S Y (run (vv:=.string b) ?_) (.str _ _ dD));rw[hb];simp[convert,run_underlying nF,run_underlying ao.1]
 ·rename_i e b xs fi r3 hx;cases kv:isByte (C.tt e) with
  |false=>exact .fail
  |true=>
   rw[hx] at bv;rw[r3] at ao;rw[fi] at hs;have he:=H.tt e;rw[zH kv] at he;have bv:bm w (ar X B st.sites) (.sl .u8 xs) (Act.eval ⟨tm,[]⟩ x):=bv;have:∃b:ByteArray,(convert src dst (Act.eval ⟨tm,[]⟩ x)).run P w=.ok (.string b) w/\b.data.toList=strOf xs:=by
    generalize Act.eval ⟨tm,[]⟩ x=v at bv;cases bv with
    |nil=>exact⟨_,run_convert_bytes_nil w src e hs.1.1 he.1 _ _ dst ao.1,rfl⟩
    |sl _ _ a cap cs n hn hcap hb hl hc hr=>
     have:=Ty (xs:=xs) ⟨hl,hr⟩;subst this;exact Oj hs.1.1 he.1 ao.1 hn.symm hc
   obtain⟨b,h1,h2⟩:=this;exact Holds.ok (dS S Y (run h1) (.str _ _ h2))
 ·rename_i e b u fi r3 hx;cases kv:isByte (C.tt e) with
  |false=>exact .fail
  |true=>
   rw[hx] at bv;rw[r3] at ao;rw[fi] at hs;have he:=H.tt e;rw[zH kv] at he;have bv:Act.eval ⟨tm,[]⟩ x=.slice none 0 0:=bv;refine Holds.ok (dS S Y (run (vv:=.string ByteArray.empty) ?_) (.str _ _ rfl));rw[bv];exact run_convert_bytes_nil w src e hs.1.1 he.1 _ _ dst ao.1
 ·rename_i e b M s fi r3 hx;split
  ·rename_i xs hrow;cases kv:isByte (C.tt e) with
   |false=>exact .fail
   |true=>
    rw[hx] at bv;rw[r3] at ao;rw[fi] at hs;have he:=H.tt e;rw[zH kv] at he;have hv:=ajN bv hrow;have:∃b:ByteArray,(convert src dst (Act.eval ⟨tm,[]⟩ x)).run P w=.ok (.string b) w/\b.data.toList=strOf xs:=by
     rw[hv];obtain⟨cs,h1,hc⟩:=S.row hrow;rcases hc with⟨h2,h3⟩|⟨bf,c,h2,h3,aE⟩
     ·subst h3;rw[h2];exact⟨_,run_convert_bytes_nil w src e hs.1.1 he.1 _ _ dst ao.1,rfl⟩
     ·have:=Ty (xs:=xs) (jP h1);subst this;rw[h2];exact Oj hs.1.1 he.1 ao.1 rfl (fun j u hu=>by rw[gV];exact h3 j u hu)
    obtain⟨b,h1,h2⟩:=this;exact Holds.ok (dS S Y (run h1) (.str _ _ h2))
  ·exact .fail
 ·rename_i e b s fi r3 hx;cases kv:isByte (C.tt e) with
  |false=>exact .fail
  |true=>
   rw[hx] at bv;rw[r3] at ao;rw[fi] at hs;have he:=H.tt e;rw[zH kv] at he;obtain⟨hT,hb,dD⟩:=hK bv;have cY:(convert src dst (Act.eval ⟨tm,[]⟩ x)).run P w=.ok (.slice (some ⟨w.heap.size,0,none⟩) hT.size (grownCap w hT.size 0 e)) (Go.Lib.bytesWorld w e hT):=by
    rw[hb];exact Go.Lib.run_convert_string_bytes w src dst e hT hs.1 ao.1.1 he.1
   have hcap:hT.size<=grownCap w hT.size 0 e:=grownCap_ge w hT.size 0 e;refine Holds.fN fun r hr=>?_
   have hmax:hT.size<=maxLen:=by
    have hr:(if s.length<=maxLen then some () else none)=some r:=hr
    split at hr
    ·rename_i h;rw[<-dD] at h;simpa using h
    ·cases hr
   have hsz:(Go.Lib.bytesCells w e hT).size=grownCap w hT.size 0 e:=by
    simp only[Go.Lib.bytesCells,Array.size_append,Array.size_map,Array.size_replicate];have:hT.data.size=hT.size:=rfl;omega
   have hlen:hT.size=(bytesOf s).length:=by rw[agy,<-dD];rfl
   have ee:ai O U X (fun M=>if M=o then .slice (some ⟨w.heap.size,0,none⟩) hT.size (grownCap w hT.size 0 e) else B M) {st with sites:=cg st.sites o (.row (aZ st o) .u8 (bytesOf s))} tm (Go.Lib.bytesWorld w e hT):=by
    refine S.make (fun b hb=>Go.Lib.bytesWorld_at_old w e hT b hb) rfl rfl rfl (by rw[Go.Lib.bytesWorld_size];omega) (fun aa hs=>kD hs)
     (fun b hb=>by have hb:=List.mem_singleton.1 hb;subst hb;exact⟨Nat.le_refl _,by rw[Go.Lib.bytesWorld_size];exact Nat.lt_succ_self _⟩) ?_
    intro bw aD fD ej go aw5 axd;refine⟨e,hT.data.toList.map fun b=>Value.int .u8 b.toNat,⟨?_,.inr ⟨_,_,Go.Lib.bytesCells w e hT,_,ej.trans (by rw[hlen]),⟨(fun h=>by obtain⟨_,z,_,_,fa⟩:=ao;exact fa h),.inr ⟨rfl,Nat.le_refl _⟩⟩,Go.Lib.bytesWorld_at_new w e hT,by rw[<-hlen];exact hcap,grownCap_le_maxLen w hT.size 0 e hmax,?_,?_⟩⟩,fun j g1 g2=>?_⟩
    ·rw[List.length_map,<-hlen];exact(Nat.mul_one _).symm
    ·rw[hsz];exact(Nat.mul_one _).symm
    ·have h1:(bytesOf s).length*aA .u8=(hT.data.toList.map fun b=>Value.int .u8 b.toNat).length:=by rw[List.length_map,<-hlen];exact Nat.mul_one _
     rw[h1];simp only[Go.Lib.bytesCells,Array.toList_append,Array.toList_map];exact List.take_left
    ·subst dD;simp only[tN,bytesOf,List.getElem_map];exact .int _ _
   refine jN (us:=[(o,.row (aZ st o) .u8 (bytesOf s))]) ee Y (run cY) ?_
   refine⟨rfl,Ref.mk (aa:=.row (aZ st o) .u8 (bytesOf s)) ?_ rfl (by simp[b0])⟩
   simp only[aY,cC];simp
 ·exact .fail
end
section
variable {P:Program}{O:World}{U:List Nat}{X:Nat->Prop}{B:Nat->Value}{st:af}{tm:Array Value}{w:World}{D:Oper}
theorem SJ(S:ai O U X B st tm w){C:Ctx}{x:Operand}(ay:D.op=.move x\/D.op=.assign x)(Y:ce st D.dst=true)(T:TypeId):cJ P O U X st tm w D (aS C st T x) []:=by
 refine dS S Y (vv:=Act.eval ⟨tm,[]⟩ x) ?_ (de S C T x);unfold execOp;rcases ay with h|h<;>simp only[h,Sem.run_pure]
theorem SC(S:ai O U X B st tm w){C:Ctx}{c a b:Operand}{t:Bool}{T:TypeId}(ay:D.op=.pick c a b)(Y:ce st D.dst=true)(hc:aS C st T c=.av (.ag (.d (.bool t)))):
  cJ P O U X st tm w D (aS C st T (if t then a else b)) []:=by
 refine dS S Y (vv:=Act.eval ⟨tm,[]⟩ (if t then a else b)) ?_ (de S C T _)
 unfold execOp;have:=Ji S hc;cases t<;>simp[ay,this,asBool]
theorem acL(S:ai O U X B st tm w){C:Ctx}{x:Operand}{t:Bool}{T dl:TypeId}(ay:D.op=.unOp .not dl x)(Y:ce st D.dst=true)(hc:aS C st T x=.av (.ag (.d (.bool t)))):
  cJ P O U X st tm w D (one (.bool (!t))) []:=by
 refine dS S Y (vv:=.bool (!t)) ?_ (.bool _);unfold execOp;simp[ay,Ji S hc,Op.unary]
theorem acM(S:ai O U X B st tm w){C:Ctx}{x:Operand}{k:IntKind}{n:Int}{T dl:TypeId}(ay:D.op=.unOp .neg dl x)(Y:ce st D.dst=true)(hc:aS C st T x=.av (.ag (.d (.int k n)))):
  cJ P O U X st tm w D (one (.int k (k.wrap (0-n)))) []:=by
 refine dS S Y (vv:=.int k (k.wrap (0-n))) ?_ (.int _ _);unfold execOp;simp[ay,kJ S hc,Op.unary,Op.intArith]
theorem Fv(S:ai O U X B st tm w){C:Ctx}{x:Operand}{v:aI}{T:TypeId}(ay:D.op=.nilCheck x)(Y:ce st D.dst=true)(hc:aS C st T x=v)
  (hv:∀vv,cj B st.sites w (ar X B st.sites) v vv->∃a,vv=.pointer (some a)):cJ P O U X st tm w D v []:=by
 have:=de S C T x;rw[hc] at this;obtain⟨a,ha⟩:=hv _ this;refine dS S Y (vv:=Act.eval ⟨tm,[]⟩ x) ?_ this;unfold execOp;simp[ay,ha]
theorem aeo(S:ai O U X B st tm w){C:Ctx}{x:Operand}{i:Nat}{as:List bH}{a:bH}{T:TypeId}(ay:D.op=.extract x i)(Y:ce st D.dst=true)(hc:aS C st T x=.kq as)(ha:as[i]? =some a):
  cJ P O U X st tm w D (.av a) []:=by
 have bv:=de S C T x;rw[hc] at bv;obtain⟨vs,h1,h2,h3⟩:=bv;obtain⟨hi,atK⟩:=List.getElem?_eq_some_iff.1 ha;have k3:i<vs.length:=by omega
 refine dS S Y (vv:=vs[i]) ?_ (by rw[<-atK];exact h3 i hi k3)
 unfold execOp;simp[ay,h1,Instr.extract,k3]
theorem Qr(S:ai O U X B st tm w){C:Ctx}{x y:Operand}{k k':IntKind}{a b:Int}{T:TypeId}{ux:Bool}{cZ:Array TypeId}(ay:D.op=.call {callee:=.builtin (if ux then .max else .min),args:=#[x,y],argTypes:=cZ})(Y:ce st D.dst=true)
  (hx:aS C st T x=.av (.ag (.d (.int k a)))) (hy:aS C st T y=.av (.ag (.d (.int k' b)))):cJ P O U X st tm w D (one (.int k (if ux then h9 a b else nf a b))) []:=by
 refine dS S Y (vv:=.int k (if ux then h9 a b else nf a b)) ?_ (.int _ _)
 unfold execOp;cases ux<;>simp[ay,resolve,invoke,builtin,kJ S hx,kJ S hy,Builtin.max_,Builtin.min_,Builtin.max2,Builtin.min2,h9,nf]
theorem ajT(S:ai O U X B st tm w){C:Ctx}{x y z u v:Operand}{k aw an bo cl:IntKind}{a b c d e:Int}{T:TypeId}{cZ:Array TypeId}(ay:D.op=.call {callee:=.builtin .max,args:=#[x,y,z,u,v],argTypes:=cZ})(Y:ce st D.dst=true)
  (hx:aS C st T x=.av (.ag (.d (.int k a)))) (hy:aS C st T y=.av (.ag (.d (.int aw b)))) (hz:aS C st T z=.av (.ag (.d (.int an c)))) (hu:aS C st T u=.av (.ag (.d (.int bo d)))) (hv:aS C st T v=.av (.ag (.d (.int cl e)))):
  cJ P O U X st tm w D (one (.int k (h9 (h9 (h9 (h9 a b) c) d) e))) []:=by
 refine dS S Y (vv:=.int k (h9 (h9 (h9 (h9 a b) c) d) e)) ?_ (.int _ _);unfold execOp;simp[ay,resolve,invoke,builtin,kJ S hx,kJ S hy,kJ S hz,kJ S hu,kJ S hv,Builtin.max_,Builtin.max2,h9]
theorem ais(S:ai O U X B st tm w){C:Ctx}:∀{xs:List Operand} {bE:List (Nat×Nat)},step.pc C st xs=some bE->xs.length=bE.length/\
  ∀i (h:i<bE.length) (ae:i<xs.length),Ref st.sites (bE[i]).1 (bE[i]).2 (Act.eval ⟨tm,[]⟩ (xs[i])=b0 (B (bE[i]).1)):=by
 intro xs;induction xs with
 |nil=>intro bE h;simp only[step.pc] at h;cases h;exact⟨rfl,fun i h=>by simp at h⟩
 |cons x xs ih=>
  intro bE h;simp only[step.pc] at h;split at h
  ·rename_i o s l hx hl;cases h;obtain⟨h1,h2⟩:=ih hl;refine⟨by simp[h1],fun i g1 g2=>?_⟩
   cases i with
   |zero=>
    have:=de S C 0 x;rw[hx] at this;obtain⟨b,hb,aa,r1,r2,jJ⟩:=this;exact⟨aa,r1,r2,fun e=>by simp only[List.getElem_cons_zero];rw[jJ e];exact hb⟩
   |succ i=>simpa using h2 i (by simpa using g1) (by simpa using g2)
  ·cases h
theorem ac5(S:ai O U X B st tm w){C:Ctx}{g:FuncId}{first captured:Array Operand}{bE:List (Nat×Nat)}(ay:D.op=.makeFunc (.func g) first captured)(Y:ce st D.dst=true)(hf:first.toList.isEmpty=true)
  (hc:step.pc C st captured.toList=some bE):cJ P O U X st tm w D (bP (.clo g bE)) []:=by
 obtain⟨h1,h2⟩:=ais S hc;refine dS S Y (vv:=.func (.func g) #[] (captured.toList.map (Act.eval ⟨tm,[]⟩)).toArray) ?_ ⟨captured.toList.map (Act.eval ⟨tm,[]⟩),rfl,by simpa using h1,fun i g1 g2=>?_⟩
 ·have:first=#[]:=by simpa using hf
  unfold execOp;simp only[ay,Instr.makeFunc,Sem.run_bind,Sem.run_pure,Result.andThen_ok,this];simp;apply Array.ext';simp
 ·have:=h2 i g1 (by simpa using g2)
  simpa using this
theorem QQ(S:ai O U X B st tm w){C:Ctx}{bM:List (Nat×Nat)}:∀(parts:List (Nat×Operand)) (z:List az) (cells:Array Value),cy B st.sites w (ar X B st.sites) z cells.toList->
  Holds (step.n7 C st bM z parts) (fun v us=>us=[]/\∃kf,Instr.fill (bM.toArray[·]?) cells (parts.map fun p=>(p.1,Act.eval ⟨tm,[]⟩ p.2))=some kf/\cj B st.sites w (ar X B st.sites) v (.agg kf)):=by
 intro parts;induction parts with
 |nil=>intro z cells h;exact Holds.ok ⟨rfl,cells,rfl,cells.toList,by simp,h.1,h.2⟩
 |cons p parts ih=>
  obtain⟨i,x⟩:=p;intro z cells h;simp only[step.n7];split
  ·rename_i off n a hf ha;cases hb:(a.cells.length.beq n&&hH a.cells&&Nat.ble (off+n) z.length) with
   |false=>exact .fail
   |true=>
    simp only[cond_true];simp only[Bool.and_eq_true] at hb;obtain⟨⟨b1,b2⟩,b3⟩:=hb;have b1:=Nat.eq_of_beq_eq_true b1;have b3:=Nat.le_of_ble_eq_true b3;have bv:=de S C 0 x;rw[rk ha] at bv;have qo:=gZ.cells (bv:gZ B st.sites w _ a _) b2;have hsz:(Act.eval ⟨tm,[]⟩ x).cells.size=n:=by rw[<-b1,<-qo.1];simp
    have hle:off+(Act.eval ⟨tm,[]⟩ x).cells.size<=cells.size:=by
     have:=h.1;simp at this;omega
    have:=ih (Jk.bA z off a.cells) (Jk.bA cells.toList off (Act.eval ⟨tm,[]⟩ x).cells.toList).toArray (by simpa using cy.bA off h qo)
    intro y hy hc;obtain⟨g1,kf,g2,g3⟩:=this y hy hc;refine⟨g1,kf,?_,g3⟩;simp only[List.map_cons,Instr.fill];have MM:bM.toArray[i]? =some (off,n):=by simpa using hf
    simp only[MM];have c1:¬((Act.eval ⟨tm,[]⟩ x).cells.size≠n\/off+(Act.eval ⟨tm,[]⟩ x).cells.size>cells.size):=by omega
    have c2:(decide ((Act.eval ⟨tm,[]⟩ x).cells.size≠n)||decide (off+(Act.eval ⟨tm,[]⟩ x).cells.size>cells.size))=false:=by
     simp;omega
    have jV:off+n<=cells.size:=by omega
    rw[OW _ _ _ hle];simp only[Bool.decide_or,hsz] at*;simpa[c2,jV] using g2
  ·exact .fail
theorem aiu(S:ai O U X B st tm w){C:Ctx}(H:CtxOk P C){T:TypeId}{parts:Array (Nat×Operand)}{bM:List (Nat×Nat)}{n:Nat}{z:List az}{eq:Bool}(a_:C.tt T=.struct bM n z eq)(ay:D.op=.build T parts)
  (Y:ce st D.dst=true):Holds (step.n7 C st bM z parts.toList) (cJ P O U X st tm w D):=by
 have bL:=H.tt T;rw[a_] at bL;obtain⟨fields,eL,⟨hf,_⟩,⟨gi,hz,hzz,Eh⟩,_⟩:=bL;obtain⟨aw,an,bo⟩:=s' hzz;intro y hy hc;obtain⟨g1,kf,g2,g3⟩:=QQ S parts.toList z gi ⟨aw,fun j h ae=>bo _ _ _ _ j h ae⟩ y hy hc
 rw[g1];refine dS S Y (vv:=.agg kf) ?_ g3;cases hi:P.info? T with
 |none=>simp[hi] at hz
 |some it=>
  simp only[hi,Option.map_some,Option.some.injEq,Prod.mk.injEq] at hz;have hb:P.built T (parts.toList.map fun p=>(p.1,Act.eval ⟨tm,[]⟩ p.2))=some kf:=by
   unfold Program.built;simp only[hi,eL,hz.2,hf];exact g2
  have cd:P.built T (parts.map fun p=>(p.1,Act.eval ⟨tm,[]⟩ p.2)).toList=some kf:=by simpa using hb
  unfold execOp;simp only[ay,Sem.run_bind,run_build w T _ kf cd,Result.andThen_ok,Sem.run_pure]
end
end Go.Jk
