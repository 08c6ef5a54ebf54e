/- FnExactDiskOk: the program's DiskOk returns what the reference's returns, for all arguments. (part 1 of 7: JkCore, JkGlob, JkState, JkExec, JkFoot, JkCode, JkTurn, JkOps1, JkOps2, JkOps3, JkOps4, JkOps5, JkOps6, JkOps7, JkOps8, JkOps9, JkOps10, JkOps11, JkOps12, JkOps13, JkOps14, JkOps15, JkOps16, JkOps17,) Conditions: none beyond the statement. -/
import Derived.Calls
import Derived.Below
import Derived.WalkKit
import Derived.Laws.AppendOwn
import Derived.Great.BuildSlice
import Derived.IntWalk
import Derived.Laws.Tables
import Derived.MapKept
import Derived.Laws.BytesArg
import Derived.Lib.ConvBytes
set_option linter.unusedSimpArgs false
set_option linter.unusedVariables false
namespace Go.Jk
abbrev F:=List UInt8
structure aA where
 path:F
 kind:Int
 mode:Int
 text:F
structure bB where
 name:F
 kind:Int
 a8:F
structure ba where
 name:F
 a8:F
 bm:List bB
 bW:List aA
structure ane where
 name:F
 text:F
structure Yz where
 name:F
 text:F
structure Source where
 name:F
 sum:F
structure Piece where
 name:F
 eX:F
structure ahV where
 name:F
 a8:F
 lets:List Yz
 builds:List bB
 runs:List bB
 sources:List Source
 pieces:List Piece
 steps:List F
structure amI where
 at_:Int
 lines:List F
inductive aY where
 |i64|u8|u32|bool|str|entry|need|pack|file|lt|source|piece|recipe|hunk|sB
 deriving DecidableEq
@[reducible] def den:aY->Type
 |.i64|.u8|.u32=>Int
 |.bool=>Bool
 |.str=>F
 |.entry=>aA
 |.need=>bB
 |.pack=>ba
 |.file=>ane
 |.lt=>Yz
 |.source=>Source
 |.piece=>Piece
 |.recipe=>ahV
 |.hunk=>amI
 |.sB=>List Bool
inductive aZ:Type where
 |int (k:IntKind) (n:Int)
 |bool (b:Bool)
 |str (s:F)
 |sl (t:aY) (xs:List (den t))
 |fn (g:FuncId) (bw:List (List aZ))
 |map (t:aY) (es:List (F×den t))
 |err (T:Nat) (B:Option Int)
def enc:(t:aY)->den t->List aZ
 |.i64,n=>[.int .i64 n]
 |.u8,n=>[.int .u8 n]
 |.u32,n=>[.int .u32 n]
 |.bool,b=>[.bool b]
 |.str,s=>[.str s]
 |.entry,e=>[.str e.path,.int .i64 e.kind,.int .i64 e.mode,.str e.text]
 |.need,n=>[.str n.name,.int .i64 n.kind,.str n.a8]
 |.pack,p=>[.str p.name,.str p.a8,.sl .need p.bm,.sl .entry p.bW]
 |.file,f=>[.str f.name,.str f.text]
 |.lt,f=>[.str f.name,.str f.text]
 |.source,f=>[.str f.name,.str f.sum]
 |.piece,f=>[.str f.name,.str f.eX]
 |.recipe,r=>[.str r.name,.str r.a8,.sl .lt r.lets,.sl .need r.builds,.sl .need r.runs,.sl .source r.sources,.sl .piece r.pieces,.sl .str r.steps]
 |.hunk,h=>[.int .i64 h.at_,.sl .str h.lines]
 |.sB,b=>[.sl .bool b]
def aT:aY->Nat
 |.i64|.u8|.u32|.bool|.str|.sB=>1
 |.entry=>4
 |.need=>3
 |.pack=>4
 |.file|.lt|.source|.piece|.hunk=>2
 |.recipe=>8
def dec:(t:aY)->List aZ->Option (den t)
 |.i64,[.int .i64 n]=>some n
 |.u8,[.int .u8 n]=>some n
 |.u32,[.int .u32 n]=>some n
 |.bool,[.bool b]=>some b
 |.str,[.str s]=>some s
 |.entry,[.str a,.int .i64 k,.int .i64 m,.str b]=>some ⟨a,k,m,b⟩
 |.need,[.str a,.int .i64 k,.str b]=>some ⟨a,k,b⟩
 |.pack,[.str a,.str b,.sl .need ns,.sl .entry es]=>some ⟨a,b,ns,es⟩
 |.file,[.str a,.str b]=>some ⟨a,b⟩
 |.lt,[.str a,.str b]=>some ⟨a,b⟩
 |.source,[.str a,.str b]=>some ⟨a,b⟩
 |.piece,[.str a,.str b]=>some ⟨a,b⟩
 |.recipe,[.str a,.str b,.sl .lt ad,.sl .need bs,.sl .need kB,.sl .source aR,.sl .piece ps,.sl .str b9]=>some ⟨a,b,ad,bs,kB,aR,ps,b9⟩
 |.hunk,[.int .i64 n,.sl .str ad]=>some ⟨n,ad⟩
 |.sB,[.sl .bool b]=>some b
 |_,_=>none
theorem iN:∀(t:aY) (x:den t),(enc t x).length=aT t:=by
 intro t x;cases t<;>rfl
theorem lC(t:aY):0<aT t:=by cases t<;>decide
theorem zq:∀(t:aY) (ds:List aZ) (x:den t),dec t ds=some x->enc t x=ds:=by
 intro t ds x h;unfold dec at h;split at h<;>first|(cases h;rfl)|cases h
def flat(t:aY)(xs:List (den t)):List aZ:=xs.flatMap (enc t)
theorem eV(t:aY)(xs:List (den t)):(flat t xs).length=xs.length*aT t:=by
 unfold flat;induction xs with
 |nil=>simp
 |cons x xs ih=>simp[List.flatMap_cons,iN,ih,Nat.add_mul,Nat.add_comm]
theorem ra(t:aY)(xs bd:List (den t)):flat t (xs++bd)=flat t xs++flat t bd:=by
 simp[flat,List.flatMap_append]
theorem flat_get(t:aY)(xs:List (den t))(i j:Nat)(x:den t)(hx:xs[i]? =some x)(hj:j<aT t):
  (flat t xs)[i*aT t+j]? =(enc t x)[j]? :=by
 induction xs generalizing i with
 |nil=>simp at hx
 |cons y bd ih=>
  cases i with
  |zero=>
   simp only[List.getElem?_cons_zero,Option.some.injEq] at hx;subst hx;simp only[Nat.zero_mul,Nat.zero_add,flat,List.flatMap_cons];rw[List.getElem?_append_left (by rw[iN];exact hj)]
  |succ i=>
   simp only[List.getElem?_cons_succ] at hx;have:=ih i hx;simp only[flat,List.flatMap_cons] at this ⊢;rw[List.getElem?_append_right (by rw[iN,Nat.add_mul];omega),iN]
   rw[<-this];congr 1
   rw[Nat.add_mul];omega
theorem aeb(t:aY)(xs:List (den t))(i:Nat)(x:den t):
  flat t (xs.set i x)=(flat t xs).take (i*aT t)++(if i<xs.length then enc t x else [])++(flat t xs).drop ((i+1)*aT t):=by
 induction xs generalizing i with
 |nil=>simp[flat]
 |cons y bd ih=>
  cases i with
  |zero=>
   simp only[List.set_cons_zero,flat,List.flatMap_cons,Nat.zero_mul,List.take_zero,List.nil_append,List.length_cons,Nat.zero_lt_succ,if_true,Nat.zero_add,Nat.one_mul];rw[List.drop_append_of_le_length (by rw[iN];omega)]
   rw[show List.drop (aT t) (enc t y)=[] from List.drop_eq_nil_of_le (by rw[iN];exact Nat.le_refl _)]
   rfl
  |succ i=>
   have h:=ih i;simp only[flat] at h;simp only[List.set_cons_succ,flat,List.flatMap_cons,List.length_cons];rw[h];have e1:List.take ((i+1)*aT t) (enc t y++bd.flatMap (enc t))=enc t y++(bd.flatMap (enc t)).take (i*aT t):=by
    rw[List.take_append,List.take_of_length_le (by rw[iN,Nat.add_mul];omega),iN]
    congr 2
    rw[Nat.add_mul];omega
   have e2:List.drop ((i+1+1)*aT t) (enc t y++bd.flatMap (enc t))=(bd.flatMap (enc t)).drop ((i+1)*aT t):=by
    rw[List.drop_append,List.drop_eq_nil_of_le (by rw[iN,Nat.add_mul,Nat.add_mul];omega),iN,List.nil_append]
    congr 1
    rw[Nat.add_mul (i+1) 1];omega
   rw[e1,e2];simp only[Nat.add_lt_add_iff_right,List.append_assoc]
def ii:List Int:=[1116352408,1899447441,3049323471,3921009573,961987163,1508970993,2453635748,2870763221,3624381080,310598401,607225278,1426881987,1925078388,2162078206,2614888103,3248222580,3835390401,4022224774,264347078,604807628,770255983,1249150122,1555081692,1996064986,2554220882,2821834349,2952996808,3210313671,3336571891,3584528711,113926993,338241895,666307205,773529912,1294757372,1396182291,1695183700,1986661051,2177026350,2456956037,2730485921,2820302411,3259730800,3345764771,3516065817,3600352804,4094571909,275423344,430227734,506948616,659060556,883997877,958139571,1322822218,1537002063,1747873779,1955562222,2024104815,2227730452,2361852424,2428436474,2756734187,3204031479,3329325298]
def R0:List Int:=(List.range 20).map fun i=>((10^i:Nat):Int)
def nB(w:World)(g:Nat)(k:IntKind)(zs:List Int):Prop:=∃T fz,w.heap[g]? =some (.cells (zs.map fun z=>Value.int k z).toArray T fz)
def qL:TypeId:=91
def l6:TypeId:=5
def kv:List Nat:=[0,1]
def mM(w:World):Prop:=nB w 0 .u32 ii/\nB w 1 .u64 R0
theorem ai1{w w':World}(h:∀b,b∈kv->w'.heap[b]? =w.heap[b]?)(k:mM w):mM w':=by
 obtain⟨⟨KA,f0,h0⟩,⟨c7,f1,h1⟩⟩:=k;exact⟨⟨KA,f0,(h 0 (by simp[kv])).trans h0⟩,⟨c7,f1,(h 1 (by simp[kv])).trans h1⟩⟩
theorem nB.lt{w:World}{g:Nat}{k:IntKind}{zs:List Int}(h:nB w g k zs):g<w.heap.size:=by
 obtain⟨T,f,h⟩:=h;exact(Array.getElem?_eq_some_iff.1 h).1
theorem apQ{w:World}(k:mM w)(b:Nat)(h:b∈kv):b<w.heap.size:=by
 simp only[kv,List.mem_cons,List.not_mem_nil,or_false] at h;rcases h with rfl|rfl
 ·exact k.1.lt
 ·exact k.2.lt
inductive aE:Type where
 |d (v:aZ)
 |nil (t:aY) -- sY nil slice
 |own (o s:Nat) -- sY whole of a row of Ax own
 |ptr (o s off:Nat) -- a pointer asW a box of Ax own
 |et (cells:List aZ) (off:Nat) -- a pointer Yf cells AX Xm only read
 |eR (o s:Nat) (t:aY) (k off:Nat) -- a pointer Yf asw k of a row of Ax own,aoz cell 'oK
 |clo (g:FuncId) (bw:List (Nat×Nat)) -- a closure over boxes of Ax own
 |cN (v:Value) -- asV this value
 |fresh (t:aY) (xs:List (den t)) -- a row AX asC else holds (agl caller and callee alone)
 |dj -- in a ai8 first cell:nil,or sY ai8 own address (strings.asy)
 |any
inductive bL:Type where
 |ak (l:aE)
 |agg (ad:List aE)
inductive aJ:Type where
 |av (a:bL)
 |jw (as:List bL)
inductive Site:Type where
 |box (s:Nat) (cells:List aE)
 |row (s:Nat) (t:aY) (xs:List (den t))
 |db (s:Nat) (t:aY) (xs:List (den t))
 |map (s:Nat) (t:aY) (es:List (F×den t))
 |dead (s:Nat)
def Site.cq:Site->Nat
 |.box s _|.row s _ _|.db s _ _|.map s _ _|.dead s=>s
def Site.live:Site->Bool
 |.box _ _|.row _ _ _|.map _ _ _=>true
 |_=>false
def look{aB:Type}:List (Nat×aB)->Nat->Option aB
 |[],_=>none
 |(k,v)::r,n=>bif k.beq n then some v else look r n
def ci{aB:Type}:List (Nat×aB)->Nat->aB->List (Nat×aB)
 |[],n,v=>[(n,v)]
 |(k,w)::r,n,v=>bif k.beq n then(k,v)::r else(k,w)::ci r n v
theorem ju{a b:Nat}(h:¬a=b):a.beq b=false:=by
 cases e:a.beq b
 ·rfl
 ·exact absurd (Nat.eq_of_beq_eq_true e) h
theorem cV{aB:Type}(l:List (Nat×aB))(n m:Nat)(v:aB):look (ci l n v) m=if n=m then some v else look l m:=by
 induction l with
 |nil=>
  simp only[ci,look];by_cases h:n=m
  ·subst h;simp
  ·have:n.beq m=false:=ju h;simp[this,h]
 |cons p l ih=>
  obtain⟨k,w⟩:=p;simp only[ci];by_cases h:k=n
  ·subst h;simp only[Nat.beq_refl,cond_true,look];by_cases hm:k=m
   ·subst hm;simp
   ·have:k.beq m=false:=ju hm;simp[this,hm]
  ·have hb:k.beq n=false:=ju h;simp only[hb,cond_false,look];by_cases hm:k=m
   ·subst hm;have:¬n=k:=fun e=>h e.symm
    simp[this]
   ·have:k.beq m=false:=ju hm;simp[this,ih]
structure ah where
 cE:List (Nat×aJ)
 sites:List (Nat×Site)
 nt:Nat
def ah.get(st:ah)(t:Nat):aJ:=match look st.cE t with|some v=>v|none=>.av (.ak .any)
def ah.ab(st:ah)(o:Nat):Option Site:=look st.sites o
def ah.set(st:ah)(t:Nat)(v:aJ):ah:={st with cE:=ci st.cE t v}
def ah.h_(st:ah)(o:Nat)(s:Site):ah:={st with sites:=ci st.sites o s}
@[simp] theorem ah.FU(st:ah)(t u:Nat)(v:aJ):(st.set t v).get u=if t=u then v else st.get u:=by
 unfold ah.set ah.get;rw[cV];by_cases h:t=u<;>simp[h]
@[simp] theorem ah.ac8(st:ah)(t o:Nat)(v:aJ):(st.set t v).ab o=st.ab o:=rfl
@[simp] theorem ah.ahq(st:ah)(t:Nat)(v:aJ):(st.set t v).nt=st.nt:=rfl
@[simp] theorem ah._B(st:ah)(o u:Nat)(s:Site):(st.h_ o s).get u=st.get u:=rfl
@[simp] theorem ah.wU(st:ah)(o aa:Nat)(s:Site):(st.h_ o s).ab aa=if o=aa then some s else st.ab aa:=by
 unfold ah.h_ ah.ab;simp only[cV]
@[simp] theorem ah.aak(st:ah)(o:Nat)(s:Site):(st.h_ o s).nt=st.nt:=rfl
def mQ:(t:aY)->den t->Value
 |.i64,n=>.int .i64 n
 |.bool,b=>.bool b
 |_,_=>undef
def gK(l:F):Value:=.string ⟨l.toArray⟩
def mn(arr:Array MapEntry):List (Value×Value):=arr.toList.map fun e=>(e.key,e.val)
def jO(t:aY)(es:List (F×den t)):List (Value×Value):=es.map fun p=>(gK p.1,mQ t p.2)
def lL(w:World)(b:Nat)(t:aY)(es:List (F×den t)):Prop:=∃arr clock,w.heap[b]? =some (.map arr clock)/\mn arr=jO t es
theorem lL.of{w w':World}{b:Nat}{t:aY}{es:List (F×den t)}(h:w'.heap[b]? =w.heap[b]?)(m:lL w b t es):lL w' b t es:=by
 obtain⟨arr,c,h1,h2⟩:=m;exact⟨arr,c,h.trans h1,h2⟩
theorem lL.lt{w:World}{b:Nat}{t:aY}{es:List (F×den t)}(m:lL w b t es):b<w.heap.size:=by
 obtain⟨arr,c,h1,h2⟩:=m;rcases Nat.lt_or_ge b w.heap.size with h|h
 ·exact h
 ·rw[Array.getElem?_eq_none h] at h1;cases h1
inductive bA(w:World)(av:Nat->Prop):aZ->Value->Prop where
 |int (k:IntKind) (n:Int):bA w av (.int k n) (.int k n)
 |bool (b:Bool):bA w av (.bool b) (.bool b)
 |str (l:F) (s:ByteArray) (h:s.data.toList=l):bA w av (.str l) (.string s)
 |nil (t:aY):bA w av (.sl t []) (.slice none 0 0)
 |sl (t:aY) (xs:List (den t)) (a:Addr) (cap:Nat) (cs:List Value) (n:Nat) (hn:n=xs.length) (hcap:n<=cap) (hb:xs≠[]->¬av a.block)
   (hl:cs.length=(flat t xs).length)
   (hc:∀j u,cs[j]? =some u->w.cell? (a.add j)=some u)
   (hr:∀j (h:j<(flat t xs).length) (af:j<cs.length),bA w av ((flat t xs)[j]) (cs[j])):bA w av (.sl t xs) (.slice (some a) n cap)
 |fn (g:FuncId) (bw:List (List aZ)) (bs:List Nat) (iM:Nat->List Value) (lb:Array Value) (hlb:lb=(bs.map fun b=>Value.pointer (some ⟨b,0,none⟩)).toArray) (tg:bs.length=bw.length)
   (hb:∀b,b∈bs->¬av b) (hlt:∀b,b∈bs->b<w.heap.size)
   (hl:∀i (h:i<bw.length),(iM i).length=(bw[i]).length)
   (hc:∀i (h:i<bs.length) j u,(iM i)[j]? =some u->w.cell? ⟨bs[i],j,none⟩=some u)
   (hr:∀i (h:i<bw.length) j (h1:j<(bw[i]).length) (h2:j<(iM i).length),bA w av ((bw[i])[j]) ((iM i)[j])):
   bA w av (.fn g bw) (.func (.func g) #[] lb)
 |vd (t:aY):bA w av (.map t []) (.map none)
 |map (t:aY) (es:List (F×den t)) (b:Nat) (hb:¬av b) (hm:lL w b t es):bA w av (.map t es) (.map (some b))
 |vp (T:TypeId):bA w av (.err T none) .nilIface
 |err (T:TypeId) (n:Int):bA w av (.err T (some n)) (.iface T (.agg #[.int .i64 n]))
theorem bA.jl{w:World}{av:Nat->Prop}{d:aZ}{v:Value}(r:bA w av d v):v.oneCell'=true:=by
 cases r<;>rfl
def Be(v:Value):Prop:=v=.slice none 0 0\/∃b n c,v=.slice (some ⟨b,0,none⟩) n c
def bG:Value->Option Nat
 |.slice (some a) _ _=>some a.block
 |.pointer (some a)=>some a.block
 |.map (some b)=>some b
 |_=>none
section
variable (D:Nat->Value)(sites:List (Nat×Site))(w:World)(av:Nat->Prop)
def Ref(o s:Nat)(p:Prop):Prop:=∃ab,look sites o=some ab/\s<=ab.cq/\(ab.cq=s->p)
def dO:aE->Value->Prop
 |.d x,v=>bA w av x v
 |.nil _,v=>v=.slice none 0 0
 |.own o s,v=>v.oneCell'=true/\Ref sites o s (v=D o)
 |.ptr o s off,v=>∃b,v=.pointer (some ⟨b,off,none⟩)/\Ref sites o s (D o=.pointer (some ⟨b,0,none⟩))
 |.et cells off,v=>∃b B,v=.pointer (some ⟨b,B+off,none⟩)/\¬av b/\b<w.heap.size/\∃cs:List Value,cs.length=cells.length/\(∀j u,cs[j]? =some u->w.cell? ⟨b,B+j,none⟩=some u)/\
   ∀j (h:j<cells.length) (af:j<cs.length),bA w av (cells[j]) (cs[j])
 |.eR o s t k off,v=>∃b,v=.pointer (some ⟨b,k*aT t+off,none⟩)/\Ref sites o s (∃n c,D o=.slice (some ⟨b,0,none⟩) n c)
 |.clo g bw,v=>∃vs:List Value,v=.func (.func g) #[] vs.toArray/\vs.length=bw.length/\∀i (h:i<bw.length) (af:i<vs.length),Ref sites (bw[i]).1 (bw[i]).2 (vs[i]=D (bw[i]).1)
 |.cN u,v=>v=u
 |.fresh _ _,_=>False
 |.dj,_=>True
 |.any,_=>True
def aY.jy:aY->Bool
 |.u8=>true
 |_=>false
def mA(u:Bool)(e:TypeId)(cur:Array Value)(fz:Nat×Nat):Prop:=(u=true->e=l6)/\(fz=(0,0)\/u=true/\cur.size<=fz.1)
def rowAt(w:World)(u:Bool)(e:TypeId)(size:Nat)(v:Value)(n:Nat)(xs:List Value):Prop:=
 xs.length=n*size/\((v=.slice none 0 0/\n=0)\/
  ∃g cap cur fz,v=.slice (some ⟨g,0,none⟩) n cap/\mA u e cur fz/\w.heap[g]? =some (.cells cur e fz)/\n<=cap/\cap<=maxLen/\cur.size=cap*size/\cur.toList.take (n*size)=xs)
theorem De(w:World)(u:Bool)(e:TypeId)(size:Nat):rowAt w u e size (.slice none 0 0) 0 []:=⟨by simp,.inl ⟨rfl,rfl⟩⟩
def mu(cells:List aE)(T:TypeId)(cur:List Value)(b:Nat):Prop:=cells.head?=some .dj->T=qL/\(cur.head?=some (.pointer none)\/cur.head?=some (.pointer (some ⟨b,0,none⟩)))
def gO:bL->Value->Prop
 |.ak l,v=>dO D sites w av l v
 |.agg ad,v=>∃vs:List Value,v=.agg vs.toArray/\vs.length=ad.length/\∀j (h:j<ad.length) (af:j<vs.length),dO D sites w av (ad[j]) (vs[j])
def b_:aJ->Value->Prop
 |.av a,v=>gO D sites w av a v
 |.jw as,v=>∃vs:List Value,v=.tuple vs.toArray/\vs.length=as.length/\∀j (h:j<as.length) (af:j<vs.length),gO D sites w av (as[j]) (vs[j])
def jN(o:Nat):Site->Prop
 |.box _ cells=>∃b T,∃cur:List Value,D o=.pointer (some ⟨b,0,none⟩)/\w.heap[b]? =some (.cells cur.toArray T (0,0))/\cur.length=cells.length/\
   (∀u∈cur,u.oneCell'=true)/\mu cells T cur b/\∀j (h:j<cells.length) (af:j<cur.length),dO D sites w av (cells[j]) (cur[j])
 |.row _ t xs=>∃e,∃cs:List Value,rowAt w t.jy e (aT t) (D o) xs.length cs/\∀j (h:j<(flat t xs).length) (af:j<cs.length),bA w av ((flat t xs)[j]) (cs[j])
 |.db _ t xs=>bA w av (.sl t xs) (D o)/\Be (D o)
 |.map _ t es=>∃b,D o=.map (some b)/\lL w b t es
 |.dead _=>True
end
def cd(sites:List (Nat×Site))(o:Nat):Prop:=∃ab,look sites o=some ab/\ab.live=true
def aw(X:Nat->Prop)(D:Nat->Value)(sites:List (Nat×Site))(b:Nat):Prop:=X b\/∃o,cd sites o/\bG (D o)=some b
structure Fr(Y:List Nat)(O w:World):Prop where
 os:w.os=O.os
 tape:w.tape=O.tape
 output:w.output=O.output
 size:O.heap.size<=w.heap.size
 block:∀b,b<O.heap.size->b∉Y->w.heap[b]? =O.heap[b]?
theorem Fr.refl(Y:List Nat)(w:World):Fr Y w w:=⟨rfl,rfl,rfl,Nat.le_refl _,fun _ _ _=>rfl⟩
structure iu(w:World)(Y:List Nat)(X:Nat->Prop):Prop where
 ok:mM w
 Y:∀b,b∈kv->b∉Y
 X:∀b,b∈kv->¬X b
 lt:∀b,b∈kv->b<w.heap.size
theorem iu.less{w:World}{Y:List Nat}{X X':Nat->Prop}(G:iu w Y X)(h:∀b,b∈kv->X' b->X b):iu w Y X':=⟨G.ok,G.Y,fun b hb hx=>G.X b hb (h b hb hx),G.lt⟩
theorem iu.aiG{w:World}{Y:List Nat}{X X':Nat->Prop}(G:iu w Y X)(h:∀b,X' b->X b\/b∈Y):iu w Y X':=⟨G.ok,G.Y,fun b hb hx=>(h b hx).elim (G.X b hb) (G.Y b hb),G.lt⟩
structure am(O:World)(Y:List Nat)(X:Nat->Prop)(D:Nat->Value)(st:ah)(M:Array Value)(w:World):Prop where
 nt:M.size=st.nt
 cE:∀t,b_ D st.sites w (aw X D st.sites) (st.get t) (M.getD t undef)
 sites:∀o ab,look st.sites o=some ab->jN D st.sites w (aw X D st.sites) o ab
 dT:∀o aa b,cd st.sites o->cd st.sites aa->bG (D o)=some b->bG (D aa)=some b->o=aa
 cf:∀o b,cd st.sites o->bG (D o)=some b->¬X b/\(b∈Y\/O.heap.size<=b)
 frame:Fr Y O w
 old:∀b,X b->b<w.heap.size
 eX:iu O Y X
inductive b8:Type where
 |none
 |int (k:IntKind)
 |bool
 |str
 |ptr
 |func
 |slice (e:TypeId) (t:aY) (bytes:Nat)
 |struct (bK:List (Nat×Nat)) (n:Nat) (z:List aE) (eq:Bool)
 |map (k e:TypeId) (t:aY)
 |arr (e:TypeId) (t:aY) (n:Nat)
 |iface
def wv:(t:aY)->Option (den t)
 |.i64|.u8|.u32=>some (0:Int)
 |.bool=>some false
 |.str=>some ([]:F)
 |_=>none
def sV:aY->Option aE
 |.i64=>some (.d (.int .i64 0))
 |.u8=>some (.d (.int .u8 0))
 |.u32=>some (.d (.int .u32 0))
 |.bool=>some (.d (.bool false))
 |.str=>some (.d (.str []))
 |_=>none
def b8.agg:b8->Bool
 |.struct _ _ _ _|.arr _ _ _=>true
 |_=>false
def b8.known:b8->Bool
 |.none=>false
 |_=>true
def b8.size:b8->Nat
 |.struct _ n _ _=>n
 |.arr _ _ n=>n
 |_=>1
def b8.zero:b8->Option (List aE)
 |.none=>Option.none
 |.int k=>some [.d (.int k 0)]
 |.bool=>some [.d (.bool false)]
 |.str=>some [.d (.str [])]
 |.ptr=>some [.cN (.pointer Option.none)]
 |.func=>some [.cN .nilFunc]
 |.slice _ t _=>some [.nil t]
 |.struct _ _ z _=>some z
 |.map _ _ _=>some [.cN (.map Option.none)]
 |.arr _ t n=>(sV t).map (List.replicate n)
 |.iface=>some [.cN .nilIface]
inductive Arg:Type where
 |av (a:bL)
 |fh (cells:List aE)
structure vt:Type 1 where
 J:Type
 comp:Option J
 fh:J->List (List aE)
 e_:J->List bL
abbrev aH:=List Arg->vt
def vt.fail:vt:=⟨Unit,Option.none,fun _=>[],fun _=>[]⟩
structure Ctx:Type 1 where
 tt:TypeId->b8
 bK:FuncId->Option aH
 lk:FuncId->Option FuncId:=fun _=>none
 mR:FuncId->Bool:=fun _=>false
 op:FuncId->Bool:=fun _=>false
 j5:FuncId->Bool:=fun _=>false -- a acE copy check
 bs:FuncId->Bool:=fun _=>false -- a acE String
 gt:Nat->Option ((t:aY)×List (den t)):=fun _=>none -- sY ast tables
structure c':Type 1 where
 J:Type
 comp:Option J
 val:J->aJ
 us:J->List (Nat×Site)
 qM:J->Bool
def c'.fail:c':=⟨Unit,Option.none,fun _=>.av (.ak .any),fun _=>[],fun _=>false⟩
def c'.ok(v:aJ):c':=⟨Unit,some (),fun _=>v,fun _=>[],fun _=>true⟩
def c'.fs(v:aJ)(us:List (Nat×Site)):c':=⟨Unit,some (),fun _=>v,fun _=>us,fun _=>true⟩
def c'.ek{J:Type}(c:Option J)(f:J->aJ):c':=⟨J,c,f,fun _=>[],fun _=>true⟩
def c'.hq{J:Type}(c:Option J)(f:J->aJ)(us:J->List (Nat×Site)):c':=⟨J,c,f,us,fun _=>true⟩
def aU{aB:Type}(xs:List aB)(i:Int):Option aB:=if 0<=i then xs[i.toNat]? else none
def a6(n:Nat)(i:Int):Option Nat:=if 0<=i/\i<n then some i.toNat else none
def br{aB:Type}(xs:List aB)(cO hi:Int):Option (List aB):=if 0<=cO/\cO<=hi/\hi<=xs.length then some ((xs.take hi.toNat).drop cO.toNat) else none
def room:Nat:=140737488355328
def cy{aB:Type}(bytes:Nat)(xs bd:List aB):Option (List aB):=if(xs.length+bd.length)*bytes<=room/\xs.length+bd.length<=maxLen then some (xs++bd) else none
def bV(s t:F):Option F:=if((s.length+t.length:Nat):Int)>IntKind.i64.max then none else some (s++t)
def nC(k:IntKind)(x y:Int):Option Int:=if y=0 then none else some (k.wrap (x.tdiv y))
def lM(x y:Int):Option Int:=if y=0 then none else some (x.tmod y)
def k6(k:IntKind)(x y:Int):Option Int:=if y<0 then none else some (k.wrap (x*2^(min y.toNat k.bits)))
def e6(k:IntKind)(x y:Int):Option Int:=if y<0 then none else some (x.fdiv (2^(min y.toNat k.bits)))
def jx{aB:Type}(bytes:Nat)(n c:Int)(z:aB):Option (List aB):=if 0<=n/\n<=c/\c*bytes<=room/\c<=maxLen then some (List.replicate n.toNat z) else none
def gr(x y:Int):Int:=if y>x then y else x
def k7(x y:Int):Int:=if y<x then y else x
def eu(k:IntKind)(x y:Int):Int:=k.wrap (BitVec.ofInt k.bits x &&& BitVec.ofInt k.bits y).toNat
def hH(k:IntKind)(x y:Int):Int:=k.wrap (BitVec.ofInt k.bits x ||| BitVec.ofInt k.bits y).toNat
def dh(k:IntKind)(x y:Int):Int:=k.wrap (BitVec.ofInt k.bits x ^^^ BitVec.ofInt k.bits y).toNat
def bytesOf(s:F):List Int:=s.map fun b=>(b.toNat:Int)
def strOf(xs:List Int):F:=xs.map fun n=>UInt8.ofNat n.toNat
abbrev one(d:aZ):aJ:=.av (.ak (.d d))
abbrev bX(l:aE):aJ:=.av (.ak l)
def ux(ti:b8):Value->aJ
 |.int k n=>one (.int k n)
 |.bool b=>one (.bool b)
 |.string s=>one (.str s.data.toList)
 |.slice none 0 0=>match ti with|.slice _ t _=>bX (.nil t)|_=>bX (.cN (.slice none 0 0))
 |.map none=>match ti with|.map _ _ t=>one (.map t [])|_=>bX (.cN (.map none))
 |.agg _|.tuple _=>bX .any
 |v=>bX (.cN v)
def aX(C:Ctx)(st:ah)(T:TypeId):Operand->aJ
 |.tmp t=>st.get t
 |.const v=>ux (C.tt T) v
 |.global g=>bX (.cN (.pointer (some ⟨g,0,none⟩)))
 |.func f=>bX (.clo f [])
def rowOf(st:ah)(o s:Nat):Option ((t:aY)×List (den t)):=
 match st.ab o with
 |some (.row aG t xs)=>bif aG.beq s then some ⟨t,xs⟩ else none
 |some (.db aG t xs)=>bif aG.beq s then some ⟨t,xs⟩ else none
 |_=>none
def fy(st:ah)(o s:Nat):Option (List aE):=
 match st.ab o with
 |some (.box aG cells)=>bif aG.beq s then some cells else none
 |_=>none
def mapOf(st:ah):aE->Option ((t:aY)×List (F×den t))
 |.d (.map t es)=>some ⟨t,es⟩
 |.own o s=>match st.ab o with
  |some (.map aG t es)=>bif aG.beq s then some ⟨t,es⟩ else none
  |_=>none
 |_=>none
def j_{aB:Type}:List (F×aB)->F->Option aB
 |[],_=>none
 |(k,v)::r,n=>bif k==n then some v else j_ r n
def ov{aB:Type}:List (F×aB)->F->aB->List (F×aB)
 |[],n,v=>[(n,v)]
 |(k,w)::r,n,v=>bif k==n then(k,v)::r else(k,w)::ov r n v
def Hk:(t:aY)->aZ->Option (den t)
 |.i64,.int .i64 n=>some n
 |.bool,.bool b=>some b
 |_,_=>none
def uZ:(t:aY)->Option (den t)->Option aZ
 |.i64,B=>some (.int .i64 (B.getD 0))
 |.bool,B=>some (.bool (B.getD false))
 |_,_=>none
def bl(st:ah)(o:Nat):Nat:=match st.ab o with|some x=>x.cq+1|none=>0
def lS(st:ah)(o s:Nat)(t:aY)(xs:List (den t)):List (Nat×Site):=match st.ab o with
 |some (.db _ _ _)=>[]
 |_=>[(o,.db s t xs)]
def jC(st:ah):aE->Option (aZ×List (Nat×Site))
 |.d v=>some (v,[])
 |.nil t=>some (.sl t [],[])
 |.own o s=>match rowOf st o s with|some ⟨t,xs⟩=>some (.sl t xs,lS st o s t xs)|none=>none
 |.clo g []=>some (.fn g [],[])
 |_=>none
def fL(st:ah):List aE->Option (List aZ×List (Nat×Site))
 |[]=>some ([],[])
 |l::ad=>match jC st l,fL st ad with
  |some (d,us),some (ds,vs)=>some (d::ds,us++vs)
  |_,_=>none
def bL.cells:bL->List aE
 |.ak l=>[l]
 |.agg ad=>ad
def aE.storable:aE->Bool
 |.any|.dj|.fresh _ _|.et _ _|.eR _ _ _ _ _=>false
 |.cN (.agg _)|.cN (.tuple _)=>false
 |_=>true
def gW:List aE->Bool
 |[]=>true
 |l::ad=>l.storable&&gW ad
def cut(agg:Bool)(off n:Nat)(ad:List aE):Option aJ:=
 bif agg then(bif Nat.ble (off+n) ad.length then some (.av (.agg ((ad.drop off).take n))) else none)
 else match ad.drop off with|l::_=>some (bX l)|[]=>none
def cx(ds:List aZ):List aE:=ds.map .d
def bF{aB:Type}(old:List aB)(off:Nat)(new:List aB):List aB:=old.take off++new++old.drop (off+new.length)
def zV:aZ->aZ->Option Bool
 |.int k a,.int k' b=>if k=k' then some (a==b) else none
 |.bool a,.bool b=>some (a==b)
 |.str a,.str b=>some (a==b)
 |_,_=>none
def uy:List aE->List aE->Option Bool
 |[.d a],[.d b]=>zV a b
 |.d a::as,.d b::bs=>match zV a b,uy as bs with
  |some x,some y=>some (x&&y)
  |_,_=>none
 |_,_=>none
def Ro(op:BinOp)(k:IntKind)(x y:Int):c':=
 match op with
 |.add=>.ok (one (.int k (k.wrap (x+y))))
 |.sub=>.ok (one (.int k (k.wrap (x-y))))
 |.mul=>.ok (one (.int k (k.wrap (x*y))))
 |.quo=>.ek (nC k x y) fun n=>one (.int k n)
 |.rem=>.ek (lM x y) fun n=>one (.int k n)
 |.and=>.ok (one (.int k (eu k x y)))
 |.or=>.ok (one (.int k (hH k x y)))
 |.xor=>.ok (one (.int k (dh k x y)))
 |.eql=>.ok (one (.bool (x==y)))
 |.neq=>.ok (one (.bool (x !=y)))
 |.lss=>.ok (one (.bool (decide (x<y))))
 |.leq=>.ok (one (.bool (decide (x<=y))))
 |.gtr=>.ok (one (.bool (decide (x>y))))
 |.geq=>.ok (one (.bool (decide (x>=y))))
 |_=>.fail
def Ra(op:BinOp)(s t:F):c':=
 match op with
 |.add=>.ek (bV s t) fun r=>one (.str r)
 |.eql=>.ok (one (.bool (s==t)))
 |.neq=>.ok (one (.bool (!(s==t))))
 |.lss=>.ok (one (.bool (Op.bytesLess s t)))
 |.leq=>.ok (one (.bool (Op.bytesLess s t||s==t)))
 |.gtr=>.ok (one (.bool (!(Op.bytesLess s t||s==t))))
 |.geq=>.ok (one (.bool (!(Op.bytesLess s t))))
 |_=>.fail
def Qr(op:BinOp)(k:IntKind)(a:Int)(k':IntKind)(b:Int):c':=
 match op with
 |.shl=>.ek (k6 k a b) fun n=>one (.int k n)
 |.shr=>.ek (e6 k a b) fun n=>one (.int k n)
 |op=>if k=k' then Ro op k a b else .fail
def QQ(op:BinOp)(ti:b8)(a b:Bool):c':=
 match ti with
 |.bool=>match op with
  |.eql=>.ok (one (.bool (a==b)))
  |.neq=>.ok (one (.bool (!(a==b))))
  |_=>.fail
 |_=>.fail
def qk:List aE->List aE->Bool
 |[],[]=>true
 |.d (.int _ _)::z,.d (.int _ _)::l=>qk z l
 |.d (.bool _)::z,.d (.bool _)::l=>qk z l
 |.d (.str _)::z,.d (.str _)::l=>qk z l
 |_,_=>false
def RA(op:BinOp)(ti:b8)(xs bd:List aE):c':=
 match ti with
 |.struct _ n z true=>bif xs.length.beq n&&qk z xs then
   match uy xs bd with
   |some b=>match op with
    |.eql=>.ok (one (.bool b))
    |.neq=>.ok (one (.bool (!b)))
    |_=>.fail
   |none=>.fail
  else .fail
 |_=>.fail
def AK(op:BinOp)(ti:b8)(B:Option Int):c':=
 match ti with
 |.iface=>match op with
  |.eql=>.ok (one (.bool B.isNone))
  |.neq=>.ok (one (.bool B.isSome))
  |_=>.fail
 |_=>.fail
def zX:Operand->Bool
 |.const .nilIface=>true
 |_=>false
def GY(op:BinOp)(ti:b8):aJ->c'
 |.av (.ak (.d (.err _ B)))=>AK op ti B
 |.av (.ak (.cN .nilIface))=>AK op ti none
 |_=>.fail
def H7(op:BinOp)(ti:b8)(x y:aJ):c':=
 match x,y with
 |.av (.ak (.d (.int k a))),.av (.ak (.d (.int k' b)))=>Qr op k a k' b
 |.av (.ak (.d (.str s))),.av (.ak (.d (.str t)))=>Ra op s t
 |.av (.ak (.d (.bool a))),.av (.ak (.d (.bool b)))=>QQ op ti a b
 |.av (.agg xs),.av (.agg bd)=>RA op ti xs bd
 |_,_=>.fail
def sr(agg:Bool)(n:Nat)(st:ah)(a:aJ):c':=
 match a with
 |.av (.ak (.ptr o s off))=>match fy st o s with
  |some cells=>match cut agg off n cells with|some v=>.ok v|none=>.fail
  |none=>.fail
 |.av (.ak (.et cells off))=>match cut agg off n (cx cells) with|some v=>.ok v|none=>.fail
 |.av (.ak (.eR o s u k off))=>match rowOf st o s with
  |some ⟨t,xs⟩=>if t=u/\off+n<=aT t then .ek (xs[k]?) fun x=>match cut agg off n (cx (enc t x)) with|some v=>v|none=>bX .any else .fail
  |none=>.fail
 |_=>.fail
def rV(n:Nat)(st:ah)(a:aJ)(v:bL):c':=
 bif v.cells.length.beq n then
 match a with
 |.av (.ak (.ptr o s off))=>match fy st o s with
  |some cells=>bif Nat.ble (off+n) cells.length&&gW v.cells then .fs (bX (.cN undef)) [(o,.box s (bF cells off v.cells))] else .fail
  |none=>.fail
 |.av (.ak (.eR o s u k off))=>match st.ab o with
  |some (.row aG t xs)=>bif aG.beq s&&Nat.ble (off+n) (aT t)&&decide (t=u) then
    match fL st v.cells with
    |some (ds,us)=>bif(look us o).isNone then .hq ((xs[k]?).bind fun x=>dec t (bF (enc t x) off ds)) (fun _=>bX (.cN undef)) fun x=>us++[(o,.row s t (xs.set k x))] else .fail
    |none=>.fail
   else .fail
  |_=>.fail
 |_=>.fail
 else .fail
def rf(u:aY)(st:ah)(x:aJ)(i:Int):c':=
 match x with
 |.av (.ak (.d (.sl t xs)))=>if t=u then .ek (aU xs i) fun x=>bX (.et (enc t x) 0) else .fail
 |.av (.ak (.own o s))=>match rowOf st o s with
  |some ⟨t,xs⟩=>if t=u then .ek (a6 xs.length i) fun k=>bX (.eR o s t k 0) else .fail
  |none=>.fail
 |_=>.fail
def CW(off:Nat):aJ->c'
 |.av (.ak (.ptr o s B))=>.ok (bX (.ptr o s (B+off)))
 |.av (.ak (.et cells B))=>.ok (bX (.et cells (B+off)))
 |.av (.ak (.eR o s t k B))=>.ok (bX (.eR o s t k (B+off)))
 |_=>.fail
def iy(k_:Int):Option aJ->Option Int
 |none=>some k_
 |some (.av (.ak (.d (.int _ n))))=>some n
 |some _=>none
def rY(ti:b8)(st:ah)(x:aJ)(cO hi:Option aJ):c':=
 match x with
 |.av (.ak (.d (.str s)))=>match ti,iy 0 cO,iy s.length hi with
  |.str,some l,some h=>.ek (br s l h) fun r=>one (.str r)
  |_,_,_=>.fail
 |.av (.ak (.d (.sl t xs)))=>match ti,iy 0 cO,iy xs.length hi with
  |.slice _ u _,some l,some h=>if t=u then .ek (br xs l h) fun r=>one (.sl t r) else .fail
  |_,_,_=>.fail
 |.av (.ak (.nil t))=>match ti,iy 0 cO,iy 0 hi with
  |.slice _ _ _,some l,some h=>.ek (br ([]:List (den t)) l h) fun r=>one (.sl t r)
  |_,_,_=>.fail
 |.av (.ak (.own o s))=>match rowOf st o s with
  |some ⟨t,xs⟩=>match ti,iy 0 cO,iy xs.length hi with
   |.slice _ u _,some l,some h=>if t=u then .hq (br xs l h) (fun r=>one (.sl t r)) fun _=>lS st o s t xs else .fail
   |_,_,_=>.fail
  |none=>.fail
 |_=>.fail
def sI(ti:b8)(st:ah)(x:aJ):c':=
 match ti,x with
 |.str,.av (.ak (.d (.str s)))=>.ok (one (.int .i64 s.length))
 |.slice _ _ _,.av (.ak (.d (.sl _ xs)))=>.ok (one (.int .i64 xs.length))
 |.slice _ _ _,.av (.ak (.nil _))=>.ok (one (.int .i64 0))
 |.slice _ _ _,.av (.ak (.own o s))=>match rowOf st o s with
  |some ⟨_,xs⟩=>.ok (one (.int .i64 xs.length))
  |none=>.fail
 |.map _ _ _,.av (.ak l)=>match mapOf st l with
  |some ⟨_,es⟩=>.ok (one (.int .i64 es.length))
  |none=>.fail
 |_,_=>.fail
def sj(st:ah):aJ->Option aZ
 |.av (.ak (.d (.sl t xs)))=>some (.sl t xs)
 |.av (.ak (.d (.str s)))=>some (.str s)
 |.av (.ak (.nil t))=>some (.sl t [])
 |.av (.ak (.own o s))=>match rowOf st o s with|some ⟨t,xs⟩=>some (.sl t xs)|none=>none
 |_=>none
def pS(bytes:Nat)(t:aY)(dst:Nat)(st:ah)(s:aJ)(bd:List (den t)):c':=
 match s with
 |.av (.ak (.nil _))=>.hq (cy bytes [] bd) (fun _=>bX (.own dst (bl st dst))) fun r=>[(dst,.row (bl st dst) t r)]
 |.av (.ak (.own o s))=>match st.ab o with
  |some (.row aG bi xs)=>bif aG.beq s then
    if af:bi=t then .hq (cy bytes (af▸xs:List (den t)) bd) (fun _=>bX (.own dst (bl (st.h_ o (.dead s)) dst)))
     fun r=>[(o,.dead s),(dst,.row (bl (st.h_ o (.dead s)) dst) t r)]
    else .fail
   else .fail
  |_=>.fail
 |_=>.fail
def rT(bytes:Nat)(t:aY)(dst:Nat)(st:ah)(s x:aJ):c':=
 match sj st x with
 |none=>.fail
 |some d=>match d with
  |.sl u bd=>if h:u=t then pS bytes t dst st s (h▸bd:List (den t)) else .fail
  |_=>.fail
def rU(bytes:Nat)(t:aY)(dst:Nat)(st:ah)(s x:aJ):c':=
 match x with
 |.av (.ak (.d (.str y)))=>if h:t=.u8 then pS bytes t dst st s (h▸(bytesOf y:List (den .u8))) else .fail
 |_=>.fail
def la(t:aY)(st:ah):List bL->Option (List (den t)×List (Nat×Site))
 |[]=>some ([],[])
 |a::as=>match fL st a.cells with
  |some (ds,us)=>match dec t ds,la t st as with
   |some x,some (xs,vs)=>some (x::xs,us++vs)
   |_,_=>none
  |none=>none
def lT:aJ->Option bL
 |.av a=>some a
 |.jw _=>none
def nA:List aJ->Option (List bL)
 |[]=>some []
 |v::vs=>match lT v,nA vs with|some a,some as=>some (a::as)|_,_=>none
def rL:Nat->List (Nat×Operand)->Bool
 |_,[]=>true
 |n,(i,_)::r=>i.beq n&&rL (n+1) r
def isByte:b8->Bool
 |.int .u8=>true
 |_=>false
def sA(C:Ctx)(src dst:TypeId)(o:Nat)(st:ah)(x:aJ):c':=
 match C.tt src,C.tt dst,x with
 |.none,_,_=>.fail
 |_,.int k,.av (.ak (.d (.int _ n)))=>.ok (one (.int k (k.wrap n)))
 |_,.str,.av (.ak (.d (.str s)))=>.ok (one (.str s))
 |.slice e .u8 _,.str,.av (.ak (.d (.sl .u8 xs)))=>bif isByte (C.tt e) then .ok (one (.str (strOf xs))) else .fail
 |.slice e .u8 _,.str,.av (.ak (.nil _))=>bif isByte (C.tt e) then .ok (one (.str [])) else .fail
 |.slice e .u8 _,.str,.av (.ak (.own aa s))=>match rowOf st aa s with
  |some ⟨.u8,xs⟩=>bif isByte (C.tt e) then .ok (one (.str (strOf xs))) else .fail
  |_=>.fail
 |.str,.slice e .u8 _,.av (.ak (.d (.str s)))=>bif isByte (C.tt e) then .hq (if s.length<=maxLen then some () else none) (fun _=>bX (.own o (bl st o))) fun _=>[(o,.row (bl st o) .u8 (bytesOf s))] else .fail
 |_,_,_=>.fail
def kV(st:ah):List (Nat×Nat)->Option (List (List aZ)×List (Nat×Site)×List Nat)
 |[]=>some ([],[],[])
 |(o,s)::r=>match fy st o s with
  |some cells=>match fL st cells,kV st r with
   |some (ds,us),some (rest,vs,bs)=>some (ds::rest,us++vs,o::bs)
   |_,_=>none
  |none=>none
def mw(st:ah):aE->Option (aE×List (Nat×Site)×List Nat)
 |.et cells 0=>some (.et cells 0,[],[])
 |.clo g (c::cs)=>match kV st (c::cs) with|some (ds,us,bs)=>some (.d (.fn g ds),us,bs)|none=>none
 |l=>match jC st l with|some (d,us)=>some (.d d,us,[])|none=>none
def lG(st:ah):List aE->Option (List aE×List (Nat×Site)×List Nat)
 |[]=>some ([],[],[])
 |l::ad=>match mw st l,lG st ad with
  |some (a,us,bs),some (as,vs,cs)=>some (a::as,us++vs,bs++cs)
  |_,_=>none
def ny(st:ah):aE->Option (aE×List (Nat×Site))
 |.d v=>some (.d v,[])
 |.nil t=>some (.fresh t [],[])
 |.own o s=>match st.ab o with
  |some (.row aG t xs)=>bif aG.beq s then some (.fresh t xs,[(o,.dead s)]) else none
  |some (.db aG t xs)=>bif aG.beq s then some (.d (.sl t xs),[]) else none
  |_=>none
 |.dj=>some (.dj,[])
 |.cN v=>some (.cN v,[])
 |_=>none
def uO:List aE->List aE
 |.cN (.pointer none)::r=>.dj::r
 |l=>l
def kj(st:ah):List aE->Option (List aE×List (Nat×Site))
 |[]=>some ([],[])
 |l::ad=>match ny st l,kj st ad with
  |some (a,us),some (as,vs)=>some (a::as,us++vs)
  |_,_=>none
structure jX where
 as:List Arg
 eK:List (Nat×Site) -- rows AX Xm eK,as asA atO frozen
 fI:List Nat -- boxes AX Xm eK
 gone:List (Nat×Site) -- boxes AX go over,and rows in asP
 boxes:List (Nat×Nat) -- sY boxes:ab,cq
def iS(st:ah):List aJ->Option jX
 |[]=>some ⟨[],[],[],[],[]⟩
 |.av (.ak (.ptr o s 0))::vs=>match fy st o s,iS st vs with
  |some cells,some r=>match kj st cells with
   |some (cs,gone)=>some ⟨.fh cs::r.as,r.eK,r.fI,((o,.dead s)::gone)++r.gone,(o,s)::r.boxes⟩
   |none=>none
  |_,_=>none
 |.av (.ak l)::vs=>match mw st l,iS st vs with
  |some (a,us,bs),some r=>some ⟨.av (.ak a)::r.as,us++r.eK,bs++r.fI,r.gone,r.boxes⟩
  |_,_=>none
 |.av (.agg ad)::vs=>match lG st ad,iS st vs with
  |some (as,us,bs),some r=>some ⟨.av (.agg as)::r.as,us++r.eK,bs++r.fI,r.gone,r.boxes⟩
  |_,_=>none
 |_::_=>none
def ow(st:ah):aE->Option (aE×List (Nat×Site)×List (Nat×Site)×List Nat)
 |.own o s=>match ny st (.own o s) with|some (a,us)=>some (a,us,[],[])|none=>none
 |.nil t=>some (.fresh t [],[],[],[])
 |l=>match mw st l with|some (a,us,bs)=>some (a,[],us,bs)|none=>none
def lA(st:ah):List aJ->Option jX
 |[]=>some ⟨[],[],[],[],[]⟩
 |.av (.ak l)::vs=>match ow st l,lA st vs with
  |some (a,us,ad,bs),some r=>some ⟨.av (.ak a)::r.as,ad++r.eK,bs++r.fI,us++r.gone,r.boxes⟩
  |_,_=>none
 |_::_=>none
def rJ(b:Bool)(st:ah)(vs:List aJ):Option jX:=bif b then lA st vs else iS st vs
def aY.ot:aY->Bool
 |.pack|.recipe|.hunk|.sB=>true
 |_=>false
def aE.ot:aE->Bool
 |.d (.sl _ _)|.d (.fn _ _)|.d (.map _ _)=>true
 |.d _=>false
 |.fresh t _=>t.ot
 |.dj|.cN _=>false
 |_=>true
def ru:List aE->Bool
 |[]=>false
 |l::ad=>l.ot||ru ad
def rj:List bL->Bool
 |[]=>false
 |a::as=>ru a.cells||rj as
def ri:List (List aE)->Bool
 |[]=>false
 |a::as=>ru a||ri as
def take(st:ah)(n:Nat):List aE->List aE×List (Nat×Site)
 |[]=>([],[])
 |.fresh t xs::ad=>let r:=take st (n+1) ad;(.own n (bl st n)::r.1,(n,.row (bl st n) t xs)::r.2)
 |l::ad=>let r:=take st (n+1) ad;(l::r.1,r.2)
def dR(st:ah)(n:Nat):List bL->List bL×List (Nat×Site)
 |[]=>([],[])
 |.ak l::as=>let x:=take st n [l];let r:=dR st (n+100) as;((match x.1 with|[gg]=>.ak gg|ad=>.agg ad)::r.1,x.2++r.2)
 |.agg ad::as=>let x:=take st n ad;let r:=dR st (n+100) as;(.agg x.1::r.1,x.2++r.2)
def gH(st:ah):List (Nat×Nat)->List (List aE)->List (Nat×Site)
 |(o,s)::bs,cs::cK=>let x:=take st (1000000+o*100) cs;x.2++(o,.box s x.1)::gH st bs cK
 |_,_=>[]
def Rd:List bL->aJ
 |[a]=>.av a
 |as=>.jw as
def keys{aB:Type}:List (Nat×aB)->List Nat
 |[]=>[]
 |p::r=>p.1::keys r
def fK(n:Nat):List Nat->Bool
 |[]=>false
 |m::r=>n.beq m||fK n r
def fv:List Nat->Bool
 |[]=>true
 |n::r=>!fK n r&&fv r
def eW:List Nat->List Nat->Bool
 |[],_=>true
 |n::r,l=>!fK n l&&eW r l
def oG(dst:Nat)(st:ah)(S:aH)(a:jX):c':=
 let r:=S a.as
 {J:=r.J,comp:=r.comp
  val:=fun y=>Rd (dR st (2000000+dst*10000) (r.e_ y)).1
  us:=fun y=>(bif rj (r.e_ y)||ri (r.fh y) then a.eK else [])++a.gone++gH st a.boxes (r.fh y)++(dR st (2000000+dst*10000) (r.e_ y)).2
  qM:=fun y=>fv (keys a.gone)&&eW (keys a.eK++a.fI) (keys a.gone)&&fv (keys (gH st a.boxes (r.fh y)++(dR st (2000000+dst*10000) (r.e_ y)).2))&&
   eW (keys a.eK++a.fI) (keys (gH st a.boxes (r.fh y)++(dR st (2000000+dst*10000) (r.e_ y)).2))&&(!(rj (r.e_ y)||ri (r.fh y))||a.fI.isEmpty)}
def callee(v:aJ):Option (FuncId×List (Nat×Nat)):=
 match v with
 |.av (.ak (.clo g bw))=>some (g,bw)
 |_=>none
def ga(C:Ctx)(st:ah):List Operand->List TypeId->List aJ
 |[],_=>[]
 |x::xs,[]=>aX C st 0 x::ga C st xs []
 |x::xs,T::cR=>aX C st T x::ga C st xs cR
def nl:List (List aZ)->List Arg
 |[]=>[]
 |c::cs=>.av (.ak (.et c 0))::nl cs
def rX(g:FuncId)(n:Nat)(st:ah):List aJ->c'
 |[.av (.ak (.d (.str s))),.av (.ak (.d (.str p)))]=>.fs (bX (.clo g [(n,bl st n),(n+1,bl st (n+1)),(n+2,bl st (n+2))]))
   [(n,.box (bl st n) [.d (.str p)]),(n+1,.box (bl st (n+1)) [.d (.str s)]),(n+2,.box (bl st (n+2)) [.d (.int .i64 0)])]
 |_=>.fail
def copyV(st:ah):List aJ->c'
 |[.av (.ak (.ptr o s 0))]=>match st.ab o with
  |some (.box aG [.dj,l])=>bif aG.beq s then .fs (.jw []) [(o,.box s [.dj,l])] else .fail
  |_=>.fail
 |_=>.fail
def rH(st:ah):List aJ->c'
 |[.av (.ak (.ptr o s 0))]=>match fy st o s with
  |some [_,.nil .u8]=>.ok (one (.str []))
  |some [_,.own aa u]=>match st.ab aa with
   |some (.row cn .u8 xs)=>bif cn.beq u then .fs (one (.str (strOf xs))) [(aa,.db u .u8 xs)] else .fail
   |_=>.fail
  |_=>.fail
 |_=>.fail
def so(n:Nat)(st:ah):List aJ->c'
 |[.av (.ak (.d (.sl .u8 xs)))]=>.fs (bX (.ptr n (bl st n) 0)) [(n,.box (bl st n) [.d (.sl .u8 (xs.take 2000)),.d (.int .i64 0)])]
 |_=>.fail
def lz(C:Ctx)(dst:Nat)(st:ah)(f:aJ)(vs:List aJ):c':=
  match f with
  |.av (.ak (.clo g bw))=>match C.lk g with
   |some ct=>match bw with
    |[]=>rX ct (3000000+dst*10) st vs
    |_=>.fail
   |none=>bif C.op g then(match bw with
    |[]=>so (4000000+dst) st vs
    |_=>.fail) else bif C.j5 g then(match bw with
    |[]=>copyV st vs
    |_=>.fail) else bif C.bs g then(match bw with
    |[]=>rH st vs
    |_=>.fail) else match C.bK g,rJ (C.mR g) st vs,kV st bw with
    |some S,some a,some (cs,us,bs)=>oG dst st S {a with as:=a.as++nl cs,eK:=a.eK++us,fI:=a.fI++bs}
    |_,_,_=>.fail
  |.av (.ak (.d (.fn g bw)))=>match C.bK g,iS st vs with
    |some S,some a=>oG dst st S {a with as:=a.as++nl bw}
    |_,_=>.fail
  |_=>.fail
def A_(t:aY)(xs:List (den t))(n:Nat):List aE:=match wv t with
 |some z=>(List.range n).flatMap fun j=>cx (enc t (xs.getD j z))
 |none=>[]
def sP(t:aY):List aE->Option (List (den t))
 |[]=>some []
 |.d d::ad=>match dec t [d],sP t ad with
  |some x,some xs=>some (x::xs)
  |_,_=>none
 |_=>none
def long{aB:Type}(n:Nat)(xs:List aB):Option (List aB):=if xs.length=n then some xs else none
def qd(o:Nat)(st:ah)(t:aY)(n:Nat)(xs:List (den t)):c':=bif xs.length.beq n&&Nat.ble n 1000 then .fs (bX (.eR o (bl st o) t 0 0)) [(o,.row (bl st o) t xs)] else .fail
def sg(o:Nat)(st:ah)(t:aY)(n:Nat):c':=match wv t with
 |some z=>qd o st t n (List.replicate n z)
 |none=>.fail
def sR(o:Nat)(st:ah)(t:aY)(n:Nat)(v:aJ):c':=match v with
 |.av (.agg ad)=>match sP t ad with
  |some xs=>qd o st t n xs
  |none=>.fail
 |_=>.fail
def ss(st:ah)(t:aY)(n:Nat)(a:aJ):c':=match a with
 |.av (.ak (.eR o s u 0 0))=>match rowOf st o s with
  |some ⟨bi,xs⟩=>if bi=t/\bi=u then .ek (long n xs) fun xs=>.av (.agg (A_ bi xs n)) else .fail
  |none=>.fail
 |_=>.fail
def rW(st:ah)(t:aY)(n:Nat)(a:aJ)(v:bL):c':=match a,v with
 |.av (.ak (.eR o s u 0 0)),.agg ad=>match st.ab o with
  |some (.row aG bi xs)=>if bi=t/\bi=u/\aG=s then(match sP bi ad with
   |some bd=>bif bd.length.beq n then .hq (long n xs) (fun _=>bX (.cN undef)) fun _=>[(o,.row s bi bd)] else .fail
   |none=>.fail) else .fail
  |_=>.fail
 |_,_=>.fail
def rh(C:Ctx)(st:ah)(t:aY)(n:Nat)(x:aJ)(i:Int):c':=match x with
 |.av (.ak (.eR o s u 0 0))=>match rowOf st o s with
  |some ⟨bi,xs⟩=>if bi=t/\bi=u then .ek ((long n xs).bind fun xs=>a6 xs.length i) fun k=>bX (.eR o s bi k 0) else .fail
  |none=>.fail
 |.av (.ak (.cN (.pointer (some ⟨g,0,none⟩))))=>match C.gt g with
  |some ⟨bi,xs⟩=>bif decide (bi=t)&&xs.length.beq n then .ek (aU xs i) fun x=>bX (.et (enc bi x) 0) else .fail
  |none=>.fail
 |_=>.fail
def GR(t:aY)(n:Nat)(x:aJ)(i:Int):c':=match x with
 |.av (.agg ad)=>match sP t ad with
  |some xs=>bif xs.length.beq n then .ek (aU xs i) fun x=>(match enc t x with|[d]=>bX (.d d)|_=>bX .any) else .fail
  |none=>.fail
 |_=>.fail
def rZ(st:ah)(t:aY)(n:Nat)(x:aJ)(cO hi:Option aJ):c':=match x with
 |.av (.ak (.eR o s u 0 0))=>match rowOf st o s,iy 0 cO,iy n hi with
  |some ⟨bi,xs⟩,some l,some h=>if bi=t/\bi=u then .hq ((long n xs).bind fun xs=>br xs l h) (fun r=>bX (.d (.sl bi r))) fun _=>lS st o s bi xs else .fail
  |_,_,_=>.fail
 |_=>.fail
def kT(C:Ctx)(st:ah)(B:Oper):c':=
 match B.op with
 |.makeMap t r=>match B.dst,C.tt t with
  |some o,.map _ _ ty=>match r with
   |none=>.fs (bX (.own o (bl st o))) [(o,.map (bl st o) ty [])]
   |some x=>match aX C st 0 x with
    |.av (.ak (.d (.int _ _)))=>.fs (bX (.own o (bl st o))) [(o,.map (bl st o) ty [])]
    |_=>.fail
  |_,_=>.fail
 |.mapUpdate t m k x=>r_ C st t m k x
 |.insert t m k x=>r_ C st t m k x
 |.lookup t m k c=>match C.tt t,aX C st t m,aX C st 0 k with
  |.map _ _ ty,.av (.ak l),.av (.ak (.d (.str n)))=>match mapOf st l with
   |some ⟨u,es⟩=>bif decide (u=ty) then(match uZ u (j_ es n) with
    |some d=>.ok (bif c then .jw [.ak (.d d),.ak (.d (.bool (j_ es n).isSome))] else one d)
    |none=>.fail) else .fail
   |none=>.fail
  |_,_,_=>.fail
 |.makeInterface t x=>match C.tt t,aX C st t x with
  |.struct _ _ _ _,.av (.agg [.d (.int .i64 n)])=>.ok (one (.err t (some n)))
  |_,_=>.fail
 |_=>.fail
where
 r_ (C:Ctx) (st:ah) (t:TypeId) (m k x:Operand):c':=match C.tt t,aX C st t m,aX C st 0 k,aX C st 0 x with
  |.map _ _ ty,.av (.ak (.own o s)),.av (.ak (.d (.str n))),.av (.ak (.d d))=>match st.ab o with
   |some (.map aG u es)=>bif aG.beq s&&decide (u=ty) then(match Hk u d with
    |some v=>.fs (bX (.cN undef)) [(o,.map s u (ov es n v))]
    |none=>.fail) else .fail
   |_=>.fail
  |_,_,_,_=>.fail
def step(C:Ctx)(st:ah)(B:Oper):c':=
 match B.op with
 |.move x|.assign x=>.ok (aX C st B.type x)
 |.pick c a b=>match aX C st B.type c with
  |.av (.ak (.d (.bool true)))=>.ok (aX C st B.type a)
  |.av (.ak (.d (.bool false)))=>.ok (aX C st B.type b)
  |_=>.fail
 |.alloc elem=>match B.dst,C.tt elem with
  |some o,.arr _ t n=>sg o st t n
  |some o,ti=>match ti.zero with
   |some z=>.fs (bX (.ptr o (bl st o) 0)) [(o,.box (bl st o) (bif elem.beq qL then uO z else z))]
   |none=>.fail
  |_,_=>.fail
 |.box elem x=>match B.dst,C.tt elem with
  |some o,.arr _ t n=>sR o st t n (aX C st elem x)
  |some o,_=>match lT (aX C st elem x) with
   |some a=>bif gW a.cells then .fs (bX (.ptr o (bl st o) 0)) [(o,.box (bl st o) a.cells)] else .fail
   |none=>.fail
  |_,_=>.fail
 |.build t parts=>match C.tt t with
  |.struct bK _ z _=>mo C st bK z parts.toList
  |.arr _ ty n=>match sV ty with
   |some z=>mo C st ((List.range n).map fun j=>(j,1)) (List.replicate n z) parts.toList
   |none=>.fail
  |_=>.fail
 |.buildSlice t len parts=>match B.dst,C.tt t with
  |some o,.slice e ty _=>bif parts.toList.length.beq len&&rL 0 parts.toList&&Nat.ble (len*aT ty) 1000 then
    match nA (parts.toList.map fun p=>aX C st e p.2) with
    |some as=>match la ty st as with
     |some (xs,us)=>.fs (bX (.own o (bl st o))) (us++[(o,.row (bl st o) ty xs)])
     |none=>.fail
    |none=>.fail
   else .fail
  |_,_=>.fail
 |.load t a=>match C.tt t with
  |.arr _ ty n=>ss st ty n (aX C st t a)
  |ti=>bif ti.known then sr ti.agg ti.size st (aX C st t a) else .fail
 |.store t a x=>match lT (aX C st t x) with
  |some v=>match C.tt t with
   |.arr _ ty n=>rW st ty n (aX C st t a) v
   |ti=>bif ti.known then rV ti.size st (aX C st t a) v else .fail
  |none=>.fail
 |.nilCheck x=>match aX C st B.type x with
  |.av (.ak (.ptr o s f))=>.ok (bX (.ptr o s f))
  |.av (.ak (.et cs f))=>.ok (bX (.et cs f))
  |.av (.ak (.eR o s t k f))=>.ok (bX (.eR o s t k f))
  |_=>.fail
 |.binOp op t x y _=>bif zX y then GY op (C.tt t) (aX C st t x) else H7 op (C.tt t) (aX C st t x) (aX C st t y)
 |.unOp op _ x=>match op,aX C st B.type x with
  |.not,.av (.ak (.d (.bool b)))=>.ok (one (.bool (!b)))
  |.neg,.av (.ak (.d (.int k n)))=>.ok (one (.int k (k.wrap (0-n))))
  |.xor,.av (.ak (.d (.int k n)))=>.ok (one (.int k (dh k (if k.signed then-1 else k.max) n)))
  |_,_=>.fail
 |.convert src dst x=>(match B.dst with|some o=>sA C src dst o st (aX C st src x)|none=>.fail)
 |.makeFunc fn first captured=>match fn with
  |.func g=>bif first.toList.isEmpty then(match nz C st captured.toList with|some bw=>.ok (bX (.clo g bw))|none=>.fail) else .fail
  |_=>.fail
 |.makeSlice t l c=>match B.dst,C.tt t,aX C st 0 l,aX C st 0 c with
  |some o,.slice e ty bytes,.av (.ak (.d (.int _ n))),.av (.ak (.d (.int _ m)))=>match(C.tt e).zero with
   |some z=>match fL st z with
    |some (ds,_)=>match dec ty ds with
     |some eO=>.hq (jx bytes n m eO) (fun _=>bX (.own o (bl st o))) fun r=>[(o,.row (bl st o) ty r)]
     |none=>.fail
    |none=>.fail
   |none=>.fail
  |_,_,_,_=>.fail
 |.slice t x cO hi Ce=>match Ce with
  |none=>match C.tt t with
   |.arr _ ty n=>rZ st ty n (aX C st t x) (cO.map (aX C st 0)) (hi.map (aX C st 0))
   |ti=>rY ti st (aX C st t x) (cO.map (aX C st 0)) (hi.map (aX C st 0))
  |some _=>.fail
 |.fieldAddr s x f=>match C.tt s with
  |.struct bK _ _ _=>match bK[f]? with
   |some (off,_)=>CW off (aX C st 0 x)
   |none=>.fail
  |_=>.fail
 |.indexAddr t x i=>match C.tt t,aX C st 0 i with
  |.slice _ ty _,.av (.ak (.d (.int _ n)))=>rf ty st (aX C st t x) n
  |.arr _ ty m,.av (.ak (.d (.int _ n)))=>rh C st ty m (aX C st t x) n
  |_,_=>.fail
 |.index t x i=>match C.tt t,aX C st t x,aX C st 0 i with
  |.str,.av (.ak (.d (.str s))),.av (.ak (.d (.int _ n)))=>.ek (aU s n) fun b=>one (.int .u8 b.toNat)
  |.arr _ ty m,v,.av (.ak (.d (.int _ n)))=>GR ty m v n
  |_,_,_=>.fail
 |.extract t i=>match aX C st 0 t with
  |.jw as=>match as[i]? with
   |some a=>.ok (.av a)
   |none=>.fail
  |_=>.fail
 |.call c=>match c.callee with
  |.value f=>match B.dst with
   |some d=>lz C d st (aX C st 0 f) (ga C st c.args.toList c.argTypes.toList)
   |none=>lz C 0 st (aX C st 0 f) (ga C st c.args.toList c.argTypes.toList)
  |.builtin b=>match b,B.dst,c.args.toList,c.argTypes.toList with
   |.len,_,[x],[t]=>sI (C.tt t) st (aX C st t x)
   |.append,some o,[s,x],[t,u]=>match C.tt t,C.tt u with
    |.slice _ ty bytes,.slice _ _ _=>rT bytes ty o st (aX C st t s) (aX C st u x)
    |.slice _ ty bytes,.str=>rU bytes ty o st (aX C st t s) (aX C st u x)
    |_,_=>.fail
   |.max,_,[x,y],_=>match aX C st B.type x,aX C st B.type y with
    |.av (.ak (.d (.int k a))),.av (.ak (.d (.int _ b)))=>.ok (one (.int k (gr a b)))
    |_,_=>.fail
   |.max,_,[x,y,z,u,v],_=>match aX C st B.type x,aX C st B.type y,aX C st B.type z,aX C st B.type u,aX C st B.type v with
    |.av (.ak (.d (.int k a))),.av (.ak (.d (.int _ b))),.av (.ak (.d (.int _ c))),.av (.ak (.d (.int _ d))),.av (.ak (.d (.int _ e)))=>.ok (one (.int k (gr (gr (gr (gr a b) c) d) e)))
    |_,_,_,_,_=>.fail
   |.min,_,[x,y],_=>match aX C st B.type x,aX C st B.type y with
    |.av (.ak (.d (.int k a))),.av (.ak (.d (.int _ b)))=>.ok (one (.int k (k7 a b)))
    |_,_=>.fail
   |_,_,_,_=>.fail
  |_=>.fail
 |_=>kT C st B
where
 mo (C:Ctx) (st:ah) (bK:List (Nat×Nat)):List aE->List (Nat×Operand)->c'
  |z,[]=>.ok (.av (.agg z))
  |z,(i,x)::r=>match bK[i]?,lT (aX C st 0 x) with
   |some (off,n),some a=>bif a.cells.length.beq n&&gW a.cells&&Nat.ble (off+n) z.length then mo C st bK (bF z off a.cells) r else .fail
   |_,_=>.fail
 nz (C:Ctx) (st:ah):List Operand->Option (List (Nat×Nat))
  |[]=>some []
  |x::r=>match aX C st 0 x,nz C st r with
   |.av (.ak (.ptr o s 0)),some l=>some ((o,s)::l)
   |_,_=>none
def GB(C:Ctx)(st:ah)(B:Oper):Option (((t:aY)×List (den t))×Bool):=
 match B.op with
 |.binOp op T x (.const (.slice none 0 0)) _=>match C.tt T with
  |.slice _ _ _=>match op with
   |.eql=>match aX C st T x with
    |.av (.ak (.d (.sl t xs)))=>some (⟨t,xs⟩,false)
    |_=>none
   |.neq=>match aX C st T x with
    |.av (.ak (.d (.sl t xs)))=>some (⟨t,xs⟩,true)
    |_=>none
   |_=>none
  |_=>none
 |_=>none
def aE.names:aE->List Nat
 |.own o _|.ptr o _ _|.eR o _ _ _ _=>[o]
 |.clo _ bw=>keys bw
 |_=>[]
def dy:List aE->List Nat
 |[]=>[]
 |l::ad=>l.names++dy ad
def rE:List bL->List Nat
 |[]=>[]
 |a::as=>dy a.cells++rE as
def aJ.names:aJ->List Nat
 |.av a=>dy a.cells
 |.jw as=>rE as
def xo(st:ah)(o:Nat):List Nat:=match st.ab o with
 |some (.box _ cells)=>dy cells
 |_=>[]
def eQ(st:ah):List Nat->List Nat
 |[]=>[]
 |o::r=>o::(xo st o++eQ st r)
def kY:Op->List Operand
 |.move x|.assign x|.makeInterface _ x|.box _ x|.load _ x|.nilCheck x|.unOp _ _ x|.convert _ _ x|.fieldAddr _ x _|.extract x _=>[x]
 |.pick c a b=>[c,a,b]
 |.build _ ps|.buildSlice _ _ ps=>ps.toList.map (·.2)
 |.store _ a v|.binOp _ _ a v _|.makeSlice _ a v|.indexAddr _ a v|.index _ a v=>[a,v]
 |.makeFunc _ _ captured=>captured.toList
 |.slice _ x l h _=>x::(l.toList++h.toList)
 |.call c=>(match c.callee with|.value f=>[f]|_=>[])++c.args.toList
 |.lookup _ m k _=>[m,k]
 |.mapUpdate _ m k x|.insert _ m k x=>[m,k,x]
 |.makeMap _ r=>r.toList
 |_=>[]
def ng(st:ah):List Operand->List Nat
 |[]=>[]
 |.tmp t::r=>(st.get t).names++ng st r
 |_::r=>ng st r
def oh:List Operand->List Nat
 |[]=>[]
 |.tmp t::r=>t::oh r
 |_::r=>oh r
def zY:Op->Bool
 |.call c=>match c.callee with
  |.value _=>true
  |_=>false
 |_=>false
def G2(C:Ctx):Op->List Nat
 |.makeSlice t _ _=>match C.tt t with
  |.slice e _ _=>match(C.tt e).zero with
   |some z=>dy z
   |none=>[]
  |_=>[]
 |_=>[]
def looks:Op->Bool
 |.load _ _|.store _ _ _|.slice _ _ _ _ _|.indexAddr _ _ _|.convert _ _ _|.buildSlice _ _ _|.call _|.lookup _ _ _ _|.mapUpdate _ _ _ _|.insert _ _ _ _=>true
 |_=>false
def Hb(C:Ctx)(st:ah)(B:Oper):List Nat:=(bif looks B.op then eQ st (ng st (kY B.op)) else [])++B.dst.toList++G2 C B.op
def N1(u:Nat):List Oper->List Nat
 |[]=>[]
 |B::r=>(match B.op,B.dst with
  |.move (.tmp t),some d=>bif Nat.beq d u then [t] else []
  |_,_=>[])++N1 u r
def D2(all:List Oper):List Oper->List Nat
 |[]=>[]
 |B::r=>(match B.op with
  |.slice _ (.tmp u) _ _ _=>u::N1 u all
  |_=>[])++D2 all r
def Ry(st:ah)(t:Nat):List (Nat×Site):=match st.get t with
 |.av (.ak (.own o s))=>match st.ab o with
  |some (.row aG t xs)=>bif aG.beq s then [(o,.db aG t xs)] else []
  |_=>[]
 |_=>[]
def Ag(st:ah):List Nat->List (Nat×Site)
 |[]=>[]
 |t::r=>Ry st t++Ag st r
def ah.hU(st:ah):List (Nat×Site)->ah
 |[]=>st
 |(o,s)::r=>(st.h_ o s).hU r
def ah.cP(st:ah)(dst:Option Nat)(v:aJ)(us:List (Nat×Site)):ah:=
 match dst with
 |some t=>(st.hU us).set t v
 |none=>st.hU us
def ce(st:ah):Option Nat->Bool
 |some t=>Nat.blt t st.nt
 |none=>true
abbrev zx:aJ:=bX (.cN undef)
section
variable {R:Type}
open Classical in
noncomputable def pu{t:aY}(xs:List (den t))(a b:Option R):Option R:=if xs=[]->a=b then b else none
def j9(C:Ctx)(st:ah)(B:Oper)(K:ah->Option R):Option R:=
 bif ce st B.dst then(step C st B).comp.bind fun y=>bif(step C st B).qM y then K (st.cP B.dst ((step C st B).val y) ((step C st B).us y)) else none else none
noncomputable def uQ(C:Ctx)(st:ah)(B:Oper)(K:ah->Option R):Option R:=
 match GB C st B with
 |some (⟨t,xs⟩,neg)=>bif ce st B.dst then pu xs (K (st.cP B.dst (one (.bool (!neg))) [])) (K (st.cP B.dst (one (.bool neg)) [])) else none
 |none=>j9 C st B K
def r3(st:ah)(B:Oper)(K:ah->Option R):Option R:=
 bif ce st B.dst then K (st.cP B.dst zx []) else none
noncomputable def Py(C:Ctx)(ops:Array Oper)(st:ah)(B:Oper)(K:ah->Option R):Option R:=
 match B.guard with
 |none=>uQ C st B K
 |some (j,want)=>match(ops[j]?).bind (·.dst) with
  |some t=>match st.get t with
   |.av (.ak (.d (.bool b)))=>bif(bif want then b else !b) then uQ C (st.set t (one (.bool want))) B K else r3 (st.set t (one (.bool (!want)))) B K
   |.av (.ak (.cN (.tuple _)))=>r3 st B K
   |_=>none
  |none=>none
noncomputable def uD(C:Ctx)(ops:Array Oper):List Oper->ah->(ah->Option R)->Option R
 |[],st,K=>K st
 |B::r,st,K=>Py C ops st B fun al=>uD C ops r al K
structure Rec where
 B:Oper
 go:Bool
 v:aJ
 us:List (Nat×Site)
 kB:List Nat
 rn:List Nat
 BZ:Bool
def uK:List Nat->Bool
 |[]=>false
 |n::r=>Nat.ble 1000000 n||uK r
def sH(d:Option Nat)(l:List Nat):Bool:=match d with|some d=>fK d l|none=>false
def lO(a b:Rec):Bool:=
 sH a.B.dst b.kB||sH a.B.dst b.B.dst.toList||sH b.B.dst a.kB||
 !eW (keys a.us) (b.rn++keys b.us)||!eW (keys b.us) a.rn||(a.BZ&&uK (keys b.us))||(b.BZ&&uK (keys a.us))
def lK(acc:List (Nat×Rec×List Nat)):List Edge->List Nat
 |[]=>[]
 |e::r=>bif Region.binds .any e then(match look acc e.on with|some x=>e.on::(x.2++lK acc r)|none=>lK acc r) else lK acc r
def rS(i:Nat):List Edge->Bool
 |[]=>true
 |e::r=>(!Region.binds .any e||Nat.blt e.on i)&&rS i r
def r6(wi:List Nat)(x:Rec):List (Nat×Rec×List Nat)->Bool
 |[]=>true
 |(j,y,_)::r=>(fK j wi||!lO y x)&&r6 wi x r
def Pu(i:Nat):List Oper->Bool
 |[]=>false
 |B::r=>(match B.guard with|some (j,_)=>Nat.beq i j|none=>false)||Pu i r
def HE(g:Bool)(v:aJ)(K:aJ->Option R):Option R:=
 bif g then(match v with
  |.av (.ak (.d (.bool b)))=>bif b then K (one (.bool true)) else K (one (.bool false))
  |v=>K v) else K v
def zp(C:Ctx)(g:Bool)(st:ah)(B:Oper)(gs:List Nat)(K:Rec->Option R):Option R:=
 (step C st B).comp.bind fun y=>bif(step C st B).qM y then HE g ((step C st B).val y) fun v=>
  K ⟨B,true,v,(step C st B).us y,gs++oh (kY B.op),Hb C st B,zY B.op⟩ else none
def ED(B:Oper)(gs:List Nat)(K:Rec->Option R):Option R:=K ⟨B,false,zx,[],gs,[],false⟩
def G0(C:Ctx)(ops:Array Oper)(g:Bool)(st:ah)(B:Oper)(K:Rec->Option R):Option R:=
 match B.guard with
 |none=>zp C g st B [] K
 |some (j,want)=>match(ops[j]?).bind (·.dst) with
  |some t=>match st.get t with
   |.av (.ak (.d (.bool b)))=>bif(bif want then b else !b) then zp C g st B [t] K else ED B [t] K
   |.av (.ak (.cN (.tuple _)))=>ED B [t] K
   |_=>none
  |none=>none
def An(C:Ctx)(ops:Array Oper):List Oper->Nat->List (Nat×Rec×List Nat)->ah->(ah->Option R)->Option R
 |[],_,_,st,K=>K st
 |B::r,i,acc,st,K=>bif ce st B.dst&&rS i B.after.toList then G0 C ops (Pu i r) st B fun x=>
   bif r6 (lK acc B.after.toList) x acc then An C ops r (i+1) ((i,x,lK acc B.after.toList)::acc) (st.cP B.dst x.v x.us) K else none
  else none
def PE(C:Ctx)(ops:Array Oper)(st:ah)(K:ah->Option R):Option R:=An C ops ops.toList 0 [] (st.hU (Ag st (D2 ops.toList ops.toList))) K
inductive Out:Type where
 |norm (st:ah)
 |exit (id:Nat) (st:ah)
 |ret (st:ah)
structure alv:Type 1 where
 J:Type
 comp:Option J
 out:J->Out
 run:(R:Type)->J->(Out->Option R)->Option R
 run_eq:∀(R:Type) (y:J) (K:Out->Option R),run R y K=K (out y)
abbrev hI:=ah->alv
structure hA:Type 1 extends Ctx where
 nK:Nat->Option hI
def wrap(C:hA)(p:Nat)(st:ah)(K:Out->Option R)(x:Option R):Option R:=
 match C.nK p with
 |some f=>(f st).comp.bind fun y=>(f st).run R y K
 |none=>x
noncomputable def exec(C:hA):Code->Nat->ah->(Out->Option R)->Option R
 |.skip,_,st,K=>K (.norm st)
 |.region _ ops false,p,st,K=>wrap C p st K (uD C.toCtx ops ops.toList st fun al=>K (.norm al))
 |.region _ ops true,p,st,K=>wrap C p st K (PE C.toCtx ops st fun al=>K (.norm al))
 |.seq a b,p,st,K=>wrap C p st K (exec C a (2*p) st fun
  |.norm al=>exec C b (2*p+1) al K
  |B=>K B)
 |.cond c a b,p,st,K=>wrap C p st K (match aX C.toCtx st 0 c with
  |.av (.ak (.d (.bool t)))=>bif t then exec C a (2*p) st K else exec C b (2*p+1) st K
  |_=>none)
 |.block id c,p,st,K=>wrap C p st K (exec C c (2*p) st fun
  |.exit iH al=>bif iH.beq id then K (.norm al) else K (.exit iH al)
  |B=>K B)
 |.loop _,p,st,K=>wrap C p st K none
 |.rangeFunc _ _ _ _,p,st,K=>wrap C p st K none
 |.exit id,_,st,K=>K (.exit id st)
 |.ret,_,st,K=>K (.ret st)
 |_,_,_,_=>none
end
section
variable {D aI:Nat->Value}{sites bS:List (Nat×Site)}{w w':World}{av b':Nat->Prop}
structure hX(D aI:Nat->Value)(sites bS:List (Nat×Site))(w w':World)(av b':Nat->Prop):Prop where
 ref:∀o ab,look sites o=some ab->∃bT,look bS o=some bT/\ab.cq<=bT.cq/\(bT.cq=ab.cq->aI o=D o)
 bG:∀b,¬av b->b<w.heap.size->w'.heap[b]? =w.heap[b]?
 av:∀b,¬av b->b<w.heap.size->¬b' b
theorem bA.goes{d:aZ}{v:Value}(G:hX D aI sites bS w w' av b')(hs:w.heap.size<=w'.heap.size)(as8:∀b,b' b->b<w'.heap.size)(r:bA w av d v):bA w' b' d v:=by
 induction r with
 |int k n=>exact .int k n
 |bool b=>exact .bool b
 |str l s h=>exact .str l s h
 |nil t=>exact .nil t
 |sl t xs a cap cs n hn hcap hb hl hc _ ih=>
  have key:xs≠[]->a.block<w.heap.size:=by
   intro hne;have my:0<cs.length:=by
    rw[hl,eV];exact Nat.mul_pos (List.length_pos_iff.mpr hne) (lC t)
   have:=hc 0 (cs[0]) (List.getElem?_eq_getElem my);have h2:=World.block_lt_of_cell? w _ this;have iC:(a.add 0).block=a.block:=by unfold Addr.add;split<;>rfl
   rwa[iC] at h2
  refine .sl t xs a cap cs n hn hcap (fun hx=>G.av _ (hb hx) (key hx)) hl (fun j u hu=>?_) ih
  have hcell:=hc j u hu;have hne:xs≠[]:=by
   rintro rfl;have:cs=[]:=List.eq_nil_of_length_eq_zero (by simpa[flat] using hl)
   subst this;simp at hu
  have iC:(a.add j).block=a.block:=by unfold Addr.add;split<;>rfl
  rw[World.cell?_of_block (w:=w) (a:=a.add j) (by rw[iC];exact G.bG _ (hb hne) (key hne))]
  exact hcell
 |fn g bw bs iM lb hlb tg hb hlt hl hc _ ih=>
  refine .fn g bw bs iM lb hlb tg (fun b hm=>G.av b (hb b hm) (hlt b hm)) (fun b hm=>Nat.lt_of_lt_of_le (hlt b hm) hs) hl (fun i hi j u hu=>?_) ih
  have hcell:=hc i hi j u hu;have hm:bs[i]∈bs:=List.getElem_mem hi;rw[World.cell?_of_block (w:=w) (a:=⟨bs[i],j,none⟩) (G.bG _ (hb _ hm) (hlt _ hm))];exact hcell
 |vd t=>exact .vd t
 |vp T=>exact .vp T
 |err T n=>exact .err T n
 |map t es b hb hm=>exact .map t es b (G.av b hb hm.lt) (hm.of (G.bG b hb hm.lt))
theorem Ref.goes{o s:Nat}{p j4:Prop}(G:hX D aI sites bS w w' av b')(h:Ref sites o s p)(hp:aI o=D o->p->j4):Ref bS o s j4:=by
 obtain⟨ab,h1,h2,h3⟩:=h;obtain⟨bT,g1,g2,g3⟩:=G.ref o ab h1;refine⟨bT,g1,Nat.le_trans h2 g2,fun e=>?_⟩
 have:bT.cq=ab.cq:=by omega
 exact hp (g3 this) (h3 (by omega))
theorem dO.goes{l:aE}{v:Value}(G:hX D aI sites bS w w' av b')(hs:w.heap.size<=w'.heap.size)(b7:∀b,b' b->b<w'.heap.size)(h:dO D sites w av l v):dO aI bS w' b' l v:=by
 cases l with
 |d x=>exact bA.goes G hs b7 h
 |nil t=>exact h
 |own o s=>exact⟨h.1,Ref.goes G h.2 (fun e p=>p.trans e.symm)⟩
 |ptr o s off=>obtain⟨b,h1,h2⟩:=h;exact⟨b,h1,Ref.goes G h2 (fun e p=>by rw[e];exact p)⟩
 |et cells off=>
  obtain⟨b,B,hv,hb,hlt,cs,hl,hc,hr⟩:=h;refine⟨b,B,hv,G.av b hb hlt,Nat.lt_of_lt_of_le hlt hs,cs,hl,fun j u hu=>?_,fun j h1 h2=>(hr j h1 h2).goes G hs b7⟩
  have hcell:=hc j u hu;rw[World.cell?_of_block (w:=w) (a:=⟨b,B+j,none⟩) (G.bG b hb hlt)];exact hcell
 |eR o s t k off=>obtain⟨b,h1,h2⟩:=h;exact⟨b,h1,Ref.goes G h2 (fun e p=>by rw[e];exact p)⟩
 |clo g bw=>
  obtain⟨vs,hv,hl,hr⟩:=h;exact⟨vs,hv,hl,fun i h1 h2=>Ref.goes G (hr i h1 h2) (fun e p=>p.trans e.symm)⟩
 |cN u=>exact h
 |fresh t xs=>exact h
 |dj=>trivial
 |any=>trivial
theorem gO.goes{a:bL}{v:Value}(G:hX D aI sites bS w w' av b')(hs:w.heap.size<=w'.heap.size)(b7:∀b,b' b->b<w'.heap.size)(h:gO D sites w av a v):gO aI bS w' b' a v:=by
 cases a with
 |ak l=>exact dO.goes G hs b7 h
 |agg ad=>
  obtain⟨vs,hv,hl,hr⟩:=h;exact⟨vs,hv,hl,fun j h1 h2=>(hr j h1 h2).goes G hs b7⟩
theorem b_.goes{a:aJ}{v:Value}(G:hX D aI sites bS w w' av b')(hs:w.heap.size<=w'.heap.size)(b7:∀b,b' b->b<w'.heap.size)(h:b_ D sites w av a v):b_ aI bS w' b' a v:=by
 cases a with
 |av a=>exact gO.goes G hs b7 h
 |jw as=>
  obtain⟨vs,hv,hl,hr⟩:=h;exact⟨vs,hv,hl,fun j h1 h2=>(hr j h1 h2).goes G hs b7⟩
theorem jN.goes{o:Nat}{ab:Site}(G:hX D aI sites bS w w' av b')(hs:w.heap.size<=w'.heap.size)(b7:∀b,b' b->b<w'.heap.size)(cM:aI o=D o)
  (hb:ab.live=true->∀b,Jk.bG (D o)=some b->w'.heap[b]? =w.heap[b]?) (h:jN D sites w av o ab):jN aI bS w' b' o ab:=by
 cases ab with
 |box s cells=>
  obtain⟨b,T,cur,h1,h2,h3,ax,nU,bk⟩:=h;have:=hb rfl b (by rw[h1];rfl)
  exact⟨b,T,cur,cM.trans h1,this.trans h2,h3,ax,nU,fun j g1 g2=>(bk j g1 g2).goes G hs b7⟩
 |row s t xs=>
  obtain⟨e,cs,h1,h2⟩:=h;refine⟨e,cs,?_,fun j g1 g2=>(h2 j g1 g2).goes G hs b7⟩
  rw[cM];refine⟨h1.1,?_⟩;rcases h1.2 with hn|⟨g,cap,cur,fz,hv,r1,r2,im⟩
  ·exact .inl hn
  ·refine .inr ⟨g,cap,cur,fz,hv,r1,?_,im⟩;rw[hb rfl g (by rw[hv];rfl)];exact r2
 |db s t xs=>exact⟨by rw[cM];exact bA.goes G hs b7 h.1,by rw[cM];exact h.2⟩
 |map s t es=>
  obtain⟨b,h1,h2⟩:=h;exact⟨b,cM.trans h1,h2.of (hb rfl b (by rw[h1];rfl))⟩
 |dead s=>trivial
end
theorem am.p'{O:World}{Y:List Nat}{X:Nat->Prop}{D aI:Nat->Value}{st:ah}{bS:List (Nat×Site)}{M:Array Value}{w w':World}
  (S:am O Y X D st M w)
  (qg:∀o ab,look st.sites o=some ab->∃bT,look bS o=some bT/\ab.cq<=bT.cq/\(bT.cq=ab.cq->aI o=D o))
  (iC:∀b,¬aw X D st.sites b->b<w.heap.size->w'.heap[b]? =w.heap[b]?)
  (b7:∀b,¬aw X D st.sites b->b<w.heap.size->¬aw X aI bS b)
  (akU:(∀{a v},b_ D st.sites w (aw X D st.sites) a v->b_ aI bS w' (aw X aI bS) a v)->∀o bT,look bS o=some bT->
   (look st.sites o=some bT/\aI o=D o/\(bT.live=true->∀b,bG (D o)=some b->w'.heap[b]? =w.heap[b]?))\/jN aI bS w' (aw X aI bS) o bT)
  (aiX:∀o aa b,cd bS o->cd bS aa->bG (aI o)=some b->bG (aI aa)=some b->o=aa)
  (aiU:∀o b,cd bS o->bG (aI o)=some b->¬X b/\(b∈Y\/O.heap.size<=b))
  (hlt:∀o b,cd bS o->bG (aI o)=some b->b<w'.heap.size)
  (ahB:Fr Y O w') (hs:w.heap.size<=w'.heap.size):
  am O Y X aI {st with sites:=bS} M w':=by
 have G:hX D aI st.sites bS w w' (aw X D st.sites) (aw X aI bS):=⟨qg,iC,b7⟩;have vn:∀b,aw X aI bS b->b<w'.heap.size:=by
  rintro b (hx|⟨o,h1,h2⟩)
  ·exact Nat.lt_of_lt_of_le (S.old b hx) hs
  ·exact hlt o b h1 h2
 refine⟨S.nt,fun t=>(S.cE t).goes G hs vn,fun o bT bn=>?_,aiX,aiU,ahB,fun b h=>Nat.lt_of_lt_of_le (S.old b h) hs,S.eX⟩
 rcases akU (fun h=>h.goes G hs vn) o bT bn with⟨h1,h2,h3⟩|h
 ·exact(S.sites o bT h1).goes G hs vn h2 h3
 ·exact h
def cv(M:Array Value)(dst:Option Nat)(v:Value):Array Value:=
 match dst with
 |some d=>M.setIfInBounds d v
 |none=>M
section
variable {P:Program}{K:Act->World->Prop}{Q:Exit->Act->World->Prop}{B:Oper}{M:Array Value}{w w':World}{vv:Value}
theorem oo(h:(execOp (Act.eval ⟨M,[]⟩) B).run P w=.ok (.value vv) w')(hk:K ⟨cv M B.dst vv,[]⟩ w'):B.wp P ⟨M,[]⟩ w K Q:=by
 unfold Oper.wp;rw[h,Oper.upon_value];cases Z:B.dst with
 |none=>simp only[Z,cv] at hk;simpa[Act.put] using hk
 |some d=>simp only[Z,cv] at hk;simpa[Act.put] using hk
theorem agH(h:(execOp (Act.eval ⟨M,[]⟩) B).run P w=.ok .skip w')(hk:K ⟨cv M B.dst undef,[]⟩ w'):B.wp P ⟨M,[]⟩ w K Q:=by
 unfold Oper.wp;rw[h,Oper.upon_skip];cases Z:B.dst with
 |none=>simp only[Z,cv] at hk;simpa[Act.put] using hk
 |some d=>simp only[Z,cv] at hk;simpa[Act.put] using hk
end
def bj(sites:List (Nat×Site)):List (Nat×Site)->List (Nat×Site)
 |[]=>sites
 |(o,s)::r=>bj (ci sites o s) r
theorem ah.ue(st:ah)(us:List (Nat×Site)):st.hU us={st with sites:=bj st.sites us}:=by
 induction us generalizing st with
 |nil=>rfl
 |cons p us ih=>obtain⟨o,s⟩:=p;simp only[ah.hU,bj];rw[ih];rfl
theorem kL(sites:List (Nat×Site))(us vs:List (Nat×Site)):bj sites (us++vs)=bj (bj sites us) vs:=by
 induction us generalizing sites with
 |nil=>rfl
 |cons p us ih=>obtain⟨o,s⟩:=p;simp only[List.cons_append,bj];exact ih _
section
variable {O:World}{Y:List Nat}{X:Nat->Prop}{D:Nat->Value}{st:ah}{M:Array Value}{w:World}
theorem am.put(S:am O Y X D st M w){t:Nat}{v:aJ}{vv:Value}(ap:t<st.nt)(hv:b_ D st.sites w (aw X D st.sites) v vv):
  am O Y X D (st.set t v) (M.setIfInBounds t vv) w:=by
 refine⟨by simpa using S.nt,fun u=>?_,S.sites,S.dT,S.cf,S.frame,S.old,S.eX⟩
 rw[ah.FU];by_cases h:t=u
 ·subst h;simp only[if_true];have:(M.setIfInBounds t vv).getD t undef=vv:=by
   have h1:t<M.size:=by rw[S.nt];exact ap
   simp[Array.getD,h1]
  rw[this];exact hv
 ·simp only[h,if_false];have:(M.setIfInBounds t vv).getD u undef=M.getD u undef:=by
   simp only[Array.getD_eq_getD_getElem?,Array.getElem?_setIfInBounds,h,if_false]
  rw[this];exact S.cE u
theorem am.cP{dst:Option Nat}{v:aJ}{vv:Value}{us:List (Nat×Site)}(S:am O Y X D {st with sites:=bj st.sites us} M w)
  (Z:ce st dst=true) (hv:b_ D (bj st.sites us) w (aw X D (bj st.sites us)) v vv):am O Y X D (st.cP dst v us) (cv M dst vv) w:=by
 cases dst with
 |none=>simp only[ah.cP,ah.ue,cv];exact S
 |some t=>
  simp only[ah.cP,ah.ue,cv];have ap:t<st.nt:=by simpa[ce] using Z
  exact am.put (st:={st with sites:=bj st.sites us}) S ap hv
theorem du(S:am O Y X D st M w)(C:Ctx)(T:TypeId)(x:Operand):b_ D st.sites w (aw X D st.sites) (aX C st T x) (Act.eval ⟨M,[]⟩ x):=by
 cases x with
 |tmp t=>exact S.cE t
 |const v=>
  show b_ _ _ _ _ (ux (C.tt T) v) v;unfold ux;split
  ·exact .int _ _
  ·exact .bool _
  ·exact .str _ _ rfl
  ·split<;>exact rfl
  ·split
   ·exact .vd _
   ·exact rfl
  ·trivial
  ·trivial
  ·exact rfl
 |global g=>exact rfl
 |func f=>
  refine⟨[],rfl,rfl,fun i h=>?_⟩
  simp at h
variable {P:Program}{C:Ctx}{B:Oper}{K:Act->World->Prop}{Q:Exit->Act->World->Prop}
def cD(P:Program)(O:World)(Y:List Nat)(X:Nat->Prop)(st:ah)(M:Array Value)(w:World)(B:Oper)(v:aJ)(us:List (Nat×Site)):Prop:=
 ∀(K:Act->World->Prop) (Q:Exit->Act->World->Prop),(∀aI bU w',am O Y X aI (st.cP B.dst v us) bU w'->K ⟨bU,[]⟩ w')->B.wp P ⟨M,[]⟩ w K Q
theorem dC(S:am O Y X D st M w)(Z:ce st B.dst=true){v:aJ}{vv:Value}
  (h:(execOp (Act.eval ⟨M,[]⟩) B).run P w=.ok (.value vv) w) (hv:b_ D st.sites w (aw X D st.sites) v vv):cD P O Y X st M w B v []:=
 fun _ _ bM=>oo h (bM _ _ _ (am.cP (us:=[]) S Z hv))
end
section
variable {P:Program}{w:World}
theorem YY(op:BinOp)(t:TypeId)(x y:Operand)(k k':IntKind)(a b:Int):(eqGuard op t x y (.int k a) (.int k' b)).run P w=.ok () w:=by
 unfold eqGuard;cases op<;>rfl
theorem YK(op:BinOp)(t:TypeId)(x y:Operand)(a b:ByteArray):(eqGuard op t x y (.string a) (.string b)).run P w=.ok () w:=by
 unfold eqGuard;cases op<;>rfl
theorem KW(op:BinOp)(t:TypeId)(x y:Operand)(a b:Bool):(eqGuard op t x y (.bool a) (.bool b)).run P w=.ok () w:=by
 unfold eqGuard;cases op<;>rfl
def Holds(r:c')(dQ:aJ->List (Nat×Site)->Prop):Prop:=∀y,r.comp=some y->r.qM y=true->dQ (r.val y) (r.us y)
theorem Holds.fail{dQ:aJ->List (Nat×Site)->Prop}:Holds .fail dQ:=fun _ h _=>by cases h
theorem Holds.ok{v:aJ}{dQ:aJ->List (Nat×Site)->Prop}(h:dQ v []):Holds (.ok v) dQ:=fun _ _ _=>h
theorem Holds.fs{v:aJ}{us:List (Nat×Site)}{dQ:aJ->List (Nat×Site)->Prop}(h:dQ v us):Holds (.fs v us) dQ:=fun _ _ _=>h
theorem Holds.ek{J:Type}{c:Option J}{f:J->aJ}{dQ:aJ->List (Nat×Site)->Prop}(h:∀y,c=some y->dQ (f y) []):Holds (.ek c f) dQ:=fun y hy _=>h y hy
theorem Holds.hq{J:Type}{c:Option J}{f:J->aJ}{us:J->List (Nat×Site)}{dQ:aJ->List (Nat×Site)->Prop}(h:∀y,c=some y->dQ (f y) (us y)):Holds (.hq c f us) dQ:=fun y hy _=>h y hy
def Plain(P:Program)(w:World)(s:Sem Value)(v:aJ)(us:List (Nat×Site)):Prop:=
 ∃vv d,s.run P w=.ok vv w/\us=[]/\v=one d/\∀av,bA w av d vv
theorem Plain.mk{s:Sem Value}{vv:Value}{d:aZ}(h:s.run P w=.ok vv w)(hr:∀av,bA w av d vv):Plain P w s (one d) []:=⟨vv,d,h,rfl,rfl,hr⟩
theorem abo(op:BinOp)(T:TypeId)(k:IntKind)(a b:Int)(hs:op≠.shl)(fC:op≠.shr):
  Holds (Ro op k a b) (Plain P w (binOp op T (.int k a) (.int k b))):=by
 cases op with
 |shl=>exact absurd rfl hs
 |shr=>exact absurd rfl fC
 |andNot=>exact .fail
 |quo=>
  refine Holds.ek fun y hy=>?_
  unfold nC at hy;split at hy
  ·cases hy
  ·rename_i hb;cases hy;exact .mk (by simp[binOp,Op.intDiv,hb]) fun av=>.int _ _
 |rem=>
  refine Holds.ek fun y hy=>?_
  unfold lM at hy;split at hy
  ·cases hy
  ·rename_i hb;cases hy;exact .mk (by simp[binOp,Op.intDiv,hb]) fun av=>.int _ _
 |add=>exact Holds.ok (.mk (by simp[binOp,Op.intArith]) fun av=>.int _ _)
 |sub=>exact Holds.ok (.mk (by simp[binOp,Op.intArith]) fun av=>.int _ _)
 |mul=>exact Holds.ok (.mk (by simp[binOp,Op.intArith]) fun av=>.int _ _)
 |and=>exact Holds.ok (.mk (by simp[binOp,Op.intBits,eu]) fun av=>.int _ _)
 |or=>exact Holds.ok (.mk (by simp[binOp,Op.intBits,hH]) fun av=>.int _ _)
 |xor=>exact Holds.ok (.mk (by simp[binOp,Op.intBits,dh]) fun av=>.int _ _)
 |eql=>exact Holds.ok (.mk (by simp[binOp,Op.intCmp]) fun av=>.bool _)
 |neq=>exact Holds.ok (.mk (by simp[binOp,Op.intCmp]) fun av=>.bool _)
 |lss=>exact Holds.ok (.mk (by simp[binOp,Op.intCmp]) fun av=>.bool _)
 |leq=>exact Holds.ok (.mk (by simp[binOp,Op.intCmp]) fun av=>.bool _)
 |gtr=>exact Holds.ok (.mk (by simp[binOp,Op.intCmp]) fun av=>.bool _)
 |geq=>exact Holds.ok (.mk (by simp[binOp,Op.intCmp]) fun av=>.bool _)
theorem abm(op:BinOp)(T:TypeId)(a b:ByteArray):
  Holds (Ra op a.data.toList b.data.toList) (Plain P w (binOp op T (.string a) (.string b))):=by
 have e1:a.toList=a.data.toList:=ByteArray.toList_eq a;have e2:b.toList=b.data.toList:=ByteArray.toList_eq b;have eb:a.data.toList.length=a.size:=rfl;have gw:b.data.toList.length=b.size:=rfl;cases op with
 |add=>
  refine Holds.ek fun y hy=>?_
  simp only[bV,eb,gw] at hy;split at hy
  ·cases hy
  ·rename_i hc;cases hy;refine .mk (vv:=.string (a++b)) ?_ fun av=>.str _ _ (by simp[ByteArray.data_append])
   simp only[binOp,Op.stringOp,hc,if_false,Sem.run_pure]
 |eql=>exact Holds.ok (.mk (by rw[<-e1,<-e2];rfl) fun av=>.bool _)
 |neq=>exact Holds.ok (.mk (by rw[<-e1,<-e2];rfl) fun av=>.bool _)
 |lss=>exact Holds.ok (.mk (by rw[<-e1,<-e2];rfl) fun av=>.bool _)
 |leq=>exact Holds.ok (.mk (by rw[<-e1,<-e2];rfl) fun av=>.bool _)
 |gtr=>exact Holds.ok (.mk (by rw[<-e1,<-e2];rfl) fun av=>.bool _)
 |geq=>exact Holds.ok (.mk (by rw[<-e1,<-e2];rfl) fun av=>.bool _)
 |_=>exact .fail
end
def pJ:aE->Option Value
 |.d (.int k n)=>some (.int k n)
 |.d (.bool b)=>some (.bool b)
 |.d (.str [])=>some (.string ⟨#[]⟩)
 |.nil _=>some (.slice none 0 0)
 |.cN (.pointer none)=>some (.pointer none)
 |.cN .nilFunc=>some .nilFunc
 |.cN (.map none)=>some (.map none)
 |.cN .nilIface=>some .nilIface
 |_=>none
def kR:List aE->Option (List Value)
 |[]=>some []
 |l::ad=>match pJ l,kR ad with
  |some v,some vs=>some (v::vs)
  |_,_=>none
theorem LL{l:aE}{v:Value}(h:pJ l=some v)(D:Nat->Value)(sites:List (Nat×Site))(w:World)(av:Nat->Prop):dO D sites w av l v/\v.oneCell'=true:=by
 unfold pJ at h;split at h<;>first|cases h|skip
 ·exact⟨.int _ _,rfl⟩
 ·exact⟨.bool _,rfl⟩
 ·exact⟨.str _ _ rfl,rfl⟩
 ·exact⟨rfl,rfl⟩
 ·exact⟨rfl,rfl⟩
 ·exact⟨rfl,rfl⟩
 ·exact⟨rfl,rfl⟩
 ·exact⟨rfl,rfl⟩
theorem tJ:∀{ad:List aE} {vs:List Value},kR ad=some vs->vs.length=ad.length/\(∀u∈vs,u.oneCell'=true)/\
  ∀(D:Nat->Value) (sites:List (Nat×Site)) (w:World) (av:Nat->Prop) j (h:j<ad.length) (af:j<vs.length),dO D sites w av (ad[j]) (vs[j]):=by
 intro ad;induction ad with
 |nil=>intro vs h;simp[kR] at h;subst h;exact⟨rfl,fun u hu=>by simp at hu,fun _ _ _ _ j h=>by simp at h⟩
 |cons l ad ih=>
  intro vs h;simp only[kR] at h;split at h
  ·rename_i v ch h1 h2;cases h;obtain⟨g1,g2,g3⟩:=ih h2;refine⟨by simp[g1],fun u hu=>?_,fun D sites w av j hj jA=>?_⟩
   ·rcases List.mem_cons.1 hu with rfl|hu
    ·exact(LL h1 (fun _=>undef) [] default (fun _=>False)).2
    ·exact g2 u hu
   ·cases j with
    |zero=>exact(LL h1 _ _ _ _).1
    |succ j=>exact g3 D sites w av j (by simpa using hj) (by simpa using jA)
  ·cases h
def nh:Value->Value->Option Bool
 |.int k a,.int k' b=>if k=k' then some (a==b) else none
 |.bool a,.bool b=>some (a==b)
 |.string a,.string b=>some (a==b)
 |_,_=>none
def jk:List Value->List Value->Option Bool
 |[a],[b]=>nh a b
 |a::as,b::bs=>match nh a b,jk as bs with
  |some x,some y=>some (x&&y)
  |_,_=>none
 |_,_=>none
def oP:List aE->List Value->Bool
 |[],[]=>true
 |.d (.int _ _)::z,.int _ _::l=>oP z l
 |.d (.bool _)::z,.bool _::l=>oP z l
 |.d (.str _)::z,.string _::l=>oP z l
 |_,_=>false
def iY(P:Program)(T:TypeId)(d:TypeDesc)(z:Value):Prop:=
 P.underlying T=some d/\(∀bK,d≠.struct bK)/\(∀n e,d≠.array n e)/\(P.info? T).map (fun i=>(i.size,i.zero))=some (1,some z)
def mapElem(P:Program)(e:TypeId):aY->Prop
 |.i64=>iY P e (.int .i64) (.int .i64 0)
 |.bool=>iY P e .bool (.bool false)
 |_=>False
def Ge(P:Program)(e:TypeId):aY->Prop
 |.i64=>iY P e (.int .i64) (.int .i64 0)
 |.u32=>iY P e (.int .u32) (.int .u32 0)
 |.bool=>iY P e .bool (.bool false)
 |.str=>iY P e .string (.string ⟨#[]⟩)
 |_=>False
def b8.ok(P:Program)(T:TypeId):b8->Prop
 |.none=>True
 |.int k=>iY P T (.int k) (.int k 0)
 |.bool=>iY P T .bool (.bool false)
 |.str=>iY P T .string (.string ⟨#[]⟩)
 |.ptr=>∃e,iY P T (.pointer e) (.pointer Option.none)
 |.func=>∃ps kB v,iY P T (.func ps kB v) .nilFunc
 |.slice e t bytes=>iY P T (.slice e) (.slice Option.none 0 0)/\∃z,(P.info? e).map (fun i=>(i.size,i.bytes,i.zero))=some (aT t,bytes,some z)/\z.cells.size=aT t/\(t.jy=true->e=l6)
 |.struct bK n z eq=>∃fields:Array Field,P.underlying T=some (.struct fields)/\
   (fields.toList.mapM (fun f=>(P.info? f.type).map fun i=>(f.offset,i.size))=some bK/\∀p∈bK,p.2≠0)/\
   (∃fO,(P.info? T).map (fun i=>(i.size,i.zero))=some (n,some (.agg fO))/\kR z=some fO.toList/\z.length=n)/\
   (eq=true->P.eqGuardType P.depth T=false/\∀(vs us:List Value) (b:Bool) (w:World),jk vs us=some b->oP z vs=true->(Op.equal T (.agg vs.toArray) (.agg us.toArray)).run P w=.ok b w)
 |.map k e t=>iY P T (.map k e) (.map Option.none)/\P.underlying k=some .string/\mapElem P e t
 |.iface=>∃iL,iY P T (.interface iL) .nilIface
 |.arr e t n=>P.underlying T=some (.array n e)/\(∃fO z,(P.info? T).map (fun i=>(i.size,i.zero))=some (n,some (.agg fO))/\sV t=some z/\kR (List.replicate n z)=some fO.toList)/\Ge P e t
section
variable {P:Program}{T:TypeId}{w:World}
theorem kK{i:TypeInfo}(h:P.info? T=some i):(typeInfo T).run P w=.ok i w:=by
 simp[typeInfo,h]
theorem b8.NV{ti:b8}(h:ti.ok P T)(hn:ti≠.none):(sizeOf T).run P w=.ok ti.size w:=by
 have key:∀{z:Option Value} {n:Nat},(P.info? T).map (fun i=>(i.size,i.zero))=some (n,z)->(sizeOf T).run P w=.ok n w:=by
  intro z n h;cases hi:P.info? T with
  |none=>simp[hi] at h
  |some i=>
   simp only[hi,Option.map_some,Option.some.injEq,Prod.mk.injEq] at h;simp[sizeOf,kK hi,h.1]
 cases ti with
 |none=>exact absurd rfl hn
 |int k=>exact key h.2.2.2
 |bool=>exact key h.2.2.2
 |str=>exact key h.2.2.2
 |ptr=>obtain⟨e,h⟩:=h;exact key h.2.2.2
 |func=>obtain⟨_,_,_,h⟩:=h;exact key h.2.2.2
 |iface=>obtain⟨_,h⟩:=h;exact key h.2.2.2
 |slice e t b=>exact key h.1.2.2.2
 |map k e t=>exact key h.1.2.2.2
 |struct bK n z eq=>obtain⟨fields,_,_,⟨fO,h,_⟩,_⟩:=h;exact key h
 |arr e t n=>obtain⟨_,⟨fO,z,h,_⟩,_⟩:=h;exact key h
theorem b8.D4{ti:b8}(h:ti.ok P T){z:List aE}(hz:ti.zero=some z):∃v,(zeroValue T).run P w=.ok v w/\kR z=some v.cells.toList:=by
 have key:∀{z:Value} {n:Nat},(P.info? T).map (fun i=>(i.size,i.zero))=some (n,some z)->(zeroValue T).run P w=.ok z w:=by
  intro z n h;cases hi:P.info? T with
  |none=>simp[hi] at h
  |some i=>
   simp only[hi,Option.map_some,Option.some.injEq,Prod.mk.injEq] at h;simp[zeroValue,kK hi,h.2]
 cases ti with
 |none=>cases hz
 |int k=>cases hz;exact⟨_,key h.2.2.2,rfl⟩
 |bool=>cases hz;exact⟨_,key h.2.2.2,rfl⟩
 |str=>cases hz;exact⟨_,key h.2.2.2,rfl⟩
 |ptr=>cases hz;obtain⟨e,h⟩:=h;exact⟨_,key h.2.2.2,rfl⟩
 |func=>cases hz;obtain⟨_,_,_,h⟩:=h;exact⟨_,key h.2.2.2,rfl⟩
 |iface=>cases hz;obtain⟨_,h⟩:=h;exact⟨_,key h.2.2.2,rfl⟩
 |slice e t b=>cases hz;exact⟨_,key h.1.2.2.2,rfl⟩
 |map k e t=>cases hz;exact⟨_,key h.1.2.2.2,rfl⟩
 |struct bK n eO eq=>cases hz;obtain⟨fields,_,_,⟨fO,h,h2,_⟩,_⟩:=h;exact⟨_,key h,h2⟩
 |arr e t n=>
  obtain⟨_,⟨fO,z0,h,h1,h2⟩,_⟩:=h;simp only[b8.zero,h1,Option.map_some,Option.some.injEq] at hz;subst hz;exact⟨_,key h,h2⟩
theorem b8.MQ{ti:b8}(h:ti.ok P T)(hn:ti≠.none):(isAgg T).run P w=.ok ti.agg w:=by
 have key:∀{d:TypeDesc},P.underlying T=some d->(∀bK,d≠.struct bK)->(∀n e,d≠.array n e)->(isAgg T).run P w=.ok false w:=by
  intro d h h1 h2;simp only[isAgg,Sem.run_bind,run_underlying h,Result.andThen_ok];cases d<;>first|rfl|exact absurd rfl (h1 _)|exact absurd rfl (h2 _ _)
 cases ti with
 |none=>exact absurd rfl hn
 |int k=>exact key h.1 h.2.1 h.2.2.1
 |bool=>exact key h.1 h.2.1 h.2.2.1
 |str=>exact key h.1 h.2.1 h.2.2.1
 |ptr=>obtain⟨e,h⟩:=h;exact key h.1 h.2.1 h.2.2.1
 |func=>obtain⟨_,_,_,h⟩:=h;exact key h.1 h.2.1 h.2.2.1
 |iface=>obtain⟨_,h⟩:=h;exact key h.1 h.2.1 h.2.2.1
 |slice e t b=>exact key h.1.1 h.1.2.1 h.1.2.2.1
 |map k e t=>exact key h.1.1 h.1.2.1 h.1.2.2.1
 |struct bK n z eq=>
  obtain⟨fields,h,_⟩:=h;simp only[isAgg,Sem.run_bind,run_underlying h,Result.andThen_ok];rfl
 |arr e t n=>
  obtain⟨h,_⟩:=h;simp only[isAgg,Sem.run_bind,run_underlying h,Result.andThen_ok];rfl
def sn(agg:Bool)(cs:List Value):Value:=bif agg then .agg cs.toArray else cs.headD undef
theorem tH{ti:b8}(h:ti.ok P T)(hn:ti≠.none)(a:Addr)(cs:List Value)(hl:cs.length=ti.size)(hc:∀j u,cs[j]? =some u->w.cell? (a.add j)=some u):
  (loadVar T a).run P w=.ok (sn ti.agg cs) w:=by
 simp only[loadVar,Sem.run_bind,b8.MQ h hn,Result.andThen_ok];cases H0:ti.agg with
 |true=>
  simp only[if_true,Sem.run_bind,b8.NV h hn,Result.andThen_ok,sn,cond_true];rw[<-hl,run_loadCells_list w a cs hc];rfl
 |false=>
  have h1:ti.size=1:=by cases ti<;>first|rfl|cases H0
  rw[h1] at hl;match cs,hl with
  |[c],_=>
   have h0:=hc 0 c rfl;have ha:a.add 0=a:=by unfold Addr.add;simp
   rw[ha] at h0;simp[sn,h0]
end
section
variable {D:Nat->Value}{sites:List (Nat×Site)}{w:World}{av:Nat->Prop}
def cr(D:Nat->Value)(sites:List (Nat×Site))(w:World)(av:Nat->Prop)(ad:List aE)(vs:List Value):Prop:=
 vs.length=ad.length/\∀j (h:j<ad.length) (af:j<vs.length),dO D sites w av (ad[j]) (vs[j])
theorem cr.nil:cr D sites w av [] []:=⟨rfl,fun j h=>by simp at h⟩
theorem cr.cons{l:aE}{ad:List aE}{v:Value}{vs:List Value}(h:dO D sites w av l v)(hs:cr D sites w av ad vs):cr D sites w av (l::ad) (v::vs):=
 ⟨by simp[hs.1],fun j h1 h2=>by
  cases j with
  |zero=>exact h
  |succ j=>exact hs.2 j (by simpa using h1) (by simpa using h2)⟩
theorem cr.inv{l:aE}{ad:List aE}{vs:List Value}(h:cr D sites w av (l::ad) vs):∃v ch,vs=v::ch/\dO D sites w av l v/\cr D sites w av ad ch:=by
 obtain⟨h1,h2⟩:=h;match vs,h1 with
 |v::ch,h1=>
  exact⟨v,ch,rfl,h2 0 (by simp) (by simp),by simpa using h1,fun j g1 g2=>h2 (j+1) (by simpa using g1) (by simpa using g2)⟩
theorem cr.nj{vs:List Value}(h:cr D sites w av [] vs):vs=[]:=List.eq_nil_of_length_eq_zero h.1
theorem cr.drop{ad:List aE}{vs:List Value}(n:Nat)(h:cr D sites w av ad vs):cr D sites w av (ad.drop n) (vs.drop n):=
 ⟨by simp[h.1],fun j h1 h2=>by simp only[List.getElem_drop];exact h.2 _ (by simp at h1;omega) (by simp at h2;omega)⟩
theorem cr.take{ad:List aE}{vs:List Value}(n:Nat)(h:cr D sites w av ad vs):cr D sites w av (ad.take n) (vs.take n):=
 ⟨by simp[h.1],fun j h1 h2=>by simp only[List.getElem_take];exact h.2 _ (by simp at h1;omega) (by simp at h2;omega)⟩
theorem cr.append{ad f_:List aE}{vs ch:List Value}(h:cr D sites w av ad vs)(af:cr D sites w av f_ ch):cr D sites w av (ad++f_) (vs++ch):=by
 induction ad generalizing vs with
 |nil=>rw[h.nj];exact af
 |cons l ad ih=>
  obtain⟨v,vE,rfl,h1,h2⟩:=h.inv;exact .cons h1 (ih h2)
theorem cr.bF{ad f_:List aE}{vs ch:List Value}(off:Nat)(h:cr D sites w av ad vs)(af:cr D sites w av f_ ch):cr D sites w av (Jk.bF ad off f_) (Jk.bF vs off ch):=by
 unfold Jk.bF;rw[af.1];exact((h.take off).append af).append (h.drop _)
theorem dO.jl{l:aE}{u:Value}(h:dO D sites w av l u)(dG:l.storable=true):u.oneCell'=true:=by
 cases l with
 |d x=>exact bA.jl h
 |nil t=>rw[show u=_ from h];rfl
 |own o s=>exact h.1
 |ptr o s off=>obtain⟨b,rfl,_⟩:=h;rfl
 |et c B=>cases dG
 |eR _ _ _ _ _=>cases dG
 |clo g bw=>obtain⟨vs,rfl,_⟩:=h;rfl
 |cN x=>rw[show u=x from h];cases x<;>first|rfl|cases dG
 |fresh t xs=>cases dG
 |dj=>cases dG
 |any=>cases dG
theorem cr.jl{ad:List aE}{vs:List Value}(h:cr D sites w av ad vs)(dG:gW ad=true):∀u∈vs,u.oneCell'=true:=by
 induction ad generalizing vs with
 |nil=>rw[h.nj];intro u hu;simp at hu
 |cons l ad ih=>
  obtain⟨v,ch,rfl,h1,h2⟩:=h.inv;simp only[gW,Bool.and_eq_true] at dG;intro u hu;rcases List.mem_cons.1 hu with rfl|hu
  ·exact h1.jl dG.1
  ·exact ih h2 dG.2 u hu
theorem gO.cells{a:bL}{v:Value}(h:gO D sites w av a v)(dG:gW a.cells=true):cr D sites w av a.cells v.cells.toList:=by
 cases a with
 |ak l=>
  have h1:v.oneCell'=true:=dO.jl h (by simpa[bL.cells,gW] using dG)
  have:v.cells=#[v]:=by cases v<;>first|rfl|cases h1
  rw[this];exact .cons h .nil
 |agg ad=>
  obtain⟨vs,rfl,h1,h2⟩:=h;exact⟨h1,h2⟩
theorem QP{agg:Bool}{off n:Nat}{ad:List aE}{vs:List Value}{v:aJ}(hc:cut agg off n ad=some v)(h1:agg=false->n=1)(h:cr D sites w av ad vs):
  off+n<=vs.length/\b_ D sites w av v (sn agg ((vs.drop off).take n)):=by
 unfold cut at hc;cases agg with
 |true=>
  simp only[cond_true] at hc;cases hb:Nat.ble (off+n) ad.length with
  |false=>simp[hb] at hc
  |true=>
   simp only[hb,cond_true,Option.some.injEq] at hc;subst hc;have hle:off+n<=ad.length:=Nat.le_of_ble_eq_true hb;have:=(h.drop off).take n;exact⟨by rw[h.1];exact hle,_,rfl,this.1,this.2⟩
 |false=>
  simp only[cond_false] at hc;have hn:=h1 rfl;subst hn;cases Z:ad.drop off with
  |nil=>simp[Z] at hc
  |cons l r=>
   simp only[Z,Option.some.injEq] at hc;subst hc;have W7:=h.drop off;rw[Z] at W7;obtain⟨u,us,hu,hl,_⟩:=W7.inv;have hlen:off<ad.length:=by
    rcases Nat.lt_or_ge off ad.length with h|h
    ·exact h
    ·rw[List.drop_eq_nil_of_le h] at Z;cases Z
   refine⟨by rw[h.1];omega,?_⟩
   rw[hu];exact hl
theorem g'{ds:List aZ}{vs:List Value}(hl:vs.length=ds.length)(h:∀j (h:j<ds.length) (af:j<vs.length),bA w av (ds[j]) (vs[j])):cr D sites w av (cx ds) vs:=
 ⟨by simp[cx,hl],fun j h1 h2=>by simp only[cx,List.getElem_map];exact h j (by simpa[cx] using h1) h2⟩
end
theorem gG(b B j:Nat):(⟨b,B,none⟩:Addr).add j=⟨b,B+j,none⟩:=by
 unfold Addr.add;split<;>simp_all
def hP(w:World)(b B:Nat)(cs:List Value):Prop:=∀j u,cs[j]? =some u->w.cell? ⟨b,B+j,none⟩=some u
theorem hP.drop{w:World}{b B:Nat}{cs:List Value}(h:hP w b B cs)(m:Nat):hP w b (B+m) (cs.drop m):=by
 intro j u hu;rw[List.getElem?_drop] at hu;have:=h _ _ hu;rwa[Nat.add_assoc]
theorem hP.take{w:World}{b B:Nat}{cs:List Value}(h:hP w b B cs)(m:Nat):hP w b B (cs.take m):=by
 intro j u hu;rw[List.getElem?_take] at hu;split at hu
 ·exact h _ _ hu
 ·cases hu
theorem hP.row{w:World}{b:Nat}{cur:List Value}{T:TypeId}{cC:Nat×Nat}(h:w.heap[b]? =some (.cells cur.toArray T cC)):hP w b 0 cur:=by
 intro j u hu;rw[Nat.zero_add,cell_of_row w b j _ T cC h];simpa using hu
theorem tO(t:aY)(xs:List (den t))(k:Nat)(x:den t)(hx:xs[k]? =some x):((flat t xs).drop (k*aT t)).take (aT t)=enc t x:=by
 apply List.ext_getElem?;intro j;rw[List.getElem?_take,List.getElem?_drop];split
 ·rename_i hj;exact flat_get t xs k j x hx hj
 ·rename_i hj;rw[List.getElem?_eq_none (by rw[iN];omega)]
section
variable {P:Program}{C:hA}{O:World}{Y:List Nat}{X:Nat->Prop}{D:Nat->Value}{st:ah}{M:Array Value}{w:World}
theorem gA{o s:Nat}{cells:List aE}(h:fy st o s=some cells):look st.sites o=some (.box s cells):=by
 unfold fy ah.ab at h;split at h
 ·rename_i aG jo hl;cases hb:aG.beq s with
  |false=>simp[hb] at h
  |true=>
   simp only[hb,cond_true,Option.some.injEq] at h;have:=Nat.eq_of_beq_eq_true hb;subst this h;exact hl
 ·cases h
theorem jG{o s:Nat}{t:aY}{xs:List (den t)}(h:rowOf st o s=some ⟨t,xs⟩):look st.sites o=some (.row s t xs)\/look st.sites o=some (.db s t xs):=by
 unfold rowOf ah.ab at h;split at h
 ·rename_i aG bi iD hl;cases hb:aG.beq s with
  |false=>simp[hb] at h
  |true=>
   simp only[hb,cond_true,Option.some.injEq] at h;have:=Nat.eq_of_beq_eq_true hb;subst this;cases h;exact .inl hl
 ·rename_i aG bi iD hl;cases hb:aG.beq s with
  |false=>simp[hb] at h
  |true=>
   simp only[hb,cond_true,Option.some.injEq] at h;have:=Nat.eq_of_beq_eq_true hb;subst this;cases h;exact .inr hl
 ·cases h
theorem Ref.at{sites:List (Nat×Site)}{o s:Nat}{p:Prop}{ab:Site}(h:Ref sites o s p)(hl:look sites o=some ab)(hs:ab.cq=s):p:=by
 obtain⟨bT,h1,_,h3⟩:=h;rw[hl] at h1;cases h1;exact h3 hs
theorem Ref.mk{sites:List (Nat×Site)}{o s:Nat}{p:Prop}{ab:Site}(hl:look sites o=some ab)(hs:ab.cq=s)(hp:p):Ref sites o s p:=
 ⟨ab,hl,by omega,fun _=>hp⟩
theorem am.box(S:am O Y X D st M w){o s off:Nat}{cells:List aE}(h:look st.sites o=some (.box s cells)){v:Value}(hv:dO D st.sites w (aw X D st.sites) (.ptr o s off) v):
  ∃b T cur,D o=.pointer (some ⟨b,0,none⟩)/\v=.pointer (some ⟨b,off,none⟩)/\w.heap[b]? =some (.cells (List.toArray cur) T (0,0))/\(∀u∈cur,u.oneCell'=true)/\cr D st.sites w (aw X D st.sites) cells cur:=by
 obtain⟨b,T,cur,h1,h2,h3,ax,_,bk⟩:=S.sites o _ h;obtain⟨bH,g2,g3⟩:=hv;have g1:=Ref.at g3 h rfl;rw[h1] at g1;cases g1;exact⟨b,T,cur,h1,g2,h2,ax,h3,bk⟩
theorem am.row(S:am O Y X D st M w){o s:Nat}{t:aY}{xs:List (den t)}(h:rowOf st o s=some ⟨t,xs⟩):
  ∃cs:List Value,cr D st.sites w (aw X D st.sites) (cx (flat t xs)) cs/\
   ((D o=.slice none 0 0/\xs=[])\/∃b c,D o=.slice (some ⟨b,0,none⟩) xs.length c/\hP w b 0 cs/\xs.length<=c):=by
 rcases jG h with h|h
 ·obtain⟨e,cs,h1,h2⟩:=S.sites o _ h;have hl:cs.length=(flat t xs).length:=by rw[eV];exact h1.1
  refine⟨cs,g' hl h2,?_⟩;rcases h1.2 with⟨hn,h0⟩|⟨g,cap,cur,fz,hv,_,hg,hnc,_,_,htk⟩
  ·exact .inl ⟨hn,List.eq_nil_of_length_eq_zero h0⟩
  ·refine .inr ⟨_,_,hv,fun j u hu=>?_,hnc⟩
   rw[Nat.zero_add,cell_of_row w g j cur e fz hg];rw[<-htk,List.getElem?_take] at hu;split at hu
   ·simpa using hu
   ·cases hu
 ·obtain⟨h1,bP⟩:bA w (aw X D st.sites) (.sl t xs) (D o)/\Be (D o):=S.sites o _ h;generalize hv:D o=v at h1 bP;cases h1 with
  |nil t=>exact⟨[],⟨rfl,fun j h=>by simp[cx,flat] at h⟩,.inl ⟨rfl,rfl⟩⟩
  |sl t xs a cap cs n hn hcap hb hl hc hr=>
   subst hn;rcases bP with bP|⟨b,n,c,bP⟩
   ·cases bP
   ·cases bP;exact⟨cs,g' hl hr,.inr ⟨b,cap,rfl,fun j u hu=>by have:=hc j u hu;rwa[gG] at this,hcap⟩⟩
def Bf(g:Nat)(t:aY)(xs:List (den t)):Prop:=g∈kv/\∀w (av:Nat->Prop),mM w->∃T fz,∃cs:List Value,w.heap[g]? =some (.cells cs.toArray T fz)/\cs.length=(flat t xs).length/\∀j (h:j<(flat t xs).length) (af:j<cs.length),bA w av ((flat t xs)[j]) (cs[j])
structure CtxOk(P:Program)(C:Ctx):Prop where
 tt:∀T,(C.tt T).ok P T
 gt:∀g t xs,C.gt g=some ⟨t,xs⟩->Bf g t xs
theorem Eo{ti:b8}(h:ti.known=true):ti≠.none:=by rintro rfl;cases h
theorem EH{ti:b8}(h:ti.agg=false):ti.size=1:=by cases ti<;>first|rfl|cases h
theorem aek{agg:Bool}{off n:Nat}{ad:List aE}(h:off+n<=ad.length)(h1:agg=false->n=1):cut agg off n ad≠none:=by
 unfold cut;cases agg with
 |true=>
  have:Nat.ble (off+n) ad.length=true:=Nat.ble_eq_true_of_le h;simp[this]
 |false=>
  have:=h1 rfl;simp only[cond_false];cases Z:ad.drop off with
  |nil=>have:=congrArg List.length Z;simp at this;omega
  |cons l r=>simp
theorem afQ(S:am O Y X D st M w){C:Ctx}(H:CtxOk P C){B:Oper}{T:TypeId}{x:Operand}(aC:B.op=.load T x)(Z:ce st B.dst=true)(hk:(C.tt T).known=true):
  Holds (sr (C.tt T).agg (C.tt T).size st (aX C st T x)) (cD P O Y X st M w B):=by
 have hn:=Eo hk;have bq:=du S C T x;have fin:∀{b p:Nat} {ad:List aE} {vs:List Value} {off:Nat} {v:aJ},Act.eval ⟨M,[]⟩ x=.pointer (some ⟨b,p+off,none⟩)->hP w b p vs->cr D st.sites w (aw X D st.sites) ad vs->
   cut (C.tt T).agg off (C.tt T).size ad=some v->cD P O Y X st M w B v []:=by
  intro b p ad vs off v hx hc hl fB;obtain⟨hle,aoU⟩:=QP fB EH hl;refine dC S Z (vv:=sn (C.tt T).agg ((vs.drop off).take (C.tt T).size)) ?_ aoU;have di:=tH (P:=P) (w:=w) (H.tt T) hn ⟨b,p+off,none⟩ ((vs.drop off).take (C.tt T).size) (by simp;omega) (fun j u hu=>by rw[gG];exact(hc.drop off).take _ j u hu)
  unfold execOp;simp only[aC,Instr.loadAt,Instr.sureAddr,hx,Sem.run_bind,Sem.run_pure,Result.andThen_ok,di]
 unfold sr;split
 ·rename_i o s off bZ;rw[bZ] at bq;split
  ·rename_i cells hb;split
   ·rename_i v fB;obtain⟨b,gj,cur,_,hv,hg,_,hl⟩:=S.box (gA hb) bq;exact Holds.ok (fin (p:=0) (by rw[Nat.zero_add];exact hv) (hP.row hg) hl fB)
   ·exact .fail
  ·exact .fail
 ·rename_i cells off bZ;rw[bZ] at bq;split
  ·rename_i v fB;obtain⟨b,p,hv,_,_,cs,hl,hc,hr⟩:=bq;exact Holds.ok (fin hv hc (g' hl hr) fB)
  ·exact .fail
 ·rename_i o s u k off bZ;rw[bZ] at bq;split
  ·rename_i t xs hrow;split
   ·rename_i nO;obtain⟨rfl,hle⟩:=nO;refine Holds.ek fun y hy=>?_
    have dU:xs[k]? =some y:=hy;obtain⟨cs,hl,hcell⟩:=S.row hrow;have dG:∃ab,look st.sites o=some ab/\ab.cq=s:=by
     rcases jG hrow with h|h<;>exact⟨_,h,rfl⟩
    obtain⟨ab,iI,lg⟩:=dG;obtain⟨b,hv,vl⟩:=bq;obtain⟨n,c,cM⟩:=Ref.at vl iI lg;cases fB:cut (C.tt T).agg off (C.tt T).size (cx (enc t y)) with
    |none=>exact absurd fB (aek (by simpa[cx,iN] using hle) EH)
    |some v=>
     rcases hcell with⟨qj,_⟩|⟨bH,fg,jT,hcs,_⟩
     ·rw[cM] at qj;cases qj
     ·rw[cM] at jT;cases jT;have e1:cx (enc t y)=((cx (flat t xs)).drop (k*aT t)).take (aT t):=by
       rw[<-tO t xs k y dU];simp[cx,List.map_drop,List.map_take]
      rw[e1] at fB;refine fin (p:=k*aT t) hv ?_ ((hl.drop (k*aT t)).take (aT t)) fB;have:=(hcs.drop (k*aT t)).take (aT t);rwa[Nat.zero_add] at this
   ·exact .fail
  ·exact .fail
 ·exact .fail
end
section
variable {P:Program}{O:World}{Y:List Nat}{X:Nat->Prop}{D:Nat->Value}{st:ah}{M:Array Value}{w:World}
theorem am.fu(S:am O Y X D st M w){o b:Nat}(hl:cd st.sites o)(hb:bG (D o)=some b):b<w.heap.size:=by
 obtain⟨ab,h1,h2⟩:=hl;have:=S.sites o ab h1;cases ab with
 |box s cells=>
  obtain⟨bH,T,cur,g1,g2,_⟩:=this;rw[g1] at hb;cases hb;exact(Array.getElem?_eq_some_iff.1 g2).1
 |row s t xs=>
  obtain⟨e,cs,g1,_⟩:=this;rcases g1.2 with⟨hn,_⟩|⟨g,cap,cur,fz,hv,_,hg,_⟩
  ·rw[hn] at hb;cases hb
  ·rw[hv] at hb;cases hb;exact(Array.getElem?_eq_some_iff.1 hg).1
 |map s t es=>
  obtain⟨bH,g1,g2⟩:=this;rw[g1] at hb;cases hb;exact g2.lt
 |db=>cases h2
 |dead=>cases h2
theorem zU{D aI:Nat->Value}{sites bS:List (Nat×Site)}{w w':World}{av b':Nat->Prop}(go:∀{a:aJ} {v:Value},b_ D sites w av a v->b_ aI bS w' b' a v){ad:List aE}{vs:List Value}
  (h:cr D sites w av ad vs):cr aI bS w' b' ad vs:=by
 obtain⟨ch,h1,h2,h3⟩:=go (a:=.av (.agg ad)) (v:=.agg vs.toArray) ⟨vs,rfl,h.1,h.2⟩;have:vs=ch:=by simpa using h1
 subst this;exact⟨h2,h3⟩
theorem oB{D aI:Nat->Value}{sites bS:List (Nat×Site)}{w w':World}{av b':Nat->Prop}(go:∀{a:aJ} {v:Value},b_ D sites w av a v->b_ aI bS w' b' a v){d:aZ}{v:Value}
  (h:bA w av d v):bA w' b' d v:=go (a:=one d) (v:=v) h
theorem L6{sites:List (Nat×Site)}{o:Nat}{ab bT:Site}(hl:look sites o=some ab)(h:bT.live=ab.live)(aa:Nat):cd (ci sites o bT) aa <-> cd sites aa:=by
 unfold cd;rw[cV];by_cases e:o=aa
 ·subst e;simp only[if_true,hl,Option.some.injEq];constructor
  ·rintro⟨s,rfl,h2⟩;exact⟨ab,rfl,h▸h2⟩
  ·rintro⟨s,rfl,h2⟩;exact⟨bT,rfl,h▸h2⟩
 ·simp only[e,if_false]
theorem am.write(S:am O Y X D st M w){o b:Nat}{ab bT:Site}{cur cur':Array Value}{T:TypeId}{cC:Nat×Nat}(hl:look st.sites o=some ab)(lI:ab.live=true)(ahA:bT.live=true)(hs:bT.cq=ab.cq)
  (cM:bG (D o)=some b) (hg:w.heap[b]? =some (.cells cur T cC))
  (ft:∀{bS:List (Nat×Site)} {w':World},bS=ci st.sites o bT->w'=w.setRow b cur'->w'.heap[b]? =some (.cells cur' T cC)->
   (∀{a v},b_ D st.sites w (aw X D st.sites) a v->b_ D bS w' (aw X D bS) a v)->jN D bS w' (aw X D bS) o bT):
  am O Y X D {st with sites:=ci st.sites o bT} M (w.setRow b cur'):=by
 have cJ:cd st.sites o:=⟨ab,hl,lI⟩;have lP:∀aa,cd (ci st.sites o bT) aa <-> cd st.sites aa:=L6 hl (ahA.trans lI.symm);have b7:∀bH,aw X D (ci st.sites o bT) bH <-> aw X D st.sites bH:=by
  intro bH;unfold aw;simp only[lP]
 have hne:∀bH,¬aw X D st.sites bH->bH≠b:=by
  rintro bH h rfl;exact h (.inr ⟨o,cJ,cM⟩)
 refine S.p' (fun aa s bN=>?_) (fun bH h _=>setRow_other w b bH _ (hne bH h)) (fun bH h _=>by rw[b7];exact h) (fun go aa s bN=>?_) (fun aa ρ bH h1 h2=>S.dT aa ρ bH ((lP aa).1 h1) ((lP ρ).1 h2))
  (fun aa bH h=>S.cf aa bH ((lP aa).1 h)) (fun aa bH h hb=>by rw[setRow_size];exact S.fu ((lP aa).1 h) hb) ?_ (by rw[setRow_size];exact Nat.le_refl _)
 ·rw[cV];by_cases e:o=aa
  ·subst e;rw[hl] at bN;cases bN;exact⟨bT,by simp,by omega,fun _=>rfl⟩
  ·exact⟨s,by simp[e,bN],Nat.le_refl _,fun _=>rfl⟩
 ·rw[cV] at bN;by_cases e:o=aa
  ·subst e;simp only[if_true,Option.some.injEq] at bN;subst bN;exact .inr (ft rfl rfl (setRow_heap w b cur cur' T cC hg) go)
  ·simp only[e,if_false] at bN;refine .inl ⟨bN,rfl,fun sL bH dP=>setRow_other w b bH _ ?_⟩
   rintro rfl;exact e (S.dT o aa _ cJ ⟨s,bN,sL⟩ cM dP)
 ·have aV:=S.frame;refine⟨aV.os,aV.tape,aV.output,by rw[setRow_size];exact aV.size,fun bH h1 h2=>?_⟩
  rw[setRow_other w b bH _ ?_]
  ·exact aV.block bH h1 h2
  ·rintro rfl;rcases(S.cf o _ cJ cM).2 with h|h
   ·exact h2 h
   ·omega
theorem am.freeze(S:am O Y X D st M w){o s:Nat}{t:aY}{xs:List (den t)}(hl:look st.sites o=some (.row s t xs)):
  am O Y X D {st with sites:=ci st.sites o (.db s t xs)} M w:=by
 have cJ:cd st.sites o:=⟨_,hl,rfl⟩;have d':∀aa,cd (ci st.sites o (.db s t xs)) aa->cd st.sites aa/\aa≠o:=by
  rintro aa ⟨ab,h1,h2⟩;rw[cV] at h1;by_cases e:o=aa
  ·subst e;simp at h1;subst h1;cases h2
  ·simp only[e,if_false] at h1;exact⟨⟨ab,h1,h2⟩,fun h=>e h.symm⟩
 have b7:∀bH,aw X D (ci st.sites o (.db s t xs)) bH->aw X D st.sites bH:=by
  rintro bH (h|⟨aa,h1,h2⟩)
  ·exact .inl h
  ·exact .inr ⟨aa,(d' aa h1).1,h2⟩
 refine S.p' (fun aa ab bN=>?_) (fun _ _ _=>rfl) (fun bH h _ af=>h (b7 bH af)) (fun go aa ab bN=>?_) (fun aa ρ bH h1 h2=>S.dT aa ρ bH (d' aa h1).1 (d' ρ h2).1)
  (fun aa bH h=>S.cf aa bH (d' aa h).1) (fun aa bH h hb=>S.fu (d' aa h).1 hb) S.frame (Nat.le_refl _)
 ·rw[cV];by_cases e:o=aa
  ·subst e;rw[hl] at bN;cases bN;exact⟨.db s t xs,by simp,Nat.le_refl _,fun _=>rfl⟩
  ·exact⟨ab,by simp[e,bN],Nat.le_refl _,fun _=>rfl⟩
 ·rw[cV] at bN;by_cases e:o=aa
  ·subst e;simp only[if_true,Option.some.injEq] at bN;subst bN;refine .inr ?_
   show bA _ _ (.sl t xs) (D o)/\Be (D o);obtain⟨cz,cs,h1,h2⟩:=S.sites o _ hl;rcases h1.2 with⟨hn,h0⟩|⟨g,cap,cur,fz,hv,_,hg,hnc,_,_,htk⟩
   ·have:xs=[]:=List.eq_nil_of_length_eq_zero h0;subst this;rw[hn];exact⟨.nil t,.inl rfl⟩
   ·rw[hv];refine⟨?_,.inr ⟨_,_,_,rfl⟩⟩;have hlen:cs.length=(flat t xs).length:=by rw[eV];exact h1.1
    refine .sl t xs _ cap cs xs.length rfl hnc (fun _=>?_) hlen (fun j u hu=>?_) (fun j g1 g2=>oB go (h2 j g1 g2))
    ·rintro(hx|⟨aa,g1,g2⟩)
     ·exact(S.cf o g cJ (by rw[hv];rfl)).1 hx
     ·obtain⟨g3,g4⟩:=d' aa g1;exact g4 (S.dT aa o g g3 cJ g2 (by rw[hv];rfl))
    ·rw[gG,Nat.zero_add,cell_of_row w g j cur cz fz hg];rw[<-htk,List.getElem?_take] at hu;split at hu
     ·simpa using hu
     ·cases hu
  ·simp only[e,if_false] at bN;exact .inl ⟨bN,rfl,fun _ _ _=>rfl⟩
theorem Nv{aB:Type}(l:List (Nat×aB))(n:Nat)(v:aB)(h:look l n=some v):ci l n v=l:=by
 induction l with
 |nil=>simp[look] at h
 |cons p l ih=>
  obtain⟨k,u⟩:=p;simp only[look] at h;simp only[ci];cases hb:k.beq n with
  |true=>simp only[hb,cond_true,Option.some.injEq] at h;subst h;simp
  |false=>simp only[hb,cond_false] at h;simp[ih h]
def dE(sites:List (Nat×Site))(us:List (Nat×Site)):Prop:=
 ∀o ab,(o,ab)∈us->∃s t,∃xs:List (den t),ab=.db s t xs/\(look sites o=some (.row s t xs)\/look sites o=some (.db s t xs))
theorem dE.nil{sites:List (Nat×Site)}:dE sites []:=fun _ _ h=>by simp at h
theorem dE.append{sites us vs:List (Nat×Site)}(h:dE sites us)(af:dE sites vs):dE sites (us++vs):=by
 intro o ab hm;rcases List.mem_append.1 hm with hm|hm
 ·exact h o ab hm
 ·exact af o ab hm
theorem dE.step{sites us:List (Nat×Site)}{o:Nat}{ab:Site}(h:dE sites ((o,ab)::us)):dE (ci sites o ab) us:=by
 obtain⟨s,t,xs,rfl,hl⟩:=h o ab (by simp)
 intro aa bT hm;obtain⟨aG,bi,iD,rfl,f'⟩:=h aa bT (by simp[hm])
 refine⟨aG,bi,iD,rfl,?_⟩;rw[cV];by_cases e:o=aa
 ·subst e;simp only[if_true];right;rcases hl with hl|hl<;>rcases f' with f'|f'<;>rw[hl] at f'<;>cases f'<;>rfl
 ·simp only[e,if_false];exact f'
theorem am.zm{us:List (Nat×Site)}:∀{st:ah},am O Y X D st M w->dE st.sites us->am O Y X D {st with sites:=bj st.sites us} M w:=by
 induction us with
 |nil=>intro st S _;exact S
 |cons p us ih=>
  obtain⟨o,ab⟩:=p;intro st S h;have af:=h.step;obtain⟨s,t,xs,rfl,hl⟩:=h o ab (by simp)
  simp only[bj];rcases hl with hl|hl
  ·exact ih (S.freeze hl) af
  ·rw[Nv _ _ _ hl] at af ⊢;exact ih S af
theorem lr{us:List (Nat×Site)}:∀{sites:List (Nat×Site)},dE sites us->∀o,(look (bj sites us) o=look sites o)\/(∃s t,∃xs:List (den t),(look sites o=some (.row s t xs)\/look sites o=some (.db s t xs))/\look (bj sites us) o=some (.db s t xs)):=by
 induction us with
 |nil=>intro sites _ o;exact .inl rfl
 |cons p us ih=>
  obtain⟨aa,ab⟩:=p;intro sites h o;obtain⟨s,t,xs,rfl,hl⟩:=h aa ab (by simp)
  simp only[bj];have hc:=cV sites aa o (.db s t xs);rcases ih h.step o with h1|⟨aG,bi,iD,h1,h2⟩
  ·by_cases e:aa=o
   ·subst e;simp only[if_true] at hc;exact .inr ⟨s,t,xs,hl,h1.trans hc⟩
   ·simp only[e,if_false] at hc;exact .inl (h1.trans hc)
  ·by_cases e:aa=o
   ·subst e;simp only[if_true] at hc;rw[hc] at h1;rcases h1 with h1|h1
    ·cases h1
    ·cases h1;exact .inr ⟨s,t,xs,hl,h2⟩
   ·simp only[e,if_false] at hc;rw[hc] at h1;exact .inr ⟨aG,bi,iD,h1,h2⟩
theorem Cq{us:List (Nat×Site)}:∀{sites:List (Nat×Site)},dE sites us->∀{o s:Nat} {t:aY} {xs:List (den t)},(o,Site.db s t xs)∈us->look (bj sites us) o=some (.db s t xs):=by
 intro sites h o s t xs hm;obtain⟨h7,t0,Bn,he,hl⟩:=h o _ hm;cases he;rcases lr h o with h1|⟨aG,bi,iD,h1,h2⟩
 ·-- named,and atE asz
  induction us generalizing sites with
  |nil=>simp at hm
  |cons p us ih=>
   obtain⟨aa,ab⟩:=p;simp only[bj] at h1 ⊢;rcases List.mem_cons.1 hm with hm|hm
   ·cases hm;rcases lr h.step o with h2|⟨aG,bi,iD,h2,h3⟩
    ·rw[h2,cV];simp
    ·rw[cV] at h2;simp at h2;obtain⟨rfl,rfl,h2⟩:=h2;rw[h3];cases h2;rfl
   ·have hc:=cV sites aa o ab;by_cases e:aa=o
    ·subst e;obtain⟨s1,t1,anK,rfl,h5⟩:=h aa ab (by simp)
     have:Site.db s1 t1 anK=Site.db s t xs:=by
      rcases hl with hl|hl<;>rcases h5 with h5|h5<;>rw[hl] at h5<;>cases h5<;>rfl
     cases this;simp only[if_true] at hc;rcases lr h.step aa with h2|⟨aG,bi,iD,h2,h3⟩
     ·rw[h2,hc]
     ·rw[hc] at h2;rcases h2 with h2|h2
      ·cases h2
      ·cases h2;exact h3
    ·simp only[e,if_false] at hc;refine ih h.step hm (by rw[hc];exact hl) ?_
     rw[h1,hc]
 ·rcases hl with hl|hl<;>rcases h1 with h1|h1<;>rw[hl] at h1<;>cases h1<;>exact h2
end
section
variable {P:Program}{O:World}{Y:List Nat}{X:Nat->Prop}{D:Nat->Value}{st:ah}{M:Array Value}{w:World}
structure kJ(O:World)(Y:List Nat)(X:Nat->Prop)(D:Nat->Value)(st:ah)(M:Array Value)(w:World)(vs:List (Nat×Site)):Prop where
 old:am O Y X D st M w
 fz:dE st.sites vs
theorem kJ.new{vs:List (Nat×Site)}(aV:kJ O Y X D st M w vs):am O Y X D {st with sites:=bj st.sites vs} M w:=aV.old.zm aV.fz
theorem kJ.go{vs:List (Nat×Site)}(aV:kJ O Y X D st M w vs){a:aJ}{v:Value}(h:b_ D st.sites w (aw X D st.sites) a v):b_ D (bj st.sites vs) w (aw X D (bj st.sites vs)) a v:=by
 have d':∀aa,cd (bj st.sites vs) aa->cd st.sites aa:=by
  rintro aa ⟨ab,h1,h2⟩;rcases lr aV.fz aa with h|⟨s,t,xs,_,h⟩
  ·exact⟨ab,h▸h1,h2⟩
  ·rw[h] at h1;cases h1;cases h2
 refine h.goes ⟨fun o ab bn=>?_,fun _ _ _=>rfl,fun b hb _ dP=>hb ?_⟩ (Nat.le_refl _) ?_
 ·rcases lr aV.fz o with h|⟨s,t,xs,h1,h2⟩
  ·exact⟨ab,h.trans bn,Nat.le_refl _,fun _=>rfl⟩
  ·refine⟨_,h2,?_,fun _=>rfl⟩
   rw[bn] at h1;rcases h1 with h1|h1<;>cases h1<;>exact Nat.le_refl _
 ·rcases dP with h|⟨aa,h1,h2⟩
  ·exact .inl h
  ·exact .inr ⟨aa,d' aa h1,h2⟩
 ·rintro b (h|⟨aa,h1,h2⟩)
  ·exact aV.old.old b h
  ·exact aV.old.fu (d' aa h1) h2
theorem af8{o s:Nat}{t:aY}{xs:List (den t)}(hr:rowOf st o s=some ⟨t,xs⟩):dE st.sites (lS st o s t xs):=by
 unfold lS;split
 ·exact .nil
 ·intro aa ab hm;simp only[List.mem_singleton,Prod.mk.injEq] at hm;obtain⟨rfl,rfl⟩:=hm;exact⟨s,t,xs,rfl,jG hr⟩
theorem Oa{o s:Nat}{t:aY}{xs:List (den t)}(hr:rowOf st o s=some ⟨t,xs⟩):bj st.sites (lS st o s t xs)=bj st.sites [(o,.db s t xs)]:=by
 unfold lS;split
 ·rename_i h7 t0 Bn h0;have h0:look st.sites o=some (.db h7 t0 Bn):=h0;simp only[bj];rcases jG hr with h|h
  ·rw[h0] at h;cases h
  ·exact(Nv _ _ _ h).symm
 ·rfl
theorem aco{sites us:List (Nat×Site)}(h:dE sites us){o s:Nat}{t:aY}{xs:List (den t)}(hl:look sites o=some (.db s t xs)):look (bj sites us) o=some (.db s t xs):=by
 rcases lr h o with h1|⟨aG,bi,iD,h1,h2⟩
 ·rw[h1];exact hl
 ·rw[hl] at h1;rcases h1 with h1|h1
  ·cases h1
  ·cases h1;exact h2
theorem QO{l:aE}{d:aZ}{us:List (Nat×Site)}(h:jC st l=some (d,us)):dE st.sites us:=by
 unfold jC at h;split at h
 ·cases h;exact .nil
 ·cases h;exact .nil
 ·rename_i o s;split at h
  ·rename_i t xs hr;cases h;exact af8 hr
  ·cases h
 ·cases h;exact .nil
 ·cases h
theorem QN{l:aE}{d:aZ}{us vs:List (Nat×Site)}{v:Value}(h:jC st l=some (d,us))(hv:dO D st.sites w (aw X D st.sites) l v)
  (aV:kJ O Y X D st M w vs) (d':∀p,p∈us->p∈vs):bA w (aw X D (bj st.sites vs)) d v:=by
 unfold jC at h;split at h
 ·cases h;exact oB aV.go hv
 ·cases h;rw[show v=_ from hv];exact .nil _
 ·rename_i o s;split at h
  ·rename_i t xs hr;cases h;have hl:look (bj st.sites vs) o=some (.db s t xs):=by
    unfold lS at d';split at d'
    ·rename_i h7 t0 Bn h0;have h0:look st.sites o=some (.db h7 t0 Bn):=h0;rcases jG hr with h|h
     ·rw[h0] at h;cases h
     ·exact aco aV.fz h
    ·exact Cq aV.fz (d' _ (List.mem_singleton.2 rfl))
   have:=aV.new.sites o _ hl;have mI:v=D o:=by
    rcases jG hr with h1|h1<;>exact Ref.at hv.2 h1 rfl
   rw[mI];exact this.1
  ·cases h
 ·rename_i g;cases h;obtain⟨ad,rfl,hl,_⟩:=hv;have:ad=[]:=List.eq_nil_of_length_eq_zero (by simpa using hl)
  subst this;exact .fn g [] [] (fun _=>[]) _ rfl rfl (fun b hb=>by simp at hb) (fun b hb=>by simp at hb) (fun i hi=>by simp at hi) (fun i hi=>by simp at hi) (fun i hi=>by simp at hi)
 ·cases h
theorem Gb:∀{ad:List aE} {ds:List aZ} {us:List (Nat×Site)},fL st ad=some (ds,us)->dE st.sites us:=by
 intro ad;induction ad with
 |nil=>intro ds us h;simp only[fL] at h;cases h;exact .nil
 |cons l ad ih=>
  intro ds us h;simp only[fL] at h;split at h
  ·rename_i d u1 kw u2 h1 h2;cases h;exact(QO h1).append (ih h2)
  ·cases h
def cT(w:World)(av:Nat->Prop)(ds:List aZ)(vs:List Value):Prop:=vs.length=ds.length/\∀j (h:j<ds.length) (af:j<vs.length),bA w av (ds[j]) (vs[j])
theorem zr:∀{ad:List aE} {ds:List aZ} {us vs:List (Nat×Site)} {cs:List Value},fL st ad=some (ds,us)->cr D st.sites w (aw X D st.sites) ad cs->
  kJ O Y X D st M w vs->(∀p,p∈us->p∈vs)->cT w (aw X D (bj st.sites vs)) ds cs:=by
 intro ad;induction ad with
 |nil=>intro ds us vs cs h hl _ _;simp only[fL] at h;cases h;rw[hl.nj];exact⟨rfl,fun j h=>by simp at h⟩
 |cons l ad ih=>
  intro ds us vs cs h hl aV d';simp only[fL] at h;split at h
  ·rename_i d u1 kw u2 h1 h2;cases h;obtain⟨c,nW,rfl,hc,hcs⟩:=hl.inv;have r1:=QN h1 hc aV (fun p hp=>d' p (List.mem_append.2 (.inl hp)))
   obtain⟨r2,im⟩:=ih h2 hcs aV (fun p hp=>d' p (List.mem_append.2 (.inr hp)))
   refine⟨by simp[r2],fun j g1 g2=>?_⟩
   cases j with
   |zero=>exact r1
   |succ j=>exact im j (by simpa using g1) (by simpa using g2)
  ·cases h
theorem mA.run{P:Program}{u:Bool}(g B:Nat)(t:TypeId)(fz:Nat×Nat):∀(vs:List Value) (i:Nat) (cur:Array Value) (w:World),w.heap[g]? =some (.cells cur t fz)->mA u t cur fz->B+i+vs.length<=cur.size->(∀v∈vs,v.oneCell'=true)->
  (storeCells ⟨g,B,none⟩ vs i).run P w=.ok () (w.setRow g (cur.toList.take (B+i)++vs++cur.toList.drop (B+i+vs.length)).toArray)
 |[],i,cur,w,hg,_,_,_=>by
  simp only[storeCells,List.append_nil,List.length_nil,Nat.add_zero,List.take_append_drop,Array.toArray_toList];rw[setRow_self w g cur t fz hg];rfl
 |v::rest,i,cur,w,hg,hz,hl,h1=>by
  have hi:B+i<cur.size:=by simp at hl;omega
  have ale:(⟨g,B,none⟩:Addr).add i=⟨g,B+i,none⟩:=by unfold Addr.add;split<;>simp_all
  have hcell:w.cell? ⟨g,B+i,none⟩=some cur[B+i]:=by simp[World.cell?,hg,hi]
  have ak7:w.frozen? ⟨g,B+i,none⟩=false:=by
   rcases hz.2 with rfl|⟨_,hz⟩
   ·simp[World.frozen?,hg]
   ·simp only[World.frozen?,hg];have:¬fz.1<=B+i:=by omega
    simp[this]
  have dG:(store ((⟨g,B,none⟩:Addr).add i) v).run P w=.ok () (w.setRow g (cur.setIfInBounds (B+i) v)):=by
   rw[ale,run_store P w _ v _ (h1 v (by simp)),hcell]
   simp[ak7,setCell_eq_setRow w g (B+i) cur t fz v hg]
  have ih:=mA.run (P:=P) (u:=u) g B t fz rest (i+1) (cur.setIfInBounds (B+i) v) (w.setRow g (cur.setIfInBounds (B+i) v)) (setRow_heap w g cur _ t _ hg)
   ⟨hz.1,hz.2.imp id fun h=>⟨h.1,by simpa using h.2⟩⟩ (by simp at hl ⊢;omega) (fun x hx=>h1 x (by simp[hx]))
  simp only[storeCells,Sem.run_bind,dG,Result.andThen_ok,ih,setRow_setRow];congr 3
  have e:=list_seg_step cur.toList (B+i) v rest (by simp at hl ⊢;omega)
  simpa[Array.toList_setIfInBounds,Nat.add_assoc] using e
theorem KX{u:Bool}{fz:Nat×Nat}{T:TypeId}{ti:b8}(h:ti.ok P T)(hn:ti≠.none){b off:Nat}{vv:Value}{cur:List Value}{gj:TypeId}(hg:w.heap[b]? =some (.cells cur.toArray gj fz))(hz:mA u gj cur.toArray fz)
  (hsz:vv.cells.toList.length=ti.size) (hle:off+vv.cells.toList.length<=cur.length) (h1:∀u∈vv.cells.toList,u.oneCell'=true):
  (storeVar T ⟨b,off,none⟩ vv).run P w=.ok () (w.setRow b (bF cur off vv.cells.toList).toArray):=by
 have hs:vv.cells.size=ti.size:=by simpa using hsz
 have:=mA.run (P:=P) b off gj fz vv.cells.toList 0 cur.toArray w hg hz (by simpa using hle) h1
 simp only[storeVar,Sem.run_bind,b8.NV h hn,Result.andThen_ok,hs,ne_eq,not_true_eq_false,if_false];rw[this];simp[bF]
variable {B:Oper}
theorem w3{aI:Nat->Value}{w':World}{us:List (Nat×Site)}(S:am O Y X aI {st with sites:=bj st.sites us} M w')(Z:ce st B.dst=true)
  (h:(execOp (Act.eval ⟨M,[]⟩) B).run P w=.ok .skip w'):cD P O Y X st M w B (bX (.cN undef)) us:=
 fun _ _ bM=>agH h (bM _ _ _ (am.cP S Z rfl))
theorem kM{aI:Nat->Value}{w':World}{us:List (Nat×Site)}{v:aJ}{vv:Value}(S:am O Y X aI {st with sites:=bj st.sites us} M w')(Z:ce st B.dst=true)
  (h:(execOp (Act.eval ⟨M,[]⟩) B).run P w=.ok (.value vv) w') (hv:b_ aI (bj st.sites us) w' (aw X aI (bj st.sites us)) v vv):cD P O Y X st M w B v us:=
 fun _ _ bM=>oo h (bM _ _ _ (am.cP S Z hv))
theorem q_{aB:Type}(a:List aB)(off:Nat)(b:List aB)(h:off+b.length<=a.length):(bF a off b).length=a.length:=by
 unfold bF;simp only[List.length_append,List.length_take,List.length_drop];omega
theorem _g{aB:Type}(a:List aB)(off n:Nat)(b:List aB)(h:off+b.length<=n)(hn:n<=a.length):(bF a off b).take n=bF (a.take n) off b:=by
 unfold bF;apply List.ext_getElem?;intro j;simp only[List.getElem?_take,List.getElem?_append,List.length_append,List.length_take,List.getElem?_drop];have m1:min off a.length=off:=by omega
 have m2:min off (min n a.length)=off:=by omega
 simp only[m1,m2];by_cases c1:j<off
 ·have c2:j<n:=by omega
  have c3:j<off+b.length:=by omega
  simp[c1,c2,c3]
 ·by_cases c3:j<off+b.length
  ·have c2:j<n:=by omega
   simp[c1,c2,c3]
  ·have e:off+b.length+(j-(off+b.length))=j:=by omega
   simp[c1,c3,e]
theorem _7{cells ad:List aE}{T:TypeId}{cur vs:List Value}{b off:Nat}(h:mu cells T cur b)(hl:vs.length=ad.length)(hns:gW ad=true):mu (bF cells off ad) T (bF cur off vs) b:=by
 intro bP;unfold bF at bP ⊢;cases off with
 |zero=>
  cases ad with
  |nil=>
   cases vs with
   |nil=>simpa using h (by simpa using bP)
   |cons=>cases hl
  |cons l ad=>
   simp only[List.take_zero,List.nil_append,List.cons_append,List.head?_cons,Option.some.injEq] at bP;subst bP;cases hns
 |succ n=>
  cases cells with
  |nil=>
   cases ad with
   |nil=>simp at bP
   |cons l ad=>
    simp only[List.take_nil,List.nil_append,List.cons_append,List.head?_cons,Option.some.injEq] at bP;subst bP;cases hns
  |cons c cells=>
   simp only[List.take_succ_cons,List.cons_append,List.head?_cons,Option.some.injEq] at bP;subst bP;have:=h rfl;cases cur with
   |nil=>simp at this
   |cons v cur=>simpa using this
theorem am.ac4(S:am O Y X D st M w){o s off:Nat}{cells ad:List aE}{v:Value}{vs:List Value}(hb:look st.sites o=some (.box s cells))(hv:dO D st.sites w (aw X D st.sites) (.ptr o s off) v)
  (hl:cr D st.sites w (aw X D st.sites) ad vs) (hle:off+ad.length<=cells.length) (h1:∀u∈vs,u.oneCell'=true) (hns:gW ad=true):
  ∃b T cur,v=.pointer (some ⟨b,off,none⟩)/\w.heap[b]? =some (.cells (List.toArray cur) T (0,0))/\off+vs.length<=cur.length/\
   am O Y X D {st with sites:=ci st.sites o (.box s (bF cells off ad))} M (w.setRow b (bF cur off vs).toArray):=by
 obtain⟨b,T,cur,cM,vT,hg,ki,jz⟩:=S.box hb hv;have oN:off+vs.length<=cur.length:=by rw[hl.1,jz.1];exact hle
 refine⟨b,T,cur,vT,hg,oN,?_⟩;have iI:mu cells T cur b:=by
  obtain⟨b2,ep,T5,aD,az,_,_,bD,_⟩:=S.sites o _ hb;rw[cM] at aD;cases aD;rw[hg] at az;cases az;exact bD
 refine S.write hb rfl rfl rfl (by rw[cM];rfl) hg (fun hs hw hg' go=>?_)
 have TQ:=zU go (jz.bF off hl);refine⟨b,T,_,cM,hg',TQ.1,fun u hu=>?_,_7 iI hl.1 hns,TQ.2⟩
 unfold bF at hu;simp only[List.mem_append] at hu;rcases hu with(hu|hu)|hu
 ·exact ki u (List.mem_of_mem_take hu)
 ·exact h1 u hu
 ·exact ki u (List.mem_of_mem_drop hu)
theorem iR{D:Nat->Value}{sites:List (Nat×Site)}{w:World}{av:Nat->Prop}{ds:List aZ}{vs:List Value}(h:cr D sites w av (cx ds) vs):cT w av ds vs:=
 ⟨by simpa[cx] using h.1,fun j g1 g2=>by
  have:=h.2 j (by simpa[cx] using g1) g2
  simp only[cx,List.getElem_map] at this;exact this⟩
theorem ZF{w:World}{av:Nat->Prop}{t:aY}{xs:List (den t)}{k:Nat}{h6:den t}{cs ns:List Value}(hk:k<xs.length)(h:cT w av (flat t xs) cs)(af:cT w av (enc t h6) ns):
  cT w av (flat t (xs.set k h6)) (bF cs (k*aT t) ns):=by
 have e:flat t (xs.set k h6)=bF (flat t xs) (k*aT t) (enc t h6):=by
  rw[aeb,if_pos hk];unfold bF;rw[iN,Nat.add_mul,Nat.one_mul]
 rw[e];have a:=g' (D:=fun _=>undef) (sites:=[]) h.1 h.2
 have b:=g' (D:=fun _=>undef) (sites:=[]) af.1 af.2
 have c:=a.bF (k*aT t) b;have e2:bF (cx (flat t xs)) (k*aT t) (cx (enc t h6))=cx (bF (flat t xs) (k*aT t) (enc t h6)):=by
  simp[bF,cx,List.map_append,List.map_take,List.map_drop]
 rw[e2] at c;exact iR c
theorem am.ac3(S:am O Y X D st M w){o s k off:Nat}{t:aY}{xs:List (den t)}{x h6:den t}{v:Value}{ds:List aZ}{vs:List Value}(hb:look st.sites o=some (.row s t xs))
  (hv:dO D st.sites w (aw X D st.sites) (.eR o s t k off) v) (hx:xs[k]? =some x) (qq:enc t h6=bF (enc t x) off ds)
  (hl:cT w (aw X D st.sites) ds vs) (hle:off+ds.length<=aT t) (h1:∀u∈vs,u.oneCell'=true):
  ∃b T cur fz,v=.pointer (some ⟨b,k*aT t+off,none⟩)/\w.heap[b]? =some (.cells (List.toArray cur) T fz)/\mA t.jy T cur.toArray fz/\k*aT t+off+vs.length<=cur.length/\
   am O Y X D {st with sites:=ci st.sites o (.row s t (xs.set k h6))} M (w.setRow b (bF cur (k*aT t+off) vs).toArray):=by
 obtain⟨b,vT,oW⟩:=hv;obtain⟨n,c,cM⟩:=Ref.at oW hb rfl;obtain⟨e,cs,k8,dH⟩:=S.sites o _ hb;have hk:k<xs.length:=by
  rcases Nat.lt_or_ge k xs.length with h|h
  ·exact h
  ·rw[List.getElem?_eq_none h] at hx;cases hx
 obtain⟨Je,h⟩:=k8;rcases h with⟨hn,_⟩|⟨g,cap,cur,fz,nS,Js,hg,hnc,hcm,hcs,htk⟩
 ·rw[cM] at hn;cases hn
 ·rw[cM] at nS;cases nS;have qD:(k+1)*aT t<=xs.length*aT t:=Nat.mul_le_mul_right _ hk;have hk2:xs.length*aT t<=c*aT t:=Nat.mul_le_mul_right _ hnc;rw[Nat.add_mul,Nat.one_mul] at qD;have lY:vs.length=ds.length:=hl.1;have ki:cur.toList.length=c*aT t:=by simpa using hcs
  have oN:k*aT t+off+vs.length<=cur.toList.length:=by omega
  refine⟨b,e,cur.toList,fz,vT,by simpa using hg,by simpa using Js,oN,?_⟩
  refine S.write hb rfl rfl rfl (by rw[cM];rfl) hg (fun hs hw hg' go=>?_)
  have as4:cs.length=xs.length*aT t:=Je;refine⟨e,bF cs (k*aT t+off) vs,⟨?_,.inr ⟨b,c,_,fz,?_,?_,hg',?_,hcm,?_,?_⟩⟩,?_⟩
  ·rw[q_ _ _ _ (by omega),List.length_set];exact Je
  ·rw[cM,List.length_set]
  ·refine⟨Js.1,?_⟩;rcases Js.2 with h|⟨h,af⟩
   ·exact .inl h
   ·refine .inr ⟨h,?_⟩;rw[List.size_toArray,q_ _ _ _ oN];simpa using af
  ·rw[List.length_set];exact hnc
  ·rw[List.size_toArray,q_ _ _ _ oN];exact ki
  ·rw[<-htk,List.length_set,List.toList_toArray];exact _g _ _ _ _ (by omega) (by rw[ki];omega)
  ·have r0:cT w (aw X D st.sites) (flat t xs) cs:=⟨by rw[eV];exact Je,dH⟩
   have iI:=tO t xs k x hx;have r1:cT w (aw X D st.sites) (enc t x) ((cs.drop (k*aT t)).take (aT t)):=by
    have a:=g' (D:=fun _=>undef) (sites:=[]) r0.1 r0.2
    have bH:=(a.drop (k*aT t)).take (aT t);have e2:((cx (flat t xs)).drop (k*aT t)).take (aT t)=cx (enc t x):=by
     rw[<-iI];simp[cx,List.map_drop,List.map_take]
    rw[e2] at bH;exact iR bH
   have r2:cT w (aw X D st.sites) (enc t h6) (bF ((cs.drop (k*aT t)).take (aT t)) off vs):=by
    rw[qq];have a:=g' (D:=fun _=>undef) (sites:=[]) r1.1 r1.2
    have bH:=g' (D:=fun _=>undef) (sites:=[]) hl.1 hl.2
    have fg:=a.bF off bH;have e2:bF (cx (enc t x)) off (cx ds)=cx (bF (enc t x) off ds):=by
     simp[bF,cx,List.map_append,List.map_take,List.map_drop]
    rw[e2] at fg;exact iR fg
   have im:=ZF hk r0 r2;have bz:bF cs (k*aT t) (bF ((cs.drop (k*aT t)).take (aT t)) off vs)=bF cs (k*aT t+off) vs:=by
    unfold bF;apply List.ext_getElem?;intro j;simp only[List.getElem?_append,List.length_append,List.length_take,List.length_drop,List.getElem?_take,List.getElem?_drop];have m1:min (k*aT t) cs.length=k*aT t:=by omega
    have m2:min (k*aT t+off) cs.length=k*aT t+off:=by omega
    have m3:min (aT t) (cs.length-k*aT t)=aT t:=by omega
    have m4:min off (aT t)=off:=by omega
    simp only[m1,m2,m3,m4];by_cases c1:j<k*aT t
    ·have c2:j<k*aT t+off:=by omega
     have c3:j<k*aT t+off+vs.length:=by omega
     have c5:j<k*aT t+(off+vs.length+(aT t-(off+vs.length))):=by omega
     simp[c1,c2,c3,c5]
    ·by_cases c2:j<k*aT t+off
     ·have d1:j-k*aT t<off:=by omega
      have d2:j-k*aT t<off+vs.length:=by omega
      have d3:j-k*aT t<aT t:=by omega
      have c3:j<k*aT t+off+vs.length:=by omega
      have c5:j<k*aT t+(off+vs.length+(aT t-(off+vs.length))):=by omega
      have gi:k*aT t+(j-k*aT t)=j:=by omega
      simp[c1,c2,c3,c5,d1,d2,d3,gi]
     ·by_cases c3:j<k*aT t+off+vs.length
      ·have d1:¬j-k*aT t<off:=by omega
       have d2:j-k*aT t<off+vs.length:=by omega
       have c5:j<k*aT t+(off+vs.length+(aT t-(off+vs.length))):=by omega
       have gi:j-k*aT t-off=j-(k*aT t+off):=by omega
       simp[c1,c2,c3,c5,d1,d2,gi]
      ·by_cases c5:j<k*aT t+(off+vs.length+(aT t-(off+vs.length)))
       ·have d2:¬j-k*aT t<off+vs.length:=by omega
        have d1:¬j-k*aT t<off:=by omega
        have d5:off+vs.length+(j-k*aT t-(off+vs.length))<aT t:=by omega
        have gi:k*aT t+(off+vs.length+(j-k*aT t-(off+vs.length)))=k*aT t+off+vs.length+(j-(k*aT t+off+vs.length)):=by omega
        simp[c1,c2,c3,c5,d1,d2,d5,gi]
       ·have gi:k*aT t+(off+vs.length+(aT t-(off+vs.length)))+(j-(k*aT t+(off+vs.length+(aT t-(off+vs.length)))))=k*aT t+off+vs.length+(j-(k*aT t+off+vs.length)):=by omega
        simp[c1,c2,c3,c5,gi]
   rw[bz] at im;exact fun j g1 g2=>oB go (im.2 j g1 g2)
end
section
variable {P:Program}{O:World}{Y:List Nat}{X:Nat->Prop}{D:Nat->Value}{st:ah}{M:Array Value}{w:World}
theorem ls{o:Nat}{ab:Site}(h:look st.sites o=some ab):ab.cq<bl st o:=by
 unfold bl ah.ab;rw[h];exact Nat.lt_succ_self _
theorem am.make(S:am O Y X D st M w){o:Nat}{bT:Site}{nv:Value}{w':World}
  (hw:∀b,b<w.heap.size->w'.heap[b]? =w.heap[b]?) (hos:w'.os=w.os) (aiP:w'.tape=w.tape) (HO:w'.output=w.output) (oD:w.heap.size<=w'.heap.size)
  (uH:∀ab,look st.sites o=some ab->ab.cq<bT.cq) (iC:∀b,bG nv=some b->w.heap.size<=b/\b<w'.heap.size)
  (ft:∀{bS:List (Nat×Site)} {aI:Nat->Value},bS=ci st.sites o bT->aI o=nv->(∀{a v},b_ D st.sites w (aw X D st.sites) a v->b_ aI bS w' (aw X aI bS) a v)->
   (∀b,w.heap.size<=b->bG nv≠some b->¬aw X aI bS b)->(bT.live=false->∀b,bG nv=some b->¬aw X aI bS b)->jN aI bS w' (aw X aI bS) o bT):
  am O Y X (fun aa=>if aa=o then nv else D aa) {st with sites:=ci st.sites o bT} M w':=by
 have cJ:∀aa,cd (ci st.sites o bT) aa->(aa=o/\bT.live=true)\/(aa≠o/\cd st.sites aa):=by
  rintro aa ⟨ab,h1,h2⟩;rw[cV] at h1;by_cases e:o=aa
  ·subst e;simp at h1;subst h1;exact .inl ⟨rfl,h2⟩
  ·simp only[e,if_false] at h1;exact .inr ⟨fun h=>e h.symm,ab,h1,h2⟩
 have b7:∀b,aw X (fun aa=>if aa=o then nv else D aa) (ci st.sites o bT) b->aw X D st.sites b\/(bG nv=some b/\bT.live=true):=by
  rintro b (h|⟨aa,h1,h2⟩)
  ·exact .inl (.inl h)
  ·rcases cJ aa h1 with⟨rfl,h3⟩|⟨h3,ax⟩
   ·simp at h2;exact .inr ⟨h2,h3⟩
   ·simp only[h3,if_false] at h2;exact .inl (.inr ⟨aa,ax,h2⟩)
 have hlt:∀b,aw X D st.sites b->b<w.heap.size:=by
  rintro b (h|⟨aa,h1,h2⟩)
  ·exact S.old b h
  ·exact S.fu h1 h2
 refine S.p' (fun aa ab bN=>?_) (fun b _ hb=>hw b hb) (fun b h hb af=>?_) (fun go aa ab bN=>?_) (fun aa ρ b h1 h2 g1 g2=>?_) (fun aa b h1 g1=>?_) (fun aa b h1 g1=>?_) ?_ oD
 ·rw[cV];by_cases e:o=aa
  ·subst e;exact⟨bT,by simp,Nat.le_of_lt (uH ab bN),fun h=>by have:=uH ab bN;omega⟩
  ·have cz:¬aa=o:=fun h=>e h.symm
   exact⟨ab,by simp[e,bN],Nat.le_refl _,fun _=>by simp[cz]⟩
 ·rcases b7 b af with af|⟨af,_⟩
  ·exact h af
  ·have:=(iC b af).1;omega
 ·rw[cV] at bN;by_cases e:o=aa
  ·subst e;simp only[if_true,Option.some.injEq] at bN;subst bN;refine .inr (ft rfl (by simp) go (fun b hb hne af=>?_) (fun hl b hb af=>?_))
   ·rcases b7 b af with af|⟨af,_⟩
    ·have:=hlt b af;omega
    ·exact hne af
   ·rcases b7 b af with af|⟨_,af⟩
    ·have:=hlt b af;have:=(iC b hb).1;omega
    ·rw[hl] at af;cases af
  ·have cz:¬aa=o:=fun h=>e h.symm
   simp only[e,if_false] at bN;exact .inl ⟨bN,by simp[cz],fun hl b hb=>hw b (S.fu ⟨ab,bN,hl⟩ hb)⟩
 ·rcases cJ aa h1 with⟨rfl,_⟩|⟨n1,eb⟩<;>rcases cJ ρ h2 with⟨rfl,_⟩|⟨n2,gw⟩
  ·rfl
  ·simp only[if_true] at g1;simp only[n2,if_false] at g2;have:=S.fu gw g2;have:=(iC b g1).1;omega
  ·simp only[if_true] at g2;simp only[n1,if_false] at g1;have:=S.fu eb g1;have:=(iC b g2).1;omega
  ·simp only[n1,if_false] at g1;simp only[n2,if_false] at g2;exact S.dT aa ρ b eb gw g1 g2
 ·rcases cJ aa h1 with⟨rfl,_⟩|⟨n1,eb⟩
  ·simp only[if_true] at g1;have hb:=(iC b g1).1;exact⟨fun hx=>by have:=S.old b hx;have:=S.frame.size;omega,.inr (Nat.le_trans S.frame.size hb)⟩
  ·simp only[n1,if_false] at g1;exact S.cf aa b eb g1
 ·rcases cJ aa h1 with⟨rfl,_⟩|⟨n1,eb⟩
  ·simp only[if_true] at g1;exact(iC b g1).2
  ·simp only[n1,if_false] at g1;exact Nat.lt_of_lt_of_le (S.fu eb g1) oD
 ·have aV:=S.frame;exact⟨hos.trans aV.os,aiP.trans aV.tape,HO.trans aV.output,Nat.le_trans aV.size oD,fun b h1 h2=>(hw b (Nat.lt_of_lt_of_le h1 aV.size)).trans (aV.block b h1 h2)⟩
theorem am.append(S:am O Y X D st M w){o dst s:Nat}{t:aY}{xs r:List (den t)}(hl:look st.sites o=some (.row s t xs)){nv:Value}{w':World}
  (hg:w.grownBy w' (D o).ownBlock) (iC:∀b,bG nv=some b->b<w'.heap.size/\(bG (D o)=some b\/w.heap.size<=b))
  (ft:∀{bS:List (Nat×Site)} {aI:Nat->Value},aI dst=nv->(∀{a v},b_ D st.sites w (aw X D st.sites) a v->b_ aI bS w' (aw X aI bS) a v)->
   jN aI bS w' (aw X aI bS) dst (.row (bl (st.h_ o (.dead s)) dst) t r)):
  am O Y X (fun aa=>if aa=dst then nv else D aa) {st with sites:=bj st.sites [(o,.dead s),(dst,.row (bl (st.h_ o (.dead s)) dst) t r)]} M w':=by
 have bn:cd st.sites o:=⟨_,hl,rfl⟩;have jr:∀aa,look (bj st.sites [(o,.dead s),(dst,.row (bl (st.h_ o (.dead s)) dst) t r)]) aa=
   if dst=aa then some (.row (bl (st.h_ o (.dead s)) dst) t r) else if o=aa then some (.dead s) else look st.sites aa:=by
  intro aa;simp only[bj,cV]
 have uH:∀ab,look st.sites dst=some ab->ab.cq<bl (st.h_ o (.dead s)) dst:=by
  intro ab h;unfold bl;rw[ah.wU];by_cases e:o=dst
  ·subst e;rw[hl] at h;cases h;simp[Site.cq]
  ·simp only[e,if_false,ah.ab,h];exact Nat.lt_succ_self _
 have cJ:∀aa,cd (bj st.sites [(o,.dead s),(dst,.row (bl (st.h_ o (.dead s)) dst) t r)]) aa->aa=dst\/(aa≠dst/\aa≠o/\cd st.sites aa):=by
  rintro aa ⟨ab,h1,h2⟩;rw[jr] at h1;by_cases e:dst=aa
  ·exact .inl e.symm
  ·simp only[e,if_false] at h1;by_cases e2:o=aa
   ·simp only[e2,if_true,Option.some.injEq] at h1;subst h1;cases h2
   ·simp only[e2,if_false] at h1;exact .inr ⟨fun h=>e h.symm,fun h=>e2 h.symm,ab,h1,h2⟩
 have atm:∀b,bG (D o)=some b->(D o).ownBlock=some b:=by
  intro b hb;obtain⟨e,cs,g1,_⟩:=S.sites o _ hl;rcases g1.2 with⟨hn,_⟩|⟨g,cap,cur,fz,hv,_⟩
  ·rw[hn] at hb;cases hb
  ·rw[hv] at hb ⊢;exact hb
 have akS:∀b,(D o).ownBlock=some b->bG (D o)=some b:=by
  intro b hb;cases hv:D o<;>rw[hv] at hb<;>first|cases hb|skip
  rename_i a n c;cases a<;>first|exact hb|cases hb
 have G_:∀b,b<w.heap.size->bG (D o)≠some b->w'.heap[b]? =w.heap[b]? :=fun b hb hne=>hg.block b hb (fun e=>hne (akS b e.symm))
 refine S.p' (fun aa ab bN=>?_) (fun b h hb=>G_ b hb (fun e=>h (.inr ⟨o,bn,e⟩))) (fun b h hb af=>?_) (fun go aa ab bN=>?_) (fun aa ρ b h1 h2 g1 g2=>?_) (fun aa b h1 g1=>?_) (fun aa b h1 g1=>?_) ?_ hg.size
 ·rw[jr];by_cases e:dst=aa
  ·subst e;refine⟨.row (bl (st.h_ o (.dead s)) dst) t r,by simp,?_,fun h=>?_⟩
   ·exact Nat.le_of_lt (uH ab bN)
   ·have:=uH ab bN;simp only[Site.cq] at h this;omega
  ·have cz:¬aa=dst:=fun h=>e h.symm
   by_cases e2:o=aa
   ·subst e2;rw[hl] at bN;cases bN;exact⟨.dead s,by simp[e],Nat.le_refl _,fun _=>by simp[cz]⟩
   ·exact⟨ab,by simp[e,e2,bN],Nat.le_refl _,fun _=>by simp[cz]⟩
 ·rcases af with af|⟨aa,h1,h2⟩
  ·exact h (.inl af)
  ·rcases cJ aa h1 with rfl|⟨n1,_,eb⟩
   ·simp only[if_true] at h2;rcases(iC b h2).2 with h3|h3
    ·exact h (.inr ⟨o,bn,h3⟩)
    ·omega
   ·simp only[n1,if_false] at h2;exact h (.inr ⟨aa,eb,h2⟩)
 ·rw[jr] at bN;by_cases e:dst=aa
  ·subst e;simp only[if_true,Option.some.injEq] at bN;subst bN;exact .inr (ft (by simp) go)
  ·have cz:¬aa=dst:=fun h=>e h.symm
   simp only[e,if_false] at bN;by_cases e2:o=aa
   ·simp only[e2,if_true,Option.some.injEq] at bN;subst bN;exact .inr trivial
   ·simp only[e2,if_false] at bN;refine .inl ⟨bN,by simp[cz],fun f' b hb=>?_⟩
    have WJ:cd st.sites aa:=⟨ab,bN,f'⟩;exact G_ b (S.fu WJ hb) (fun h=>e2 (S.dT o aa b bn WJ h hb))
 ·have key:∀aa b,aa≠dst->aa≠o->cd st.sites aa->bG (D aa)=some b->bG nv≠some b:=by
   intro aa b n1 n2 eb hb hn;rcases(iC b hn).2 with h3|h3
   ·exact n2 (S.dT aa o b eb bn hb h3)
   ·have:=S.fu eb hb;omega
  rcases cJ aa h1 with rfl|⟨n1,m1,eb⟩<;>rcases cJ ρ h2 with rfl|⟨n2,m2,gw⟩
  ·rfl
  ·simp only[if_true] at g1;simp only[n2,if_false] at g2;exact absurd g1 (key ρ b n2 m2 gw g2)
  ·simp only[if_true] at g2;simp only[n1,if_false] at g1;exact absurd g2 (key aa b n1 m1 eb g1)
  ·simp only[n1,if_false] at g1;simp only[n2,if_false] at g2;exact S.dT aa ρ b eb gw g1 g2
 ·rcases cJ aa h1 with rfl|⟨n1,_,eb⟩
  ·simp only[if_true] at g1;rcases(iC b g1).2 with h3|h3
   ·exact S.cf o b bn h3
   ·exact⟨fun hx=>by have:=S.old b hx;have:=S.frame.size;omega,.inr (Nat.le_trans S.frame.size h3)⟩
  ·simp only[n1,if_false] at g1;exact S.cf aa b eb g1
 ·rcases cJ aa h1 with rfl|⟨n1,_,eb⟩
  ·simp only[if_true] at g1;exact(iC b g1).1
  ·simp only[n1,if_false] at g1;exact Nat.lt_of_lt_of_le (S.fu eb g1) hg.size
 ·have aV:=S.frame;refine⟨hg.os.trans aV.os,hg.tape.trans aV.tape,hg.output.trans aV.output,Nat.le_trans aV.size hg.size,fun b h1 h2=>?_⟩
  rw[G_ b (Nat.lt_of_lt_of_le h1 aV.size) (fun e=>?_)]
  ·exact aV.block b h1 h2
  ·rcases(S.cf o b bn e).2 with h|h
   ·exact h2 h
   ·omega
end
def Src(w:World)(size:Nat)(x:Value)(m:Nat)(news:List Value):Prop:=
 news.length=m*size/\(∀u∈news,u.oneCell'=true)/\((x=.slice none 0 0/\m=0)\/(∃a c,x=.slice (some a) m c/\∀j u,news[j]? =some u->w.cell? (a.add j)=some u)\/∃s:ByteArray,x=.string s/\m=s.size/\size=1/\news=s.data.toList.map fun b=>Value.int .u8 b.toNat)
theorem Src.run{P:Program}{w w2:World}{size m:Nat}{x:Value}{news:List Value}(h:Src w size x m news)(hw:w2.heap=w.heap):(Builtin.firstCells size m x).run P w2=.ok news.toArray w2:=by
 obtain⟨h1,_,h2⟩:=h;rcases h2 with⟨rfl,rfl⟩|⟨a,c,rfl,h3⟩|⟨s,rfl,rfl,rfl,rfl⟩
 ·have:news=[]:=List.eq_nil_of_length_eq_zero (by simpa using h1)
  subst this;exact run_firstCells_none w2 size 0 0 0
 ·refine run_firstCells_some w2 size m a m c news h1 (fun j u hu=>?_)
  have:=h3 j u hu;unfold World.cell? at this ⊢;rw[hw];exact this
 ·have e:s.extract 0 s.size=s:=by simp
  show Result.ok ((s.extract 0 s.size).data.map fun b=>Value.int .u8 b.toNat) w2=_
  rw[e];congr 1
  apply Array.ext';simp
theorem Src.len{P:Program}{w w2:World}{size m:Nat}{x:Value}{news:List Value}(h:Src w size x m news):(Builtin.lenOf x).run P w2=.ok m w2:=by
 obtain⟨_,_,h2⟩:=h;rcases h2 with⟨rfl,rfl⟩|⟨a,c,rfl,_⟩|⟨s,rfl,rfl,_⟩<;>rfl
theorem Cs{P:Program}{u:Bool}(w:World)(T Kb ty e:TypeId)(gx:u=true->e=l6)(i:TypeInfo)(z:Value)(size bytes:Nat)(ap:P.underlying T=some (.slice e))(jb:(∃ex,P.underlying Kb=some (.slice ex))\/P.underlying Kb=some .string)(hi:P.info? e=some i)
  (hz:i.zero=some z) (oD:i.size=size) (jB:i.bytes=bytes) (hzs:z.cells.size=size) (hsz:0<size)
  (v:Value) (n:Nat) (xs:List Value) (k8:∃cz,rowAt w u cz size v n xs) (x:Value) (m:Nat) (news:List Value) (e9:Src w size x m news)
  (h63:n+m<=maxLen) (QG:(n+m)*bytes<=140737488355328):
  ∃v' w',(Builtin.append_ #[T,Kb] ty #[v,x]).run P w=.ok v' w'/\(∃cz,rowAt w' u cz size v' (n+m) (xs++news))/\w.grownBy w' v.ownBlock/\
   ∀b,bG v'=some b->b<w'.heap.size/\(bG v=some b\/w.heap.size<=b):=by
 subst oD jB;obtain⟨cz,hl0,k8⟩:=k8;have ahx:n+m<=9223372036854775807:=by simp only[maxLen] at h63;omega
 have hlen:(xs++news).length=(n+m)*i.size:=by rw[List.length_append,hl0,e9.1,Nat.add_mul]
 have grown:∀(old:Nat),old<n+m->∀(row:Option Nat),
   rowAt (w.drew.alloc (.cells (xs.toArray++news.toArray++Builtin.zeroCells z.cells (grownCap w (n+m) old e-(n+m))) e)) u e i.size
    (.slice (some ⟨w.heap.size,0,none⟩) (n+m) (grownCap w (n+m) old e)) (n+m) (xs++news)/\
   w.grownBy (w.drew.alloc (.cells (xs.toArray++news.toArray++Builtin.zeroCells z.cells (grownCap w (n+m) old e-(n+m))) e)) row:=by
  intro old aC row;have hge:=grownCap_ge w (n+m) old e;have hcm:grownCap w (n+m) old e<=maxLen:=grownCap_le_maxLen w (n+m) old e h63;refine⟨⟨hlen,.inr ⟨w.heap.size,_,_,(0,0),rfl,⟨gx,.inl rfl⟩,heap_alloc_new w.drew _,hge,hcm,?_,?_⟩⟩,⟨rfl,rfl,rfl,by simp,fun k hk _=>RowKit.Below.heap_alloc w.drew _ k hk⟩⟩
  ·simp only[Array.size_append,List.size_toArray,size_zeroCells,hzs,hl0,e9.1,<-Nat.add_mul];congr 1
   omega
  ·simp only[Array.toList_append,List.append_assoc];rw[<-List.append_assoc,<-hlen];exact List.take_left
 have Ql:∀{c:Nat} {B:Obj} {v:Value} b,bG (.slice (some ⟨w.heap.size,0,none⟩) (n+m) c)=some b->b<(w.drew.alloc B).heap.size/\(bG v=some b\/w.heap.size<=b):=by
  intro c B v b hb;cases hb;exact⟨by simp,.inr (Nat.le_refl _)⟩
 rcases k8 with⟨rfl,rfl⟩|⟨g,cap,cur,fz,rfl,hfz,hg,hnc,hcm,hcs,lH⟩
 ·have hx:xs=[]:=List.eq_nil_of_length_eq_zero (by simpa using hl0)
  subst hx;by_cases hm:m=0
  ·subst hm;have hn:news=[]:=List.eq_nil_of_length_eq_zero (by simpa using e9.1)
   subst hn;refine⟨.slice none 0 0,w,?_,⟨e,De w u e i.size⟩,⟨rfl,rfl,rfl,Nat.le_refl _,fun _ _ _=>rfl⟩,fun b hb=>by cases hb⟩
   rcases jb with⟨ex,jb⟩|jb<;>simp[Builtin.append_,run_underlying ap,run_underlying jb,sizeOf,typeInfo,hi,e9.len,e9.run (w2:=w) rfl]
  ·have v8:=grown 0 (by omega) (Value.ownBlock (.slice none 0 0))
   refine⟨_,_,?_,⟨e,v8.1⟩,v8.2,Ql⟩;have h63':¬(9223372036854775807<(m:Int)):=by omega
   have hb:=QG;simp only[Nat.zero_add] at hb;have H1:¬(281474976710656<Builtin.nextslicecap m 0*i.bytes):=by rw[nextslicecap_zero (by omega)];omega
   rcases jb with⟨ex,jb⟩|jb<;>simp[Builtin.append_,run_underlying ap,run_underlying jb,sizeOf,typeInfo,zeroValue,hi,hz,e9.len,hm,h63',H1,Question.forced,run_firstCells_none,e9.run (w2:=w.drew) rfl,newRow,grownCap]
 ·by_cases hroom:n+m<=cap
  ·have k9:n*i.size+news.length<=cur.size:=by rw[e9.1,hcs,<-Nat.add_mul];exact Nat.mul_le_mul_right _ hroom
   have dG:=mA.run (P:=P) g (n*i.size) cz fz news 0 cur w hg hfz (by simpa using k9) e9.2.1
   simp only[Nat.add_zero] at dG;refine⟨.slice (some ⟨g,0,none⟩) (n+m) cap,w.setRow g (cur.toList.take (n*i.size)++news++cur.toList.drop (n*i.size+news.length)).toArray,?_,
    ⟨cz,hlen,.inr ⟨g,cap,_,fz,rfl,⟨hfz.1,hfz.2.imp id (fun h=>⟨h.1,?_⟩)⟩,setRow_heap w g cur _ cz _ hg,hroom,hcm,?_,?_⟩⟩,⟨rfl,rfl,rfl,by simp,fun k _ hk=>setRow_other w g k _ (fun e=>hk (by simp[Value.ownBlock,e]))⟩,fun b hb=>?_⟩
   ·rcases jb with⟨ex,jb⟩|jb<;>simp[Builtin.append_,run_underlying ap,run_underlying jb,sizeOf,typeInfo,hi,e9.len,hroom,e9.run (w2:=w) rfl,Addr.add_lit,dG]
   ·have:=h.2;simp only[List.size_toArray,List.length_append,List.length_take,List.length_drop,Array.length_toList];omega
   ·simp only[List.size_toArray,List.length_append,List.length_take,List.length_drop,Array.length_toList];omega
   ·rw[lH,<-hlen];exact List.take_left
   ·cases hb;exact⟨by rw[setRow_size];exact(Array.getElem?_eq_some_iff.1 hg).1,.inl rfl⟩
  ·have v8:=grown cap (by omega) (Value.ownBlock (.slice (some ⟨g,0,none⟩) n cap))
   refine⟨_,_,?_,⟨e,v8.1⟩,v8.2,Ql⟩;have holds:∀j u,xs[j]? =some u->w.drew.cell? ((⟨g,0,none⟩:Addr).add j)=some u:=by
    intro j u hu;rw[gG,Nat.zero_add,World.cell?_drew,cell_of_row w g j cur cz fz hg];rw[<-lH,List.getElem?_take] at hu;split at hu
    ·simpa using hu
    ·cases hu
   have h63':¬(9223372036854775807<((n:Int)+(m:Int))):=by omega
   have k9:=growslice_fits (need:=n+m) (old:=cap) (bytes:=i.bytes) (by omega) QG
   have H1:¬(281474976710656<Builtin.nextslicecap (n+m) cap*i.bytes):=by omega
   have BT:=run_firstCells_some (P:=P) w.drew i.size n ⟨g,0,none⟩ n cap xs hl0 holds;rcases jb with⟨ex,jb⟩|jb<;>simp[Builtin.append_,run_underlying ap,run_underlying jb,sizeOf,typeInfo,zeroValue,hi,hz,e9.len,hroom,h63',H1,Question.forced,e9.run (w2:=w.drew) rfl,BT,newRow,grownCap]
   all_goals
    congr 2
    apply Array.ext';simp[List.append_assoc]
section
variable {P:Program}{O:World}{Y:List Nat}{X:Nat->Prop}{D:Nat->Value}{st:ah}{M:Array Value}{w:World}{B:Oper}
theorem ac5(S:am O Y X D st M w){x:aJ}{v:Value}{t:aY}{bd:List (den t)}(hx:b_ D st.sites w (aw X D st.sites) x v)(h:sj st x=some (.sl t bd)):
  ∃news,Src w (aT t) v bd.length news/\cT w (aw X D st.sites) (flat t bd) news:=by
 have one:∀{news:List Value},cr D st.sites w (aw X D st.sites) (cx (flat t bd)) news->(∀u∈news,u.oneCell'=true):=by
  intro news h;refine h.jl ?_
  unfold cx;generalize flat t bd=l;induction l with
  |nil=>rfl
  |cons d l ih=>simpa[gW,aE.storable] using ih
 unfold sj at h;split at h
 ·rename_i bi iD;cases h;have hx:bA w (aw X D st.sites) (.sl t bd) v:=hx;cases hx with
  |nil t=>exact⟨[],⟨by simp,fun u hu=>by simp at hu,.inl ⟨rfl,rfl⟩⟩,rfl,fun j h=>by simp[flat] at h⟩
  |sl t xs a cap cs n hn hcap hb hl hc hr=>
   subst hn;have jz:=g' (D:=D) (sites:=st.sites) hl hr;exact⟨cs,⟨by rw[hl,eV],one jz,.inr (.inl ⟨a,cap,rfl,hc⟩)⟩,hl,hr⟩
 ·cases h
 ·rename_i bi;cases h;rw[show v=_ from hx]
  exact⟨[],⟨by simp,fun u hu=>by simp at hu,.inl ⟨rfl,rfl⟩⟩,rfl,fun j h=>by simp[flat] at h⟩
 ·rename_i o s;split at h
  ·rename_i bi iD hr;cases h;obtain⟨cs,hl,hc⟩:=S.row hr;have hv:v=D o:=by
    rcases jG hr with h1|h1<;>exact Ref.at hx.2 h1 rfl
   have dk:=iR hl;refine⟨cs,⟨by rw[dk.1,eV],one hl,?_⟩,dk⟩
   rw[hv];rcases hc with⟨h1,h2⟩|⟨b,c,h1,h2,_⟩
   ·subst h2;exact .inl ⟨h1,rfl⟩
   ·exact .inr (.inl ⟨⟨b,0,none⟩,c,h1,fun j u hu=>by rw[gG];exact h2 j u hu⟩)
  ·cases h
 ·cases h
theorem Mc(S:am O Y X D st M w){C:Ctx}(H:CtxOk P C){T dL:TypeId}{s x:Operand}{e:TypeId}{t:aY}{bytes:Nat}{dst:Nat}(be:C.tt T=.slice e t bytes)(Rr:(∃ex,P.underlying dL=some (.slice ex))\/P.underlying dL=some .string)
  (aC:B.op=.call {callee:=.builtin .append,args:=#[s,x],argTypes:=#[T,dL]}) (dv:B.dst=some dst) (Z:ce st B.dst=true) {bd:List (den t)} {news:List Value} (e9:Src w (aT t) (Act.eval ⟨M,[]⟩ x) bd.length news)
  (dH:cT w (aw X D st.sites) (flat t bd) news):Holds (pS bytes t dst st (aX C st T s) bd) (cD P O Y X st M w B):=by
 have bE:=H.tt T;rw[be] at bE;obtain⟨⟨fr,_⟩,z,hinfo,hzs,gx⟩:=bE;obtain⟨i,hi,v7⟩:∃i,P.info? e=some i/\(i.size,i.bytes,i.zero)=(aT t,bytes,some z):=by
  cases ar:P.info? e with
  |none=>simp[ar] at hinfo
  |some i=>exact⟨i,rfl,by simpa[ar] using hinfo⟩
 simp only[Prod.mk.injEq] at v7;obtain⟨v7,W3,Jq⟩:=v7;have A5:=du S C T s;have runs:∀{v':Value} {w':World},(Builtin.append_ #[T,dL] B.type #[Act.eval ⟨M,[]⟩ s,Act.eval ⟨M,[]⟩ x]).run P w=.ok v' w'->
   (execOp (Act.eval ⟨M,[]⟩) B).run P w=.ok (.value v') w':=by
  intro v' w' h;unfold execOp;simp only[aC,resolve,invoke,builtin,Sem.run_bind,Sem.run_pure,Result.andThen_ok,List.map_toArray,List.map_cons,List.map_nil,h]
 have one:∀{u:Bool} {cz:TypeId} {v':Value} {n m:Nat} {l:List Value} {w':World},rowAt w' u cz n v' m l->v'.oneCell'=true:=by
  intro u cz v' n m l w' h;rcases h.2 with⟨rfl,_⟩|⟨g,cap,cur,fz,rfl,_⟩<;>rfl
 unfold pS;split
 ·-- a nil slice
  rename_i t2 bZ;rw[bZ] at A5;have qj:Act.eval ⟨M,[]⟩ s=.slice none 0 0:=A5;refine Holds.hq fun r hr=>?_
  have dk:cy bytes [] bd=some r:=hr;unfold cy at dk;split at dk
  ·rename_i hb;cases dk;simp only[List.length_nil,Nat.zero_add,room] at hb;obtain⟨v',w',h1,⟨cz,h2⟩,h3,ax⟩:=Cs (P:=P) (u:=t.jy) w T dL B.type e gx i z (aT t) bytes fr Rr hi Jq v7 W3 hzs (lC _) (.slice none 0 0) 0 [] ⟨e,De w _ e _⟩ _ _ news e9
    (by rw[Nat.zero_add];exact hb.2) (by rw[Nat.zero_add];exact hb.1)
   rw[Nat.zero_add,List.nil_append] at h2;have ca:=S.make (o:=dst) (bT:=.row (bl st dst) t ([]++bd)) (nv:=v') (w':=w') (fun b hb=>h3.block b hb (by simp[Value.ownBlock])) h3.os h3.tape h3.output h3.size
    (fun ab hs=>ls hs) (fun b hb=>by
     obtain⟨g1,g2⟩:=ax b hb;rcases g2 with g2|g2
     ·cases g2
     ·exact⟨g2,g1⟩) (fun hs cM go _ _=>by
     refine⟨cz,news,by rw[cM];simpa using h2,?_⟩
     intro j g1 g2;have apR:j<(flat t bd).length:=by simpa using g1
     simpa using oB go (dH.2 j apR g2))
   refine kM (us:=[(dst,.row (bl st dst) t ([]++bd))]) ca Z (runs (by rw[qj];exact h1)) ?_
   refine⟨one h2,Ref.mk (ab:=.row (bl st dst) t ([]++bd)) ?_ rfl (by simp)⟩
   simp only[bj,cV];simp
  ·cases dk
 ·-- a row of Ax own
  rename_i o s2 bZ;rw[bZ] at A5;split
  ·rename_i gT t2 xs gp;have r':look st.sites o=some (.row gT t2 xs):=gp;cases app:gT.beq s2 with
   |false=>simp only[cond_false];exact .fail
   |true=>
    have lg:=Nat.eq_of_beq_eq_true app;subst lg;simp only[cond_true];split
    ·rename_i jc;subst jc;refine Holds.hq fun r hr=>?_
     have dk:cy bytes xs bd=some r:=hr;unfold cy at dk;split at dk
     ·rename_i hb;cases dk;simp only[room] at hb;have hv:Act.eval ⟨M,[]⟩ s=D o:=Ref.at A5.2 r' rfl;obtain⟨eS,cs,k8,hcs⟩:=S.sites o _ r';obtain⟨v',w',h1,⟨cz,h2⟩,h3,ax⟩:=Cs (P:=P) w T dL B.type e gx i z (aT t2) bytes fr Rr hi Jq v7 W3 hzs (lC _) (D o) xs.length cs ⟨eS,k8⟩ _ _ news e9 hb.2 hb.1;have ca:=S.append (dst:=dst) (r:=xs++bd) r' (nv:=v') (w':=w') h3 ax (fun cM go=>by
       refine⟨cz,cs++news,by rw[cM,List.length_append];exact h2,?_⟩
       have sZ:cT w (aw X D st.sites) (flat t2 xs) cs:=⟨by rw[eV];exact k8.1,hcs⟩
       have mz:=iR ((g' (D:=D) (sites:=st.sites) sZ.1 sZ.2).append (g' (D:=D) (sites:=st.sites) dH.1 dH.2)|>fun h=>by
        rw[show cx (flat t2 xs)++cx (flat t2 bd)=cx (flat t2 (xs++bd)) from by simp[cx,ra]] at h
        exact h)
       intro j g1 g2;exact oB go (mz.2 j g1 g2))
      refine kM (us:=[(o,.dead gT),(dst,.row (bl (st.h_ o (.dead gT)) dst) t2 (xs++bd))]) ca Z (runs (by rw[hv];exact h1)) ?_
      refine⟨one h2,Ref.mk (ab:=.row (bl (st.h_ o (.dead gT)) dst) t2 (xs++bd)) ?_ rfl (by simp)⟩
      simp only[bj,cV];simp
     ·cases dk
    ·exact .fail
  ·exact .fail
 ·exact .fail
theorem acC(S:am O Y X D st M w){C:Ctx}(H:CtxOk P C){T dL:TypeId}{s x:Operand}{e ex:TypeId}{t u:aY}{bytes b2:Nat}{dst:Nat}(be:C.tt T=.slice e t bytes)(gx:C.tt dL=.slice ex u b2)
  (aC:B.op=.call {callee:=.builtin .append,args:=#[s,x],argTypes:=#[T,dL]}) (dv:B.dst=some dst) (Z:ce st B.dst=true):
  Holds (rT bytes t dst st (aX C st T s) (aX C st dL x)) (cD P O Y X st M w B):=by
 have wb:=H.tt dL;rw[gx] at wb;unfold rT;split
 ·exact .fail
 ·rename_i d qG;split
  ·rename_i bi bd;split
   ·rename_i jc;subst jc;obtain⟨news,e9,dH⟩:=ac5 S (du S C dL x) qG;exact Mc S H be (.inl ⟨_,wb.1.1⟩) aC dv Z e9 dH
   ·exact .fail
  ·exact .fail
theorem aaO(S:am O Y X D st M w){C:Ctx}(H:CtxOk P C){T dL:TypeId}{s x:Operand}{e:TypeId}{t:aY}{bytes:Nat}{dst:Nat}(be:C.tt T=.slice e t bytes)(gx:C.tt dL=.str)
  (aC:B.op=.call {callee:=.builtin .append,args:=#[s,x],argTypes:=#[T,dL]}) (dv:B.dst=some dst) (Z:ce st B.dst=true):
  Holds (rU bytes t dst st (aX C st T s) (aX C st dL x)) (cD P O Y X st M w B):=by
 have wb:=H.tt dL;rw[gx] at wb;have bq:=du S C dL x;unfold rU;split
 ·rename_i y hx;rw[hx] at bq;split
  ·rename_i jc;subst jc;have bq:bA w (aw X D st.sites) (.str y) (Act.eval ⟨M,[]⟩ x):=bq;generalize hv:Act.eval ⟨M,[]⟩ x=v at bq;cases bq with
   |str _ b hb=>
    subst hb;refine Mc S H be (.inr wb.1) aC dv Z (news:=b.data.toList.map fun b=>Value.int .u8 b.toNat) ?_ ?_
    ·rw[hv];refine⟨by simp[bytesOf,aT],fun u hu=>?_,.inr (.inr ⟨b,rfl,?_,rfl,rfl⟩)⟩
     ·obtain⟨c,_,rfl⟩:=List.mem_map.1 hu;rfl
     ·simp only[bytesOf,List.length_map,Array.length_toList];rfl
    ·have e1:flat .u8 (bytesOf b.data.toList)=(b.data.toList.map fun b=>aZ.int .u8 b.toNat):=by
      unfold flat bytesOf;rw[List.flatMap_map];generalize b.data.toList=l;induction l with
      |nil=>rfl
      |cons a l ih=>simp only[List.flatMap_cons,List.map_cons,ih];rfl
     rw[e1];refine⟨by simp,fun j g1 g2=>?_⟩
     simp only[List.getElem_map];exact .int _ _
  ·exact .fail
 ·exact .fail
end
theorem foldl_set:∀(vs:List Value) (off k:Nat) (arr:Array Value),off+k+vs.length<=arr.size->
  (vs.zipIdx k).foldl (fun cs (x:Value×Nat)=>cs.setIfInBounds (off+x.2) x.1) arr=(bF arr.toList (off+k) vs).toArray:=by
 intro vs;induction vs with
 |nil=>intro off k arr h;simp[bF]
 |cons v vs ih=>
  intro off k arr h;simp only[List.zipIdx_cons,List.foldl_cons];rw[ih off (k+1) _ (by simp at h ⊢;omega)]
  congr 1
  simp only[List.length_cons] at h;unfold bF;rw[Array.toList_setIfInBounds];apply List.ext_getElem?;intro j;simp only[List.getElem?_append,List.length_append,List.length_take,List.length_set,List.getElem?_take,List.getElem?_drop,List.getElem?_set,List.length_cons,Array.length_toList];have m1:min (off+k) arr.size=off+k:=by omega
  have m2:min (off+(k+1)) arr.size=off+(k+1):=by omega
  simp only[m1,m2];by_cases c1:j<off+k
  ·have c2:j<off+(k+1):=by omega
   have c3:j<off+(k+1)+vs.length:=by omega
   have c5:j<off+k+(vs.length+1):=by omega
   have gy:¬off+k=j:=by omega
   simp[c1,c2,c3,c5,gy]
  ·by_cases c0:j=off+k
   ·subst c0;have c2:off+k<off+(k+1):=by omega
    have c3:off+k<off+(k+1)+vs.length:=by omega
    have c5:off+k<off+k+(vs.length+1):=by omega
    have gy:off+k<arr.size:=by omega
    simp[c2,c3,c5,gy]
   ·by_cases c5:j<off+k+(vs.length+1)
    ·have c2:¬j<off+(k+1):=by omega
     have c3:j<off+(k+1)+vs.length:=by omega
     have e:j-(off+k)=(j-(off+(k+1)))+1:=by omega
     simp[c1,c2,c3,c5,e]
    ·have c3:¬j<off+(k+1)+vs.length:=by omega
     have gy:¬off+k=off+(k+1)+vs.length+(j-(off+(k+1)+vs.length)):=by omega
     have e:off+(k+1)+vs.length+(j-(off+(k+1)+vs.length))=off+k+(vs.length+1)+(j-(off+k+(vs.length+1))):=by omega
     simp[c3,c5,gy,e];try(intro bk;exfalso;omega)
theorem LG(v:Value)(off:Nat)(arr:Array Value)(h:off+v.cells.size<=arr.size):
  v.cells.zipIdx.foldl (fun cs (x:Value×Nat)=>cs.setIfInBounds (off+x.2) x.1) arr=(bF arr.toList off v.cells.toList).toArray:=by
 rw[<-Array.foldl_toList,Array.toList_zipIdx];exact foldl_set v.cells.toList off 0 arr (by simpa using h)
theorem L8(s:Nat):∀(vs:List (Nat×Value)) (n:Nat) (cells:Array Value),(∀j (h:j<vs.length),(vs[j]).1=n+j)->(∀p,p∈vs->p.2.cells.size=s)->(n+vs.length)*s<=cells.size->
  Instr.fill (fun i=>some (i*s,s)) cells vs=some (bF cells.toList (n*s) (vs.flatMap fun p=>p.2.cells.toList)).toArray:=by
 intro vs;induction vs with
 |nil=>intro n cells _ _ _;simp[Instr.fill,bF]
 |cons p vs ih=>
  obtain⟨i,v⟩:=p;intro n cells hi hs hle;have h0:i=n:=hi 0 (Nat.zero_lt_succ _);subst h0;have hv:v.cells.size=s:=hs (i,v) (by simp)
  have oN:i*s+s<=cells.size:=by
   have:(i+1)*s<=(i+(vs.length+1))*s:=Nat.mul_le_mul_right _ (by omega)
   simp only[List.length_cons] at hle;rw[Nat.add_mul,Nat.one_mul] at this;omega
  simp only[Instr.fill,hv];rw[if_neg (by simp;omega)]
  have oF:=LG v (i*s) cells (by omega)
  rw[oF];have hlen:v.cells.toList.length=s:=by simpa using hv
  have akP:(bF cells.toList (i*s) v.cells.toList).length=cells.toList.length:=q_ _ _ _ (by simp;omega)
  rw[ih (i+1) _ (fun j h=>by have:=hi (j+1) (by simpa using h);simp at this;omega) (fun p hp=>hs p (by simp[hp])) (by
   simp only[List.length_cons] at hle;simp only[List.size_toArray,akP,Array.length_toList];have e:i+1+vs.length=i+(vs.length+1):=by omega
   rw[e];exact hle)]
  congr 2
  simp only[List.flatMap_cons,List.toList_toArray];have o7:(vs.flatMap fun p=>p.2.cells.toList).length=vs.length*s:=by
   clear ih hi hle;induction vs with
   |nil=>simp
   |cons q vs aoD=>
    have:q.2.cells.toList.length=s:=by simpa using hs q (by simp)
    rw[List.flatMap_cons,List.length_append,this,aoD (fun p hp=>hs p (by rcases List.mem_cons.1 hp with h|h<;>simp[h])),List.length_cons,Nat.add_mul];omega
  have ak1:(i+(vs.length+1))*s<=cells.size:=by simpa using hle
  rw[Nat.add_mul,Nat.add_mul] at ak1;unfold bF;apply List.ext_getElem?;intro j;have e1:(i+1)*s=i*s+s:=by rw[Nat.add_mul,Nat.one_mul]
  simp only[List.getElem?_append,List.length_append,List.length_take,List.getElem?_take,List.getElem?_drop,List.length_drop,Array.length_toList,hlen,o7,e1];have m1:min (i*s) cells.size=i*s:=by omega
  have m2:min (i*s+s) (i*s+s+(cells.size-(i*s+s)))=i*s+s:=by omega
  simp only[m1,m2];by_cases c1:j<i*s
  ·have c2:j<i*s+s:=by omega
   have c3:j<i*s+s+vs.length*s:=by omega
   have c5:j<i*s+(s+vs.length*s):=by omega
   simp[c1,c2,c3,c5]
  ·by_cases c2:j<i*s+s
   ·have c3:j<i*s+s+vs.length*s:=by omega
    have c5:j<i*s+(s+vs.length*s):=by omega
    have gy:j-i*s<s:=by omega
    simp[c1,c2,c3,c5,gy]
   ·by_cases c3:j<i*s+s+vs.length*s
    ·have c5:j<i*s+(s+vs.length*s):=by omega
     have gy:¬j-i*s<s:=by omega
     have e:j-i*s-s=j-(i*s+s):=by omega
     simp[c1,c2,c3,c5,gy,e]
    ·have c5:¬j<i*s+(s+vs.length*s):=by omega
     have gy:¬i*s+s+vs.length*s+(j-(i*s+s+vs.length*s))<i*s:=by omega
     have c6:¬i*s+s+vs.length*s+(j-(i*s+s+vs.length*s))<i*s+s:=by omega
     have e:i*s+s+(i*s+s+vs.length*s+(j-(i*s+s+vs.length*s))-(i*s+s))=i*s+(s+vs.length*s)+(j-(i*s+(s+vs.length*s))):=by omega
     simp[c3,c5,gy,c6,e]
theorem aax:∀(l:List (Nat×Operand)) (n:Nat),rL n l=true->∀j (h:j<l.length),(l[j]).1=n+j:=by
 intro l;induction l with
 |nil=>intro n _ j h;simp at h
 |cons p l ih=>
  obtain⟨i,x⟩:=p;intro n h j hj;simp only[rL,Bool.and_eq_true] at h;cases j with
  |zero=>simpa using Nat.eq_of_beq_eq_true h.1
  |succ j=>have:=ih (n+1) h.2 j (by simpa using hj);simp;omega
section
variable {P:Program}{O:World}{Y:List Nat}{X:Nat->Prop}{D:Nat->Value}{st:ah}{M:Array Value}{w:World}{B:Oper}
theorem Zd{ad:List aE}(h:gW ad=true):ad.head?≠some .dj:=by
 intro bP;cases ad with
 |nil=>cases bP
 |cons l r=>
  simp only[List.head?_cons,Option.some.injEq] at bP;subst bP;cases h
theorem am.Pg(S:am O Y X D st M w){o:Nat}{cells:List aE}{vs:List Value}{T:TypeId}(hl:cr D st.sites w (aw X D st.sites) cells vs)(h1:∀u∈vs,u.oneCell'=true)(hns:mu cells T vs w.heap.size):
  am O Y X (fun aa=>if aa=o then .pointer (some ⟨w.heap.size,0,none⟩) else D aa) {st with sites:=ci st.sites o (.box (bl st o) cells)} M (w.alloc (.cells vs.toArray T (0,0))):=
 S.make (fun b hb=>RowKit.Below.heap_alloc w _ b hb) rfl rfl rfl (by simp) (fun ab hs=>ls hs) (fun b hb=>by cases hb;exact⟨Nat.le_refl _,by simp⟩)
  (fun hs cM go _ _=>⟨w.heap.size,T,vs,cM,heap_alloc_new w _,hl.1,h1,hns,fun j g1 g2=>(zU go hl).2 j g1 g2⟩)
theorem ac9{D:Nat->Value}{sites:List (Nat×Site)}{av:Nat->Prop}{cells:List aE}{T:TypeId}{cur:List Value}{b:Nat}(be:T=qL)(h:cr D sites w av cells cur)(hs:cells.head?≠some .dj):cr D sites w av (uO cells) cur/\mu (uO cells) T cur b:=by
 unfold uO;split
 ·obtain⟨v,vs,rfl,h1,h2⟩:=h.inv;exact⟨.cons (show dO D sites w av .dj v from trivial) h2,fun _=>⟨be,.inl (by rw[show v=_ from h1];rfl)⟩⟩
 ·exact⟨h,fun af=>absurd af hs⟩
theorem aex(S:am O Y X D st M w){C:Ctx}(H:CtxOk P C){elem:TypeId}{z:List aE}{o:Nat}(aC:B.op=.alloc elem)(dv:B.dst=some o)(hz:(C.tt elem).zero=some z)(Z:ce st B.dst=true):
  cD P O Y X st M w B (bX (.ptr o (bl st o) 0)) [(o,.box (bl st o) (bif elem.beq qL then uO z else z))]:=by
 obtain⟨v,hv,nL⟩:=b8.D4 (w:=w) (H.tt elem) hz;obtain⟨h1,h2,h3⟩:=tJ nL;have hns:z.head?≠some .dj:=by
  intro bP;cases z with
  |nil=>cases bP
  |cons l r=>
   simp only[List.head?_cons,Option.some.injEq] at bP;subst bP;simp[kR,pJ] at nL
 have di:(execOp (Act.eval ⟨M,[]⟩) B).run P w=.ok (.value (.pointer (some ⟨w.heap.size,0,none⟩))) (w.alloc (.cells v.cells.toList.toArray elem (0,0))):=by
  unfold execOp;simp[aC,Instr.alloc,hv,newVar,newRow]
 have key:∀cells,cr D st.sites w (aw X D st.sites) cells v.cells.toList->mu cells elem v.cells.toList w.heap.size->
   cD P O Y X st M w B (bX (.ptr o (bl st o) 0)) [(o,.box (bl st o) cells)]:=by
  intro cells hl hs;have ca:=S.Pg (o:=o) (T:=elem) hl h2 hs;refine kM (us:=[(o,.box (bl st o) cells)]) ca Z (vv:=.pointer (some ⟨w.heap.size,0,none⟩)) di ?_
  refine⟨_,rfl,Ref.mk (ab:=.box (bl st o) cells) ?_ rfl (by simp)⟩
  simp only[bj,cV];simp
 cases be:elem.beq qL with
 |false=>exact key z ⟨h1,h3 _ _ _ _⟩ fun h=>absurd h hns
 |true=>
  obtain⟨aD,az⟩:=ac9 (b:=w.heap.size) (Nat.eq_of_beq_eq_true be) (⟨h1,h3 D st.sites w (aw X D st.sites)⟩:cr D st.sites w (aw X D st.sites) z v.cells.toList) hns;exact key _ aD az
theorem ahO(S:am O Y X D st M w){elem:TypeId}{x:Operand}{a:bL}{o:Nat}(aC:B.op=.box elem x)(dv:B.dst=some o)(ha:gO D st.sites w (aw X D st.sites) a (Act.eval ⟨M,[]⟩ x))
  (dG:gW a.cells=true) (Z:ce st B.dst=true):cD P O Y X st M w B (bX (.ptr o (bl st o) 0)) [(o,.box (bl st o) a.cells)]:=by
 have hl:=ha.cells dG;have ca:=S.Pg (o:=o) (T:=elem) hl (hl.jl dG) (fun h=>absurd h (Zd dG))
 refine kM (us:=[(o,.box (bl st o) a.cells)]) ca Z (vv:=.pointer (some ⟨w.heap.size,0,none⟩)) ?_ ?_
 ·unfold execOp;simp[aC,Instr.box,newVar,newRow]
 ·refine⟨_,rfl,Ref.mk (ab:=.box (bl st o) a.cells) ?_ rfl (by simp)⟩
  simp only[bj,cV];simp
theorem am.Fp(S:am O Y X D st M w){o:Nat}{t:aY}{xs:List (den t)}{cs rest:List Value}{T:TypeId}{cap:Nat}(hl:cT w (aw X D st.sites) (flat t xs) cs)(hcap:cs.length+rest.length=cap*aT t)(hm:cap<=maxLen)(gx:t.jy=true->T=l6):
  am O Y X (fun aa=>if aa=o then .slice (some ⟨w.heap.size,0,none⟩) xs.length cap else D aa) {st with sites:=ci st.sites o (.row (bl st o) t xs)} M (w.alloc (.cells (cs++rest).toArray T (0,0))):=by
 have hcl:cs.length=xs.length*aT t:=by rw[hl.1,eV]
 have hle:xs.length<=cap:=by
  have:xs.length*aT t<=cap*aT t:=by omega
  exact Nat.le_of_mul_le_mul_right this (lC t)
 refine S.make (fun b hb=>RowKit.Below.heap_alloc w _ b hb) rfl rfl rfl (by simp) (fun ab hs=>ls hs) (fun b hb=>by cases hb;exact⟨Nat.le_refl _,by simp⟩)
  (fun hs cM go _ _=>⟨T,cs,⟨hcl,.inr ⟨w.heap.size,cap,_,(0,0),cM,⟨gx,.inl rfl⟩,heap_alloc_new w _,hle,hm,?_,?_⟩⟩,fun j g1 g2=>oB go (hl.2 j g1 g2)⟩)
 ·simp[hcap]
 ·rw[<-hcl];simp
theorem agb:∀{as:List bL} {t:aY} {xs:List (den t)} {us vs:List (Nat×Site)} {ws:List Value},la t st as=some (xs,us)->ws.length=as.length->
  (∀j (h:j<as.length) (af:j<ws.length),gO D st.sites w (aw X D st.sites) (as[j]) (ws[j]))->kJ O Y X D st M w vs->(∀p,p∈us->p∈vs)->
  xs.length=as.length/\cT w (aw X D (bj st.sites vs)) (flat t xs) (ws.flatMap fun v=>v.cells.toList)/\∀v,v∈ws->v.cells.size=aT t:=by
 intro as;induction as with
 |nil=>
  intro t xs us vs ws h hl _ _ _;simp only[la] at h;cases h;have:ws=[]:=List.eq_nil_of_length_eq_zero hl;subst this;exact⟨rfl,⟨rfl,fun j h=>by simp[flat] at h⟩,fun v hv=>by simp at hv⟩
 |cons a as ih=>
  intro t xs us vs ws h hl ft aV d';match ws,hl with
  |v::ws,hl=>
  simp only[la] at h;split at h
  ·rename_i ds u1 oO;split at h
   ·rename_i x iD u2 jV oE;cases h;have b7:=ft 0 (by simp) (by simp)
    simp only[List.getElem_cons_zero] at b7;have dG:gW a.cells=true:=by
     clear oE ih ft b7 hl jV;generalize a.cells=ad at oO;induction ad generalizing ds u1 with
     |nil=>rfl
     |cons l ad ih=>
      simp only[fL] at oO;split at oO
      ·rename_i d Ye kw qT h1 h2;simp only[gW,Bool.and_eq_true];refine⟨?_,ih _ _ (fun p hp=>d' p (by cases oO;rcases List.mem_append.1 hp with h|h<;>simp[h])) h2⟩
       unfold jC at h1;split at h1<;>first|rfl|cases h1
      ·cases oO
    have h5:=b7.cells dG;have Jb:=zr oO h5 aV (fun p hp=>d' p (List.mem_append.2 (.inl hp)))
    obtain⟨g1,g2,g3⟩:=ih oE (by simpa using hl) (fun j h1 h2=>ft (j+1) (by simpa using h1) (by simpa using h2)) aV (fun p hp=>d' p (List.mem_append.2 (.inr hp)))
    have TW:=zq _ _ _ jV;refine⟨by simp[g1],?_,fun u hu=>?_⟩
    ·simp only[flat,List.flatMap_cons];rw[TW];have:=iR ((g' (D:=D) (sites:=st.sites) Jb.1 Jb.2).append (g' (D:=D) (sites:=st.sites) g2.1 g2.2)|>fun h=>by
      rw[show cx ds++cx (flat t iD)=cx (ds++flat t iD) from by simp[cx]] at h
      exact h)
     exact this
    ·rcases List.mem_cons.1 hu with rfl|hu
     ·have:u.cells.toList.length=ds.length:=Jb.1;rw[<-TW,iN] at this;simpa using this
     ·exact g3 u hu
   ·cases h
  ·cases h
theorem agc:∀{as:List bL} {t:aY} {xs:List (den t)} {us:List (Nat×Site)},la t st as=some (xs,us)->dE st.sites us:=by
 intro as;induction as with
 |nil=>intro t xs us h;simp only[la] at h;cases h;exact .nil
 |cons a as ih=>
  intro t xs us h;simp only[la] at h;split at h
  ·rename_i ds u1 oO;split at h
   ·rename_i x iD u2 jV oE;cases h;exact(Gb oO).append (ih oE)
   ·cases h
  ·cases h
theorem YO{us:List (Nat×Site)}(h:dE st.sites us)(o:Nat):bl {st with sites:=bj st.sites us} o=bl st o:=by
 unfold bl ah.ab;simp only;rcases lr h o with h1|⟨s,t,xs,h1,h2⟩
 ·rw[h1]
 ·rw[h2];rcases h1 with h1|h1<;>rw[h1]<;>rfl
end
section
variable {P:Program}{O:World}{Y:List Nat}{X:Nat->Prop}{D:Nat->Value}{st:ah}{M:Array Value}{w:World}{B:Oper}
theorem pq{v:aJ}{a:bL}(h:lT v=some a):v=.av a:=by
 cases v with
 |av b=>cases h;rfl
 |jw _=>cases h
theorem aaM:∀{vs:List aJ} {as:List bL},nA vs=some as->vs.length=as.length/\∀j (h:j<vs.length) (af:j<as.length),vs[j]=.av (as[j]):=by
 intro vs;induction vs with
 |nil=>intro as h;simp only[nA] at h;cases h;exact⟨rfl,fun j h=>by simp at h⟩
 |cons v vs ih=>
  intro as h;simp only[nA] at h;split at h
  ·rename_i a nY h1 h2;cases h;obtain⟨g1,g2⟩:=ih h2;refine⟨by simp[g1],fun j aD az=>?_⟩
   cases j with
   |zero=>exact pq h1
   |succ j=>exact g2 j (by simpa using aD) (by simpa using az)
  ·cases h
theorem w7{C:Ctx}(H:CtxOk P C){T e:TypeId}{t:aY}{bytes:Nat}(be:C.tt T=.slice e t bytes):
  P.underlying T=some (.slice e)/\∃i z,P.info? e=some i/\i.size=aT t/\i.bytes=bytes/\i.zero=some z/\z.cells.size=aT t/\(t.jy=true->e=l6):=by
 have bE:=H.tt T;rw[be] at bE;obtain⟨⟨fr,_⟩,z,hinfo,hzs⟩:=bE;refine⟨fr,?_⟩;cases ar:P.info? e with
 |none=>simp[ar] at hinfo
 |some i=>
  simp only[ar,Option.map_some,Option.some.injEq,Prod.mk.injEq] at hinfo;exact⟨i,z,rfl,hinfo.1,hinfo.2.1,hinfo.2.2,hzs⟩
theorem Zn(S:am O Y X D st M w){C:Ctx}(H:CtxOk P C){T e:TypeId}{t:aY}{bytes len o:Nat}{parts:Array (Nat×Operand)}(be:C.tt T=.slice e t bytes)(aC:B.op=.buildSlice T len parts)
  (dv:B.dst=some o) (Z:ce st B.dst=true) (hlen:parts.toList.length=len) (qh:rL 0 parts.toList=true) (ahx:len*aT t<=1000) {as:List bL} {xs:List (den t)} {us:List (Nat×Site)}
  (has:nA (parts.toList.map fun p=>aX C st e p.2)=some as) (jV:la t st as=some (xs,us)):
  cD P O Y X st M w B (bX (.own o (bl st o))) (us++[(o,.row (bl st o) t xs)]):=by
 obtain⟨fr,i,z,hi,js,Jp,tc,hzs,gx⟩:=w7 H be;have hfz:=agc jV;have aV:kJ O Y X D st M w us:=⟨S,hfz⟩;obtain⟨th,l4⟩:=aaM has;let ws:List Value:=parts.toList.map fun p=>Act.eval ⟨M,[]⟩ p.2
 have WR:ws.length=as.length:=by rw[<-th];simp[ws]
 have akL:∀j (h:j<as.length) (af:j<ws.length),gO D st.sites w (aw X D st.sites) (as[j]) (ws[j]):=by
  intro j h1 h2;have hj:j<(parts.toList.map fun p=>aX C st e p.2).length:=by rw[th];exact h1
  have:=l4 j hj h1;simp only[List.getElem_map] at this;have bq:=du S C e (parts.toList[j]'(by simpa using hj)).2
  rw[this] at bq;have h3:b_ D st.sites w (aw X D st.sites) (.av (as[j])) (ws[j]):=by simpa[ws] using bq
  exact h3
 obtain⟨hxl,dH,hcs⟩:=agb jV WR akL aV (fun p hp=>hp)
 have AG:xs.length=len:=by rw[hxl,<-WR];simpa[ws] using hlen
 have ahy:(parts.map fun(x:Nat×Operand)=>(x.1,Act.eval ⟨M,[]⟩ x.2)).toList=parts.toList.map fun p=>(p.1,Act.eval ⟨M,[]⟩ p.2):=by simp
 have aiW:((parts.toList.map fun p=>(p.1,Act.eval ⟨M,[]⟩ p.2)).flatMap fun p:Nat×Value=>p.2.cells.toList)=ws.flatMap fun v=>v.cells.toList:=by
  simp[ws,List.flatMap_map]
 have hcl:(ws.flatMap fun v=>v.cells.toList).length=len*aT t:=by rw[dH.1,eV,AG]
 have hm:len<=maxLen:=by
  have:len*1<=len*aT t:=Nat.mul_le_mul_left _ (lC t);unfold maxLen;omega
 have ca:=aV.new.Fp (o:=o) (xs:=xs) (cs:=ws.flatMap fun v=>v.cells.toList) (rest:=[]) (T:=e) (cap:=len) (by exact dH) (by simp[hcl]) hm gx
 rw[YO hfz,AG,List.append_nil] at ca;have uI:bj st.sites (us++[(o,.row (bl st o) t xs)])=ci (bj st.sites us) o (.row (bl st o) t xs):=by rw[kL];rfl
 have di:(Instr.buildSlice T len (parts.map fun(x:Nat×Operand)=>(x.1,Act.eval ⟨M,[]⟩ x.2))).run P w=
   .ok (.slice (some ⟨w.heap.size,0,none⟩) len len) (w.alloc (.cells (ws.flatMap fun v=>v.cells.toList).toArray e)):=by
  by_cases h0:len*i.size=0
  ·have hl0:len=0:=by
    rcases Nat.mul_eq_zero.1 h0 with h|h
    ·exact h
    ·have:=lC t;omega
   subst hl0;have qy:parts.toList=[]:=List.eq_nil_of_length_eq_zero hlen;have BH:ws=[]:=by simp[ws,qy]
   have ao3:parts=#[]:=by simpa using qy
   rw[BH];have lh:∀f:Nat->Value,Array.map f (Array.range 0)=#[]:=fun f=>by apply Array.ext';simp
   simp[Instr.buildSlice,run_underlying fr,sizeOf,typeInfo,hi,ao3,Instr.fill,newRow,lh]
  ·refine run_buildSlice w T e len _ _ i z fr hi tc (by rw[js];omega) h0 ?_
   rw[ahy];have aiL:(((Array.range (len*i.size)).map fun x=>z.cells[x%z.cells.size]!)).size=len*i.size:=by simp
   have:=L8 (aT t) (parts.toList.map fun p=>(p.1,Act.eval ⟨M,[]⟩ p.2)) 0 ((Array.range (len*i.size)).map fun x=>z.cells[x%z.cells.size]!)
    (fun j h=>by have:=aax _ 0 qh j (by simpa using h);simpa using this)
    (fun p hp=>by
     obtain⟨q,ar,rfl⟩:=List.mem_map.1 hp;exact hcs _ (List.mem_map.2 ⟨q,ar,rfl⟩))
    (by rw[aiL,js];simp[hlen])
   rw[js] at this ⊢;rw[this,aiW];congr 2
   unfold bF;rw[Nat.zero_mul,List.take_zero,List.nil_append,Nat.zero_add,hcl,List.drop_eq_nil_of_le (by simp),List.append_nil]
 refine kM (us:=us++[(o,.row (bl st o) t xs)]) (by rw[uI];exact ca) Z (vv:=.slice (some ⟨w.heap.size,0,none⟩) len len) ?_ ?_
 ·unfold execOp;simp only[aC,Sem.run_bind];have aiQ:=di;simp only[aiQ,Result.andThen_ok,Sem.run_pure]
 ·rw[uI];refine⟨rfl,Ref.mk (ab:=.row (bl st o) t xs) ?_ rfl (by simp)⟩
  simp only[cV];simp
theorem Ze{w:World}{av:Nat->Prop}{t:aY}{z:den t}{zs:List Value}(h:cT w av (enc t z) zs)(n:Nat):cT w av (flat t (List.replicate n z)) ((List.replicate n zs).flatten):=by
 induction n with
 |zero=>exact⟨rfl,fun j h=>by simp[flat] at h⟩
 |succ n ih=>
  have:=iR ((g' (D:=fun _=>undef) (sites:=[]) h.1 h.2).append (g' (D:=fun _=>undef) (sites:=[]) ih.1 ih.2)|>fun h=>by
   rw[show cx (enc t z)++cx (flat t (List.replicate n z))=cx (enc t z++flat t (List.replicate n z)) from by simp[cx]] at h
   exact h)
  simpa[List.replicate_succ,flat,List.flatMap_cons] using this
theorem abx(z:Array Value)(n:Nat)(hz:0<z.size):((Array.range (n*z.size)).map fun x=>z[x%z.size]!).toList=(List.replicate n z.toList).flatten:=by
 induction n with
 |zero=>simp
 |succ n ih=>
  rw[List.replicate_succ',List.flatten_append];rw[<-ih];apply List.ext_getElem?;intro j;have e:(n+1)*z.size=n*z.size+z.size:=by rw[Nat.add_mul,Nat.one_mul]
  simp only[Array.toList_map,Array.toList_range,List.getElem?_map,List.getElem?_append,List.length_map,List.length_range,List.flatten_cons,List.flatten_nil,List.append_nil,e];by_cases h1:j<n*z.size
  ·rw[List.getElem?_range (by omega)];simp[h1]
  ·by_cases h2:j<n*z.size+z.size
   ·rw[List.getElem?_range h2];have h3:j-n*z.size<z.size:=by omega
    have ax:j%z.size=j-n*z.size:=by
     have:j=z.size*n+(j-n*z.size):=by rw[Nat.mul_comm];omega
     conv=>lhs;rw[this]
     rw[Nat.mul_add_mod,Nat.mod_eq_of_lt h3]
    simp[h1,ax,h3]
   ·rw[List.getElem?_eq_none (by simp;omega)]
    have h3:¬j-n*z.size<z.size:=by omega
    simp[h1,h3]
theorem Z0{l:aE}{v:Value}{d:aZ}{us:List (Nat×Site)}(h:pJ l=some v)(k:jC st l=some (d,us)):us=[]:=by
 cases l with
 |d x=>simp[jC] at k;exact k.2
 |nil t=>simp[jC] at k;exact k.2
 |own o s=>simp[pJ] at h
 |clo g bw=>simp[pJ] at h
 |_=>simp[jC] at k
theorem ZK(S:am O Y X D st M w){C:Ctx}(H:CtxOk P C){T e:TypeId}{t:aY}{bytes o:Nat}{l c:Operand}{wD wE:IntKind}{n m:Int}{z:List aE}{ds:List aZ}{us:List (Nat×Site)}{eO:den t}(be:C.tt T=.slice e t bytes)(aC:B.op=.makeSlice T l c)
  (dv:B.dst=some o) (Z:ce st B.dst=true) (hl:aX C st 0 l=.av (.ak (.d (.int wD n)))) (hc:aX C st 0 c=.av (.ak (.d (.int wE m)))) (hz:(C.tt e).zero=some z) (gv:fL st z=some (ds,us)) (jV:dec t ds=some eO):
  ∀r,jx bytes n m eO=some r->cD P O Y X st M w B (bX (.own o (bl st o))) [(o,.row (bl st o) t r)]:=by
 intro r hr;obtain⟨fr,i,fO,hi,js,Jp,tc,hzs,gx⟩:=w7 H be;obtain⟨v,hv,nL⟩:=b8.D4 (w:=w) (H.tt e) hz;have aoM:v=fO:=by
  simp[zeroValue,typeInfo,hi,tc] at hv;exact hv.symm
 subst aoM;obtain⟨h1,h2,h3⟩:=tJ nL;have gP:us=[]:=by
  clear jV hz h3 h2 h1;have key:∀{ad:List aE} {vs:List Value} {ds:List aZ} {us:List (Nat×Site)},kR ad=some vs->fL st ad=some (ds,us)->us=[]:=by
   intro ad;induction ad with
   |nil=>intro vs ds us _ h;simp only[fL] at h;cases h;rfl
   |cons l ad ih=>
    intro vs ds us h1 h2;simp only[kR] at h1;split at h1
    ·rename_i v ch g1 g2;simp only[fL] at h2;split at h2
     ·rename_i d Ye kw qT aD az;cases h2;rw[ih g2 az,List.append_nil];exact Z0 g1 aD
     ·cases h2
    ·cases h1
  exact key nL gv
 subst gP;have aV:kJ O Y X D st M w []:=⟨S,.nil⟩;have hrz:cT w (aw X D st.sites) ds v.cells.toList:=zr gv ⟨h1,h3 _ _ _ _⟩ aV (fun p hp=>hp)
 rw[<-zq _ _ _ jV] at hrz;unfold jx at hr;split at hr
 ·rename_i hb;obtain⟨b1,b2,b3,wN⟩:=hb;cases hr;have e1:Act.eval ⟨M,[]⟩ l=.int wD n:=by
   have:=du S C 0 l;rw[hl] at this;have this:bA _ _ (.int wD n) _:=this;generalize Act.eval ⟨M,[]⟩ l=u at this;cases this;rfl
  have e2:Act.eval ⟨M,[]⟩ c=.int wE m:=by
   have:=du S C 0 c;rw[hc] at this;have this:bA _ _ (.int wE m) _:=this;generalize Act.eval ⟨M,[]⟩ c=u at this;cases this;rfl
  have TL:=Ze hrz n.toNat;have hlen:((List.replicate n.toNat v.cells.toList).flatten).length=n.toNat*aT t:=by
   rw[TL.1,eV,List.length_replicate]
  have QE:(List.replicate m.toNat v.cells.toList).flatten=(List.replicate n.toNat v.cells.toList).flatten++(List.replicate (m.toNat-n.toNat) v.cells.toList).flatten:=by
   rw[<-List.flatten_append,List.replicate_append_replicate];congr 2;omega
  have hcap:((List.replicate n.toNat v.cells.toList).flatten).length+((List.replicate (m.toNat-n.toNat) v.cells.toList).flatten).length=m.toNat*aT t:=by
   rw[<-List.length_append,<-QE];simp[hzs]
  have hmax:m.toNat<=maxLen:=by omega
  have ca:=S.Fp (o:=o) (T:=e) TL hcap hmax gx;rw[List.length_replicate,<-QE] at ca;refine kM (us:=[(o,.row (bl st o) t (List.replicate n.toNat eO))]) ca Z (vv:=.slice (some ⟨w.heap.size,0,none⟩) n.toNat m.toNat) ?_ ?_
  ·unfold maxLen at wN;have aN:IntKind.i64.wrap n=n:=IntWalk.i64_in n (by omega)
   have w2:IntKind.i64.wrap m=m:=IntWalk.i64_in m (by omega)
   have HS:(decide (m<0)||decide (((i.bytes:Nat):Int)*m>2^48))=false:=by
    unfold room at b3;rw[Jp];have:(bytes:Int)*m<=140737488355328:=by rw[Int.mul_comm];exact b3
    simp;omega
   have zZ:((Array.range (m.toNat*i.size)).map fun x=>v.cells[x%v.cells.size]!)=((List.replicate m.toNat v.cells.toList).flatten).toArray:=by
    rw[<-abx v.cells m.toNat (by rw[hzs];exact lC t),hzs,js]
   unfold execOp;simp only[aC,e1,e2,Sem.run_bind];have di:(Instr.makeSlice T (.int wD n) (.int wE m)).run P w=.ok (.slice (some ⟨w.heap.size,0,none⟩) n.toNat m.toNat) (w.alloc (.cells ((List.replicate m.toNat v.cells.toList).flatten).toArray e)):=by
    have qA:¬n<0:=by omega
    have ks:¬n>m:=by omega
    unfold Instr.makeSlice;simp only[Sem.run_bind,run_underlying fr,Result.andThen_ok,asInt,asIntOf,Sem.run_pure,kK hi,aN,w2,HS,Bool.false_eq_true,qA,ks,decide_false,Bool.or_false,Bool.or_self,if_false,
     run_askRoom,sizeOf]
    by_cases hz0:m.toNat*i.size=0
    ·have s9:m.toNat=0:=by
      rcases Nat.mul_eq_zero.1 hz0 with h|h
      ·exact h
      ·have:=lC t;omega
     have lh:∀f:Nat->Value,Array.map f (Array.range 0)=#[]:=fun f=>by apply Array.ext';simp
     simp[s9,newRow,lh]
    ·simp[hz0,tc,zeroValue,kK hi,newRow,zZ]
   simp only[di,Result.andThen_ok,Sem.run_pure]
  ·refine⟨rfl,Ref.mk (ab:=.row (bl st o) t (List.replicate n.toNat eO)) ?_ rfl (by simp)⟩
   simp only[bj,cV];simp
 ·cases hr
end
theorem ab4{aB n3:Type}(g:aB->Option n3):∀{l:List aB} {r:List n3},l.mapM g=some r->∀{i:Nat} {y:n3},r[i]? =some y->∃x,l[i]? =some x/\g x=some y:=by
 intro l;induction l with
 |nil=>intro r h i y hy;simp at h;subst h;simp at hy
 |cons x l ih=>
  intro r h i y hy;simp only[List.mapM_cons,Option.bind_eq_bind,Option.pure_def] at h;cases hx:g x with
  |none=>simp[hx] at h
  |some z=>
   cases hl:l.mapM g with
   |none=>simp[hx,hl] at h
   |some ew=>
    simp only[hx,hl,Option.bind_some,Option.some.injEq] at h;subst h;cases i with
    |zero=>simp at hy;subst hy;exact⟨x,by simp,hx⟩
    |succ i=>simp at hy;simpa using ih hl hy
section
variable {P:Program}{O:World}{Y:List Nat}{X:Nat->Prop}{D:Nat->Value}{st:ah}{M:Array Value}{w:World}{B:Oper}
theorem h'{k:IntKind}{n:Int}{v:Value}{av:Nat->Prop}(h:bA w av (.int k n) v):v=.int k n:=by cases h;rfl
theorem jn{b:Bool}{v:Value}{av:Nat->Prop}(h:bA w av (.bool b) v):v=.bool b:=by cases h;rfl
theorem gm{s:F}{v:Value}{av:Nat->Prop}(h:bA w av (.str s) v):∃b:ByteArray,v=.string b/\b.data.toList=s:=by
 cases h with
 |str l s h=>exact⟨s,rfl,h⟩
theorem jM(S:am O Y X D st M w){C:Ctx}{T:TypeId}{x:Operand}{k:IntKind}{n:Int}(h:aX C st T x=.av (.ak (.d (.int k n)))):Act.eval ⟨M,[]⟩ x=.int k n:=by
 have:=du S C T x;rw[h] at this;exact h' this
theorem F9(S:am O Y X D st M w){C:Ctx}{T:TypeId}{x:Operand}{b:Bool}(h:aX C st T x=.av (.ak (.d (.bool b)))):Act.eval ⟨M,[]⟩ x=.bool b:=by
 have:=du S C T x;rw[h] at this;exact jn this
theorem ahJ(S:am O Y X D st M w){C:Ctx}{T:TypeId}{x:Operand}{s:F}(h:aX C st T x=.av (.ak (.d (.str s)))):∃b:ByteArray,Act.eval ⟨M,[]⟩ x=.string b/\b.data.toList=s:=by
 have:=du S C T x;rw[h] at this;exact gm this
theorem _b{C:Ctx}(H:CtxOk P C){T:TypeId}{bK:List (Nat×Nat)}{n:Nat}{z:List aE}{eq:Bool}(be:C.tt T=.struct bK n z eq):(b8.struct bK n z eq).ok P T:=by
 have:=H.tt T;rwa[be] at this
theorem ZW(S:am O Y X D st M w){C:Ctx}(H:CtxOk P C){T:TypeId}{x:Operand}{f off Kd:Nat}{bK:List (Nat×Nat)}{n:Nat}{z:List aE}{eq:Bool}(be:C.tt T=.struct bK n z eq)(aC:B.op=.fieldAddr T x f)
  (Z:ce st B.dst=true) (hf:bK[f]? =some (off,Kd)):Holds (CW off (aX C st 0 x)) (cD P O Y X st M w B):=by
 obtain⟨fields,fr,⟨akW,ao6⟩,_⟩:=_b H be;obtain⟨Ys,h1,h2⟩:=ab4 _ akW hf;have h1':fields[f]? =some Ys:=by simpa using h1
 cases hi:P.info? Ys.type with
 |none=>simp[hi] at h2
 |some i=>
  simp only[hi,Option.map_some,Option.some.injEq,Prod.mk.injEq] at h2;have hsz:i.size≠0:=by rw[h2.2];exact ao6 (off,Kd) (List.mem_of_getElem? hf)
  have bq:=du S C 0 x;have run:∀{b p:Nat},Act.eval ⟨M,[]⟩ x=.pointer (some ⟨b,p,none⟩)->(execOp (Act.eval ⟨M,[]⟩) B).run P w=.ok (.value (.pointer (some ⟨b,p+off,none⟩))) w:=by
   intro b p hx;unfold execOp;simp only[aC,hx,Instr.fieldAt,Instr.sureAddr,Sem.run_bind,run_underlying fr,Result.andThen_ok,h1',Sem.run_pure,fieldPlace,sizeOf,kK hi,hsz,if_false,h2.1,gG]
  unfold CW;split
  ·rename_i o s p bZ;rw[bZ] at bq;obtain⟨b,aD,az⟩:=bq;exact Holds.ok (dC S Z (run aD) ⟨b,rfl,az⟩)
  ·rename_i cells p bZ;rw[bZ] at bq;obtain⟨b,q,aD,az⟩:=bq;refine Holds.ok (dC S Z (run aD) ⟨b,q,by rw[Nat.add_assoc],az⟩)
  ·rename_i o s t k p bZ;rw[bZ] at bq;obtain⟨b,aD,az⟩:=bq;exact Holds.ok (dC S Z (run aD) ⟨b,by rw[Nat.add_assoc],az⟩)
  ·exact .fail
end
section
variable {P:Program}{O:World}{Y:List Nat}{X:Nat->Prop}{D:Nat->Value}{st:ah}{M:Array Value}{w:World}{B:Oper}
theorem ac2(S:am O Y X D st M w){C:Ctx}(H:CtxOk P C){T:TypeId}{a x:Operand}{v:bL}(aC:B.op=.store T a x)(Z:ce st B.dst=true)(hk:(C.tt T).known=true)(hv:lT (aX C st T x)=some v):
  Holds (rV (C.tt T).size st (aX C st T a) v) (cD P O Y X st M w B):=by
 have hn:=Eo hk;have qF:=du S C T a;have hex:=du S C T x;rw[pq hv] at hex;have hex:gO D st.sites w (aw X D st.sites) v (Act.eval ⟨M,[]⟩ x):=hex;have run:∀{b p:Nat} {cur:List Value} {gj:TypeId} {u:Bool} {fz:Nat×Nat},Act.eval ⟨M,[]⟩ a=.pointer (some ⟨b,p,none⟩)->w.heap[b]? =some (.cells cur.toArray gj fz)->mA u gj cur.toArray fz->(Act.eval ⟨M,[]⟩ x).cells.toList.length=(C.tt T).size->
   p+(Act.eval ⟨M,[]⟩ x).cells.toList.length<=cur.length->(∀u∈(Act.eval ⟨M,[]⟩ x).cells.toList,u.oneCell'=true)->
   (execOp (Act.eval ⟨M,[]⟩) B).run P w=.ok .skip (w.setRow b (bF cur p (Act.eval ⟨M,[]⟩ x).cells.toList).toArray):=by
  intro b p cur gj u fz h1 h2 hz h3 ax bk;unfold execOp;simp only[aC,h1,Instr.storeAt,Instr.sureAddr,Sem.run_bind,Sem.run_pure,Result.andThen_ok,KX (H.tt T) hn h2 hz h3 ax bk]
 unfold rV;cases hlen:v.cells.length.beq (C.tt T).size with
 |false=>simp only[cond_false];exact .fail
 |true=>
  have uX:=Nat.eq_of_beq_eq_true hlen;simp only[cond_true];split
  ·rename_i o s off bZ;rw[bZ] at qF;split
   ·rename_i cells hb;cases hc:(Nat.ble (off+(C.tt T).size) cells.length&&gW v.cells) with
    |false=>simp only[cond_false];exact .fail
    |true=>
     simp only[cond_true];simp only[Bool.and_eq_true] at hc;have hle:=Nat.le_of_ble_eq_true hc.1;have hl:=hex.cells hc.2;obtain⟨b,gj,cur,h1,h2,h3,ca⟩:=S.ac4 (gA hb) qF hl (by rw[uX];exact hle) (hl.jl hc.2) hc.2
     exact Holds.fs (w3 (us:=[(o,.box s (bF cells off v.cells))]) ca Z (run (u:=false) h1 h2 ⟨(fun h=>by cases h),.inl rfl⟩ (by rw[hl.1];exact uX) h3 (hl.jl hc.2)))
   ·exact .fail
  ·rename_i o s u k off bZ;rw[bZ] at qF;split
   ·rename_i aG t xs gp;have r':look st.sites o=some (.row aG t xs):=gp;cases hc:(aG.beq s&&Nat.ble (off+(C.tt T).size) (aT t)&&decide (t=u)) with
    |false=>simp only[cond_false];exact .fail
    |true=>
     simp only[cond_true];simp only[Bool.and_eq_true,decide_eq_true_eq] at hc;obtain⟨⟨hc1,qH⟩,rfl⟩:=hc;have:=Nat.eq_of_beq_eq_true hc1;subst this;have hle:=Nat.le_of_ble_eq_true qH;split
     ·rename_i ds us gv;cases ks:(look us o).isNone with
      |false=>simp only[cond_false];exact .fail
      |true=>
       simp only[cond_true];refine Holds.hq fun h6 qq=>?_
       have vg:((xs[k]?).bind fun x=>dec t (bF (enc t x) off ds))=some h6:=qq
       cases I0:xs[k]? with
       |none=>rw[I0] at vg;cases vg
       |some wy=>
        rw[I0] at vg;have jV:dec t (bF (enc t wy) off ds)=some h6:=vg;have hfz:=Gb gv;have aV:kJ O Y X D st M w us:=⟨S,hfz⟩;have dG:gW v.cells=true:=by
         clear hlen uX qq vg jV ks hfz aV;revert gv
         generalize v.cells=ad;intro gv;induction ad generalizing ds us with
         |nil=>rfl
         |cons l ad ih=>
          simp only[fL] at gv;split at gv
          ·rename_i d Ye kw qT h1 h2;simp only[gW,Bool.and_eq_true];refine⟨?_,ih _ _ h2⟩;unfold jC at h1;split at h1<;>first|rfl|cases h1
          ·cases gv
        have hl:=hex.cells dG;have hr:=zr gv hl aV (fun p hp=>hp)
        have hdl:ds.length=(C.tt T).size:=by
         have:=hr.1;rw[hl.1] at this;omega
        have HS:look (bj st.sites us) o=some (.row aG t xs):=by
         rcases lr hfz o with h|⟨s2,t2,atb,h,af⟩
         ·rw[h];exact r'
         ·exfalso
          have:∀(us:List (Nat×Site)) (sites:List (Nat×Site)),look us o=none->look (bj sites us) o=look sites o:=by
           intro us;induction us with
           |nil=>intro sites _;rfl
           |cons p us ih=>
            obtain⟨aa,ab⟩:=p;intro sites AE;simp only[look] at AE;cases hb:aa.beq o with
            |true=>simp[hb] at AE
            |false=>
             simp only[hb,cond_false] at AE;simp only[bj];rw[ih _ AE,cV,if_neg];rintro rfl;simp at hb
          have h3:=this us st.sites (by simpa using ks)
          rw[af,r'] at h3;cases h3
        have ak9:=aV.go (a:=.av (.ak (.eR o aG t k off))) qF;obtain⟨b,gj,cur,fz,h1,h2,hz,h3,ca⟩:=aV.new.ac3 HS ak9 I0 (zq _ _ _ jV) hr (by rw[hdl];exact hle) (hl.jl dG)
        refine w3 (aI:=D) (us:=us++[(o,.row aG t (xs.set k h6))]) ?_ Z (run h1 h2 hz (by rw[hl.1];exact uX) h3 (hl.jl dG))
        rw[kL];exact ca
     ·exact .fail
   ·exact .fail
  ·exact .fail
theorem ZS(S:am O Y X D st M w){C:Ctx}(H:CtxOk P C){T e:TypeId}{t:aY}{bytes:Nat}{x i:Operand}{k:IntKind}{n:Int}(be:C.tt T=.slice e t bytes)(hi:aX C st 0 i=.av (.ak (.d (.int k n))))(aC:B.op=.indexAddr T x i)
  (Z:ce st B.dst=true):
  Holds (rf t st (aX C st T x) n) (cD P O Y X st M w B):=by
 obtain⟨fr,inf,z,kh,js,Jp,tc,hzs,_⟩:=w7 H be;have vk:=jM S hi;have bq:=du S C T x;have run:∀{a:Addr} {len cap:Nat},Act.eval ⟨M,[]⟩ x=.slice (some a) len cap->0<=n->n<len->(execOp (Act.eval ⟨M,[]⟩) B).run P w=.ok (.value (.pointer (some (a.add (n.toNat*aT t))))) w:=by
  intro a len cap hx h0 h1;unfold execOp;simp[aC,hx,vk,Instr.indexAt,asIntOf,run_underlying fr,h0,h1,sizeOf,kK kh,js]
 unfold rf;split
 ·rename_i u xs bZ;split;case isFalse=>exact .fail
  rename_i nO;subst nO;rw[bZ] at bq;have bq:bA w (aw X D st.sites) (.sl u xs) (Act.eval ⟨M,[]⟩ x):=bq;refine Holds.ek fun y hy=>?_
  have dU:aU xs n=some y:=hy;unfold aU at dU;split at dU
  ·rename_i h0;have hlt:n.toNat<xs.length:=by
    rcases Nat.lt_or_ge n.toNat xs.length with h|h
    ·exact h
    ·rw[List.getElem?_eq_none h] at dU;cases dU
   generalize hx:Act.eval ⟨M,[]⟩ x=v at bq;cases bq with
   |nil=>simp at hlt
   |sl _ _ a cap cs m hm hcap hb hl hc hr=>
    subst hm;have hne:xs≠[]:=by rintro rfl;simp at hlt
    have hrow:cT w (aw X D st.sites) (flat u xs) cs:=⟨hl,hr⟩;have kq:a.spot=none:=by
     have my:0<cs.length:=by rw[hl,eV];exact Nat.mul_pos (List.length_pos_iff.mpr hne) (lC u)
     have h1:=hc 0 cs[0] (List.getElem?_eq_getElem my);have h2:a.add 0=a:=by unfold Addr.add;simp
     rw[h2] at h1;unfold World.cell? at h1;split at h1
     ·cases hs:a.spot with
      |none=>rfl
      |some _=>simp[hs] at h1
     ·cases h1
    obtain⟨n6,Cl,ap7⟩:=a;simp only at kq;subst kq;have hcs:hP w n6 Cl cs:=fun j v hv=>by have:=hc j v hv;rwa[gG] at this
    refine dC S Z (run hx h0 (by omega)) ?_
    rw[gG];have iI:=tO u xs n.toNat y dU;have aiS:=(hcs.drop (n.toNat*aT u)).take (aT u);have jz:=((g' (D:=D) (sites:=st.sites) hl hr).drop (n.toNat*aT u)).take (aT u);have e2:((cx (flat u xs)).drop (n.toNat*aT u)).take (aT u)=cx (enc u y):=by
     rw[<-iI];simp[cx,List.map_drop,List.map_take]
    rw[e2] at jz;have dH:=iR jz;have hlt2:n6<w.heap.size:=by
     have my:0<cs.length:=by rw[hl,eV];exact Nat.mul_pos (List.length_pos_iff.mpr hne) (lC u)
     exact World.block_lt_of_cell? w _ (hcs 0 cs[0] (List.getElem?_eq_getElem my))
    exact⟨n6,Cl+n.toNat*aT u,by rw[Nat.add_zero],hb hne,hlt2,_,dH.1,aiS,dH.2⟩
  ·cases dU
 ·rename_i o s bZ;rw[bZ] at bq;split
  ·rename_i u xs hrow;split;case isFalse=>exact .fail
   rename_i nO;subst nO;refine Holds.ek fun y hy=>?_
   have dU:a6 xs.length n=some y:=hy;unfold a6 at dU;split at dU
   ·rename_i hb;cases dU;obtain⟨cs,hl,hcell⟩:=S.row hrow;have dG:∃ab,look st.sites o=some ab/\ab.cq=s:=by
     rcases jG hrow with h|h<;>exact⟨_,h,rfl⟩
    obtain⟨ab,iI,lg⟩:=dG;have hv:Act.eval ⟨M,[]⟩ x=D o:=Ref.at bq.2 iI lg;rcases hcell with⟨hn,nM⟩|⟨b,c,cM,W_,_⟩
    ·subst nM;simp at hb;omega
    ·refine dC S Z (run (by rw[hv];exact cM) hb.1 hb.2) ?_
     rw[gG,Nat.zero_add];exact⟨b,by rw[Nat.add_zero],Ref.mk iI lg ⟨_,_,cM⟩⟩
   ·cases dU
  ·exact .fail
 ·exact .fail
end
section
variable {P:Program}{O:World}{Y:List Nat}{X:Nat->Prop}{D:Nat->Value}{st:ah}{M:Array Value}{w:World}{B:Oper}
theorem Oi(S:am O Y X D st M w){C:Ctx}{cO:Option Operand}{k_ l:Int}(h:iy k_ (cO.map (aX C st 0))=some l):
  (cO=none/\l=k_)\/∃x k,cO=some x/\Act.eval ⟨M,[]⟩ x=.int k l:=by
 cases cO with
 |none=>simp only[Option.map_none,iy,Option.some.injEq] at h;exact .inl ⟨rfl,h.symm⟩
 |some x=>
  simp only[Option.map_some] at h;generalize hx:aX C st 0 x=v at h;unfold iy at h;split at h
  ·rename_i bZ;cases bZ
  ·rename_i k n bZ;cases h;cases bZ;exact .inr ⟨x,k,rfl,jM S hx⟩
  ·cases h
theorem m_(t:aY)(xs:List (den t))(n:Nat):flat t (xs.take n)=(flat t xs).take (n*aT t):=by
 rcases Nat.lt_or_ge xs.length n with h|h
 ·rw[List.take_of_length_le (Nat.le_of_lt h),List.take_of_length_le (by rw[eV];exact Nat.mul_le_mul_right _ (Nat.le_of_lt h))]
 ·have:=ra t (xs.take n) (xs.drop n);rw[List.take_append_drop] at this;rw[this,List.take_left' (by rw[eV,List.length_take,Nat.min_eq_left h])]
theorem M_(t:aY)(xs:List (den t))(n:Nat):flat t (xs.drop n)=(flat t xs).drop (n*aT t):=by
 rcases Nat.lt_or_ge xs.length n with h|h
 ·rw[List.drop_eq_nil_of_le (Nat.le_of_lt h),List.drop_eq_nil_of_le (by rw[eV];exact Nat.mul_le_mul_right _ (Nat.le_of_lt h))]
  rfl
 ·have:=ra t (xs.take n) (xs.drop n);rw[List.take_append_drop] at this;rw[this,List.drop_left' (by rw[eV,List.length_take,Nat.min_eq_left h])]
theorem CO{P:Program}{w:World}(isSlice:Bool)(len cap:Nat)(cO hi:Option Value)(l h:Int)(fN:(cO=none/\l=0)\/∃k,cO=some (.int k l))(hhi:(hi=none/\h=len)\/∃k,hi=some (.int k h))
  (h0:0<=l) (h1:l<=h) (h2:h<=len) (hc:len<=cap):(Instr.sliceBounds isSlice len cap cO hi none).run P w=.ok (l.toNat,h.toNat,cap) w:=by
 have bP:0<=h:=by omega
 have W4:h<=cap:=by omega
 have aoS:((h.toNat:Nat):Int)=h:=Int.toNat_of_nonneg bP;rcases fN with⟨rfl,rfl⟩|⟨k,rfl⟩<;>rcases hhi with⟨rfl,rfl⟩|⟨k',rfl⟩
 ·simp[Instr.sliceBounds]
 ·simp[Instr.sliceBounds,Instr.sliceBound,asIntOf,bP,W4]
 ·simp[Instr.sliceBounds,Instr.sliceBound,asIntOf,h0,h1]
 ·simp[Instr.sliceBounds,Instr.sliceBound,asIntOf,bP,W4,h0,aoS,h1]
theorem ac1(s:ByteArray)(l h:Nat)(h2:h<=s.size):(s.extract l h).data.toList=(s.data.toList.take h).drop l:=by
 rw[ByteArray.data_extract,Array.toList_extract];simp[List.extract_eq_take_drop,List.drop_take]
theorem P9{w:World}{av:Nat->Prop}{t:aY}{xs:List (den t)}{b B:Nat}{cs:List Value}(hb:xs≠[]->¬av b)(hr:cT w av (flat t xs) cs)(hc:hP w b B cs)(l h:Nat)(h1:l<=h)(h2:h<=xs.length)(a:Addr)(fg:Nat)(Xa:h-l<=fg)
  (ha:a=⟨b,B+l*aT t,none⟩\/l=h) (Xb:a.block=b):bA w av (.sl t ((xs.take h).drop l)) (.slice (some a) (h-l) fg):=by
 have hlen:((xs.take h).drop l).length=h-l:=by simp;omega
 by_cases WX:l=h
 ·subst WX;have:(xs.take l).drop l=[]:=List.eq_nil_of_length_eq_zero (by rw[hlen];omega)
  rw[this];exact .sl t [] a fg [] _ (by simp) Xa (fun hx=>absurd rfl hx) rfl (fun j u hu=>by simp at hu) (fun j h=>by simp[flat] at h)
 ·rcases ha with ha|ha
  ·subst ha;have hf:flat t ((xs.take h).drop l)=((flat t xs).take (h*aT t)).drop (l*aT t):=by
    rw[M_,m_]
   have jz:=((g' (D:=fun _=>undef) (sites:=[]) hr.1 hr.2).take (h*aT t)).drop (l*aT t)
   have e2:((cx (flat t xs)).take (h*aT t)).drop (l*aT t)=cx (flat t ((xs.take h).drop l)):=by
    rw[hf];simp[cx,List.map_drop,List.map_take]
   rw[e2] at jz;have dk:=iR jz;refine .sl t _ _ fg _ _ hlen.symm Xa (fun hx=>hb ?_) dk.1 (fun j u hu=>?_) dk.2
   ·rintro rfl;simp at hx
   ·rw[gG];exact((hc.take (h*aT t)).drop (l*aT t)) j u hu
  ·exact absurd ha WX
theorem Fm{w:World}{av:Nat->Prop}{t:aY}{xs:List (den t)}{a:Addr}{cs:List Value}(hb:xs≠[]->¬av a.block)(hr:cT w av (flat t xs) cs)(hc:∀j u,cs[j]? =some u->w.cell? (a.add j)=some u)
  (l h cap:Nat) (h1:l<=h) (h2:h<=xs.length) (hcap:xs.length<=cap):
  bA w av (.sl t ((xs.take h).drop l)) (.slice (if cap=l then some a else(some a).map (·.add (l*aT t))) (h-l) (cap-l)):=by
 by_cases hx:xs=[]
 ·subst hx;have:h=0:=by simpa using h2
  subst this;have hl0:l=0:=by omega
  subst hl0;have:((if cap=0 then some a else(some a).map (·.add (0*aT t))):Option Addr)=some a:=by
   split
   ·rfl
   ·simp[Addr.add]
  rw[this];exact .sl t [] a (cap-0) [] 0 rfl (by omega) (fun hx=>absurd rfl hx) rfl (fun j u hu=>by simp at hu) (fun j h=>by simp[flat] at h)
 ·have kq:a.spot=none:=by
   have my:0<cs.length:=by rw[hr.1,eV];exact Nat.mul_pos (List.length_pos_iff.mpr hx) (lC t)
   have h1:=hc 0 cs[0] (List.getElem?_eq_getElem my);have h2:a.add 0=a:=by unfold Addr.add;simp
   rw[h2] at h1;unfold World.cell? at h1;split at h1
   ·cases hs:a.spot with
    |none=>rfl
    |some _=>simp[hs] at h1
   ·cases h1
  obtain⟨n6,Cl,ap7⟩:=a;simp only at kq;subst kq;have hcs:hP w n6 Cl cs:=fun j v hv=>by have:=hc j v hv;rwa[gG] at this
  split
  ·rename_i e;exact P9 hb hr hcs l h h1 h2 _ _ (by omega) (.inr (by omega)) rfl
  ·simp only[Option.map_some,gG];exact P9 hb hr hcs l h h1 h2 _ _ (by omega) (.inl rfl) rfl
theorem My{v:aJ}{us mC:List (Nat×Site)}(e:bj st.sites us=bj st.sites mC)(h:cD P O Y X st M w B v us):cD P O Y X st M w B v mC:=by
 have:st.cP B.dst v mC=st.cP B.dst v us:=by cases B.dst<;>simp only[ah.cP,ah.ue,e]
 intro K Q bM;rw[this] at bM;exact h K Q bM
theorem ac7(S:am O Y X D st M w){C:Ctx}(H:CtxOk P C){T:TypeId}{x:Operand}{cO hi:Option Operand}(aC:B.op=.slice T x cO hi none)(Z:ce st B.dst=true):
  Holds (rY (C.tt T) st (aX C st T x) (cO.map (aX C st 0)) (hi.map (aX C st 0))) (cD P O Y X st M w B):=by
 have bq:=du S C T x;have qi:∀{cO:Option Operand} {k_ l:Int},iy k_ (cO.map (aX C st 0))=some l->(cO.map (Act.eval ⟨M,[]⟩)=none/\l=k_)\/∃k,cO.map (Act.eval ⟨M,[]⟩)=some (.int k l):=by
  intro cO k_ l h;rcases Oi S h with⟨rfl,af⟩|⟨x,k,rfl,af⟩
  ·exact .inl ⟨rfl,af⟩
  ·exact .inr ⟨k,by simp[af]⟩
 have runs:∀{vv:Value},(Instr.sliceAt T (Act.eval ⟨M,[]⟩ x) (cO.map (Act.eval ⟨M,[]⟩)) (hi.map (Act.eval ⟨M,[]⟩)) none).run P w=.ok vv w->(execOp (Act.eval ⟨M,[]⟩) B).run P w=.ok (.value vv) w:=by
  intro vv h;unfold execOp;simp only[aC,Option.map_none,Sem.run_bind,h,Result.andThen_ok,Sem.run_pure]
 have uP:∀{e:TypeId} {t:aY} {bytes:Nat} {a:Option Addr} {len cap:Nat} {l h:Int},C.tt T=.slice e t bytes->Act.eval ⟨M,[]⟩ x=.slice a len cap->iy 0 (cO.map (aX C st 0))=some l->iy len (hi.map (aX C st 0))=some h->
   0<=l->l<=h->h<=len->len<=cap->(execOp (Act.eval ⟨M,[]⟩) B).run P w=.ok (.value (.slice (if cap=l.toNat then a else a.map (·.add (l.toNat*aT t))) (h.toNat-l.toNat) (cap-l.toNat))) w:=by
  intro e t bytes a len cap l h be hx fN hhi h0 h1 h2 hc;obtain⟨fr,inf,z,kh,js,_⟩:=w7 H be;refine runs ?_
  have hb:=CO (P:=P) (w:=w) true len cap (cO.map (Act.eval ⟨M,[]⟩)) (hi.map (Act.eval ⟨M,[]⟩)) l h (qi fN) (qi hhi) h0 h1 h2 hc;simp only[Instr.sliceAt,Instr.slice,Sem.run_bind,run_underlying fr,Result.andThen_ok,hx,hb,sizeOf,kK kh,js,Sem.run_pure]
 unfold rY;split
 ·rename_i s bZ;rw[bZ] at bq;obtain⟨b,hx,hs⟩:=gm bq;split
  ·rename_i l h be fN hhi;have bE:=H.tt T;rw[be] at bE;refine Holds.ek fun r hr=>?_
   have dk:br s l h=some r:=hr;unfold br at dk;split at dk
   ·rename_i hb;obtain⟨h0,h1,h2⟩:=hb;cases dk;have hsz:s.length=b.size:=by rw[<-hs];rfl
    rw[hsz] at h2 hhi;refine dC S Z (vv:=.string (b.extract l.toNat h.toNat)) (runs ?_) (.str _ _ ?_)
    ·have hb:=CO (P:=P) (w:=w) false b.size b.size (cO.map (Act.eval ⟨M,[]⟩)) (hi.map (Act.eval ⟨M,[]⟩)) l h (qi fN) (qi hhi) h0 h1 h2 (Nat.le_refl _);simp[Instr.sliceAt,Instr.slice,run_underlying bE.1,hx,hb]
    ·rw[ac1 b _ _ (by omega),hs]
   ·cases dk
  ·exact .fail
 ·rename_i t xs bZ;rw[bZ] at bq;have bq:bA w (aw X D st.sites) (.sl t xs) (Act.eval ⟨M,[]⟩ x):=bq;split
  ·rename_i e u bytes l h be fN hhi;split;case isFalse=>exact .fail
   rename_i nO;subst nO;refine Holds.ek fun r hr=>?_
   have dk:br xs l h=some r:=hr;unfold br at dk;split at dk
   ·rename_i hb;obtain⟨h0,h1,h2⟩:=hb;cases dk;generalize hx:Act.eval ⟨M,[]⟩ x=v at bq;cases bq with
    |nil=>
     have bP:h=0:=by simp at h2;omega
     have hl:l=0:=by omega
     subst bP hl;refine dC S Z (uP be hx fN hhi h0 h1 h2 (Nat.le_refl _)) ?_
     simp only[List.take_nil,List.drop_nil];exact bA.nil t
    |sl _ _ a cap cs m hm hcap hb hl hc hr=>
     subst hm;refine dC S Z (uP be hx fN hhi h0 h1 h2 hcap) ?_
     exact Fm hb ⟨hl,hr⟩ hc l.toNat h.toNat cap (by omega) (by omega) hcap
   ·cases dk
  ·exact .fail
 ·rename_i t bZ;rw[bZ] at bq;have hx:Act.eval ⟨M,[]⟩ x=.slice none 0 0:=bq;split
  ·rename_i e u bytes l h be fN hhi;refine Holds.ek fun r hr=>?_
   have dk:br ([]:List (den t)) l h=some r:=hr;unfold br at dk;split at dk
   ·rename_i hb;obtain⟨h0,h1,h2⟩:=hb;cases dk;have bP:h=0:=by simp at h2;omega
    have hl:l=0:=by omega
    subst bP hl;refine dC S Z (uP be hx fN hhi h0 h1 h2 (Nat.le_refl _)) ?_
    simp only[List.take_nil,List.drop_nil];exact bA.nil t
   ·cases dk
  ·exact .fail
 ·rename_i o s bZ;rw[bZ] at bq;split
  ·rename_i t xs hrow;split
   ·rename_i e u bytes l h be fN hhi;split;case isFalse=>exact .fail
    rename_i nO;subst nO;refine Holds.hq fun r hr=>?_
    have dk:br xs l h=some r:=hr;unfold br at dk;split at dk
    ·rename_i hb;obtain⟨h0,h1,h2⟩:=hb;cases dk;refine My (us:=[(o,.db s t xs)]) (Oa hrow).symm ?_
     have hfz:dE st.sites [(o,.db s t xs)]:=by
      intro aa ab hm;simp only[List.mem_singleton,Prod.mk.injEq] at hm;obtain⟨rfl,rfl⟩:=hm;exact⟨s,t,xs,rfl,jG hrow⟩
     have aV:kJ O Y X D st M w [(o,.db s t xs)]:=⟨S,hfz⟩;have Ji:=Cq hfz (List.mem_singleton.2 rfl);obtain⟨dH,Rv⟩:=aV.new.sites o _ Ji;have hv:Act.eval ⟨M,[]⟩ x=D o:=by
      rcases jG hrow with h1|h1<;>exact Ref.at bq.2 h1 rfl
     generalize hx:D o=v at dH Rv;rw[hx] at hv;cases dH with
     |nil=>
      have bP:h=0:=by simp at h2;omega
      have hl:l=0:=by omega
      subst bP hl;refine kM (us:=[(o,.db s t [])]) aV.new Z (uP be hv fN hhi h0 h1 h2 (Nat.le_refl _)) ?_
      simp only[List.take_nil,List.drop_nil];exact bA.nil t
     |sl _ _ a cap cs m hm hcap hb hl hc hr=>
      subst hm;refine kM (us:=[(o,.db s t xs)]) aV.new Z (uP be hv fN hhi h0 h1 h2 hcap) ?_
      exact Fm hb ⟨hl,hr⟩ hc l.toNat h.toNat cap (by omega) (by omega) hcap
    ·cases dk
   ·exact .fail
  ·exact .fail
 ·exact .fail
end
section
variable {P:Program}{O:World}{Y:List Nat}{X:Nat->Prop}{D:Nat->Value}{st:ah}{M:Array Value}{w:World}{B:Oper}
theorem O'{av:Nat->Prop}{o s:Nat}{t:aY}{xs:List (den t)}{v:Value}(h:b_ D st.sites w av (bX (.own o s)) v)(hr:rowOf st o s=some ⟨t,xs⟩):v=D o:=by
 rcases jG hr with h1|h1<;>exact Ref.at h.2 h1 rfl
theorem Pf(S:am O Y X D st M w){l:aE}{v:Value}{t:aY}{es:List (F×den t)}(h:dO D st.sites w (aw X D st.sites) l v)(hm:mapOf st l=some ⟨t,es⟩):
  (v=.map none/\es=[])\/∃b,v=.map (some b)/\lL w b t es:=by
 unfold mapOf at hm;split at hm
 ·cases hm;have h:bA w (aw X D st.sites) (.map t es) v:=h;cases h with
  |vd=>exact .inl ⟨rfl,rfl⟩
  |map _ _ b hb hm=>exact .inr ⟨b,rfl,hm⟩
 ·rename_i o s;split at hm
  ·rename_i aG u tl hl;cases hb:aG.beq s with
   |false=>rw[hb] at hm;cases hm
   |true=>
    rw[hb] at hm;have hs:=Nat.eq_of_beq_eq_true hb;subst hs;cases hm;have hl:look st.sites o=some (.map aG _ es):=hl;have hv:v=D o:=Ref.at h.2 hl rfl;obtain⟨b,h1,h2⟩:=S.sites o _ hl;exact .inr ⟨b,hv.trans h1,h2⟩
  ·cases hm
 ·cases hm
theorem lL.size{b:Nat}{t:aY}{es:List (F×den t)}{arr:Array MapEntry}(h:mn arr=jO t es):arr.size=es.length:=by
 have:=congrArg List.length h;simpa[mn,jO] using this
theorem aht(S:am O Y X D st M w){C:Ctx}(H:CtxOk P C){T:TypeId}{x:Operand}(aC:B.op=.call {callee:=.builtin .len,args:=#[x],argTypes:=#[T]})(Z:ce st B.dst=true):
  Holds (sI (C.tt T) st (aX C st T x)) (cD P O Y X st M w B):=by
 have bq:=du S C T x;have bE:=H.tt T;have run:∀{vv:Value},(Builtin.len_ #[T] B.type #[Act.eval ⟨M,[]⟩ x]).run P w=.ok vv w->(execOp (Act.eval ⟨M,[]⟩) B).run P w=.ok (.value vv) w:=by
  intro vv h;unfold execOp;simp only[aC,resolve,invoke,builtin,Sem.run_bind,Sem.run_pure,Result.andThen_ok,List.map_toArray,List.map_cons,List.map_nil,h]
 unfold sI;split
 ·rename_i s be bZ;rw[bZ] at bq;rw[be] at bE;obtain⟨b,hx,hs⟩:=gm bq;refine Holds.ok (dC S Z (run (vv:=.int .i64 s.length) ?_) (.int _ _));have:s.length=b.size:=by rw[<-hs];rfl
  simp[Builtin.len_,hx,run_underlying bE.1,goInt,this]
 ·rename_i e t b u xs be bZ;rw[bZ] at bq;rw[be] at bE;have bq:bA w (aw X D st.sites) (.sl u xs) (Act.eval ⟨M,[]⟩ x):=bq;refine Holds.ok (dC S Z (run (vv:=.int .i64 xs.length) ?_) (.int _ _));generalize Act.eval ⟨M,[]⟩ x=v at bq;cases bq with
  |nil=>simp[Builtin.len_,run_underlying bE.1.1,goInt]
  |sl _ _ a cap cs n hn hcap hb hl hc hr=>simp[Builtin.len_,run_underlying bE.1.1,goInt,hn]
 ·rename_i e t b u be bZ;rw[bZ] at bq;rw[be] at bE;have hx:Act.eval ⟨M,[]⟩ x=.slice none 0 0:=bq;exact Holds.ok (dC S Z (run (vv:=.int .i64 0) (by simp[Builtin.len_,hx,run_underlying bE.1.1,goInt])) (.int _ _))
 ·rename_i e t b o s be bZ;rw[bZ] at bq;rw[be] at bE;split
  ·rename_i u xs hrow;have hv:=O' bq hrow;refine Holds.ok (dC S Z (run (vv:=.int .i64 xs.length) ?_) (.int _ _));obtain⟨cs,_,hc⟩:=S.row hrow;rcases hc with⟨h1,h2⟩|⟨bH,c,h1,_⟩
   ·subst h2;simp[Builtin.len_,hv,h1,run_underlying bE.1.1,goInt]
   ·simp[Builtin.len_,hv,h1,run_underlying bE.1.1,goInt]
  ·exact .fail
 ·rename_i hJ kF u l be bZ;rw[bZ] at bq;rw[be] at bE;split
  ·rename_i cn es hm;refine Holds.ok (dC S Z (run (vv:=.int .i64 es.length) ?_) (.int _ _));rcases Pf S bq hm with⟨h1,rfl⟩|⟨b,h1,arr,c,h2,h3⟩
   ·simp[Builtin.len_,h1,run_underlying bE.1.1,goInt]
   ·have hsz:=lL.size (b:=b) h3;simp[Builtin.len_,h1,run_underlying bE.1.1,goInt,MapKept.run_getObj_map h2,hsz,Result.andThen]
  ·exact .fail
 ·exact .fail
theorem ad2(S:am O Y X D st M w){C:Ctx}(H:CtxOk P C){T:TypeId}{x i:Operand}{s:F}{k:IntKind}{n:Int}(aC:B.op=.index T x i)(Z:ce st B.dst=true)(be:C.tt T=.str)
  (hx:aX C st T x=.av (.ak (.d (.str s)))) (hi:aX C st 0 i=.av (.ak (.d (.int k n)))):Holds (.ek (aU s n) fun b=>one (.int .u8 b.toNat)) (cD P O Y X st M w B):=by
 have bE:=H.tt T;rw[be] at bE;obtain⟨b,hb,hs⟩:=ahJ S hx;have hn:=jM S hi;refine Holds.ek fun y hy=>?_
 have dU:aU s n=some y:=hy;unfold aU at dU;split at dU
 ·rename_i h0;refine dC S Z (vv:=.int .u8 y.toNat) ?_ (.int _ _);have sM:b[n.toNat]? =some y:=by
   have:n.toNat<s.length:=by
    rcases Nat.lt_or_ge n.toNat s.length with h|h
    ·exact h
    ·rw[List.getElem?_eq_none h] at dU;cases dU
   rw[<-hs] at dU this;have hsz:n.toNat<b.size:=this;rw[getElem?_pos b n.toNat hsz];rw[List.getElem?_eq_getElem this] at dU;have h3:b.data[n.toNat]=y:=by simpa using dU
   rw[<-h3];rfl
  unfold execOp;simp[aC,hb,hn,Instr.index,asIntOf,run_underlying bE.1,h0,sM]
 ·cases dU
theorem bytes_beq(x y:ByteArray):(x==y)=(x.data.toList==y.data.toList):=by
 obtain⟨a⟩:=x;obtain⟨b⟩:=y;have h:((⟨a⟩:ByteArray)==⟨b⟩)=(a==b):=rfl;rw[h,Bool.eq_iff_iff];simp
theorem aec:∀{z ad:List aE} {vs:List Value},qk z ad=true->cr D st.sites w (aw X D st.sites) ad vs->oP z vs=true:=by
 intro z;induction z with
 |nil=>
  intro ad vs h h1;cases ad with
  |nil=>rw[h1.nj];rfl
  |cons l ad=>cases h
 |cons c z ih=>
  intro ad vs h h1;unfold qk at h;split at h
  ·rename_i hz;cases hz
  ·rename_i bZ;cases bZ;obtain⟨v,ch,rfl,a1,a2⟩:=h1.inv;rw[h' a1];exact ih h a2
  ·rename_i bZ;cases bZ;obtain⟨v,ch,rfl,a1,a2⟩:=h1.inv;rw[jn a1];exact ih h a2
  ·rename_i bZ;cases bZ;obtain⟨v,ch,rfl,a1,a2⟩:=h1.inv;obtain⟨x,rfl,hx⟩:=gm a1;exact ih h a2
  ·cases h
theorem _L:∀{ad iL:List aE} {vs us:List Value} {b:Bool},uy ad iL=some b->cr D st.sites w (aw X D st.sites) ad vs->cr D st.sites w (aw X D st.sites) iL us->jk vs us=some b:=by
 have leaf:∀{d e:aZ} {v u:Value} {b:Bool} {av:Nat->Prop},zV d e=some b->bA w av d v->bA w av e u->nh v u=some b:=by
  intro d e v u b av h h1 h2;unfold zV at h;split at h
  ·rw[h' h1,h' h2];exact h
  ·rw[jn h1,jn h2];exact h
  ·obtain⟨x,rfl,hx⟩:=gm h1;obtain⟨y,rfl,hy⟩:=gm h2;subst hx hy;cases h;show some (x==y)=some (x.data.toList==y.data.toList);rw[bytes_beq]
  ·cases h
 intro ad;induction ad with
 |nil=>intro iL vs us b h _ _;cases iL<;>simp[uy] at h
 |cons l ad ih=>
  intro iL vs us b h h1 h2;obtain⟨v,ch,rfl,a1,a2⟩:=h1.inv;unfold uy at h;split at h
  ·rename_i d e bZ;cases bZ;obtain⟨u,mC,rfl,b1,b2⟩:=h2.inv;rw[a2.nj,b2.nj];exact leaf h a1 b1
  ·rename_i d ds e es hne bZ;cases bZ;obtain⟨u,mC,rfl,b1,b2⟩:=h2.inv;split at h
   ·rename_i x y hx hy;cases h;have e1:=leaf hx a1 b1;have e2:=ih hy a2 b2;match ch,mC,e2 with
    |[],[],e2=>simp[jk] at e2
    |[],_::_,e2=>simp[jk] at e2
    |_::_,[],e2=>simp[jk] at e2
    |v2::atc,u2::atd,e2=>rw[jk,e1,e2];simp
   ·cases h
  ·cases h
theorem run_equal_bool{T:TypeId}(h:P.underlying T=some .bool)(a b:Bool):(Op.equal T (.bool a) (.bool b)).run P w=.ok (a==b) w:=by
 have e:Op.maxDepth=9999+1:=rfl;unfold Op.equal;rw[e];unfold Op.equalIn;simp only[Sem.run_bind,run_underlying h,Result.andThen_ok,Sem.run_pure]
theorem run_eql_bool{T:TypeId}(h:P.underlying T=some .bool)(a b:Bool):(binOp .eql T (.bool a) (.bool b)).run P w=.ok (.bool (a==b)) w:=by
 show((do pure (.bool (<-Op.equal T (.bool a) (.bool b)))):Sem Value).run P w=_
 simp only[Sem.run_bind,run_equal_bool h,Result.andThen_ok,Sem.run_pure]
theorem run_neq_bool{T:TypeId}(h:P.underlying T=some .bool)(a b:Bool):(binOp .neq T (.bool a) (.bool b)).run P w=.ok (.bool (!(a==b))) w:=by
 show((do pure (.bool (!(<-Op.equal T (.bool a) (.bool b))))):Sem Value).run P w=_
 simp only[Sem.run_bind,run_equal_bool h,Result.andThen_ok,Sem.run_pure]
theorem agk(S:am O Y X D st M w){C:Ctx}(H:CtxOk P C){op:BinOp}{T mP:TypeId}{x y:Operand}(aC:B.op=.binOp op T x y mP)(Z:ce st B.dst=true):
  Holds (H7 op (C.tt T) (aX C st T x) (aX C st T y)) (cD P O Y X st M w B):=by
 have hx:=du S C T x;have hy:=du S C T y;have bE:=H.tt T;have run:∀{vv:Value},(eqGuard op T x y (Act.eval ⟨M,[]⟩ x) (Act.eval ⟨M,[]⟩ y)).run P w=.ok () w->(binOp op T (Act.eval ⟨M,[]⟩ x) (Act.eval ⟨M,[]⟩ y)).run P w=.ok vv w->
   (execOp (Act.eval ⟨M,[]⟩) B).run P w=.ok (.value vv) w:=by
  intro vv h1 h2;unfold execOp;simp only[aC,Sem.run_bind,h1,h2,Result.andThen_ok,Sem.run_pure]
 have plain:∀{r:c'},(eqGuard op T x y (Act.eval ⟨M,[]⟩ x) (Act.eval ⟨M,[]⟩ y)).run P w=.ok () w->Holds r (Plain P w (binOp op T (Act.eval ⟨M,[]⟩ x) (Act.eval ⟨M,[]⟩ y)))->Holds r (cD P O Y X st M w B):=by
  intro r h1 h2 z hz hc;obtain⟨vv,d,g1,g2,g3,g4⟩:=h2 z hz hc;rw[g2,g3];exact dC S Z (run h1 g1) (g4 _)
 unfold H7;split
 ·rename_i k a k' b hxe hye;rw[hxe] at hx;rw[hye] at hy;refine plain (by rw[h' hx,h' hy];exact YY _ _ _ _ _ _ _ _) ?_
  rw[h' hx,h' hy];unfold Qr;split
  ·refine Holds.ek fun n hn=>?_
   have ik:k6 k a b=some n:=hn;unfold k6 at ik;split at ik
   ·cases ik
   ·rename_i hb;cases ik;exact .mk (by simp[binOp,Op.shift,hb]) fun av=>.int _ _
  ·refine Holds.ek fun n hn=>?_
   have ik:e6 k a b=some n:=hn;unfold e6 at ik;split at ik
   ·cases ik
   ·rename_i hb;cases ik;exact .mk (by simp[binOp,Op.shift,hb]) fun av=>.int _ _
  ·rename_i h1 h2;split
   ·rename_i hk;subst hk;exact abo _ T k a b h1 h2
   ·exact .fail
 ·rename_i s t hxe hye;rw[hxe] at hx;rw[hye] at hy;obtain⟨a,ha,hs⟩:=gm hx;obtain⟨b,hb,ap⟩:=gm hy;subst hs ap;refine plain (by rw[ha,hb];exact YK _ _ _ _ _ _) ?_
  rw[ha,hb];exact abm op T a b
 ·rename_i a b hxe hye;rw[hxe] at hx;rw[hye] at hy;unfold QQ;split
  ·rename_i be;rw[be] at bE;split
   ·refine plain (by rw[jn hx,jn hy];exact KW _ _ _ _ _ _) (Holds.ok ?_)
    rw[jn hx,jn hy];exact .mk (run_eql_bool bE.1 _ _) fun av=>.bool _
   ·refine plain (by rw[jn hx,jn hy];exact KW _ _ _ _ _ _) (Holds.ok ?_)
    rw[jn hx,jn hy];exact .mk (run_neq_bool bE.1 _ _) fun av=>.bool _
   ·exact .fail
  ·exact .fail
 ·rename_i xs bd hxe hye;rw[hxe] at hx;rw[hye] at hy;unfold RA;split
  ·rename_i bK n z be;rw[be] at bE;cases hl:xs.length.beq n&&qk z xs with
   |false=>exact .fail
   |true=>
    simp only[cond_true];simp only[Bool.and_eq_true] at hl;have f':=Nat.eq_of_beq_eq_true hl.1;split
    ·rename_i b hb;obtain⟨vs,hv,oX,oW⟩:=hx;obtain⟨us,hu,I5,I4⟩:=hy;have tf:=_L hb ⟨oX,oW⟩ ⟨I5,I4⟩;obtain⟨fields,fr,_,⟨fO,hz,_,_⟩,bZ⟩:=bE;obtain⟨hg,HT⟩:=bZ rfl;have:=HT vs us b w tf (aec hl.2 ⟨oX,oW⟩);split
     ·refine plain ?_ (Holds.ok ?_)
      ·rw[hv,hu];simp[eqGuard,hg]
      ·rw[hv,hu];refine .mk (vv:=.bool b) ?_ fun av=>.bool _
       show((do pure (.bool (<-Op.equal T (.agg vs.toArray) (.agg us.toArray)))):Sem Value).run P w=_
       simp only[Sem.run_bind,this,Result.andThen_ok,Sem.run_pure]
     ·refine plain ?_ (Holds.ok ?_)
      ·rw[hv,hu];simp[eqGuard,hg]
      ·rw[hv,hu];refine .mk (vv:=.bool (!b)) ?_ fun av=>.bool _
       show((do pure (.bool (!(<-Op.equal T (.agg vs.toArray) (.agg us.toArray))))):Sem Value).run P w=_
       simp only[Sem.run_bind,this,Result.andThen_ok,Sem.run_pure]
     ·exact .fail
    ·exact .fail
  ·exact .fail
 ·exact .fail
theorem ZE{T:TypeId}{iL:Array (String×TypeId)}(ap:P.underlying T=some (.interface iL))(gj:TypeId)(cU:Option Int)(v:Value)(hv:v=match cU with|none=>.nilIface|some n=>.iface gj (.agg #[.int .i64 n])):
  (Op.equal T v .nilIface).run P w=.ok cU.isNone w:=by
 have h:∀d:Nat,(Op.equalIn (d+1) T v .nilIface).run P w=.ok cU.isNone w:=fun d=>by
  subst hv;cases cU<;>simp[Op.equalIn,run_underlying ap]
 exact h 9999
theorem acq(S:am O Y X D st M w){C:Ctx}(H:CtxOk P C){op:BinOp}{T mP:TypeId}{x y:Operand}(aC:B.op=.binOp op T x y mP)(Z:ce st B.dst=true)(hn:zX y=true):
  Holds (GY op (C.tt T) (aX C st T x)) (cD P O Y X st M w B):=by
 have hy:y=.const .nilIface:=by
  unfold zX at hn;split at hn
  ·rfl
  ·cases hn
 subst hy;have hx:=du S C T x;have bE:=H.tt T;have key:∀(gj:TypeId) (cU:Option Int),(Act.eval ⟨M,[]⟩ x=match cU with|none=>.nilIface|some n=>.iface gj (.agg #[.int .i64 n]))->Holds (AK op (C.tt T) cU) (cD P O Y X st M w B):=by
  intro gj cU hv;unfold AK;split
  ·rename_i be;rw[be] at bE;obtain⟨iL,bE⟩:=bE;have he:=ZE (P:=P) (w:=w) bE.1 gj cU _ hv;have hg:(eqGuard op T x (.const .nilIface) (Act.eval ⟨M,[]⟩ x) .nilIface).run P w=.ok () w:=by
    rw[hv];cases cU<;>cases op<;>simp[eqGuard]
   split
   ·refine Holds.ok (dC S Z (vv:=.bool cU.isNone) ?_ (.bool _));unfold execOp;simp only[aC,Act.eval,Sem.run_bind,Result.andThen_ok,Sem.run_pure] at hg ⊢;rw[hg];simp only[Result.andThen_ok];have:(binOp .eql T (Act.eval ⟨M,[]⟩ x) .nilIface).run P w=.ok (.bool cU.isNone) w:=by
     have e:binOp .eql T (Act.eval ⟨M,[]⟩ x) .nilIface=(do pure (.bool (<-Op.equal T (Act.eval ⟨M,[]⟩ x) .nilIface))):=by rw[hv];cases cU<;>rfl
     rw[e];simp only[Sem.run_bind,he,Result.andThen_ok,Sem.run_pure]
    simp only[Act.eval] at this;rw[this];rfl
   ·refine Holds.ok (dC S Z (vv:=.bool cU.isSome) ?_ (.bool _));unfold execOp;simp only[aC,Act.eval,Sem.run_bind,Result.andThen_ok,Sem.run_pure] at hg ⊢;rw[hg];simp only[Result.andThen_ok];have:(binOp .neq T (Act.eval ⟨M,[]⟩ x) .nilIface).run P w=.ok (.bool cU.isSome) w:=by
     have e:binOp .neq T (Act.eval ⟨M,[]⟩ x) .nilIface=(do pure (.bool (!(<-Op.equal T (Act.eval ⟨M,[]⟩ x) .nilIface)))):=by rw[hv];cases cU<;>rfl
     rw[e];simp only[Sem.run_bind,he,Result.andThen_ok,Sem.run_pure];cases cU<;>rfl
    simp only[Act.eval] at this;rw[this];rfl
   ·exact .fail
  ·exact .fail
 unfold GY;split
 ·rename_i gj cU hxe;rw[hxe] at hx;have hx:bA w (aw X D st.sites) (.err gj cU) (Act.eval ⟨M,[]⟩ x):=hx;exact key gj cU (by revert hx;generalize Act.eval ⟨M,[]⟩ x=vv;intro hx;cases hx<;>rfl)
 ·rename_i hxe;rw[hxe] at hx;exact key 0 none hx
 ·exact .fail
theorem YP(S:am O Y X D st M w){C:Ctx}(H:CtxOk P C){T:TypeId}{x:Operand}{n:Int}{bK z q e}(aC:B.op=.makeInterface T x)(Z:ce st B.dst=true)(be:C.tt T=.struct bK q z e)
  (hx:aX C st T x=.av (.agg [.d (.int .i64 n)])):cD P O Y X st M w B (one (.err T (some n))) []:=by
 have bE:=H.tt T;rw[be] at bE;obtain⟨fields,hu,_⟩:=bE;have bq:=du S C T x;rw[hx] at bq;obtain⟨vs,h1,h2,h3⟩:=bq;match vs,h2,h1,h3 with
 |[v],_,h1,h3=>
  have hv:=h' (h3 0 (by simp) (by simp))
  simp only[List.getElem_cons_zero] at hv;subst hv;refine dC S Z (vv:=.iface T (.agg #[.int .i64 n])) ?_ (.err _ _);unfold execOp;simp[aC,Instr.makeInterface,run_underlying hu,h1]
end
section
variable {P:Program}{O:World}{Y:List Nat}{X:Nat->Prop}{D:Nat->Value}{st:ah}{M:Array Value}{w:World}{B:Oper}
theorem rR(xs:List Int):flat .u8 xs=xs.map (aZ.int .u8):=by
 unfold flat;induction xs with
 |nil=>rfl
 |cons x xs ih=>simp only[List.flatMap_cons,List.map_cons,ih];rfl
theorem P8{w:World}{av:Nat->Prop}{xs:List Int}{cs:List Value}(h:cT w av (flat .u8 xs) cs):cs=xs.map (Value.int .u8):=by
 obtain⟨h1,h2⟩:=h;rw[rR] at h1;apply List.ext_getElem
 ·rw[h1];simp
 ·intro j g1 g2;have g3:j<xs.length:=by simpa using g2
  have:=h2 j (by rw[rR];simpa using g3) g1
  have e:(flat .u8 xs)[j]'(by rw[rR];simpa using g3)=aZ.int .u8 xs[j]:=by simp[rR]
  rw[e] at this;rw[h' this];simp
theorem K8{src dst e:TypeId}{a:Addr}{len cap:Nat}{xs:List Int}(hs:P.underlying src=some (.slice e))(he:P.underlying e=some (.int .u8))(Z:P.underlying dst=some .string)
  (hlen:xs.length=len) (hc:∀j u,(xs.map (Value.int .u8))[j]? =some u->w.cell? (a.add j)=some u):
  ∃b:ByteArray,(convert src dst (.slice (some a) len cap)).run P w=.ok (.string b) w/\b.data.toList=strOf xs:=by
 have hl:(loadCells a len).run P w=.ok (xs.map (Value.int .u8)).toArray w:=by
  have:=run_loadCells_list (P:=P) w a (xs.map (Value.int .u8)) hc;simpa[hlen] using this
 rw[run_convert_bytes_string w src dst e _ len cap hs he Z,run_bytesToString w a len cap xs hl,foldl_push_bytes];exact⟨_,rfl,by simp[strOf]⟩
theorem xd{ti:b8}(h:isByte ti=true):ti=.int .u8:=by
 unfold isByte at h;split at h
 ·rfl
 ·cases h
theorem acz(s:F):(bytesOf s).length=s.length:=by simp[bytesOf]
theorem aen(S:am O Y X D st M w){C:Ctx}(H:CtxOk P C){src dst:TypeId}{x:Operand}{o:Nat}(aC:B.op=.convert src dst x)(dv:B.dst=some o)(Z:ce st B.dst=true):
  Holds (sA C src dst o st (aX C st src x)) (cD P O Y X st M w B):=by
 have bq:=du S C src x;have hs:=H.tt src;have ap:=H.tt dst;have run:∀{vv:Value} {w':World},(convert src dst (Act.eval ⟨M,[]⟩ x)).run P w=.ok vv w'->(execOp (Act.eval ⟨M,[]⟩) B).run P w=.ok (.value vv) w':=by
  intro vv w' h;unfold execOp;simp only[aC,Sem.run_bind,h,Result.andThen_ok,Sem.run_pure]
 have qn:∀{ti:b8},ti.ok P src->ti≠.none->∃d,P.underlying src=some d:=by
  intro ti h hn;cases ti with
  |none=>exact absurd rfl hn
  |int k=>exact⟨_,h.1⟩
  |bool=>exact⟨_,h.1⟩
  |str=>exact⟨_,h.1⟩
  |ptr=>obtain⟨_,h⟩:=h;exact⟨_,h.1⟩
  |func=>obtain⟨_,_,_,h⟩:=h;exact⟨_,h.1⟩
  |iface=>obtain⟨_,h⟩:=h;exact⟨_,h.1⟩
  |slice e t b=>exact⟨_,h.1.1⟩
  |map k e t=>exact⟨_,h.1.1⟩
  |struct bK n z eq=>obtain⟨f,h,_⟩:=h;exact⟨_,h⟩
  |arr e t n=>exact⟨_,h.1⟩
 unfold sA;split
 ·exact .fail
 ·rename_i k k' n hk hx hn;rw[hx] at bq;rw[hk] at ap;obtain⟨d,qG⟩:=qn hs (by rintro h;exact absurd h (by simpa using hn))
  refine Holds.ok (dC S Z (run (vv:=.int k (k.wrap n)) ?_) (.int _ _));rw[h' bq];simp[convert,run_underlying qG,run_underlying ap.1,Conv.intToInt]
 ·rename_i s hk hx hn;rw[hx] at bq;rw[hk] at ap;obtain⟨b,hb,en⟩:=gm bq;obtain⟨d,qG⟩:=qn hs (by rintro h;exact absurd h (by simpa using hn))
  refine Holds.ok (dC S Z (run (vv:=.string b) ?_) (.str _ _ en));rw[hb];simp[convert,run_underlying qG,run_underlying ap.1]
 ·rename_i e b xs e9 p2 hx;cases jB:isByte (C.tt e) with
  |false=>exact .fail
  |true=>
   rw[hx] at bq;rw[p2] at ap;rw[e9] at hs;have he:=H.tt e;rw[xd jB] at he;have bq:bA w (aw X D st.sites) (.sl .u8 xs) (Act.eval ⟨M,[]⟩ x):=bq;have:∃b:ByteArray,(convert src dst (Act.eval ⟨M,[]⟩ x)).run P w=.ok (.string b) w/\b.data.toList=strOf xs:=by
    generalize Act.eval ⟨M,[]⟩ x=v at bq;cases bq with
    |nil=>exact⟨_,run_convert_bytes_nil w src e hs.1.1 he.1 _ _ dst ap.1,rfl⟩
    |sl _ _ a cap cs n hn hcap hb hl hc hr=>
     have:=P8 (xs:=xs) ⟨hl,hr⟩;subst this;exact K8 hs.1.1 he.1 ap.1 hn.symm hc
   obtain⟨b,h1,h2⟩:=this;exact Holds.ok (dC S Z (run h1) (.str _ _ h2))
 ·rename_i e b u e9 p2 hx;cases jB:isByte (C.tt e) with
  |false=>exact .fail
  |true=>
   rw[hx] at bq;rw[p2] at ap;rw[e9] at hs;have he:=H.tt e;rw[xd jB] at he;have bq:Act.eval ⟨M,[]⟩ x=.slice none 0 0:=bq;refine Holds.ok (dC S Z (run (vv:=.string ByteArray.empty) ?_) (.str _ _ rfl));rw[bq];exact run_convert_bytes_nil w src e hs.1.1 he.1 _ _ dst ap.1
 ·rename_i e b aa s e9 p2 hx;split
  ·rename_i xs hrow;cases jB:isByte (C.tt e) with
   |false=>exact .fail
   |true=>
    rw[hx] at bq;rw[p2] at ap;rw[e9] at hs;have he:=H.tt e;rw[xd jB] at he;have hv:=O' bq hrow;have:∃b:ByteArray,(convert src dst (Act.eval ⟨M,[]⟩ x)).run P w=.ok (.string b) w/\b.data.toList=strOf xs:=by
     rw[hv];obtain⟨cs,h1,hc⟩:=S.row hrow;rcases hc with⟨h2,h3⟩|⟨bH,c,h2,h3,ax⟩
     ·subst h3;rw[h2];exact⟨_,run_convert_bytes_nil w src e hs.1.1 he.1 _ _ dst ap.1,rfl⟩
     ·have:=P8 (xs:=xs) (iR h1);subst this;rw[h2];exact K8 hs.1.1 he.1 ap.1 rfl (fun j u hu=>by rw[gG];exact h3 j u hu)
    obtain⟨b,h1,h2⟩:=this;exact Holds.ok (dC S Z (run h1) (.str _ _ h2))
  ·exact .fail
 ·rename_i e b s e9 p2 hx;cases jB:isByte (C.tt e) with
  |false=>exact .fail
  |true=>
   rw[hx] at bq;rw[p2] at ap;rw[e9] at hs;have he:=H.tt e;rw[xd jB] at he;obtain⟨gz,hb,en⟩:=gm bq;have di:(convert src dst (Act.eval ⟨M,[]⟩ x)).run P w=.ok (.slice (some ⟨w.heap.size,0,none⟩) gz.size (grownCap w gz.size 0 e)) (Go.Lib.bytesWorld w e gz):=by
    rw[hb];exact Go.Lib.run_convert_string_bytes w src dst e gz hs.1 ap.1.1 he.1
   have hcap:gz.size<=grownCap w gz.size 0 e:=grownCap_ge w gz.size 0 e;refine Holds.hq fun r hr=>?_
   have hmax:gz.size<=maxLen:=by
    have hr:(if s.length<=maxLen then some () else none)=some r:=hr
    split at hr
    ·rename_i h;rw[<-en] at h;simpa using h
    ·cases hr
   have hsz:(Go.Lib.bytesCells w e gz).size=grownCap w gz.size 0 e:=by
    simp only[Go.Lib.bytesCells,Array.size_append,Array.size_map,Array.size_replicate];have:gz.data.size=gz.size:=rfl;omega
   have hlen:gz.size=(bytesOf s).length:=by rw[acz,<-en];rfl
   have ey:am O Y X (fun aa=>if aa=o then .slice (some ⟨w.heap.size,0,none⟩) gz.size (grownCap w gz.size 0 e) else D aa) {st with sites:=ci st.sites o (.row (bl st o) .u8 (bytesOf s))} M (Go.Lib.bytesWorld w e gz):=by
    refine S.make (fun b hb=>Go.Lib.bytesWorld_at_old w e gz b hb) rfl rfl rfl (by rw[Go.Lib.bytesWorld_size];omega) (fun ab hs=>ls hs)
     (fun b hb=>by cases hb;exact⟨Nat.le_refl _,by rw[Go.Lib.bytesWorld_size];exact Nat.lt_succ_self _⟩) ?_
    intro bS aI fC jT go asD asK;refine⟨e,gz.data.toList.map fun b=>Value.int .u8 b.toNat,⟨?_,.inr ⟨_,_,Go.Lib.bytesCells w e gz,_,jT.trans (by rw[hlen]),⟨(fun h=>by obtain⟨_,z,_,_,gx⟩:=ap;exact gx h),.inr ⟨rfl,Nat.le_refl _⟩⟩,Go.Lib.bytesWorld_at_new w e gz,by rw[<-hlen];exact hcap,grownCap_le_maxLen w gz.size 0 e hmax,?_,?_⟩⟩,fun j g1 g2=>?_⟩
    ·rw[List.length_map,<-hlen];exact(Nat.mul_one _).symm
    ·rw[hsz];exact(Nat.mul_one _).symm
    ·have h1:(bytesOf s).length*aT .u8=(gz.data.toList.map fun b=>Value.int .u8 b.toNat).length:=by rw[List.length_map,<-hlen];exact Nat.mul_one _
     rw[h1];simp only[Go.Lib.bytesCells,Array.toList_append,Array.toList_map];exact List.take_left
    ·subst en;simp only[rR,bytesOf,List.getElem_map];exact .int _ _
   refine kM (us:=[(o,.row (bl st o) .u8 (bytesOf s))]) ey Z (run di) ?_
   refine⟨rfl,Ref.mk (ab:=.row (bl st o) .u8 (bytesOf s)) ?_ rfl (by simp)⟩
   simp only[bj,cV];simp
 ·exact .fail
end
section
variable {P:Program}{O:World}{Y:List Nat}{X:Nat->Prop}{D:Nat->Value}{st:ah}{M:Array Value}{w:World}{B:Oper}
theorem Pd(S:am O Y X D st M w){C:Ctx}{x:Operand}(aC:B.op=.move x\/B.op=.assign x)(Z:ce st B.dst=true)(T:TypeId):cD P O Y X st M w B (aX C st T x) []:=by
 refine dC S Z (vv:=Act.eval ⟨M,[]⟩ x) ?_ (du S C T x);unfold execOp;rcases aC with h|h<;>simp only[h,Sem.run_pure]
theorem O8(S:am O Y X D st M w){C:Ctx}{c a b:Operand}{t:Bool}{T:TypeId}(aC:B.op=.pick c a b)(Z:ce st B.dst=true)(hc:aX C st T c=.av (.ak (.d (.bool t)))):
  cD P O Y X st M w B (aX C st T (if t then a else b)) []:=by
 refine dC S Z (vv:=Act.eval ⟨M,[]⟩ (if t then a else b)) ?_ (du S C T _)
 unfold execOp;have:=F9 S hc;cases t<;>simp[aC,this,asBool]
theorem Z9(S:am O Y X D st M w){C:Ctx}{x:Operand}{t:Bool}{T dL:TypeId}(aC:B.op=.unOp .not dL x)(Z:ce st B.dst=true)(hc:aX C st T x=.av (.ak (.d (.bool t)))):
  cD P O Y X st M w B (one (.bool (!t))) []:=by
 refine dC S Z (vv:=.bool (!t)) ?_ (.bool _);unfold execOp;simp[aC,F9 S hc,Op.unary]
theorem Z_(S:am O Y X D st M w){C:Ctx}{x:Operand}{k:IntKind}{n:Int}{T dL:TypeId}(aC:B.op=.unOp .neg dL x)(Z:ce st B.dst=true)(hc:aX C st T x=.av (.ak (.d (.int k n)))):
  cD P O Y X st M w B (one (.int k (k.wrap (0-n)))) []:=by
 refine dC S Z (vv:=.int k (k.wrap (0-n))) ?_ (.int _ _);unfold execOp;simp[aC,jM S hc,Op.unary,Op.intArith]
theorem CG(S:am O Y X D st M w){C:Ctx}{x:Operand}{v:aJ}{T:TypeId}(aC:B.op=.nilCheck x)(Z:ce st B.dst=true)(hc:aX C st T x=v)
  (hv:∀vv,b_ D st.sites w (aw X D st.sites) v vv->∃a,vv=.pointer (some a)):cD P O Y X st M w B v []:=by
 have:=du S C T x;rw[hc] at this;obtain⟨a,ha⟩:=hv _ this;refine dC S Z (vv:=Act.eval ⟨M,[]⟩ x) ?_ this;unfold execOp;simp[aC,ha]
theorem aaz(S:am O Y X D st M w){C:Ctx}{x:Operand}{i:Nat}{as:List bL}{a:bL}{T:TypeId}(aC:B.op=.extract x i)(Z:ce st B.dst=true)(hc:aX C st T x=.jw as)(ha:as[i]? =some a):
  cD P O Y X st M w B (.av a) []:=by
 have bq:=du S C T x;rw[hc] at bq;obtain⟨vs,h1,h2,h3⟩:=bq;obtain⟨hi,apf⟩:=List.getElem?_eq_some_iff.1 ha;have j1:i<vs.length:=by omega
 refine dC S Z (vv:=vs[i]) ?_ (by rw[<-apf];exact h3 i hi j1)
 unfold execOp;simp[aC,h1,Instr.extract,j1]
theorem MX(S:am O Y X D st M w){C:Ctx}{x y:Operand}{k k':IntKind}{a b:Int}{T:TypeId}{sv:Bool}{cR:Array TypeId}(aC:B.op=.call {callee:=.builtin (if sv then .max else .min),args:=#[x,y],argTypes:=cR})(Z:ce st B.dst=true)
  (hx:aX C st T x=.av (.ak (.d (.int k a)))) (hy:aX C st T y=.av (.ak (.d (.int k' b)))):cD P O Y X st M w B (one (.int k (if sv then gr a b else k7 a b))) []:=by
 refine dC S Z (vv:=.int k (if sv then gr a b else k7 a b)) ?_ (.int _ _)
 unfold execOp;cases sv<;>simp[aC,resolve,invoke,builtin,jM S hx,jM S hy,Builtin.max_,Builtin.min_,Builtin.max2,Builtin.min2,gr,k7]
theorem afO(S:am O Y X D st M w){C:Ctx}{x y z u v:Operand}{k aD az bD cQ:IntKind}{a b c d e:Int}{T:TypeId}{cR:Array TypeId}(aC:B.op=.call {callee:=.builtin .max,args:=#[x,y,z,u,v],argTypes:=cR})(Z:ce st B.dst=true)
  (hx:aX C st T x=.av (.ak (.d (.int k a)))) (hy:aX C st T y=.av (.ak (.d (.int aD b)))) (hz:aX C st T z=.av (.ak (.d (.int az c)))) (hu:aX C st T u=.av (.ak (.d (.int bD d)))) (hv:aX C st T v=.av (.ak (.d (.int cQ e)))):
  cD P O Y X st M w B (one (.int k (gr (gr (gr (gr a b) c) d) e))) []:=by
 refine dC S Z (vv:=.int k (gr (gr (gr (gr a b) c) d) e)) ?_ (.int _ _);unfold execOp;simp[aC,resolve,invoke,builtin,jM S hx,jM S hy,jM S hz,jM S hu,jM S hv,Builtin.max_,Builtin.max2,gr]
theorem aeo(S:am O Y X D st M w){C:Ctx}:∀{xs:List Operand} {bw:List (Nat×Nat)},step.nz C st xs=some bw->xs.length=bw.length/\
  ∀i (h:i<bw.length) (af:i<xs.length),Ref st.sites (bw[i]).1 (bw[i]).2 (Act.eval ⟨M,[]⟩ (xs[i])=D (bw[i]).1):=by
 intro xs;induction xs with
 |nil=>intro bw h;simp only[step.nz] at h;cases h;exact⟨rfl,fun i h=>by simp at h⟩
 |cons x xs ih=>
  intro bw h;simp only[step.nz] at h;split at h
  ·rename_i o s l hx hl;cases h;obtain⟨h1,h2⟩:=ih hl;refine⟨by simp[h1],fun i g1 g2=>?_⟩
   cases i with
   |zero=>
    have:=du S C 0 x;rw[hx] at this;obtain⟨b,hb,ab,r1,r2,im⟩:=this;exact⟨ab,r1,r2,fun e=>by simp only[List.getElem_cons_zero];rw[hb,im e]⟩
   |succ i=>simpa using h2 i (by simpa using g1) (by simpa using g2)
  ·cases h
theorem _u(S:am O Y X D st M w){C:Ctx}{g:FuncId}{first captured:Array Operand}{bw:List (Nat×Nat)}(aC:B.op=.makeFunc (.func g) first captured)(Z:ce st B.dst=true)(hf:first.toList.isEmpty=true)
  (hc:step.nz C st captured.toList=some bw):cD P O Y X st M w B (bX (.clo g bw)) []:=by
 obtain⟨h1,h2⟩:=aeo S hc;refine dC S Z (vv:=.func (.func g) #[] (captured.toList.map (Act.eval ⟨M,[]⟩)).toArray) ?_ ⟨captured.toList.map (Act.eval ⟨M,[]⟩),rfl,by simpa using h1,fun i g1 g2=>?_⟩
 ·have:first=#[]:=by simpa using hf
  unfold execOp;simp only[aC,Instr.makeFunc,Sem.run_bind,Sem.run_pure,Result.andThen_ok,this];simp;apply Array.ext';simp
 ·have:=h2 i g1 (by simpa using g2)
  simpa using this
theorem Nh(S:am O Y X D st M w){C:Ctx}{bK:List (Nat×Nat)}:∀(parts:List (Nat×Operand)) (z:List aE) (cells:Array Value),cr D st.sites w (aw X D st.sites) z cells.toList->
  Holds (step.mo C st bK z parts) (fun v us=>us=[]/\∃jo,Instr.fill (bK.toArray[·]?) cells (parts.map fun p=>(p.1,Act.eval ⟨M,[]⟩ p.2))=some jo/\b_ D st.sites w (aw X D st.sites) v (.agg jo)):=by
 intro parts;induction parts with
 |nil=>intro z cells h;exact Holds.ok ⟨rfl,cells,rfl,cells.toList,by simp,h.1,h.2⟩
 |cons p parts ih=>
  obtain⟨i,x⟩:=p;intro z cells h;simp only[step.mo];split
  ·rename_i off n a hf ha;cases hb:(a.cells.length.beq n&&gW a.cells&&Nat.ble (off+n) z.length) with
   |false=>exact .fail
   |true=>
    simp only[cond_true];simp only[Bool.and_eq_true] at hb;obtain⟨⟨b1,b2⟩,b3⟩:=hb;have b1:=Nat.eq_of_beq_eq_true b1;have b3:=Nat.le_of_ble_eq_true b3;have bq:=du S C 0 x;rw[pq ha] at bq;have zZ:=gO.cells (bq:gO D st.sites w _ a _) b2;have hsz:(Act.eval ⟨M,[]⟩ x).cells.size=n:=by rw[<-b1,<-zZ.1];simp
    have hle:off+(Act.eval ⟨M,[]⟩ x).cells.size<=cells.size:=by
     have:=h.1;simp at this;omega
    have:=ih (Jk.bF z off a.cells) (Jk.bF cells.toList off (Act.eval ⟨M,[]⟩ x).cells.toList).toArray (by simpa using cr.bF off h zZ)
    intro y hy hc;obtain⟨g1,jo,g2,g3⟩:=this y hy hc;refine⟨g1,jo,?_,g3⟩;simp only[List.map_cons,Instr.fill];have Jv:bK.toArray[i]? =some (off,n):=by simpa using hf
    simp only[Jv];have c1:¬((Act.eval ⟨M,[]⟩ x).cells.size≠n\/off+(Act.eval ⟨M,[]⟩ x).cells.size>cells.size):=by omega
    have c2:(decide ((Act.eval ⟨M,[]⟩ x).cells.size≠n)||decide (off+(Act.eval ⟨M,[]⟩ x).cells.size>cells.size))=false:=by
     simp;omega
    have oN:off+n<=cells.size:=by omega
    rw[LG _ _ _ hle];simp only[Bool.decide_or,hsz] at*;simpa[c2,oN] using g2
  ·exact .fail
theorem aeq(S:am O Y X D st M w){C:Ctx}(H:CtxOk P C){T:TypeId}{parts:Array (Nat×Operand)}{bK:List (Nat×Nat)}{n:Nat}{z:List aE}{eq:Bool}(be:C.tt T=.struct bK n z eq)(aC:B.op=.build T parts)
  (Z:ce st B.dst=true):Holds (step.mo C st bK z parts.toList) (cD P O Y X st M w B):=by
 have bE:=H.tt T;rw[be] at bE;obtain⟨fields,fr,⟨hf,_⟩,⟨fO,hz,hzz,BE⟩,_⟩:=bE;obtain⟨aD,az,bD⟩:=tJ hzz;intro y hy hc;obtain⟨g1,jo,g2,g3⟩:=Nh S parts.toList z fO ⟨aD,fun j h af=>bD _ _ _ _ j h af⟩ y hy hc
 rw[g1];refine dC S Z (vv:=.agg jo) ?_ g3;cases hi:P.info? T with
 |none=>simp[hi] at hz
 |some it=>
  simp only[hi,Option.map_some,Option.some.injEq,Prod.mk.injEq] at hz;have hb:P.built T (parts.toList.map fun p=>(p.1,Act.eval ⟨M,[]⟩ p.2))=some jo:=by
   unfold Program.built;simp only[hi,fr,hz.2,hf];exact g2
  have dP:P.built T (parts.map fun p=>(p.1,Act.eval ⟨M,[]⟩ p.2)).toList=some jo:=by simpa using hb
  unfold execOp;simp only[aC,Sem.run_bind,run_build w T _ jo dP,Result.andThen_ok,Sem.run_pure]
end
def ml(w:World)(b:Nat)(B:Obj):World:={w with heap:=w.heap.setIfInBounds b B}
theorem OO{b:ByteArray}{l:F}(h:b.data.toList=l):Value.string b=gK l:=by
 subst h;rfl
def kZ{aB:Type}:List (F×aB)->F->Nat->Option (Nat×aB)
 |[],_,_=>none
 |(k,v)::r,n,i=>bif k==n then some (i,v) else kZ r n (i+1)
theorem ab5{aB:Type}(n:F):∀(es:List (F×aB)) (i:Nat),(kZ es n i).map (·.2)=j_ es n:=by
 intro es;induction es with
 |nil=>intro i;rfl
 |cons p es ih=>
  intro i;simp only[kZ,j_];cases p.1==n with
  |true=>rfl
  |false=>exact ih (i+1)
theorem _t{aB:Type}(n:F)(v:aB):∀(es:List (F×aB)) (i:Nat),kZ es n i=none->ov es n v=es++[(n,v)]:=by
 intro es;induction es with
 |nil=>intro i _;rfl
 |cons p es ih=>
  intro i h;simp only[kZ] at h;simp only[ov];cases hp:(p.1==n) with
  |true=>rw[hp] at h;cases h
  |false=>rw[hp] at h;simp only[cond_false,ih (i+1) h,List.cons_append]
theorem aat{aB:Type}(n:F)(v:aB):∀(es:List (F×aB)) (i j:Nat) (v0:aB),kZ es n i=some (j,v0)->i<=j/\(∃p,es[j-i]? =some p/\p.1=n)/\ov es n v=es.modify (j-i) fun p=>(p.1,v):=by
 intro es;induction es with
 |nil=>intro i j v0 h;cases h
 |cons p es ih=>
  intro i j v0 h;simp only[kZ] at h;simp only[ov];cases hp:(p.1==n) with
  |true=>
   rw[hp] at h;cases h;refine⟨Nat.le_refl _,⟨p,by simp,eq_of_beq hp⟩,?_⟩
   simp
  |false=>
   rw[hp] at h;obtain⟨h1,⟨q,h2,h3⟩,ax⟩:=ih (i+1) j v0 h;have e:j-i=(j-(i+1))+1:=by omega
   refine⟨by omega,⟨q,by rw[e];simpa using h2,h3⟩,?_⟩
   rw[e,cond_false,ax,List.modify_succ_cons]
theorem LH{t:aY}(n:F):∀(es:List (F×den t)) (iL:List MapEntry) (i:Nat),iL.map (fun e=>(e.key,e.val))=jO t es->
  Instr.findNow .string (gK n) iL i=some ((kZ es n i).map fun p=>(p.1,mQ t p.2))
 |[],iL,i,h=>by
  have:iL=[]:=by simpa[jO] using h
  subst this;rfl
 |(k,v)::es,[],i,h=>by simp[jO] at h
 |(k,v)::es,m::iL,i,h=>by
  simp only[jO,List.map_cons,List.cons.injEq,Prod.mk.injEq] at h;obtain⟨⟨h1,h2⟩,h3⟩:=h;have ih:=LH n es iL (i+1) h3;have hs:Instr.sameNow .string (gK n) m.key=some (k==n):=by
   rw[h1];show some ((⟨n.toArray⟩:ByteArray)==⟨k.toArray⟩)=_;rw[bytes_beq];congr 1
   rw[Bool.eq_iff_iff];simp only[beq_iff_eq];exact eq_comm
  unfold Instr.findNow kZ;rw[hs];cases k==n with
  |true=>simp only[cond_true,Option.map_some,h2]
  |false=>simp only[cond_false];exact ih
section
variable {P:Program}{w:World}{hJ kF T:TypeId}{t:aY}
theorem _'{hJ:TypeId}(hk:P.underlying hJ=some .string)(c:Bool)(s:F)(n:Nat):(Instr.checkKey c (n+1) hJ (gK s)).run P w=.ok () w:=by
 simp[Instr.checkKey,run_underlying hk,gK,Result.andThen]
theorem tQ{hJ:TypeId}(hk:P.underlying hJ=some .string)(c:Bool)(s:F):(Instr.checkKey c 10000 hJ (gK s)).run P w=.ok () w:=_' hk c s 9999
theorem x5{hJ:TypeId}(hk:P.underlying hJ=some .string){es:List (F×den t)}{arr:Array MapEntry}(h:mn arr=jO t es)(n:F):
  (Instr.findKey hJ (gK n) arr.toList).run P w=.ok ((kZ es n 0).map fun p=>(p.1,mQ t p.2)) w:=by
 simp[Instr.findKey,run_underlying hk,LH n es arr.toList 0 h,Result.andThen]
theorem abn(s:F):(Instr.keyThatStays (gK s) (gK s)).run P w=.ok (gK s) w:=by
 have:Instr.sameBits 10000 (gK s) (gK s)=true:=by
  show((⟨s.toArray⟩:ByteArray)==⟨s.toArray⟩)=true;rw[bytes_beq];simp
 simp[Instr.keyThatStays,this]
theorem aiD{t:aY}{d:aZ}{x:den t}{v:Value}{av:Nat->Prop}(h:Hk t d=some x)(hr:bA w av d v):v=mQ t x:=by
 unfold Hk at h;split at h
 ·cases h;cases hr;rfl
 ·cases h;cases hr;rfl
 ·cases h
theorem _8(be:P.underlying T=some (.map hJ kF))(hk:P.underlying hJ=some .string){b:Nat}{arr:Array MapEntry}{clock:Nat}{es:List (F×den t)}(hb:w.heap[b]? =some (.map arr clock))(he:mn arr=jO t es)(n:F)(x:den t):
  ∃oR oy,(Instr.mapUpdate T (.map (some b)) (gK n) (mQ t x)).run P w=.ok () (ml w b (.map oR oy))/\mn oR=jO t (ov es n x):=by
 cases hm:kZ es n 0 with
 |none=>
  refine⟨arr.push ⟨gK n,mQ t x,clock⟩,clock+1,?_,?_⟩
  ·have hf:=x5 (w:=w) hk he n;rw[hm] at hf;simp[Instr.mapUpdate,run_underlying be,MapKept.run_getObj_map hb,tQ hk,hf,MapKept.run_setObj_map _ hb,Result.andThen,ml]
  ·rw[_t n x es 0 hm];unfold mn jO at he ⊢;simp[he]
 |some p=>
  obtain⟨j,v0⟩:=p;obtain⟨_,⟨q,h2,h3⟩,ax⟩:=aat n x es 0 j v0 hm;rw[Nat.sub_zero] at h2 ax;have hlen:arr.size=es.length:=lL.size (b:=b) he;have hj:j<arr.size:=by rw[hlen];exact(List.getElem?_eq_some_iff.1 h2).1
  have ak4:((arr[j]?).map (·.key)).getD (gK n)=gK n:=by
   have bk:=congrArg (fun l=>l[j]?) he
   simp only[mn,jO,List.getElem?_map,h2,Option.map_some,Array.getElem?_toList] at bk;cases ha:arr[j]? with
   |none=>rfl
   |some e=>
    rw[ha] at bk;simp only[Option.map_some,Option.some.injEq,Prod.mk.injEq] at bk;simp[bk.1,h3]
  refine⟨arr.modify j fun e=>{e with key:=gK n,val:=mQ t x},clock,?_,?_⟩
  ·have hf:=x5 (w:=w) hk he n;rw[hm] at hf;simp[Instr.mapUpdate,run_underlying be,MapKept.run_getObj_map hb,tQ hk,hf,MapKept.run_setObj_map _ hb,Result.andThen,ml,ak4,abn]
  ·rw[ax];unfold mn jO at he ⊢;apply List.ext_getElem?;intro i;have bk:=congrArg (fun l=>l[i]?) he
   simp only[List.getElem?_map,Array.getElem?_toList] at bk;simp only[List.getElem?_map,Array.getElem?_toList,Array.getElem?_modify,List.getElem?_modify];by_cases o6:j=i
   ·subst o6;simp only[if_true,h2,Option.map_some,<-h3];cases ha:arr[j]? with
    |none=>rw[ha,h2] at bk;cases bk
    |some e=>rfl
   ·simp only[o6,if_false];cases ha:arr[i]? <;>cases dP:es[i]? <;>rw[ha,dP] at bk<;>simp_all
end
section
variable {P:Program}{O:World}{Y:List Nat}{X:Nat->Prop}{D:Nat->Value}{st:ah}{M:Array Value}{w:World}{B:Oper}
theorem CS(w:World)(b bH:Nat)(B:Obj)(h:bH≠b):(ml w b B).heap[bH]? =w.heap[bH]? :=by
 simp only[ml,Array.getElem?_setIfInBounds];rw[if_neg (fun e=>h e.symm)]
theorem Y0(w:World)(b:Nat)(B cU:Obj)(h:w.heap[b]? =some cU):(ml w b B).heap[b]? =some B:=by
 have:=(Array.getElem?_eq_some_iff.1 h).1;simp[ml,Array.getElem?_setIfInBounds,this]
theorem am.ahm(S:am O Y X D st M w){o s b:Nat}{t:aY}{es tl:List (F×den t)}{B:Obj}{oR:Array MapEntry}{oy:Nat}(hl:look st.sites o=some (.map s t es))(cM:D o=.map (some b))(hg:w.heap[b]? =some B)
  (he:mn oR=jO t tl):am O Y X D {st with sites:=ci st.sites o (.map s t tl)} M (ml w b (.map oR oy)):=by
 have hbk:bG (D o)=some b:=by rw[cM];rfl
 have cJ:cd st.sites o:=⟨_,hl,rfl⟩;have lP:∀aa,cd (ci st.sites o (.map s t tl)) aa <-> cd st.sites aa:=L6 hl rfl;have b7:∀bH,aw X D (ci st.sites o (.map s t tl)) bH <-> aw X D st.sites bH:=by
  intro bH;unfold aw;simp only[lP]
 have hne:∀bH,¬aw X D st.sites bH->bH≠b:=by
  rintro bH h rfl;exact h (.inr ⟨o,cJ,hbk⟩)
 have hsz:(ml w b (.map oR oy)).heap.size=w.heap.size:=by simp[ml]
 refine S.p' (fun aa aG bN=>?_) (fun bH h _=>CS w b bH _ (hne bH h)) (fun bH h _=>by rw[b7];exact h) (fun go aa aG bN=>?_) (fun aa ρ bH h1 h2=>S.dT aa ρ bH ((lP aa).1 h1) ((lP ρ).1 h2))
  (fun aa bH h=>S.cf aa bH ((lP aa).1 h)) (fun aa bH h hb=>by rw[hsz];exact S.fu ((lP aa).1 h) hb) ?_ (by rw[hsz];exact Nat.le_refl _)
 ·rw[cV];by_cases e:o=aa
  ·subst e;rw[hl] at bN;cases bN;exact⟨.map s t tl,by simp,Nat.le_refl _,fun _=>rfl⟩
  ·exact⟨aG,by simp[e,bN],Nat.le_refl _,fun _=>rfl⟩
 ·rw[cV] at bN;by_cases e:o=aa
  ·subst e;simp only[if_true,Option.some.injEq] at bN;subst bN;exact .inr ⟨b,cM,oR,oy,Y0 w b _ _ hg,he⟩
  ·simp only[e,if_false] at bN;refine .inl ⟨bN,rfl,fun sL bH dP=>CS w b bH _ ?_⟩
   rintro rfl;exact e (S.dT o aa _ cJ ⟨aG,bN,sL⟩ hbk dP)
 ·have aV:=S.frame;refine⟨aV.os,aV.tape,aV.output,by rw[hsz];exact aV.size,fun bH h1 h2=>?_⟩
  rw[CS w b bH _ ?_]
  ·exact aV.block bH h1 h2
  ·rintro rfl;rcases(S.cf o _ cJ hbk).2 with h|h
   ·exact h2 h
   ·omega
theorem am.makeMap(S:am O Y X D st M w){o:Nat}{t:aY}:
  am O Y X (fun aa=>if aa=o then .map (some w.heap.size) else D aa) {st with sites:=ci st.sites o (.map (bl st o) t [])} M (w.alloc (.map #[] 0)):=
 S.make (fun b hb=>RowKit.Below.heap_alloc w _ b hb) rfl rfl rfl (by simp) (fun ab hs=>ls hs) (fun b hb=>by cases hb;exact⟨Nat.le_refl _,by simp⟩)
  (fun hs cM go _ _=>⟨w.heap.size,cM,#[],0,heap_alloc_new w _,rfl⟩)
end
section
variable {P:Program}{O:World}{Y:List Nat}{X:Nat->Prop}{D:Nat->Value}{st:ah}{M:Array Value}{w:World}{B:Oper}
theorem L3(S:am O Y X D st M w){T:TypeId}{hJ kF:TypeId}{t:aY}{r:Option Operand}{o:Nat}(aC:B.op=.makeMap T r)(dv:B.dst=some o)(Z:ce st B.dst=true)(be:P.underlying T=some (.map hJ kF))
  (hr:∀x,r=some x->∃k n,Act.eval ⟨M,[]⟩ x=.int k n):cD P O Y X st M w B (bX (.own o (bl st o))) [(o,.map (bl st o) t [])]:=by
 have ca:=S.makeMap (o:=o) (t:=t);refine kM (us:=[(o,.map (bl st o) t [])]) ca Z (vv:=.map (some w.heap.size)) ?_ ?_
 ·unfold execOp;cases r with
  |none=>simp[aC,Instr.makeMap]
  |some x=>
   obtain⟨k,n,hx⟩:=hr x rfl;simp[aC,Instr.makeMap,hx,run_underlying be,asInt,asIntOf,Result.andThen]
 ·refine⟨rfl,Ref.mk (ab:=.map (bl st o) t []) ?_ rfl (by simp)⟩
  simp only[bj,cV];simp
theorem MY(S:am O Y X D st M w){C:Ctx}(H:CtxOk P C){T:TypeId}{m k x:Operand}(aC:B.op=.mapUpdate T m k x\/B.op=.insert T m k x)(Z:ce st B.dst=true):
  Holds (kT.r_ C st T m k x) (cD P O Y X st M w B):=by
 have bE:=H.tt T;unfold kT.r_;split
 ·rename_i hJ kF t o s n d be hm hk hx;rw[be] at bE;split
  ·rename_i aG u es hl;cases hb:(aG.beq s&&decide (u=t)) with
   |false=>exact .fail
   |true=>
    simp only[cond_true];simp only[Bool.and_eq_true,decide_eq_true_eq] at hb;have hs:=Nat.eq_of_beq_eq_true hb.1;subst hs;split
    ·rename_i v hv;refine Holds.fs ?_
     have em:=du S C T m;rw[hm] at em;have qX:=du S C 0 k;rw[hk] at qX;have ex:=du S C 0 x;rw[hx] at ex;have hl:look st.sites o=some (.map aG u es):=hl;have WV:Act.eval ⟨M,[]⟩ m=D o:=Ref.at em.2 hl rfl;obtain⟨b,h1,arr,clock,h2,h3⟩:=S.sites o _ hl;obtain⟨bs,Jl,hkl⟩:=gm (s:=n) qX;have BQ:Act.eval ⟨M,[]⟩ k=gK n:=by rw[Jl];exact OO hkl
     have WQ:Act.eval ⟨M,[]⟩ x=mQ u v:=aiD hv (av:=aw X D st.sites) ex;obtain⟨oR,oy,r1,r2⟩:=_8 (T:=T) bE.1.1 bE.2.1 h2 h3 n v;have ca:=S.ahm hl h1 h2 (oy:=oy) r2;refine w3 (us:=[(o,.map aG u (ov es n v))]) ca Z ?_
     unfold execOp;rcases aC with aC|aC
     ·simp only[aC,WV,h1,BQ,WQ,Sem.run_bind,r1,Result.andThen_ok,Sem.run_pure]
     ·simp only[aC,WV,h1,BQ,WQ,Sem.run_bind,r1,Result.andThen_ok,Sem.run_pure]
    ·exact .fail
  ·exact .fail
 ·exact .fail
theorem ab9(S:am O Y X D st M w){C:Ctx}(H:CtxOk P C){T hJ kF:TypeId}{t:aY}{m k:Operand}{c:Bool}{l:aE}{n:F}{es:List (F×den t)}{d:aZ}(aC:B.op=.lookup T m k c)(Z:ce st B.dst=true)
  (be:C.tt T=.map hJ kF t) (hm:aX C st T m=.av (.ak l)) (hk:aX C st 0 k=.av (.ak (.d (.str n)))) (Jw:mapOf st l=some ⟨t,es⟩) (Jx:uZ t (j_ es n)=some d):
  cD P O Y X st M w B (bif c then .jw [.ak (.d d),.ak (.d (.bool (j_ es n).isSome))] else one d) []:=by
 have bE:=H.tt T;rw[be] at bE;have em:=du S C T m;rw[hm] at em;have qX:=du S C 0 k;rw[hk] at qX;obtain⟨bs,Jl,hkl⟩:=gm (s:=n) qX;have BQ:Act.eval ⟨M,[]⟩ k=gK n:=by rw[Jl];exact OO hkl
 have hz:∀cU:Option (den t),uZ t cU=some d->(∀x,cU=some x->∀av,bA w av d (mQ t x))/\(cU=none->∃z,(zeroValue kF).run P w=.ok z w/\∀av,bA w av d z):=by
  intro cU h;have he:=bE.2.2;have key:∀{Yt:TypeDesc} {z:Value},iY P kF Yt z->(zeroValue kF).run P w=.ok z w:=by
   intro Yt z h;obtain⟨_,_,_,h⟩:=h;cases hi:P.info? kF with
   |none=>simp[hi] at h
   |some i=>
    simp only[hi,Option.map_some,Option.some.injEq,Prod.mk.injEq] at h;simp[zeroValue,kK hi,h.2]
  cases t<;>first|(exact he.elim)|skip
  ·simp only[uZ,Option.some.injEq] at h;subst h;refine⟨fun x hx av=>by subst hx;exact .int _ _,fun hn=>?_⟩
   subst hn;exact⟨_,key he,fun av=>.int _ _⟩
  ·simp only[uZ,Option.some.injEq] at h;subst h;refine⟨fun x hx av=>by subst hx;exact .bool _,fun hn=>?_⟩
   subst hn;exact⟨_,key he,fun av=>.bool _⟩
 obtain⟨hz1,hz2⟩:=hz _ Jx;have main:∃v,(Instr.lookup T (Act.eval ⟨M,[]⟩ m) (Act.eval ⟨M,[]⟩ k) c).run P w=.ok (if c then .tuple #[v,.bool (j_ es n).isSome] else v) w/\∀av,bA w av d v:=by
  rw[BQ];rcases Pf S em Jw with⟨h1,rfl⟩|⟨b,h1,arr,clock,h2,h3⟩
  ·obtain⟨z,fD,z2⟩:=hz2 rfl;refine⟨z,?_,z2⟩;have hf:=x5 (w:=w) (t:=t) bE.2.1 (es:=[]) (arr:=#[]) rfl n;have Jv:(Instr.findKey hJ (gK n) []).run P w=.ok none w:=hf;simp[Instr.lookup,run_underlying bE.1.1,h1,tQ bE.2.1,Jv,fD,j_,Result.andThen]
  ·have hf:=x5 (w:=w) bE.2.1 h3 n;have hg:=ab5 n es 0;cases ha:kZ es n 0 with
   |none=>
    rw[ha] at hf hg;have hg:j_ es n=none:=hg.symm;obtain⟨z,fD,z2⟩:=hz2 hg;refine⟨z,?_,z2⟩;simp[Instr.lookup,run_underlying bE.1.1,h1,MapKept.run_getObj_map h2,tQ bE.2.1,hf,fD,hg,Result.andThen]
   |some p=>
    rw[ha] at hf hg;have hg:j_ es n=some p.2:=hg.symm;refine⟨mQ t p.2,?_,hz1 p.2 hg⟩;simp[Instr.lookup,run_underlying bE.1.1,h1,MapKept.run_getObj_map h2,tQ bE.2.1,hf,hg,Result.andThen]
 obtain⟨v,r1,r2⟩:=main;refine dC S Z (vv:=if c then .tuple #[v,.bool (j_ es n).isSome] else v) ?_ ?_
 ·unfold execOp;simp only[aC,Sem.run_bind,r1,Result.andThen_ok,Sem.run_pure]
 ·cases c with
  |true=>
   refine⟨[v,.bool (j_ es n).isSome],rfl,rfl,fun j g1 g2=>?_⟩
   match j,g1 with
   |0,_=>exact r2 _
   |1,_=>exact bA.bool _
  |false=>exact r2 _
theorem aas(S:am O Y X D st M w){C:Ctx}(H:CtxOk P C)(Z:ce st B.dst=true):Holds (kT C st B) (cD P O Y X st M w B):=by
 unfold kT;split
 ·rename_i t r aC;split
  ·rename_i o hJ kF ty dv be;have bE:=H.tt t;rw[be] at bE;split
   ·exact Holds.fs (L3 S aC dv Z bE.1.1 (fun x h=>by cases h))
   ·rename_i x;split
    ·rename_i k n hx;refine Holds.fs (L3 S aC dv Z bE.1.1 (fun y h=>?_))
     cases h;have ex:=du S C 0 x;rw[hx] at ex;exact⟨k,n,h' ex⟩
    ·exact .fail
  ·exact .fail
 ·rename_i t m k x aC;exact MY S H (.inl aC) Z
 ·rename_i t m k x aC;exact MY S H (.inr aC) Z
 ·rename_i t m k c aC;split
  ·rename_i hJ kF ty l n be hm hk;split
   ·rename_i u es Jw;cases hu:decide (u=ty) with
    |false=>exact .fail
    |true=>
     have hu:=of_decide_eq_true hu;subst hu;simp only[cond_true];split
     ·rename_i d Jx;exact Holds.ok (ab9 S H aC Z be hm hk Jw Jx)
     ·exact .fail
   ·exact .fail
  ·exact .fail
 ·rename_i t x aC;split
  ·rename_i bK q z e n be hx;exact Holds.ok (YP S H aC Z be hx)
  ·exact .fail
 ·exact .fail
end
theorem mW{P:Program}{e:TypeId}{t:aY}(h:Ge P e t):aT t=1/\(∃d z,iY P e d z)/\∃l eO,sV t=some l/\wv t=some eO/\cx (enc t eO)=[l]:=by
 cases t<;>first|exact h.elim|exact⟨rfl,⟨_,_,h⟩,_,_,rfl,rfl,rfl⟩
theorem Mb{P:Program}{e:TypeId}{t:aY}{T:TypeId}(h:Ge P e t):t.jy=true->T=l6:=by intro af;cases t<;>first|exact h.elim|cases af
theorem DE(t:aY)(x:den t)(xs:List (den t)):flat t (x::xs)=enc t x++flat t xs:=by simp[flat]
theorem Gd(a b:List aZ):cx (a++b)=cx a++cx b:=by simp[cx]
theorem PH{t:aY}{z:den t}(hz:wv t=some z)(xs:List (den t)):A_ t xs xs.length=cx (flat t xs):=by
 unfold A_;rw[hz];suffices h:∀(bd zs:List (den t)),xs=zs++bd->((List.range' zs.length bd.length).flatMap fun j=>cx (enc t (xs.getD j z)))=cx (flat t bd) by
  have:=h xs [] rfl;rw[List.length_nil,<-List.range_eq_range'] at this;exact this
 intro bd;induction bd with
 |nil=>intro zs _;rfl
 |cons y bd ih=>
  intro zs hx;rw[List.length_cons,List.range'_succ,List.flatMap_cons,DE,Gd];have e1:xs.getD zs.length z=y:=by rw[hx];simp[List.getD]
  have e2:=ih (zs++[y]) (by rw[hx];simp)
  rw[List.length_append,List.length_singleton] at e2;rw[e1,e2]
theorem Ga{t:aY}:∀{ad:List aE} {xs:List (den t)},sP t ad=some xs->ad=cx (flat t xs):=by
 intro ad;induction ad with
 |nil=>intro xs h;cases h;rfl
 |cons l ad ih=>
  intro xs h;cases l<;>try(cases h;done)
  rename_i d;simp only[sP] at h;split at h
  ·rename_i x bd h1 h2;cases h;rw[DE,Gd,<-ih h2,zq _ _ _ h1];rfl
  ·cases h
theorem tR{aB:Type}{n:Nat}{xs bd:List aB}(h:long n xs=some bd):bd=xs/\xs.length=n:=by
 unfold long at h;split at h
 ·cases h;exact⟨rfl,by assumption⟩
 ·cases h
section
variable {P:Program}{O:World}{Y:List Nat}{X:Nat->Prop}{D:Nat->Value}{st:ah}{M:Array Value}{w:World}{B:Oper}
theorem am.kD(S:am O Y X D st M w):mM w/\∀b,b∈kv->¬aw X D st.sites b/\b<w.heap.size:=by
 have G:=S.eX;refine⟨ai1 (fun b hb=>S.frame.block b (G.lt b hb) (G.Y b hb)) G.ok,fun b hb=>⟨?_,Nat.lt_of_lt_of_le (G.lt b hb) S.frame.size⟩⟩
 rintro(h|⟨o,h1,h2⟩)
 ·exact G.X b hb h
 ·rcases(S.cf o b h1 h2).2 with h|h
  ·exact G.Y b hb h
  ·have:=G.lt b hb;omega
theorem ahp{ds:List aZ}{vs:List Value}{av:Nat->Prop}(h:cT w av ds vs):∀u∈vs,u.oneCell'=true:=by
 intro u hu;obtain⟨j,hj,rfl⟩:=List.getElem_of_mem hu;exact(h.2 j (by rw[<-h.1];exact hj) hj).jl
theorem Pc(S:am O Y X D st M w){T:TypeId}{o n:Nat}{t:aY}{xs:List (den t)}{vs:List Value}(he:aT t=1)(gx:t.jy=true->T=l6)(hv:cT w (aw X D st.sites) (flat t xs) vs)(Z:ce st B.dst=true)
  (di:(execOp (Act.eval ⟨M,[]⟩) B).run P w=.ok (.value (.pointer (some ⟨w.heap.size,0,none⟩))) (w.alloc (.cells vs.toArray T (0,0)))):Holds (qd o st t n xs) (cD P O Y X st M w B):=by
 unfold qd;cases hc:(xs.length.beq n&&Nat.ble n 1000) with
 |false=>exact .fail
 |true=>
  simp only[Bool.and_eq_true] at hc;have h1:=Nat.eq_of_beq_eq_true hc.1;have h2:=Nat.le_of_ble_eq_true hc.2;simp only[cond_true];have hl:vs.length=xs.length:=by rw[hv.1,eV,he,Nat.mul_one]
  have ca:=S.Fp (o:=o) (T:=T) (rest:=[]) (cap:=n) hv (by rw[he,hl,h1];simp) (by unfold maxLen;omega) gx
  rw[List.append_nil] at ca;refine Holds.fs (kM (us:=[(o,.row (bl st o) t xs)]) ca Z di ?_);refine⟨w.heap.size,by simp,Ref.mk (ab:=.row (bl st o) t xs) ?_ rfl ⟨xs.length,n,by simp⟩⟩
  simp only[bj,cV];simp
theorem acD(S:am O Y X D st M w){C:Ctx}(H:CtxOk P C){elem e:TypeId}{t:aY}{n o:Nat}(be:C.tt elem=.arr e t n)(aC:B.op=.alloc elem)(Z:ce st B.dst=true):Holds (sg o st t n) (cD P O Y X st M w B):=by
 have bE:=H.tt elem;rw[be] at bE;obtain⟨_,_,l2⟩:=id bE;obtain⟨he,_,l,eO,BE,mG,hzz⟩:=mW l2;unfold sg;rw[mG];obtain⟨v,hv,nL⟩:=b8.D4 (w:=w) bE (z:=List.replicate n l) (by simp only[b8.zero,BE,Option.map_some])
 obtain⟨h1,h2,h3⟩:=tJ nL;have hr:cT w (aw X D st.sites) (flat t (List.replicate n eO)) v.cells.toList:=by
  have:=h3 D st.sites w (aw X D st.sites);have e1:∀n,cx (flat t (List.replicate n eO))=List.replicate n l:=by
   intro n;induction n with
   |zero=>rfl
   |succ n ih=>rw[List.replicate_succ,DE,Gd,hzz,List.replicate_succ,ih];rfl
  refine iR (D:=D) (sites:=st.sites) ?_
  rw[e1];exact⟨h1,this⟩
 refine Pc (T:=elem) S he (Mb l2) hr Z ?_
 unfold execOp;simp[aC,Instr.alloc,hv,newVar,newRow]
theorem agh(S:am O Y X D st M w){C:Ctx}(H:CtxOk P C){elem e:TypeId}{t:aY}{n o:Nat}{x:Operand}(be:C.tt elem=.arr e t n)(aC:B.op=.box elem x)(Z:ce st B.dst=true):Holds (sR o st t n (aX C st elem x)) (cD P O Y X st M w B):=by
 have bE:=H.tt elem;rw[be] at bE;have he:=(mW bE.2.2).1;have bq:=du S C elem x;unfold sR;split
 ·rename_i ad hx;rw[hx] at bq;split
  ·rename_i xs sZ;obtain⟨vs,hv,hl,hr⟩:∃vs:List Value,Act.eval ⟨M,[]⟩ x=.agg vs.toArray/\vs.length=ad.length/\∀j (h:j<ad.length) (af:j<vs.length),dO D st.sites w (aw X D st.sites) (ad[j]) (vs[j]):=bq;have oZ:cr D st.sites w (aw X D st.sites) ad vs:=⟨hl,hr⟩;rw[Ga sZ] at oZ;refine Pc (T:=elem) S he (Mb bE.2.2) (iR oZ) Z ?_
   unfold execOp;simp[aC,Instr.box,newVar,newRow,hv,Value.cells]
  ·exact .fail
 ·exact .fail
theorem am.arr(S:am O Y X D st M w){o s:Nat}{t:aY}{xs:List (den t)}{v:Value}(hr:rowOf st o s=some ⟨t,xs⟩)(hv:dO D st.sites w (aw X D st.sites) (.eR o s t 0 0) v):
  ∃b c,∃cs:List Value,v=.pointer (some ⟨b,0,none⟩)/\D o=.slice (some ⟨b,0,none⟩) xs.length c/\hP w b 0 cs/\cT w (aw X D st.sites) (flat t xs) cs:=by
 obtain⟨cs,hl,hcell⟩:=S.row hr;obtain⟨ab,iI,lg⟩:∃ab,look st.sites o=some ab/\ab.cq=s:=by
  rcases jG hr with h|h<;>exact⟨_,h,rfl⟩
 obtain⟨b,hv,vl⟩:=hv;obtain⟨n,c,cM⟩:=Ref.at vl iI lg;rcases hcell with⟨qj,_⟩|⟨bH,fg,jT,hcs,_⟩
 ·rw[cM] at qj;cases qj
 ·rw[cM] at jT;cases jT;exact⟨b,c,cs,by simpa using hv,cM,hcs,iR hl⟩
theorem adT(S:am O Y X D st M w){C:Ctx}(H:CtxOk P C){T e:TypeId}{t:aY}{n:Nat}{x:Operand}(be:C.tt T=.arr e t n)(aC:B.op=.load T x)(Z:ce st B.dst=true):Holds (ss st t n (aX C st T x)) (cD P O Y X st M w B):=by
 have bE:=H.tt T;rw[be] at bE;obtain⟨he,_,_,eO,_,mG,_⟩:=mW bE.2.2;have bq:=du S C T x;unfold ss;split
 ·rename_i o s u hx;rw[hx] at bq;split
  ·rename_i bi xs hrow;split
   ·rename_i jc;obtain⟨rfl,rfl⟩:=jc;refine Holds.ek fun y hy=>?_
    obtain⟨rfl,hlen⟩:=tR (hy:long n xs=some y);obtain⟨b,c,cs,hv,_,hc,hr⟩:=S.arr hrow bq;have hcl:cs.length=n:=by rw[hr.1,eV,he,hlen,Nat.mul_one]
    refine dC S Z (vv:=.agg cs.toArray) ?_ ?_
    ·have di:=tH (P:=P) (w:=w) bE (by rintro h;cases h) ⟨b,0,none⟩ cs hcl (fun j u hu=>by rw[gG];exact hc j u hu)
     unfold execOp;simp only[aC,Instr.loadAt,Instr.sureAddr,hv,Sem.run_bind,Sem.run_pure,Result.andThen_ok,di];rfl
    ·subst hlen;have:=g' (D:=D) (sites:=st.sites) hr.1 hr.2;rw[<-PH mG] at this;exact⟨cs,rfl,this.1,this.2⟩
   ·exact .fail
  ·exact .fail
 ·exact .fail
theorem abe(S:am O Y X D st M w){C:Ctx}(H:CtxOk P C){T e:TypeId}{t:aY}{n:Nat}{a x:Operand}{v:bL}(be:C.tt T=.arr e t n)(aC:B.op=.store T a x)(Z:ce st B.dst=true)(hv:lT (aX C st T x)=some v):
  Holds (rW st t n (aX C st T a) v) (cD P O Y X st M w B):=by
 have bE:=H.tt T;rw[be] at bE;have he:=(mW bE.2.2).1;have qF:=du S C T a;have hex:=du S C T x;rw[pq hv] at hex;unfold rW;split
 ·rename_i o s u ad hx;rw[hx] at qF;split
  ·rename_i aG bi xs gp;have gp:look st.sites o=some (.row aG bi xs):=gp;split
   ·rename_i jc;obtain⟨rfl,rfl,rfl⟩:=jc;split
    ·rename_i bd aoH;cases hc:bd.length.beq n with
     |false=>exact .fail
     |true=>
      have BF:=Nat.eq_of_beq_eq_true hc;refine Holds.hq fun r hr=>?_
      obtain⟨_,hlen⟩:=tR (hr:long n xs=some r);obtain⟨vs,vT,hl,dH⟩:∃vs:List Value,Act.eval ⟨M,[]⟩ x=.agg vs.toArray/\vs.length=ad.length/\∀j (h:j<ad.length) (af:j<vs.length),dO D st.sites w (aw X D st.sites) (ad[j]) (vs[j]):=hex;have oZ:cr D st.sites w (aw X D st.sites) ad vs:=⟨hl,dH⟩;rw[Ga aoH] at oZ;have s7:=iR oZ;have lY:vs.length=n:=by rw[s7.1,eV,he,BF,Nat.mul_one]
      obtain⟨b,BL,vl⟩:=qF;obtain⟨m,c,cM⟩:=Ref.at vl gp rfl;obtain⟨cz,cs,k8,hcs⟩:=S.sites o _ gp;rcases k8.2 with⟨hn,_⟩|⟨g,cap,cur,fz,nS,hz,hg,hnc,hcm,ki,htk⟩
      ·rw[cM] at hn;cases hn
      ·rw[cM] at nS;cases nS;have apm:cur.size=c:=by rw[ki,he,Nat.mul_one]
       have k9:0+vs.length<=cur.toList.length:=by
        have:cur.toList.length=cur.size:=Array.length_toList;omega
       have ca:am O Y X D {st with sites:=ci st.sites o (.row aG bi bd)} M (w.setRow b (bF cur.toList 0 vs).toArray):=by
        refine S.write gp rfl rfl rfl (by rw[cM];rfl) hg (fun hs hw hg' go=>?_)
        refine⟨cz,vs,⟨by rw[he,BF,Nat.mul_one];exact lY,.inr ⟨b,c,_,fz,by rw[cM,hlen,BF],?_,hg',by omega,hcm,?_,?_⟩⟩,fun j g1 g2=>oB go (s7.2 j g1 g2)⟩
        ·refine⟨hz.1,hz.2.imp id fun h=>⟨h.1,?_⟩⟩
         rw[List.size_toArray,q_ _ _ _ k9];simpa using h.2
        ·rw[List.size_toArray,q_ _ _ _ k9,Array.length_toList,apm,he,Nat.mul_one]
        ·rw[he,Nat.mul_one,BF,<-lY];simp[bF]
       refine w3 (us:=[(o,.row aG bi bd)]) ca Z ?_
       have di:=KX (P:=P) (w:=w) bE (by rintro h;cases h) (vv:=.agg vs.toArray) (cur:=cur.toList) (off:=0) (by simpa using hg) (by simpa using hz) (by simpa[Value.cells,b8.size] using lY) (by simpa[Value.cells] using k9) (by simpa[Value.cells] using ahp s7)
       unfold execOp;simp only[aC,BL,vT,Instr.storeAt,Instr.sureAddr,Sem.run_bind,Sem.run_pure,Result.andThen_ok,Nat.zero_mul,Nat.zero_add,di];simp[Value.cells]
    ·exact .fail
   ·exact .fail
  ·exact .fail
 ·exact .fail
theorem Zj(S:am O Y X D st M w){C:Ctx}(H:CtxOk P C){T e:TypeId}{t:aY}{m:Nat}{x i:Operand}{k:IntKind}{n:Int}(be:C.tt T=.arr e t m)(hi:aX C st 0 i=.av (.ak (.d (.int k n))))(aC:B.op=.indexAddr T x i)(Z:ce st B.dst=true):
  Holds (rh C st t m (aX C st T x) n) (cD P O Y X st M w B):=by
 have bE:=H.tt T;rw[be] at bE;obtain⟨fr,_,l2⟩:=bE;obtain⟨he,⟨d,z0,mJ⟩,_⟩:=mW l2;have vk:=jM S hi;have bq:=du S C T x;obtain⟨inf,kh,js⟩:∃inf,P.info? e=some inf/\inf.size=1:=by
  have:=mJ.2.2.2;cases ar:P.info? e with
  |none=>simp[ar] at this
  |some i=>simp only[ar,Option.map_some,Option.some.injEq,Prod.mk.injEq] at this;exact⟨i,rfl,this.1⟩
 have run:∀{b:Nat},Act.eval ⟨M,[]⟩ x=.pointer (some ⟨b,0,none⟩)->0<=n->n<m->(execOp (Act.eval ⟨M,[]⟩) B).run P w=.ok (.value (.pointer (some ⟨b,n.toNat,none⟩))) w:=by
  intro b hx h0 h1;unfold execOp;simp[aC,hx,vk,Instr.indexAt,Instr.sureAddr,asIntOf,run_underlying fr,h0,h1,sizeOf,kK kh,js,gG]
 unfold rh;split
 ·rename_i o s u hx;rw[hx] at bq;split
  ·rename_i bi xs hrow;split
   ·rename_i jc;obtain⟨rfl,rfl⟩:=jc;refine Holds.ek fun y hy=>?_
    obtain⟨zs,hz1,hz2⟩:=Option.bind_eq_some_iff.1 (hy:(long m xs).bind (fun xs=>a6 xs.length n)=some y)
    obtain⟨rfl,hlen⟩:=tR hz1;unfold a6 at hz2;split at hz2
    ·rename_i hb;cases hz2;obtain⟨b,c,cs,hv,cM,_⟩:=S.arr hrow bq;refine dC S Z (run hv hb.1 (by rw[<-hlen];exact hb.2)) ⟨b,?_,?_⟩
     ·rw[he,Nat.mul_one,Nat.add_zero]
     ·rcases jG hrow with h|h<;>exact Ref.mk h rfl ⟨_,_,cM⟩
    ·cases hz2
   ·exact .fail
  ·exact .fail
 ·rename_i g hx;rw[hx] at bq;split
  ·rename_i bi xs qE;cases hc:(decide (bi=t)&&xs.length.beq m) with
   |false=>exact .fail
   |true=>
    simp only[Bool.and_eq_true,decide_eq_true_eq] at hc;obtain⟨rfl,hlen⟩:=hc;have hlen:=Nat.eq_of_beq_eq_true hlen;refine Holds.ek fun y hy=>?_
    have dU:aU xs n=some y:=hy;unfold aU at dU;split at dU
    ·rename_i h0;have hlt:n.toNat<xs.length:=by
      rcases Nat.lt_or_ge n.toNat xs.length with h|h
      ·exact h
      ·rw[List.getElem?_eq_none h] at dU;cases dU
     obtain⟨W5,td⟩:=H.gt g _ _ qE;obtain⟨ft,b7⟩:=S.kD;obtain⟨gj,fz',cs,hg,dH⟩:=td w (aw X D st.sites) ft;have hv:Act.eval ⟨M,[]⟩ x=.pointer (some ⟨g,0,none⟩):=bq;refine dC S Z (run hv h0 (by omega)) ⟨g,n.toNat,rfl,(b7 g W5).1,(b7 g W5).2,(cs.drop n.toNat).take 1,?_,fun j u hu=>?_,?_⟩
     ·have:cs.length=xs.length:=by rw[dH.1,eV,he,Nat.mul_one]
      rw[iN,he];simp;omega
     ·exact(((hP.row hg).drop n.toNat).take 1) j u hu|>fun h=>by simpa using h
     ·have hs:=tO bi xs n.toNat y dU;rw[he,Nat.mul_one] at hs;have mz:cT w (aw X D st.sites) (flat bi xs) cs:=dH;have aiZ:=g' (D:=D) (sites:=st.sites) mz.1 mz.2;have h2:=iR (ds:=((flat bi xs).drop n.toNat).take 1) (by
       have:=(aiZ.drop n.toNat).take 1;simpa[cx,List.map_drop,List.map_take] using this)
      rw[hs] at h2;exact h2.2
    ·cases dU
  ·exact .fail
 ·exact .fail
theorem aci(S:am O Y X D st M w){C:Ctx}(H:CtxOk P C){T e:TypeId}{t:aY}{m:Nat}{x i:Operand}{k:IntKind}{n:Int}(be:C.tt T=.arr e t m)(hi:aX C st 0 i=.av (.ak (.d (.int k n))))(aC:B.op=.index T x i)(Z:ce st B.dst=true):
  Holds (GR t m (aX C st T x) n) (cD P O Y X st M w B):=by
 have bE:=H.tt T;rw[be] at bE;obtain⟨fr,_,l2⟩:=bE;obtain⟨he,⟨d,z0,mJ⟩,_⟩:=mW l2;have vk:=jM S hi;have bq:=du S C T x;obtain⟨inf,kh,js⟩:∃inf,P.info? e=some inf/\inf.size=1:=by
  have:=mJ.2.2.2;cases ar:P.info? e with
  |none=>simp[ar] at this
  |some i=>simp only[ar,Option.map_some,Option.some.injEq,Prod.mk.injEq] at this;exact⟨i,rfl,this.1⟩
 unfold GR;split
 ·rename_i ad hx;rw[hx] at bq;split
  ·rename_i xs sZ;cases hc:xs.length.beq m with
   |false=>exact .fail
   |true=>
    have hlen:=Nat.eq_of_beq_eq_true hc;refine Holds.ek fun y hy=>?_
    have dU:aU xs n=some y:=hy;unfold aU at dU;split at dU
    ·rename_i h0;have hlt:n.toNat<xs.length:=by
      rcases Nat.lt_or_ge n.toNat xs.length with h|h
      ·exact h
      ·rw[List.getElem?_eq_none h] at dU;cases dU
     obtain⟨vs,hv,hl,hr⟩:∃vs:List Value,Act.eval ⟨M,[]⟩ x=.agg vs.toArray/\vs.length=ad.length/\∀j (h:j<ad.length) (af:j<vs.length),dO D st.sites w (aw X D st.sites) (ad[j]) (vs[j]):=bq;have oZ:cr D st.sites w (aw X D st.sites) ad vs:=⟨hl,hr⟩;rw[Ga sZ] at oZ;have s7:=iR oZ;have lY:vs.length=xs.length:=by rw[s7.1,eV,he,Nat.mul_one]
     obtain⟨d1,hd1⟩:∃d1,enc t y=[d1]:=by
      have:=iN t y;rw[he] at this;match h:enc t y,this with
      |[d1],_=>exact⟨d1,rfl⟩
     simp only[hd1];have cJ:n.toNat<vs.length:=by omega
     refine dC S Z (vv:=vs[n.toNat]) ?_ ?_
     ·have H0:(isAgg e).run P w=.ok false w:=by
       have h1:=mJ.1;simp only[isAgg,Sem.run_bind,run_underlying h1,Result.andThen_ok];have g1:=mJ.2.1;have g2:=mJ.2.2.1;cases d<;>first|rfl|exact absurd rfl (g1 _)|exact absurd rfl (g2 _ _)
      have h1:n<(m:Int):=by omega
      unfold execOp;simp[aC,hv,vk,Instr.index,asIntOf,run_underlying fr,h0,h1,sizeOf,kK kh,js,part,H0,cJ]
     ·have hs:=tO t xs n.toNat y dU;rw[he,Nat.mul_one,hd1] at hs;have o7:n.toNat<(flat t xs).length:=by rw[eV,he,Nat.mul_one];exact hlt
      have e1:(flat t xs)[n.toNat]=d1:=by
       have:=congrArg (fun l=>l[0]?) hs
       simp only[List.getElem?_take,List.getElem?_drop] at this;rw[if_pos (by decide),Nat.add_zero,List.getElem?_eq_getElem o7] at this
       simpa using this
      have:=s7.2 n.toNat o7 cJ;rw[e1] at this;exact this
    ·cases dU
  ·exact .fail
 ·exact .fail
theorem abi(S:am O Y X D st M w){C:Ctx}(H:CtxOk P C){T e:TypeId}{t:aY}{m:Nat}{x:Operand}{cO hi:Option Operand}(be:C.tt T=.arr e t m)(aC:B.op=.slice T x cO hi none)(Z:ce st B.dst=true):
  Holds (rZ st t m (aX C st T x) (cO.map (aX C st 0)) (hi.map (aX C st 0))) (cD P O Y X st M w B):=by
 have bE:=H.tt T;rw[be] at bE;obtain⟨fr,_,l2⟩:=bE;obtain⟨he,⟨d,z0,mJ⟩,_⟩:=mW l2;have bq:=du S C T x;obtain⟨inf,kh,js⟩:∃inf,P.info? e=some inf/\inf.size=1:=by
  have:=mJ.2.2.2;cases ar:P.info? e with
  |none=>simp[ar] at this
  |some i=>simp only[ar,Option.map_some,Option.some.injEq,Prod.mk.injEq] at this;exact⟨i,rfl,this.1⟩
 have qi:∀{cO:Option Operand} {k_ l:Int},iy k_ (cO.map (aX C st 0))=some l->(cO.map (Act.eval ⟨M,[]⟩)=none/\l=k_)\/∃k,cO.map (Act.eval ⟨M,[]⟩)=some (.int k l):=by
  intro cO k_ l h;rcases Oi S h with⟨rfl,af⟩|⟨x,k,rfl,af⟩
  ·exact .inl ⟨rfl,af⟩
  ·exact .inr ⟨k,by simp[af]⟩
 unfold rZ;split
 ·rename_i o s u hx;rw[hx] at bq;split
  ·rename_i bi xs l h hrow fN hhi;split
   ·rename_i jc;obtain⟨rfl,rfl⟩:=jc;refine Holds.hq fun r hr=>?_
    obtain⟨zs,hz1,hz2⟩:=Option.bind_eq_some_iff.1 (hr:(long m xs).bind (fun xs=>br xs l h)=some r)
    obtain⟨rfl,hlen⟩:=tR hz1;unfold br at hz2;split at hz2
    ·rename_i hb;obtain⟨h0,h1,h2⟩:=hb;cases hz2;obtain⟨b,c,cs,hv,cM,_⟩:=S.arr hrow bq;refine My (us:=[(o,.db s bi zs)]) (Oa hrow).symm ?_
     have hfz:dE st.sites [(o,.db s bi zs)]:=by
      intro aa ab hm;simp only[List.mem_singleton,Prod.mk.injEq] at hm;obtain⟨rfl,rfl⟩:=hm;exact⟨s,bi,zs,rfl,jG hrow⟩
     have aV:kJ O Y X D st M w [(o,.db s bi zs)]:=⟨S,hfz⟩;have Ji:=Cq hfz (List.mem_singleton.2 rfl);obtain⟨dH,Rv⟩:=aV.new.sites o _ Ji;rw[cM] at dH;generalize WP:Value.slice (some ⟨b,0,none⟩) zs.length c=v at dH;cases dH with
     |nil=>cases WP
     |sl _ _ a cap nW k hk hcap dP hl hc hr=>
      cases WP;have apr:=CO (P:=P) (w:=w) false m m (cO.map (Act.eval ⟨M,[]⟩)) (hi.map (Act.eval ⟨M,[]⟩)) l h (qi fN) (qi hhi) h0 h1 (by omega) (Nat.le_refl _)
      refine kM (us:=[(o,.db s bi zs)]) aV.new Z (vv:=.slice (if m=l.toNat then some ⟨b,0,none⟩ else(some (⟨b,0,none⟩:Addr)).map (·.add (l.toNat*aT bi))) (h.toNat-l.toNat) (m-l.toNat)) ?_ ?_
      ·unfold execOp;simp only[aC,Option.map_none,Sem.run_bind,Instr.sliceAt,run_underlying fr,Result.andThen_ok,hv,Instr.sureAddr,Sem.run_pure,apr,sizeOf,kK kh,js,he];split<;>simp
      ·exact Fm dP ⟨hl,hr⟩ hc l.toNat h.toNat m (by omega) (by omega) (by omega)
    ·cases hz2
   ·exact .fail
  ·exact .fail
 ·exact .fail
theorem acp{f g:Nat->Option (Nat×Nat)}(h:∀i p,f i=some p->g i=some p):∀(l:List (Nat×Value)) (cs nW:Array Value),Instr.fill f cs l=some nW->Instr.fill g cs l=some nW:=by
 intro l;induction l with
 |nil=>intro cs nW k;exact k
 |cons p l ih=>
  obtain⟨i,v⟩:=p;intro cs nW k;simp only[Instr.fill] at k ⊢;cases hf:f i with
  |none=>simp[hf] at k
  |some q=>
   obtain⟨off,size⟩:=q;rw[h i _ hf];rw[hf] at k;simp only at k ⊢;split at k
   ·cases k
   ·rename_i hn;rw[if_neg hn];exact ih _ _ k
theorem acA(S:am O Y X D st M w){C:Ctx}(H:CtxOk P C){T e:TypeId}{t:aY}{n:Nat}{z:aE}{parts:Array (Nat×Operand)}(be:C.tt T=.arr e t n)(hz:sV t=some z)(aC:B.op=.build T parts)(Z:ce st B.dst=true):
  Holds (step.mo C st ((List.range n).map fun j=>(j,1)) (List.replicate n z) parts.toList) (cD P O Y X st M w B):=by
 have bE:=H.tt T;rw[be] at bE;obtain⟨fr,⟨fO,fD,kh,hz1,hzz⟩,l2⟩:=bE;rw[hz] at hz1;cases hz1;obtain⟨he,⟨d,z0,mJ⟩,_⟩:=mW l2;obtain⟨atI,ape,ak5⟩:∃inf,P.info? e=some inf/\inf.size=1:=by
  have:=mJ.2.2.2;cases ar:P.info? e with
  |none=>simp[ar] at this
  |some i=>simp only[ar,Option.map_some,Option.some.injEq,Prod.mk.injEq] at this;exact⟨i,rfl,this.1⟩
 obtain⟨aD,az,bD⟩:=tJ hzz;intro y hy hc;obtain⟨g1,jo,g2,g3⟩:=Nh S parts.toList (List.replicate n z) fO ⟨aD,fun j h af=>bD _ _ _ _ j h af⟩ y hy hc
 rw[g1];refine dC S Z (vv:=.agg jo) ?_ g3;cases hi:P.info? T with
 |none=>simp[hi] at kh
 |some it=>
  simp only[hi,Option.map_some,Option.some.injEq,Prod.mk.injEq] at kh;have hb:P.built T (parts.toList.map fun p=>(p.1,Act.eval ⟨M,[]⟩ p.2))=some jo:=by
   unfold Program.built;simp only[hi,fr,kh.2,ape,ak5];refine acp (fun i p hp=>?_) _ _ _ g2
   simp only[List.getElem?_toArray,List.getElem?_map,Option.map_eq_some_iff] at hp;obtain⟨a,ha,rfl⟩:=hp;have:=List.getElem?_eq_some_iff.1 ha;obtain⟨h1,h2⟩:=this;simp at h2;subst h2;simp
  have dP:P.built T (parts.map fun p=>(p.1,Act.eval ⟨M,[]⟩ p.2)).toList=some jo:=by simpa using hb
  unfold execOp;simp only[aC,Sem.run_bind,run_build w T _ jo dP,Result.andThen_ok,Sem.run_pure]
theorem Z8(S:am O Y X D st M w){C:Ctx}{x:Operand}{k:IntKind}{n:Int}{T dL:TypeId}(aC:B.op=.unOp .xor dL x)(Z:ce st B.dst=true)(hc:aX C st T x=.av (.ak (.d (.int k n)))):
  cD P O Y X st M w B (one (.int k (dh k (if k.signed then-1 else k.max) n))) []:=by
 refine dC S Z (vv:=.int k (dh k (if k.signed then-1 else k.max) n)) ?_ (.int _ _)
 unfold execOp;simp[aC,jM S hc,Op.unary,Op.intBits,dh]
end
def lN:Nat->Value:=fun _=>undef
def mv(w:World)(av:Nat->Prop)(l:aE)(v:Value)(bs:List Nat):Prop:=
 match l with
 |.fresh t xs=>bs=(bG v).toList/\∃e,∃cs:List Value,rowAt w t.jy e (aT t) v xs.length cs/\cT w av (flat t xs) cs
 |l=>bs=[]/\dO lN [] w av l v
def k4(w:World)(av:Nat->Prop):List aE->List Value->List Nat->Prop
 |[],[],bs=>bs=[]
 |l::ad,v::vs,bs=>∃b1 b2,bs=b1++b2/\mv w av l v b1/\k4 w av ad vs b2
 |_,_,_=>False
def AQ(w:World)(av:Nat->Prop):bL->Value->List Nat->Prop
 |.ak l,v,bs=>mv w av l v bs
 |.agg ad,v,bs=>∃vs:List Value,v=.agg vs.toArray/\k4 w av ad vs bs
def kW(w:World)(av:Nat->Prop):List bL->List Value->List Nat->Prop
 |[],[],bs=>bs=[]
 |l::ad,v::vs,bs=>∃b1 b2,bs=b1++b2/\AQ w av l v b1/\kW w av ad vs b2
 |_,_,_=>False
def Gf(w:World)(av:Nat->Prop)(b:Nat)(cells:List aE)(bs:List Nat):Prop:=
 ∃T,∃cur:List Value,∃nX,bs=b::nX/\w.heap[b]? =some (.cells cur.toArray T (0,0))/\(∀u∈cur,u.oneCell'=true)/\mu cells T cur b/\k4 w av cells cur nX
def PJ(w:World)(av:Nat->Prop):Arg->Value->List Nat->Prop
 |.av a,v,bs=>AQ w av a v bs
 |.fh cells,v,bs=>∃b,v=.pointer (some ⟨b,0,none⟩)/\Gf w av b cells bs
def iP(w:World)(av:Nat->Prop):List Arg->List Value->List Nat->Prop
 |[],[],bs=>bs=[]
 |l::ad,v::vs,bs=>∃b1 b2,bs=b1++b2/\PJ w av l v b1/\iP w av ad vs b2
 |_,_,_=>False
def dK:List Arg->List Value->List Nat
 |.fh _::as,.pointer (some a)::vs=>a.block::dK as vs
 |_::as,_::vs=>dK as vs
 |_,_=>[]
def iT(w:World)(av:Nat->Prop):List Nat->List (List aE)->List Nat->Prop
 |[],[],bs=>bs=[]
 |b::dt,cs::cK,bs=>∃b1 b2,bs=b1++b2/\Gf w av b cs b1/\iT w av dt cK b2
 |_,_,_=>False
def np:List Value->Value
 |[v]=>v
 |vs=>.tuple vs.toArray
def Enters(P:Program)(g:FuncId)(vs:Array Value)(w:World)(R:Value->World->Prop):Prop:=
 ((callFunc g vs).run P w=.ok (.enter g vs) w/\Calls P g vs w fun|.returned v,w'=>R v w'|_,_=>False)\/(∃v w',(callFunc g vs).run P w=.ok (.value v) w'/\R v w')
def aF(P:Program)(g:FuncId)(S:aH):Prop:=
 ∀as y,(S as).comp=some y->∀(w:World) (X:Nat->Prop) (vs:List Value) (dn:List Nat),iP w (fun b=>X b\/b∈dn) as vs dn->dn.Nodup->(∀b,b∈dn->¬X b)->(∀b,X b->b<w.heap.size)->iu w dn X->
  Enters P g vs.toArray w fun v w'=>∃ei eh rv,Fr dn w w'/\iT w' (fun b=>X b\/b∈ei++eh) (dK as vs) ((S as).fh y) ei/\kW w' (fun b=>X b\/b∈ei++eh) ((S as).e_ y) rv eh/\
   v=np rv/\(ei++eh).Nodup/\∀b,b∈ei++eh->¬X b/\(b∈dn\/w.heap.size<=b)
section
variable {O:World}{Y:List Nat}{X:Nat->Prop}{D:Nat->Value}{st:ah}{M:Array Value}{w:World}
theorem b_.gN{sites:List (Nat×Site)}{av b':Nat->Prop}(h:∀b,b' b->av b)(hlt:∀b,b' b->b<w.heap.size){a:aJ}{v:Value}(k:b_ D sites w av a v):b_ D sites w b' a v:=by
 have G:hX D D sites sites w w av b':=⟨fun o ab hs=>⟨ab,hs,Nat.le_refl _,fun _=>rfl⟩,fun _ _ _=>rfl,fun b hb _ af=>hb (h b af)⟩
 exact k.goes G (Nat.le_refl _) hlt
theorem jN.gN{sites:List (Nat×Site)}{av b':Nat->Prop}(h:∀b,b' b->av b)(hlt:∀b,b' b->b<w.heap.size){o:Nat}{ab:Site}(k:jN D sites w av o ab):jN D sites w b' o ab:=by
 have G:hX D D sites sites w w av b':=⟨fun o ab hs=>⟨ab,hs,Nat.le_refl _,fun _=>rfl⟩,fun _ _ _=>rfl,fun b hb _ af=>hb (h b af)⟩
 exact k.goes G (Nat.le_refl _) hlt rfl (fun _ _ _=>rfl)
theorem am.lt(S:am O Y X D st M w){b:Nat}(h:aw X D st.sites b):b<w.heap.size:=by
 rcases h with h|⟨o,h1,h2⟩
 ·exact S.old b h
 ·exact S.fu h1 h2
theorem am.shrink(S:am O Y X D st M w){X':Nat->Prop}(h:∀b,X' b->X b):am O Y X' D st M w:=by
 have b7:∀b,aw X' D st.sites b->aw X D st.sites b:=by
  rintro b (hb|hb)
  ·exact .inl (h b hb)
  ·exact .inr hb
 have hlt:=fun b hb=>S.lt (b7 b hb)
 exact⟨S.nt,fun t=>(S.cE t).gN b7 hlt,fun o ab hs=>(S.sites o ab hs).gN b7 hlt,S.dT,fun o b h1 h2=>⟨fun hx=>(S.cf o b h1 h2).1 (h b hx),(S.cf o b h1 h2).2⟩,S.frame,fun b hb=>S.old b (h b hb),S.eX.less fun b _=>h b⟩
theorem am.kill(S:am O Y X D st M w){o:Nat}{ab:Site}(hl:look st.sites o=some ab)(lI:ab.live=true):
  am O Y (fun b=>X b\/bG (D o)=some b) D {st with sites:=ci st.sites o (.dead ab.cq)} M w:=by
 have cJ:∀aa,cd (ci st.sites o (.dead ab.cq)) aa->aa≠o/\cd st.sites aa:=by
  rintro aa ⟨s,h1,h2⟩;rw[cV] at h1;by_cases e:o=aa
  ·subst e;simp at h1;subst h1;cases h2
  ·simp only[e,if_false] at h1;exact⟨fun h=>e h.symm,s,h1,h2⟩
 have b7:∀b,aw (fun b=>X b\/bG (D o)=some b) D (ci st.sites o (.dead ab.cq)) b->aw X D st.sites b:=by
  rintro b ((h|h)|⟨aa,h1,h2⟩)
  ·exact .inl h
  ·exact .inr ⟨o,⟨ab,hl,lI⟩,h⟩
  ·exact .inr ⟨aa,(cJ aa h1).2,h2⟩
 have hlt:=fun b hb=>S.lt (b7 b hb)
 have ca:am O Y X D {st with sites:=ci st.sites o (.dead ab.cq)} M w:=by
  have vn:∀b,aw X D (ci st.sites o (.dead ab.cq)) b->aw X D st.sites b:=by
   rintro b (h|⟨aa,h1,h2⟩)
   ·exact .inl h
   ·exact .inr ⟨aa,(cJ aa h1).2,h2⟩
  refine S.p' (fun aa s hs=>?_) (fun _ _ _=>rfl) (fun b hb _ af=>hb (vn b af)) (fun go aa s hs=>?_) (fun aa ρ b h1 h2 g1 g2=>S.dT aa ρ b (cJ aa h1).2 (cJ ρ h2).2 g1 g2) (fun aa b h1 h2=>S.cf aa b (cJ aa h1).2 h2)
   (fun aa b h1 h2=>S.fu (cJ aa h1).2 h2) S.frame (Nat.le_refl _)
  ·rw[cV];by_cases e:o=aa
   ·subst e;rw[hl] at hs;cases hs;exact⟨.dead ab.cq,by simp,Nat.le_refl _,fun _=>rfl⟩
   ·exact⟨s,by simp[e,hs],Nat.le_refl _,fun _=>rfl⟩
  ·rw[cV] at hs;by_cases e:o=aa
   ·simp only[e,if_true,Option.some.injEq] at hs;subst hs;exact .inr trivial
   ·simp only[e,if_false] at hs;exact .inl ⟨hs,rfl,fun _ _ _=>rfl⟩
 refine⟨ca.nt,fun t=>?_,fun aa s hs=>?_,ca.dT,fun aa b h1 h2=>⟨?_,(ca.cf aa b h1 h2).2⟩,ca.frame,?_,S.eX.less fun b hb hx=>hx.elim id fun e=>absurd (.inr ⟨o,⟨ab,hl,lI⟩,e⟩) (S.kD.2 b hb).1⟩
 ·have G:hX D D st.sites (ci st.sites o (.dead ab.cq)) w w (aw X D st.sites) (aw (fun b=>X b\/bG (D o)=some b) D (ci st.sites o (.dead ab.cq))):=
   ⟨fun aa s hs=>by
    rw[cV];by_cases e:o=aa
    ·subst e;rw[hl] at hs;cases hs;exact⟨.dead ab.cq,by simp,Nat.le_refl _,fun _=>rfl⟩
    ·exact⟨s,by simp[e,hs],Nat.le_refl _,fun _=>rfl⟩,fun _ _ _=>rfl,fun b hb _ af=>hb (b7 b af)⟩
  exact(S.cE t).goes G (Nat.le_refl _) hlt
 ·have fC:look (ci st.sites o (.dead ab.cq)) aa=some s:=hs;rw[cV] at fC;by_cases e:o=aa
  ·simp only[e,if_true,Option.some.injEq] at fC;subst fC;trivial
  ·simp only[e,if_false] at fC;have G:hX D D st.sites (ci st.sites o (.dead ab.cq)) w w (aw X D st.sites) (aw (fun b=>X b\/bG (D o)=some b) D (ci st.sites o (.dead ab.cq))):=
    ⟨fun aa s hs=>by
     rw[cV];by_cases e:o=aa
     ·subst e;rw[hl] at hs;cases hs;exact⟨.dead ab.cq,by simp,Nat.le_refl _,fun _=>rfl⟩
     ·exact⟨s,by simp[e,hs],Nat.le_refl _,fun _=>rfl⟩,fun _ _ _=>rfl,fun b hb _ af=>hb (b7 b af)⟩
   exact(S.sites aa s fC).goes G (Nat.le_refl _) hlt rfl (fun _ _ _=>rfl)
 ·rintro(hx|hx)
  ·exact(ca.cf aa b h1 h2).1 hx
  ·exact(cJ aa h1).1 (S.dT aa o b (cJ aa h1).2 ⟨ab,hl,lI⟩ h2 hx)
 ·rintro b (hb|hb)
  ·exact S.old b hb
  ·exact S.fu ⟨ab,hl,lI⟩ hb
theorem am.jump(S:am O Y X D st M w){w':World}(h:∀b,¬X b->b<w.heap.size->w'.heap[b]? =w.heap[b]?)(hs:w.heap.size<=w'.heap.size)(hf:Fr Y O w'):
  am O Y (fun b=>X b\/(w.heap.size<=b/\b<w'.heap.size)) D st M w':=by
 have hlt:∀b,aw (fun b=>X b\/(w.heap.size<=b/\b<w'.heap.size)) D st.sites b->b<w'.heap.size:=by
  rintro b ((hb|hb)|⟨aa,h1,h2⟩)
  ·exact Nat.lt_of_lt_of_le (S.old b hb) hs
  ·exact hb.2
  ·exact Nat.lt_of_lt_of_le (S.fu h1 h2) hs
 have G:hX D D st.sites st.sites w w' (aw X D st.sites) (aw (fun b=>X b\/(w.heap.size<=b/\b<w'.heap.size)) D st.sites):=
  ⟨fun aa s h=>⟨s,h,Nat.le_refl _,fun _=>rfl⟩,fun b hb dP=>h b (fun hx=>hb (.inl hx)) dP,fun b hb dP af=>by
   rcases af with(af|af)|af
   ·exact hb (.inl af)
   ·omega
   ·exact hb (.inr af)⟩
 refine⟨S.nt,fun t=>(S.cE t).goes G hs hlt,fun o s h1=>(S.sites o s h1).goes G hs hlt rfl (fun hl b hb=>?_),S.dT,fun o b h1 h2=>⟨?_,(S.cf o b h1 h2).2⟩,hf,?_,S.eX.less fun b hb hx=>hx.elim id fun e=>absurd (S.kD.2 b hb).2 (by omega)⟩
 ·exact h b (S.cf o b ⟨s,h1,hl⟩ hb).1 (S.fu ⟨s,h1,hl⟩ hb)
 ·rintro(hx|hx)
  ·exact(S.cf o b h1 h2).1 hx
  ·have:=S.fu h1 h2;omega
 ·rintro b (hb|hb)
  ·exact Nat.lt_of_lt_of_le (S.old b hb) hs
  ·exact hb.2
theorem am.u3(S:am O Y X D st M w){X':Nat->Prop}{n:Nat}{bT:Site}{nv:Value}(gh:∀b,X' b->X b)
  (dG:(∀ab,look st.sites n=some ab->ab.cq<bT.cq)\/(D n=nv/\∀ab,look st.sites n=some ab->ab.cq=bT.cq/\ab.live=false))
  (hb:∀b,bG nv=some b->X b/\¬X' b/\(b∈Y\/O.heap.size<=b))
  (ft:∀{bS:List (Nat×Site)} {aI:Nat->Value},bS=ci st.sites n bT->aI n=nv->(∀{a v},b_ D st.sites w (aw X D st.sites) a v->b_ aI bS w (aw X' aI bS) a v)->
   (∀b,aw X' aI bS b->aw X D st.sites b)->jN aI bS w (aw X' aI bS) n bT):
  am O Y X' (fun aa=>if aa=n then nv else D aa) {st with sites:=ci st.sites n bT} M w/\
   (∀b,aw X' (fun aa=>if aa=n then nv else D aa) (ci st.sites n bT) b->aw X D st.sites b)/\
   (∀{a v},b_ D st.sites w (aw X D st.sites) a v->b_ (fun aa=>if aa=n then nv else D aa) (ci st.sites n bT) w (aw X' (fun aa=>if aa=n then nv else D aa) (ci st.sites n bT)) a v):=by
 have cJ:∀aa,cd (ci st.sites n bT) aa->aa=n\/(aa≠n/\cd st.sites aa):=by
  rintro aa ⟨s,h1,h2⟩;rw[cV] at h1;by_cases e:n=aa
  ·exact .inl e.symm
  ·simp only[e,if_false] at h1;exact .inr ⟨fun h=>e h.symm,s,h1,h2⟩
 have b7:∀b,aw X' (fun aa=>if aa=n then nv else D aa) (ci st.sites n bT) b->aw X D st.sites b:=by
  rintro b (h|⟨aa,h1,h2⟩)
  ·exact .inl (gh b h)
  ·rcases cJ aa h1 with rfl|⟨h3,ax⟩
   ·simp at h2;exact .inl (hb b h2).1
   ·simp only[h3,if_false] at h2;exact .inr ⟨aa,ax,h2⟩
 have qg:∀o ab,look st.sites o=some ab->∃aG,look (ci st.sites n bT) o=some aG/\ab.cq<=aG.cq/\(aG.cq=ab.cq->(fun aa=>if aa=n then nv else D aa) o=D o):=by
  intro aa s hs;rw[cV];by_cases e:n=aa
  ·subst e;refine⟨bT,by simp,?_,fun h=>?_⟩
   ·rcases dG with h|⟨_,h⟩
    ·exact Nat.le_of_lt (h s hs)
    ·exact Nat.le_of_eq (h s hs).1
   ·rcases dG with af|⟨af,_⟩
    ·have:=af s hs;omega
    ·simp[af]
  ·have cz:¬aa=n:=fun h=>e h.symm
   exact⟨s,by simp[e,hs],Nat.le_refl _,fun _=>by simp[cz]⟩
 have G:hX D (fun aa=>if aa=n then nv else D aa) st.sites (ci st.sites n bT) w w (aw X D st.sites) (aw X' (fun aa=>if aa=n then nv else D aa) (ci st.sites n bT)):=
  ⟨qg,fun _ _ _=>rfl,fun b hb _ af=>hb (b7 b af)⟩
 have hlt:=fun b hb=>S.lt (b7 b hb)
 refine⟨⟨S.nt,fun t=>(S.cE t).goes G (Nat.le_refl _) hlt,fun aa s hs=>?_,fun aa ρ b h1 h2 g1 g2=>?_,fun aa b h1 h2=>?_,S.frame,fun b h=>S.old b (gh b h),S.eX.less fun b _=>gh b⟩,b7,fun h=>h.goes G (Nat.le_refl _) hlt⟩
 ·have fC:look (ci st.sites n bT) aa=some s:=hs;rw[cV] at fC;by_cases e:n=aa
  ·subst e;simp only[if_true,Option.some.injEq] at fC;subst fC;exact ft rfl (by simp) (fun h=>h.goes G (Nat.le_refl _) hlt) b7
  ·have cz:¬aa=n:=fun h=>e h.symm
   simp only[e,if_false] at fC;exact(S.sites aa s fC).goes G (Nat.le_refl _) hlt (by simp[cz]) (fun _ _ _=>rfl)
 ·rcases cJ aa h1 with rfl|⟨n1,eb⟩<;>rcases cJ ρ h2 with rfl|⟨n2,gw⟩
  ·rfl
  ·simp only[if_true] at g1;simp only[n2,if_false] at g2;exact absurd (hb b g1).1 (S.cf ρ b gw g2).1
  ·simp only[if_true] at g2;simp only[n1,if_false] at g1;exact absurd (hb b g2).1 (S.cf aa b eb g1).1
  ·simp only[n1,if_false] at g1;simp only[n2,if_false] at g2;exact S.dT aa ρ b eb gw g1 g2
 ·rcases cJ aa h1 with rfl|⟨n1,eb⟩
  ·simp only[if_true] at h2;exact⟨(hb b h2).2.1,(hb b h2).2.2⟩
  ·simp only[n1,if_false] at h2;exact⟨fun hx=>(S.cf aa b eb h2).1 (gh b hx),(S.cf aa b eb h2).2⟩
end
def ka(w:World)(av:Nat->Prop):List (List aZ)->List Value->Prop
 |[],[]=>True
 |ds::r,v::vs=>(∃b,∃cs:List Value,v=.pointer (some ⟨b,0,none⟩)/\¬av b/\b<w.heap.size/\hP w b 0 cs/\cT w av ds cs)/\ka w av r vs
 |_,_=>False
theorem ka.fn{w:World}{av:Nat->Prop}{g:FuncId}:∀{bw:List (List aZ)} {vs:List Value},ka w av bw vs->bA w av (.fn g bw) (.func (.func g) #[] vs.toArray):=by
 intro bw vs h;have key:∀{bw:List (List aZ)} {vs:List Value},ka w av bw vs->∃mS:List Nat,∃eY:List (List Value),vs=mS.map (fun b=>Value.pointer (some ⟨b,0,none⟩))/\mS.length=bw.length/\eY.length=bw.length/\
   (∀b,b∈mS->¬av b/\b<w.heap.size)/\(∀i (h:i<mS.length) (af:i<eY.length),hP w mS[i] 0 eY[i])/\(∀i (h:i<bw.length) (af:i<eY.length),cT w av bw[i] eY[i]):=by
  intro bw;induction bw with
  |nil=>
   intro vs h;match vs,h with
   |[],_=>exact⟨[],[],rfl,rfl,rfl,fun b h=>by simp at h,fun i h=>by simp at h,fun i h=>by simp at h⟩
  |cons ds bw ih=>
   intro vs h;match vs,h with
   |v::vs,⟨⟨b,cs,h1,h2,h3,ax,bk⟩,cl⟩=>
    obtain⟨mS,eY,aD,az,bD,cQ,fF,h9⟩:=ih cl;refine⟨b::mS,cs::eY,by simp[h1,aD],by simp[az],by simp[bD],fun c hc=>?_,fun i g1 g2=>?_,fun i g1 g2=>?_⟩
    ·rcases List.mem_cons.1 hc with rfl|hc
     ·exact⟨h2,h3⟩
     ·exact cQ c hc
    ·cases i with
     |zero=>exact ax
     |succ i=>exact fF i (by simpa using g1) (by simpa using g2)
    ·cases i with
     |zero=>exact bk
     |succ i=>exact h9 i (by simpa using g1) (by simpa using g2)
 obtain⟨mS,eY,aD,az,bD,cQ,fF,h9⟩:=key h;refine .fn g bw mS (fun i=>eY.getD i []) _ (by rw[aD]) az (fun b hb=>(cQ b hb).1) (fun b hb=>(cQ b hb).2) (fun i hi=>?_) (fun i hi j u hu=>?_) (fun i hi j h1 h2=>?_)
 ·have af:i<eY.length:=by omega
  have:=(h9 i hi af).1;simpa[List.getD,af] using this
 ·have af:i<eY.length:=by omega
  have:=fF i hi af j u (by simpa[List.getD,af] using hu)
  simpa using this
 ·have af:i<eY.length:=by omega
  have h2':j<eY[i].length:=by simpa[List.getD,af] using h2
  have:=(h9 i hi af).2 j h1 h2';simpa[List.getD,af] using this
theorem ka.Rf{w:World}{av:Nat->Prop}{g:FuncId}{bw:List (List aZ)}{v:Value}(h:bA w av (.fn g bw) v):∃vs:List Value,v=.func (.func g) #[] vs.toArray/\ka w av bw vs:=by
 cases h with
 |fn _ _ bs iM lb hlb tg hb hlt hl hc hr=>
  refine⟨bs.map fun b=>Value.pointer (some ⟨b,0,none⟩),by rw[hlb],?_⟩
  have key:∀(bw:List (List aZ)) (bs:List Nat) (iM:Nat->List Value),bs.length=bw.length->(∀b,b∈bs->¬av b/\b<w.heap.size)->(∀i (h:i<bw.length),(iM i).length=(bw[i]).length)->
    (∀i (h:i<bs.length) j u,(iM i)[j]? =some u->w.cell? ⟨bs[i],j,none⟩=some u)->(∀i (h:i<bw.length) j (h1:j<(bw[i]).length) (h2:j<(iM i).length),bA w av ((bw[i])[j]) ((iM i)[j]))->
    ka w av bw (bs.map fun b=>Value.pointer (some ⟨b,0,none⟩)):=by
   intro bw;induction bw with
   |nil=>intro bs iM h _ _ _ _;rw[List.eq_nil_of_length_eq_zero h];trivial
   |cons ds bw ih=>
    intro bs iM h h1 h2 h3 ax;match bs,h with
    |b::bs,h=>
     refine⟨⟨b,iM 0,rfl,(h1 b List.mem_cons_self).1,(h1 b List.mem_cons_self).2,fun j u hu=>?_,h2 0 (by simp),fun j g1 g2=>ax 0 (by simp) j g1 g2⟩,?_⟩
     ·have:=h3 0 (by simp) j u hu
      simpa using this
     ·exact ih bs (fun i=>iM (i+1)) (by simpa using h) (fun c hc=>h1 c (List.mem_cons_of_mem _ hc)) (fun i hi=>h2 (i+1) (by simpa using hi)) (fun i hi j u hu=>h3 (i+1) (by simpa using hi) j u hu)
       (fun i hi j g1 g2=>ax (i+1) (by simpa using hi) j g1 g2)
  exact key bw bs iM tg (fun b h=>⟨hb b h,hlt b h⟩) hl hc hr
section
variable {O:World}{Y:List Nat}{X:Nat->Prop}{D:Nat->Value}{st:ah}{M:Array Value}{w:World}
structure fq(O:World)(Y:List Nat)(X:Nat->Prop)(D:Nat->Value)(st:ah)(M:Array Value)(w:World)(da:List (Nat×Site))(eT:List Nat)(av:Nat->Prop):Prop where
 fz:kJ O Y X D st M w da
 le:∀b,av b->aw X D (bj st.sites da) b
 arN:∀o,o∈eT->∀b,bG (D o)=some b->¬av b
variable {da:List (Nat×Site)}{eT:List Nat}{av:Nat->Prop}
theorem fq.lt(L:fq O Y X D st M w da eT av){b:Nat}(h:av b):b<w.heap.size:=L.fz.new.lt (L.le b h)
theorem fq.sub(L:fq O Y X D st M w da eT av){b:Nat}(h:av b):aw X D st.sites b:=by
 rcases L.le b h with h|⟨o,⟨ab,h1,h2⟩,h3⟩
 ·exact .inl h
 ·refine .inr ⟨o,?_,h3⟩;rcases lr L.fz.fz o with h|⟨s,t,xs,ax,bk⟩
  ·exact⟨ab,h▸h1,h2⟩
  ·rw[bk] at h1;cases h1;cases h2
theorem fq.rd(L:fq O Y X D st M w da eT av){d:aZ}{v:Value}(h:bA w (aw X D (bj st.sites da)) d v):bA w av d v:=
 b_.gN (D:=D) (sites:=[]) (a:=one d) (v:=v) L.le (fun b hb=>L.lt hb) h
theorem fq.vH(L:fq O Y X D st M w da eT av){d:aZ}{v:Value}(h:bA w (aw X D st.sites) d v):bA w av d v:=
 b_.gN (D:=D) (sites:=[]) (a:=one d) (v:=v) (fun b hb=>L.sub hb) (fun b hb=>L.lt hb) h
theorem Nf(L:fq O Y X D st M w da eT av):∀{bw:List (Nat×Nat)} {cs:List (List aZ)} {us:List (Nat×Site)} {bs:List Nat} {vs:List Value},kV st bw=some (cs,us,bs)->
  (∀p,p∈us->p∈da)->(∀o,o∈bs->o∈eT)->vs.length=bw.length->(∀i (h:i<bw.length) (af:i<vs.length),Ref st.sites (bw[i]).1 (bw[i]).2 (vs[i]=D (bw[i]).1))->ka w av cs vs:=by
 intro bw;induction bw with
 |nil=>
  intro cs us bs vs h _ _ hl _;simp only[kV] at h;cases h;rw[List.eq_nil_of_length_eq_zero hl];trivial
 |cons c bw ih=>
  obtain⟨o,s⟩:=c;intro cs us bs vs h gP en hl hr;simp only[kV] at h;split at h
  ·rename_i cells lQ;split at h
   ·rename_i ds u1 rest u2 b2 gv oE;cases h;match vs,hl with
    |v::vs,hl=>
     have jr:=gA lQ;obtain⟨b,T,cur,h1,h2,h3,ax,_,bk⟩:=L.fz.old.sites o _ jr;have hv:v=D o:=Ref.at (hr 0 (by simp) (by simp)) jr rfl
     have dH:=zr gv ⟨h3,bk⟩ L.fz (fun p hp=>gP p (List.mem_append.2 (.inl hp)))
     refine⟨⟨b,cur,by rw[hv,h1],L.arN o (en o List.mem_cons_self) b (by rw[h1];rfl),L.fz.old.fu ⟨_,jr,rfl⟩ (by rw[h1];rfl),.row h2,dH.1,fun j g1 g2=>L.rd (dH.2 j g1 g2)⟩,?_⟩
     exact ih oE (fun p hp=>gP p (List.mem_append.2 (.inr hp))) (fun aa bN=>en aa (List.mem_cons_of_mem _ bN)) (by simpa using hl) (fun i g1 g2=>hr (i+1) (by simpa using g1) (by simpa using g2))
   ·cases h
  ·cases h
theorem Fq(L:fq O Y X D st M w da eT av){l gg:aE}{us:List (Nat×Site)}{bs:List Nat}{v:Value}(h:mw st l=some (gg,us,bs))(gP:∀p,p∈us->p∈da)(en:∀o,o∈bs->o∈eT)
  (hv:dO D st.sites w (aw X D st.sites) l v):mv w av gg v []:=by
 unfold mw at h;split at h
 ·rename_i cells;cases h;obtain⟨b,B,h1,h2,h3,cs,ax,bk,cl⟩:=hv;exact⟨rfl,b,B,h1,fun hx=>h2 (L.sub hx),h3,cs,ax,bk,fun j g1 g2=>L.vH (cl j g1 g2)⟩
 ·rename_i g c cs;split at h
  ·rename_i ds u b hc;cases h;obtain⟨vs,h1,h2,h3⟩:=hv;rw[h1];exact⟨rfl,(Nf L hc gP en h2 h3).fn⟩
  ·cases h
 ·split at h
  ·rename_i d u Z;cases h;exact⟨rfl,L.rd (QN Z hv L.fz gP)⟩
  ·cases h
theorem adW(L:fq O Y X D st M w da eT av):∀{ad f_:List aE} {us:List (Nat×Site)} {bs:List Nat} {vs:List Value},lG st ad=some (f_,us,bs)->(∀p,p∈us->p∈da)->(∀o,o∈bs->o∈eT)->
  cr D st.sites w (aw X D st.sites) ad vs->k4 w av f_ vs []:=by
 intro ad;induction ad with
 |nil=>intro f_ us bs vs h _ _ hv;simp only[lG] at h;cases h;rw[hv.nj];rfl
 |cons l ad ih=>
  intro f_ us bs vs h gP en hv;simp only[lG] at h;split at h
  ·rename_i a u1 b1 as u2 b2 h1 h2;cases h;obtain⟨v,ch,rfl,oX,oW⟩:=hv.inv;exact⟨[],[],rfl,Fq L h1 (fun p hp=>gP p (List.mem_append.2 (.inl hp))) (fun p hp=>en p (List.mem_append.2 (.inl hp))) oX,
    ih h2 (fun p hp=>gP p (List.mem_append.2 (.inr hp))) (fun p hp=>en p (List.mem_append.2 (.inr hp))) oW⟩
  ·cases h
def c9(D:Nat->Value)(fQ:List Nat):List Nat:=fQ.filterMap fun o=>bG (D o)
theorem jF{aB:Type}(a b:List (Nat×aB)):keys (a++b)=keys a++keys b:=by
 induction a with
 |nil=>rfl
 |cons p a ih=>simp[keys,ih]
theorem oa(a b:List Nat):c9 D (a++b)=c9 D a++c9 D b:=by simp[c9]
def gJ(sites:List (Nat×Site))(us:List (Nat×Site)):Prop:=∀o aG,(o,aG)∈us->∃ab,look sites o=some ab/\ab.live=true/\aG=.dead ab.cq
theorem gJ.nil{sites:List (Nat×Site)}:gJ sites []:=fun _ _ h=>by simp at h
theorem gJ.append{sites us vs:List (Nat×Site)}(h:gJ sites us)(af:gJ sites vs):gJ sites (us++vs):=by
 intro o s hm;rcases List.mem_append.1 hm with hm|hm
 ·exact h o s hm
 ·exact af o s hm
theorem afK(L:fq O Y X D st M w da eT av){o s:Nat}{t:aY}{xs:List (den t)}(hl:look st.sites o=some (.row s t xs)):
  ∃e,∃cs:List Value,rowAt w t.jy e (aT t) (D o) xs.length cs/\cT w av (flat t xs) cs:=by
 obtain⟨e,cs,h1,h2⟩:=L.fz.old.sites o _ hl;refine⟨e,cs,h1,by rw[eV];exact h1.1,fun j g1 g2=>L.vH (h2 j g1 g2)⟩
theorem x_(L:fq O Y X D st M w da eT av){l gg:aE}{us:List (Nat×Site)}{v:Value}(h:ny st l=some (gg,us))(hv:dO D st.sites w (aw X D st.sites) l v):
  mv w av gg v (c9 D (keys us))/\gJ st.sites us:=by
 unfold ny at h;split at h
 ·cases h;exact⟨⟨rfl,L.vH hv⟩,.nil⟩
 ·rename_i t;cases h;have hv:v=.slice none 0 0:=hv;subst hv;exact⟨⟨rfl,0,[],⟨by simp,.inl ⟨rfl,rfl⟩⟩,rfl,fun j g=>by simp[flat] at g⟩,.nil⟩
 ·rename_i o s;split at h
  ·rename_i aG t xs hl;cases hb:aG.beq s with
   |false=>simp[hb] at h
   |true=>
    simp only[hb,cond_true,Option.some.injEq,Prod.mk.injEq] at h;obtain⟨rfl,rfl⟩:=h;have hs:=Nat.eq_of_beq_eq_true hb;subst hs;have hl:look st.sites o=some (.row aG t xs):=hl;have mI:v=D o:=Ref.at hv.2 hl rfl;obtain⟨e,cs,h1,h2⟩:=afK L hl;refine⟨⟨?_,e,cs,by rw[mI];exact h1,h2⟩,fun aa ath hm=>?_⟩
    ·simp only[keys,c9,List.filterMap_cons,List.filterMap_nil,mI];cases bG (D o)<;>rfl
    ·simp only[List.mem_singleton,Prod.mk.injEq] at hm;obtain⟨rfl,rfl⟩:=hm;exact⟨_,hl,rfl,rfl⟩
  ·rename_i aG t xs hl;cases hb:aG.beq s with
   |false=>simp[hb] at h
   |true=>
    simp only[hb,cond_true,Option.some.injEq,Prod.mk.injEq] at h;obtain⟨rfl,rfl⟩:=h;have hs:=Nat.eq_of_beq_eq_true hb;subst hs;have hl:look st.sites o=some (.db aG t xs):=hl;have mI:v=D o:=Ref.at hv.2 hl rfl;refine⟨⟨rfl,?_⟩,.nil⟩;rw[mI];exact L.vH (L.fz.old.sites o _ hl).1
  ·cases h
 ·cases h;exact⟨⟨rfl,trivial⟩,.nil⟩
 ·cases h;exact⟨⟨rfl,hv⟩,.nil⟩
 ·cases h
theorem M7{ad f_:List aE}{us:List (Nat×Site)}(h:kj st ad=some (f_,us))(bP:f_.head?=some .dj):ad.head?=some .dj:=by
 cases ad with
 |nil=>simp only[kj] at h;cases h;cases bP
 |cons l ad=>
  simp only[kj] at h;split at h
  ·rename_i a u1 as u2 h1 h2;cases h;simp only[List.head?_cons,Option.some.injEq] at bP ⊢;subst bP;unfold ny at h1;split at h1<;>try(cases h1;done)
   ·split at h1;all_goals first|cases h1;done|skip
    all_goals
     rename_i aG t xs _;revert h1
     generalize aG.beq _=q;intro h1;cases q<;>cases h1
   ·rfl
  ·cases h
theorem FT(L:fq O Y X D st M w da eT av):∀{ad f_:List aE} {us:List (Nat×Site)} {vs:List Value},kj st ad=some (f_,us)->cr D st.sites w (aw X D st.sites) ad vs->
  k4 w av f_ vs (c9 D (keys us))/\gJ st.sites us:=by
 intro ad;induction ad with
 |nil=>intro f_ us vs h hv;simp only[kj] at h;cases h;rw[hv.nj];exact⟨rfl,.nil⟩
 |cons l ad ih=>
  intro f_ us vs h hv;simp only[kj] at h;split at h
  ·rename_i a u1 as u2 h1 h2;cases h;obtain⟨v,ch,rfl,oX,oW⟩:=hv.inv;obtain⟨aD,az⟩:=x_ L h1 oX;obtain⟨bD,cQ⟩:=ih h2 oW;exact⟨⟨_,_,by rw[jF,oa],aD,bD⟩,az.append cQ⟩
  ·cases h
theorem iP.append{as nY:List Arg}{vs ch:List Value}{bs nX:List Nat}(h:iP w av as vs bs)(af:iP w av nY ch nX):iP w av (as++nY) (vs++ch) (bs++nX):=by
 induction as generalizing vs bs with
 |nil=>
  match vs,h with
  |[],h=>have h:bs=[]:=h;subst h;exact af
 |cons a as ih=>
  match vs,h with
  |v::vs,⟨b1,b2,h1,h2,h3⟩=>exact⟨b1,b2++nX,by rw[h1,List.append_assoc],h2,ih h3⟩
theorem aaI{cs:List (List aZ)}{vs:List Value}(h:ka w av cs vs):iP w av (nl cs) vs []:=by
 induction cs generalizing vs with
 |nil=>
  match vs,h with
  |[],_=>rfl
 |cons ds cs ih=>
  match vs,h with
  |v::vs,⟨⟨b,cur,h1,h2,h3,ax,bk⟩,cl⟩=>
   refine⟨[],[],rfl,⟨rfl,b,0,by rw[h1],h2,h3,cur,by rw[bk.1],fun j u hu=>ax j u hu,bk.2⟩,ih cl⟩
theorem Lc{as nY:List Arg}{vs ch:List Value}(hl:as.length=vs.length):dK (as++nY) (vs++ch)=dK as vs++dK nY ch:=by
 induction as generalizing vs with
 |nil=>rw[List.eq_nil_of_length_eq_zero hl.symm];rfl
 |cons a as ih=>
  match vs,hl with
  |v::vs,hl=>
   have:=ih (vs:=vs) (by simpa using hl)
   cases a with
   |av a=>cases v<;>simp[dK,this]
   |fh c=>
    cases v<;>try(simp[dK,this];done)
    rename_i p;cases p<;>simp[dK,this]
theorem aaK(cs:List (List aZ))(vs:List Value):dK (nl cs) vs=[]:=by
 induction cs generalizing vs with
 |nil=>cases vs<;>rfl
 |cons c cs ih=>cases vs<;>simp[nl,dK,ih]
theorem iP.length{as:List Arg}{vs:List Value}{bs:List Nat}(h:iP w av as vs bs):as.length=vs.length:=by
 induction as generalizing vs bs with
 |nil=>
  match vs,h with
  |[],_=>rfl
 |cons a as ih=>
  match vs,h with
  |v::vs,⟨_,_,_,_,h⟩=>simp[ih h]
theorem ab1(L:fq O Y X D st M w da eT av):∀{cw:List aJ} {a:jX} {vs:List Value},iS st cw=some a->cw.length=vs.length->
  (∀i (h:i<cw.length) (af:i<vs.length),b_ D st.sites w (aw X D st.sites) (cw[i]) (vs[i]))->(∀p,p∈a.eK->p∈da)->(∀o,o∈a.fI->o∈eT)->
  iP w av a.as vs (c9 D (keys a.gone))/\gJ st.sites a.gone/\dK a.as vs=c9 D (keys a.boxes)/\(∀o s,(o,s)∈a.boxes->(o,.dead s)∈a.gone/\∃b,D o=.pointer (some ⟨b,0,none⟩)):=by
 intro cw;induction cw with
 |nil=>
  intro a vs h hl _ _ _;simp only[iS] at h;cases h;rw[List.eq_nil_of_length_eq_zero hl.symm];exact⟨rfl,.nil,rfl,fun o s hm=>by simp at hm⟩
 |cons qU cw ih=>
  intro a vs h hl hv gP en;match vs,hl with
  |v::vs,hl=>
   have mH:=hv 0 (by simp) (by simp)
   have hvs:∀i (h:i<cw.length) (af:i<vs.length),b_ D st.sites w (aw X D st.sites) (cw[i]) (vs[i]):=fun i g1 g2=>hv (i+1) (by simpa using g1) (by simpa using g2)
   have f':cw.length=vs.length:=by simpa using hl
   simp only[List.getElem_cons_zero] at mH;unfold iS at h;split at h
   ·cases ‹qU::cw=[]›
   ·rename_i o s ch bZ;cases bZ;split at h
    ·rename_i cells r lQ hr;split at h
     ·rename_i cs gone hg;cases h;obtain⟨aD,az,bD,cQ⟩:=ih hr f' hvs gP en;have jr:=gA lQ;obtain⟨b,T,cur,e1,e2,bz,dw,gi⟩:=L.fz.old.box jr mH;have HL:mu cells T cur b:=by
       obtain⟨b2,ep,T5,q1,q2,_,_,dr,_⟩:=L.fz.old.sites o _ jr;rw[e1] at q1;cases q1;rw[bz] at q2;cases q2;exact dr
      obtain⟨g1,g2⟩:=FT L hg gi;subst e2;refine⟨⟨b::c9 D (keys gone),_,?_,⟨b,rfl,T,cur,_,rfl,bz,dw,fun bP=>HL (M7 hg bP),g1⟩,aD⟩,?_,?_,?_⟩
      ·show c9 D (keys (((o,Site.dead s)::gone)++r.gone))=_;rw[jF,oa];congr 1
       simp[keys,c9,e1,bG]
      ·refine gJ.append ?_ az;intro aa aG hm;rcases List.mem_cons.1 hm with hm|hm
       ·cases hm;exact⟨_,jr,rfl,rfl⟩
       ·exact g2 aa aG hm
      ·simp[dK,bD,keys,c9,e1,bG]
      ·intro aa aG hm;rcases List.mem_cons.1 hm with hm|hm
       ·cases hm;exact⟨by simp,b,e1⟩
       ·obtain⟨q1,q2⟩:=cQ aa aG hm;exact⟨List.mem_append.2 (.inr q1),q2⟩
     ·cases h
    ·cases h
   ·rename_i l ch _ bZ;cases bZ;split at h
    ·rename_i gg us bs r h1 hr;cases h;obtain⟨aD,az,bD,cQ⟩:=ih hr f' hvs (fun p hp=>gP p (List.mem_append.2 (.inr hp))) (fun p hp=>en p (List.mem_append.2 (.inr hp)))
     have:=Fq L h1 (fun p hp=>gP p (List.mem_append.2 (.inl hp))) (fun p hp=>en p (List.mem_append.2 (.inl hp))) mH
     refine⟨⟨[],_,rfl,this,aD⟩,az,?_,cQ⟩;cases v<;>simp[dK,bD]
    ·cases h
   ·rename_i ad ch bZ;cases bZ;split at h
    ·rename_i f_ us bs r h1 hr;cases h;obtain⟨aD,az,bD,cQ⟩:=ih hr f' hvs (fun p hp=>gP p (List.mem_append.2 (.inr hp))) (fun p hp=>en p (List.mem_append.2 (.inr hp)))
     obtain⟨mC,e1,e2,bz⟩:=mH;have:=adW L h1 (fun p hp=>gP p (List.mem_append.2 (.inl hp))) (fun p hp=>en p (List.mem_append.2 (.inl hp))) ⟨e2,bz⟩
     refine⟨⟨[],_,rfl,⟨mC,e1,this⟩,aD⟩,az,?_,cQ⟩;cases v<;>simp[dK,bD]
    ·cases h
   ·cases h
theorem acl(L:fq O Y X D st M w da eT av){l gg:aE}{gs us:List (Nat×Site)}{bs:List Nat}{v:Value}(h:ow st l=some (gg,gs,us,bs))(gP:∀p,p∈us->p∈da)(en:∀o,o∈bs->o∈eT)
  (hv:dO D st.sites w (aw X D st.sites) l v):mv w av gg v (c9 D (keys gs))/\gJ st.sites gs:=by
 unfold ow at h;split at h
 ·split at h
  ·rename_i hg;cases h;exact x_ L hg hv
  ·cases h
 ·cases h;exact x_ (l:=.nil _) (us:=[]) L rfl hv
 ·split at h
  ·rename_i hl;cases h;exact⟨Fq L hl gP en hv,.nil⟩
  ·cases h
theorem aaq(L:fq O Y X D st M w da eT av):∀{cw:List aJ} {a:jX} {vs:List Value},lA st cw=some a->cw.length=vs.length->
  (∀i (h:i<cw.length) (af:i<vs.length),b_ D st.sites w (aw X D st.sites) (cw[i]) (vs[i]))->(∀p,p∈a.eK->p∈da)->(∀o,o∈a.fI->o∈eT)->
  iP w av a.as vs (c9 D (keys a.gone))/\gJ st.sites a.gone/\dK a.as vs=c9 D (keys a.boxes)/\(∀o s,(o,s)∈a.boxes->(o,.dead s)∈a.gone/\∃b,D o=.pointer (some ⟨b,0,none⟩)):=by
 intro cw;induction cw with
 |nil=>
  intro a vs h hl _ _ _;simp only[lA] at h;cases h;rw[List.eq_nil_of_length_eq_zero hl.symm];exact⟨rfl,.nil,rfl,fun o s hm=>by simp at hm⟩
 |cons qU cw ih=>
  intro a vs h hl hv gP en;match vs,hl with
  |v::vs,hl=>
   have mH:=hv 0 (by simp) (by simp)
   have hvs:∀i (h:i<cw.length) (af:i<vs.length),b_ D st.sites w (aw X D st.sites) (cw[i]) (vs[i]):=fun i g1 g2=>hv (i+1) (by simpa using g1) (by simpa using g2)
   have f':cw.length=vs.length:=by simpa using hl
   simp only[List.getElem_cons_zero] at mH;unfold lA at h;split at h
   ·cases ‹qU::cw=[]›
   ·rename_i l ch bZ;cases bZ;split at h
    ·rename_i gg gs us bs r h1 hr;cases h;obtain⟨aD,az,bD,cQ⟩:=ih hr f' hvs (fun p hp=>gP p (List.mem_append.2 (.inr hp))) (fun p hp=>en p (List.mem_append.2 (.inr hp)))
     obtain⟨g1,g2⟩:=acl L h1 (fun p hp=>gP p (List.mem_append.2 (.inl hp))) (fun p hp=>en p (List.mem_append.2 (.inl hp))) mH
     refine⟨⟨_,_,by rw[jF,oa],g1,aD⟩,g2.append az,?_,fun aa aG hm=>?_⟩
     ·cases v<;>simp[dK,bD]
     ·obtain⟨q1,q2⟩:=cQ aa aG hm;exact⟨List.mem_append.2 (.inr q1),q2⟩
    ·cases h
   ·cases h
theorem L2{b:Bool}(L:fq O Y X D st M w da eT av){cw:List aJ}{a:jX}{vs:List Value}(h:rJ b st cw=some a)(hl:cw.length=vs.length)
  (hv:∀i (h:i<cw.length) (af:i<vs.length),b_ D st.sites w (aw X D st.sites) (cw[i]) (vs[i])) (h1:∀p,p∈a.eK->p∈da) (h2:∀o,o∈a.fI->o∈eT):
  iP w av a.as vs (c9 D (keys a.gone))/\gJ st.sites a.gone/\dK a.as vs=c9 D (keys a.boxes)/\(∀o s,(o,s)∈a.boxes->(o,.dead s)∈a.gone/\∃b,D o=.pointer (some ⟨b,0,none⟩)):=by
 cases b
 ·exact ab1 L h hl hv h1 h2
 ·exact aaq L h hl hv h1 h2
end
end Go.Jk
