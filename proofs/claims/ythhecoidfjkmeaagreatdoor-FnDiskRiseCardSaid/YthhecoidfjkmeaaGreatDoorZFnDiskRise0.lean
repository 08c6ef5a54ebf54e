/- FnDiskRise: recovery is idempotent. (part 1 of 7: JkCore, JkGlob, JkState, JkExec, JkFoot, JkCode, JkTurn, JkOps1, JkOps2, JkOps3, JkOps4, JkOps5, JkOps6, JkOps7, JkOps8, JkOps9, JkOps10, JkOps11, JkOps12, JkOps13, JkOps14, JkOps15, JkOps16, JkOps17,) Conditions: none beyond the statement. -/
import Derived.Calls
import Derived.Below
import Derived.WalkKit
import Derived.Laws.AppendOwn
import Derived.Great.BuildSlice
import Derived.IntWalk
import Derived.Laws.Tables
import Derived.MapKept
import Derived.Laws.BytesArg
import Derived.Lib.ConvBytes
set_option linter.unusedSimpArgs false
set_option linter.unusedVariables false
namespace Go.Jk
universe u v
theorem Y{aE:Type u}{ls:Type v}(a:aE)(f:aE->Option ls):(some a).bind f=f a:=rfl
theorem ad{aE:Sort u}(a b:aE):(bif true then a else b)=a:=rfl
theorem ak{aE:Sort u}(a b:aE):(bif false then a else b)=b:=rfl
theorem bu:(!true)=false:=rfl
theorem bK:(!false)=true:=rfl
theorem bH{aE:Type u}(a b:aE):(some a=some b)=(a=b):=Option.some.injEq a b
theorem bz(a b:Bool):((a&&b)=true)=(a=true/\b=true):=Bool.and_eq_true a b
theorem ce{a b:Nat}(h:a.beq b=true):a=b:=Nat.eq_of_beq_eq_true h
theorem ci{aE:Type u}(y:aE){a:aE}{l:List aE}(h:a∈l):a∈y::l:=List.mem_cons_of_mem y h
theorem cj{aE:Type u}{a:aE}{l:List aE}:a∈a::l:=List.mem_cons_self
theorem bo{aE:Type u}{a:aE}{s t:List aE}:a∈s++t <-> a∈s\/a∈t:=List.mem_append
theorem bR{aE:Type u}{b:aE}{l:List aE}{a:aE}:a∈b::l <-> a=b\/a∈l:=List.mem_cons
theorem cY{aE:Type u}{a:aE}{l:List aE}:(a::l).length=l.length+1:=rfl
theorem dx{aE:Type u}{a b:List aE}:(a++b).length=a.length+b.length:=List.length_append
theorem d_{aE:Type u}{l:List aE}{i:Nat}(h:i<l.length):l[i]? =some l[i]:=List.getElem?_eq_getElem h
theorem dW{p:Prop}[Decidable p]:(decide p=true)=p:=decide_eq_true_eq
theorem eK{aE:Type u}{l:List aE}{i:Nat}{a:aE}(h:l[i]? =some a):a∈l:=List.mem_of_getElem? h
theorem fO{aE:Type u}{l:List aE}(h:l.length=0):l=[]:=List.eq_nil_of_length_eq_zero h
abbrev B:=List UInt8
structure aB where
 path:B
 kind:Int
 mode:Int
 text:B
structure bD where
 name:B
 kind:Int
 a6:B
structure aJ where
 name:B
 a6:B
 bl:List bD
 bI:List aB
structure awU where
 name:B
 text:B
structure aeA where
 name:B
 text:B
structure Source where
 name:B
 sum:B
structure Piece where
 name:B
 fw:B
structure aql where
 name:B
 a6:B
 lets:List aeA
 builds:List bD
 runs:List bD
 sources:List Source
 pieces:List Piece
 steps:List B
structure awi where
 at_:Int
 lines:List B
inductive bi where
 |i64|u8|u32|bool|str|entry|need|pack|file|lt|source|piece|recipe|hunk|uc
 deriving DecidableEq
@[reducible] def den:bi->Type
 |.i64|.u8|.u32=>Int
 |.bool=>Bool
 |.str=>B
 |.entry=>aB
 |.need=>bD
 |.pack=>aJ
 |.file=>awU
 |.lt=>aeA
 |.source=>Source
 |.piece=>Piece
 |.recipe=>aql
 |.hunk=>awi
 |.uc=>List Bool
inductive bk:Type where
 |int (k:IntKind) (n:Int)
 |bool (b:Bool)
 |str (s:B)
 |sl (t:bi) (xs:List (den t))
 |fn (g:FuncId) (bN:List (List bk))
 |map (t:bi) (es:List (B×den t))
 |err (T:Nat) (D:Option Int)
def enc:(t:bi)->den t->List bk
 |.i64,n=>[.int .i64 n]
 |.u8,n=>[.int .u8 n]
 |.u32,n=>[.int .u32 n]
 |.bool,b=>[.bool b]
 |.str,s=>[.str s]
 |.entry,e=>[.str e.path,.int .i64 e.kind,.int .i64 e.mode,.str e.text]
 |.need,n=>[.str n.name,.int .i64 n.kind,.str n.a6]
 |.pack,p=>[.str p.name,.str p.a6,.sl .need p.bl,.sl .entry p.bI]
 |.file,f=>[.str f.name,.str f.text]
 |.lt,f=>[.str f.name,.str f.text]
 |.source,f=>[.str f.name,.str f.sum]
 |.piece,f=>[.str f.name,.str f.fw]
 |.recipe,r=>[.str r.name,.str r.a6,.sl .lt r.lets,.sl .need r.builds,.sl .need r.runs,.sl .source r.sources,.sl .piece r.pieces,.sl .str r.steps]
 |.hunk,h=>[.int .i64 h.at_,.sl .str h.lines]
 |.uc,b=>[.sl .bool b]
def bh:bi->Nat
 |.i64|.u8|.u32|.bool|.str|.uc=>1
 |.entry=>4
 |.need=>3
 |.pack=>4
 |.file|.lt|.source|.piece|.hunk=>2
 |.recipe=>8
def dec:(t:bi)->List bk->Option (den t)
 |.i64,[.int .i64 n]=>some n
 |.u8,[.int .u8 n]=>some n
 |.u32,[.int .u32 n]=>some n
 |.bool,[.bool b]=>some b
 |.str,[.str s]=>some s
 |.entry,[.str a,.int .i64 k,.int .i64 m,.str b]=>some ⟨a,k,m,b⟩
 |.need,[.str a,.int .i64 k,.str b]=>some ⟨a,k,b⟩
 |.pack,[.str a,.str b,.sl .need ns,.sl .entry es]=>some ⟨a,b,ns,es⟩
 |.file,[.str a,.str b]=>some ⟨a,b⟩
 |.lt,[.str a,.str b]=>some ⟨a,b⟩
 |.source,[.str a,.str b]=>some ⟨a,b⟩
 |.piece,[.str a,.str b]=>some ⟨a,b⟩
 |.recipe,[.str a,.str b,.sl .lt al,.sl .need bs,.sl .need lw,.sl .source bg,.sl .piece ps,.sl .str cv]=>some ⟨a,b,al,bs,lw,bg,ps,cv⟩
 |.hunk,[.int .i64 n,.sl .str al]=>some ⟨n,al⟩
 |.uc,[.sl .bool b]=>some b
 |_,_=>none
theorem jC:∀(t:bi) (x:den t),(enc t x).length=bh t:=by
 intro t x;cases t<;>rfl
theorem mz(t:bi):0<bh t:=by cases t<;>decide
theorem BR:∀(t:bi) (ds:List bk) (x:den t),dec t ds=some x->enc t x=ds:=by
 intro t ds x h;unfold dec at h;split at h<;>first|(cases h;rfl)|cases h
def flat(t:bi)(xs:List (den t)):List bk:=xs.flatMap (enc t)
theorem fu(t:bi)(xs:List (den t)):(flat t xs).length=xs.length*bh t:=by
 unfold flat;induction xs with
 |nil=>simp
 |cons x xs ih=>simp[List.flatMap_cons,jC,ih,Nat.add_mul,Nat.add_comm]
theorem sM(t:bi)(xs bm:List (den t)):flat t (xs++bm)=flat t xs++flat t bm:=by
 simp[flat,List.flatMap_append]
theorem flat_get(t:bi)(xs:List (den t))(i j:Nat)(x:den t)(hx:xs[i]? =some x)(hj:j<bh t):
  (flat t xs)[i*bh t+j]? =(enc t x)[j]? :=by
 induction xs generalizing i with
 |nil=>simp at hx
 |cons y bm ih=>
  cases i with
  |zero=>
   simp only[List.getElem?_cons_zero,bH] at hx;subst hx;simp only[Nat.zero_mul,Nat.zero_add,flat,List.flatMap_cons];rw[List.getElem?_append_left (by rw[jC];exact hj)]
  |succ i=>
   simp only[List.getElem?_cons_succ] at hx;have:=ih i hx;simp only[flat,List.flatMap_cons] at this ⊢;rw[List.getElem?_append_right (by rw[jC,Nat.add_mul];omega),jC]
   rw[<-this];congr 1
   rw[Nat.add_mul];omega
theorem alZ(t:bi)(xs:List (den t))(i:Nat)(x:den t):
  flat t (xs.set i x)=(flat t xs).take (i*bh t)++(if i<xs.length then enc t x else [])++(flat t xs).drop ((i+1)*bh t):=by
 induction xs generalizing i with
 |nil=>simp[flat]
 |cons y bm ih=>
  cases i with
  |zero=>
   simp only[List.set_cons_zero,flat,List.flatMap_cons,Nat.zero_mul,List.take_zero,List.nil_append,cY,Nat.zero_lt_succ,if_true,Nat.zero_add,Nat.one_mul];rw[List.drop_append_of_le_length (by rw[jC];omega)]
   rw[show List.drop (bh t) (enc t y)=[] from List.drop_eq_nil_of_le (by rw[jC];exact Nat.le_refl _)]
   rfl
  |succ i=>
   have h:=ih i;simp only[flat] at h;simp only[List.set_cons_succ,flat,List.flatMap_cons,cY];rw[h];have e1:List.take ((i+1)*bh t) (enc t y++bm.flatMap (enc t))=enc t y++(bm.flatMap (enc t)).take (i*bh t):=by
    rw[List.take_append,List.take_of_length_le (by rw[jC,Nat.add_mul];omega),jC]
    congr 2
    rw[Nat.add_mul];omega
   have e2:List.drop ((i+1+1)*bh t) (enc t y++bm.flatMap (enc t))=(bm.flatMap (enc t)).drop ((i+1)*bh t):=by
    rw[List.drop_append,List.drop_eq_nil_of_le (by rw[jC,Nat.add_mul,Nat.add_mul];omega),jC,List.nil_append]
    congr 1
    rw[Nat.add_mul (i+1) 1];omega
   rw[e1,e2];simp only[Nat.add_lt_add_iff_right,List.append_assoc]
def i':List Int:=[1116352408,1899447441,3049323471,3921009573,961987163,1508970993,2453635748,2870763221,3624381080,310598401,607225278,1426881987,1925078388,2162078206,2614888103,3248222580,3835390401,4022224774,264347078,604807628,770255983,1249150122,1555081692,1996064986,2554220882,2821834349,2952996808,3210313671,3336571891,3584528711,113926993,338241895,666307205,773529912,1294757372,1396182291,1695183700,1986661051,2177026350,2456956037,2730485921,2820302411,3259730800,3345764771,3516065817,3600352804,4094571909,275423344,430227734,506948616,659060556,883997877,958139571,1322822218,1537002063,1747873779,1955562222,2024104815,2227730452,2361852424,2428436474,2756734187,3204031479,3329325298]
def XU:List Int:=(List.range 20).map fun i=>((10^i:Nat):Int)
def oP(w:World)(g:Nat)(k:IntKind)(zs:List Int):Prop:=∃T fz,w.heap[g]? =some (.cells (zs.map fun z=>Value.int k z).toArray T fz)
def sh:TypeId:=91
def nd:TypeId:=5
def lm:List Nat:=[0,1]
def n7(w:World):Prop:=oP w 0 .u32 i'/\oP w 1 .u64 XU
theorem arU{w w':World}(h:∀b,b∈lm->w'.heap[b]? =w.heap[b]?)(k:n7 w):n7 w':=by
 obtain⟨⟨Ox,f0,h0⟩,⟨dv,f1,h1⟩⟩:=k;exact⟨⟨Ox,f0,(h 0 (by simp[lm])).trans h0⟩,⟨dv,f1,(h 1 (by simp[lm])).trans h1⟩⟩
theorem oP.lt{w:World}{g:Nat}{k:IntKind}{zs:List Int}(h:oP w g k zs):g<w.heap.size:=by
 obtain⟨T,f,h⟩:=h;exact(Array.getElem?_eq_some_iff.1 h).1
theorem azm{w:World}(k:n7 w)(b:Nat)(h:b∈lm):b<w.heap.size:=by
 simp only[lm,bR,List.not_mem_nil,or_false] at h;rcases h with rfl|rfl
 ·exact k.1.lt
 ·exact k.2.lt
inductive aU:Type where
 |d (v:bk)
 |nil (t:bi) -- uD nil slice
 |own (o s:Nat) -- uD whole of a row of C3 own
 |ptr (o s off:Nat) -- a pointer aCH a box of C3 own
 |eZ (cells:List bk) (off:Nat) -- a pointer aed cells Dr ada only read
 |fr (o s:Nat) (t:bi) (k off:Nat) -- a pointer aed aCh k of a row of C3 own,ax3 cell 'qc
 |clo (g:FuncId) (bN:List (Nat×Nat)) -- a closure over boxes of C3 own
 |de (v:Value) -- aCG this value
 |fresh (t:bi) (xs:List (den t)) -- a row Dr aCn else holds (aos caller and callee alone)
 |dM -- in a ar1 first cell:nil,or uD ar1 own address (strings.aCj)
 |any
inductive b5:Type where
 |aq (l:aU)
 |agg (al:List aU)
inductive bb:Type where
 |av (a:b5)
 |kg (as:List b5)
inductive Site:Type where
 |box (s:Nat) (cells:List aU)
 |row (s:Nat) (t:bi) (xs:List (den t))
 |dG (s:Nat) (t:bi) (xs:List (den t))
 |map (s:Nat) (t:bi) (es:List (B×den t))
 |dead (s:Nat)
def Site.cL:Site->Nat
 |.box s _|.row s _ _|.dG s _ _|.map s _ _|.dead s=>s
def Site.live:Site->Bool
 |.box _ _|.row _ _ _|.map _ _ _=>true
 |_=>false
def look{aE:Type}:List (Nat×aE)->Nat->Option aE
 |[],_=>none
 |(k,v)::r,n=>bif k.beq n then some v else look r n
def cI{aE:Type}:List (Nat×aE)->Nat->aE->List (Nat×aE)
 |[],n,v=>[(n,v)]
 |(k,w)::r,n,v=>bif k.beq n then(k,v)::r else(k,w)::cI r n v
theorem ke{a b:Nat}(h:¬a=b):a.beq b=false:=by
 cases e:a.beq b
 ·rfl
 ·exact absurd (ce e) h
theorem dn{aE:Type}(l:List (Nat×aE))(n m:Nat)(v:aE):look (cI l n v) m=if n=m then some v else look l m:=by
 induction l with
 |nil=>
  simp only[cI,look];by_cases h:n=m
  ·subst h;simp
  ·have:n.beq m=false:=ke h;simp[this,h]
 |cons p l ih=>
  obtain⟨k,w⟩:=p;simp only[cI];by_cases h:k=n
  ·subst h;simp only[Nat.beq_refl,ad,look];by_cases hm:k=m
   ·subst hm;simp
   ·have:k.beq m=false:=ke hm;simp[this,hm]
  ·have hb:k.beq n=false:=ke h;simp only[hb,ak,look];by_cases hm:k=m
   ·subst hm;have:¬n=k:=fun e=>h e.symm
    simp[this]
   ·have:k.beq m=false:=ke hm;simp[this,ih]
structure ao where
 c8:List (Nat×bb)
 sites:List (Nat×Site)
 nt:Nat
def ao.get(st:ao)(t:Nat):bb:=match look st.c8 t with|some v=>v|none=>.av (.aq .any)
def ao.ai(st:ao)(o:Nat):Option Site:=look st.sites o
def ao.set(st:ao)(t:Nat)(v:bb):ao:={st with c8:=cI st.c8 t v}
def ao.iU(st:ao)(o:Nat)(s:Site):ao:={st with sites:=cI st.sites o s}
@[simp] theorem ao.Jf(st:ao)(t u:Nat)(v:bb):(st.set t v).get u=if t=u then v else st.get u:=by
 unfold ao.set ao.get;rw[dn];by_cases h:t=u<;>simp[h]
@[simp] theorem ao.akI(st:ao)(t o:Nat)(v:bb):(st.set t v).ai o=st.ai o:=rfl
@[simp] theorem ao.apN(st:ao)(t:Nat)(v:bb):(st.set t v).nt=st.nt:=rfl
@[simp] theorem ao.agQ(st:ao)(o u:Nat)(s:Site):(st.iU o s).get u=st.get u:=rfl
@[simp] theorem ao.yN(st:ao)(o ae:Nat)(s:Site):(st.iU o s).ai ae=if o=ae then some s else st.ai ae:=by
 unfold ao.iU ao.ai;simp only[dn]
@[simp] theorem ao.ahI(st:ao)(o:Nat)(s:Site):(st.iU o s).nt=st.nt:=rfl
def oa:(t:bi)->den t->Value
 |.i64,n=>.int .i64 n
 |.bool,b=>.bool b
 |_,_=>undef
def hP(l:B):Value:=.string ⟨l.toArray⟩
def nB(arr:Array MapEntry):List (Value×Value):=arr.toList.map fun e=>(e.key,e.val)
def kA(t:bi)(es:List (B×den t)):List (Value×Value):=es.map fun p=>(hP p.1,oa t p.2)
def mI(w:World)(b:Nat)(t:bi)(es:List (B×den t)):Prop:=∃arr clock,w.heap[b]? =some (.map arr clock)/\nB arr=kA t es
theorem mI.of{w w':World}{b:Nat}{t:bi}{es:List (B×den t)}(h:w'.heap[b]? =w.heap[b]?)(m:mI w b t es):mI w' b t es:=by
 obtain⟨arr,c,h1,h2⟩:=m;exact⟨arr,c,h.trans h1,h2⟩
theorem mI.lt{w:World}{b:Nat}{t:bi}{es:List (B×den t)}(m:mI w b t es):b<w.heap.size:=by
 obtain⟨arr,c,h1,h2⟩:=m;rcases Nat.lt_or_ge b w.heap.size with h|h
 ·exact h
 ·rw[Array.getElem?_eq_none h] at h1;cases h1
inductive bU(w:World)(av:Nat->Prop):bk->Value->Prop where
 |int (k:IntKind) (n:Int):bU w av (.int k n) (.int k n)
 |bool (b:Bool):bU w av (.bool b) (.bool b)
 |str (l:B) (s:ByteArray) (h:s.data.toList=l):bU w av (.str l) (.string s)
 |nil (t:bi):bU w av (.sl t []) (.slice none 0 0)
 |sl (t:bi) (xs:List (den t)) (a:Addr) (cap:Nat) (cs:List Value) (n:Nat) (hn:n=xs.length) (hcap:n<=cap) (hb:xs≠[]->¬av a.block)
   (hl:cs.length=(flat t xs).length)
   (hc:∀j u,cs[j]? =some u->w.cell? (a.add j)=some u)
   (hr:∀j (h:j<(flat t xs).length) (an:j<cs.length),bU w av ((flat t xs)[j]) (cs[j])):bU w av (.sl t xs) (.slice (some a) n cap)
 |fn (g:FuncId) (bN:List (List bk)) (bs:List Nat) (jz:Nat->List Value) (lb:Array Value) (hlb:lb=(bs.map fun b=>Value.pointer (some ⟨b,0,none⟩)).toArray) (uW:bs.length=bN.length)
   (hb:∀b,b∈bs->¬av b) (hlt:∀b,b∈bs->b<w.heap.size)
   (hl:∀i (h:i<bN.length),(jz i).length=(bN[i]).length)
   (hc:∀i (h:i<bs.length) j u,(jz i)[j]? =some u->w.cell? ⟨bs[i],j,none⟩=some u)
   (hr:∀i (h:i<bN.length) j (h1:j<(bN[i]).length) (h2:j<(jz i).length),bU w av ((bN[i])[j]) ((jz i)[j])):
   bU w av (.fn g bN) (.func (.func g) #[] lb)
 |w9 (t:bi):bU w av (.map t []) (.map none)
 |map (t:bi) (es:List (B×den t)) (b:Nat) (hb:¬av b) (hm:mI w b t es):bU w av (.map t es) (.map (some b))
 |xk (T:TypeId):bU w av (.err T none) .nilIface
 |err (T:TypeId) (n:Int):bU w av (.err T (some n)) (.iface T (.agg #[.int .i64 n]))
theorem bU.j4{w:World}{av:Nat->Prop}{d:bk}{v:Value}(r:bU w av d v):v.oneCell'=true:=by
 cases r<;>rfl
def DP(v:Value):Prop:=v=.slice none 0 0\/∃b n c,v=.slice (some ⟨b,0,none⟩) n c
def b0:Value->Option Nat
 |.slice (some a) _ _=>some a.block
 |.pointer (some a)=>some a.block
 |.map (some b)=>some b
 |_=>none
section
variable (F:Nat->Value)(sites:List (Nat×Site))(w:World)(av:Nat->Prop)
def Ref(o s:Nat)(p:Prop):Prop:=∃ai,look sites o=some ai/\s<=ai.cL/\(ai.cL=s->p)
def ey:aU->Value->Prop
 |.d x,v=>bU w av x v
 |.nil _,v=>v=.slice none 0 0
 |.own o s,v=>v.oneCell'=true/\Ref sites o s (v=F o)
 |.ptr o s off,v=>∃b,v=.pointer (some ⟨b,off,none⟩)/\Ref sites o s (F o=.pointer (some ⟨b,0,none⟩))
 |.eZ cells off,v=>∃b D,v=.pointer (some ⟨b,D+off,none⟩)/\¬av b/\b<w.heap.size/\∃cs:List Value,cs.length=cells.length/\(∀j u,cs[j]? =some u->w.cell? ⟨b,D+j,none⟩=some u)/\
   ∀j (h:j<cells.length) (an:j<cs.length),bU w av (cells[j]) (cs[j])
 |.fr o s t k off,v=>∃b,v=.pointer (some ⟨b,k*bh t+off,none⟩)/\Ref sites o s (∃n c,F o=.slice (some ⟨b,0,none⟩) n c)
 |.clo g bN,v=>∃vs:List Value,v=.func (.func g) #[] vs.toArray/\vs.length=bN.length/\∀i (h:i<bN.length) (an:i<vs.length),Ref sites (bN[i]).1 (bN[i]).2 (vs[i]=F (bN[i]).1)
 |.de u,v=>v=u
 |.fresh _ _,_=>False
 |.dM,_=>True
 |.any,_=>True
def bi.ki:bi->Bool
 |.u8=>true
 |_=>false
def nQ(u:Bool)(e:TypeId)(cur:Array Value)(fz:Nat×Nat):Prop:=(u=true->e=nd)/\(fz=(0,0)\/u=true/\cur.size<=fz.1)
def rowAt(w:World)(u:Bool)(e:TypeId)(size:Nat)(v:Value)(n:Nat)(xs:List Value):Prop:=
 xs.length=n*size/\((v=.slice none 0 0/\n=0)\/
  ∃g cap cur fz,v=.slice (some ⟨g,0,none⟩) n cap/\nQ u e cur fz/\w.heap[g]? =some (.cells cur e fz)/\n<=cap/\cap<=maxLen/\cur.size=cap*size/\cur.toList.take (n*size)=xs)
theorem Gd(w:World)(u:Bool)(e:TypeId)(size:Nat):rowAt w u e size (.slice none 0 0) 0 []:=⟨by simp,.inl ⟨rfl,rfl⟩⟩
def nI(cells:List aU)(T:TypeId)(cur:List Value)(b:Nat):Prop:=cells.head?=some .dM->T=sh/\(cur.head?=some (.pointer none)\/cur.head?=some (.pointer (some ⟨b,0,none⟩)))
def hU:b5->Value->Prop
 |.aq l,v=>ey F sites w av l v
 |.agg al,v=>∃vs:List Value,v=.agg vs.toArray/\vs.length=al.length/\∀j (h:j<al.length) (an:j<vs.length),ey F sites w av (al[j]) (vs[j])
def cy:bb->Value->Prop
 |.av a,v=>hU F sites w av a v
 |.kg as,v=>∃vs:List Value,v=.tuple vs.toArray/\vs.length=as.length/\∀j (h:j<as.length) (an:j<vs.length),hU F sites w av (as[j]) (vs[j])
def kz(o:Nat):Site->Prop
 |.box _ cells=>∃b T,∃cur:List Value,F o=.pointer (some ⟨b,0,none⟩)/\w.heap[b]? =some (.cells cur.toArray T (0,0))/\cur.length=cells.length/\
   (∀u∈cur,u.oneCell'=true)/\nI cells T cur b/\∀j (h:j<cells.length) (an:j<cur.length),ey F sites w av (cells[j]) (cur[j])
 |.row _ t xs=>∃e,∃cs:List Value,rowAt w t.ki e (bh t) (F o) xs.length cs/\∀j (h:j<(flat t xs).length) (an:j<cs.length),bU w av ((flat t xs)[j]) (cs[j])
 |.dG _ t xs=>bU w av (.sl t xs) (F o)/\DP (F o)
 |.map _ t es=>∃b,F o=.map (some b)/\mI w b t es
 |.dead _=>True
end
def cD(sites:List (Nat×Site))(o:Nat):Prop:=∃ai,look sites o=some ai/\ai.live=true
def aN(X:Nat->Prop)(F:Nat->Value)(sites:List (Nat×Site))(b:Nat):Prop:=X b\/∃o,cD sites o/\b0 (F o)=some b
structure Fr(Z:List Nat)(U w:World):Prop where
 os:w.os=U.os
 tape:w.tape=U.tape
 output:w.output=U.output
 size:U.heap.size<=w.heap.size
 block:∀b,b<U.heap.size->b∉Z->w.heap[b]? =U.heap[b]?
theorem Fr.refl(Z:List Nat)(w:World):Fr Z w w:=⟨rfl,rfl,rfl,Nat.le_refl _,fun _ _ _=>rfl⟩
structure jg(w:World)(Z:List Nat)(X:Nat->Prop):Prop where
 ok:n7 w
 Z:∀b,b∈lm->b∉Z
 X:∀b,b∈lm->¬X b
 lt:∀b,b∈lm->b<w.heap.size
theorem jg.less{w:World}{Z:List Nat}{X X':Nat->Prop}(G:jg w Z X)(h:∀b,b∈lm->X' b->X b):jg w Z X':=⟨G.ok,G.Z,fun b hb hx=>G.X b hb (h b hb hx),G.lt⟩
theorem jg.arz{w:World}{Z:List Nat}{X X':Nat->Prop}(G:jg w Z X)(h:∀b,X' b->X b\/b∈Z):jg w Z X':=⟨G.ok,G.Z,fun b hb hx=>(h b hx).elim (G.X b hb) (G.Z b hb),G.lt⟩
structure az(U:World)(Z:List Nat)(X:Nat->Prop)(F:Nat->Value)(st:ao)(M:Array Value)(w:World):Prop where
 nt:M.size=st.nt
 c8:∀t,cy F st.sites w (aN X F st.sites) (st.get t) (M.getD t undef)
 sites:∀o ai,look st.sites o=some ai->kz F st.sites w (aN X F st.sites) o ai
 eD:∀o ae b,cD st.sites o->cD st.sites ae->b0 (F o)=some b->b0 (F ae)=some b->o=ae
 cF:∀o b,cD st.sites o->b0 (F o)=some b->¬X b/\(b∈Z\/U.heap.size<=b)
 frame:Fr Z U w
 old:∀b,X b->b<w.heap.size
 fw:jg U Z X
inductive cu:Type where
 |none
 |int (k:IntKind)
 |bool
 |str
 |ptr
 |func
 |slice (e:TypeId) (t:bi) (bytes:Nat)
 |struct (b4:List (Nat×Nat)) (n:Nat) (z:List aU) (eq:Bool)
 |map (k e:TypeId) (t:bi)
 |arr (e:TypeId) (t:bi) (n:Nat)
 |iface
def yp:(t:bi)->Option (den t)
 |.i64|.u8|.u32=>some (0:Int)
 |.bool=>some false
 |.str=>some ([]:B)
 |_=>none
def uz:bi->Option aU
 |.i64=>some (.d (.int .i64 0))
 |.u8=>some (.d (.int .u8 0))
 |.u32=>some (.d (.int .u32 0))
 |.bool=>some (.d (.bool false))
 |.str=>some (.d (.str []))
 |_=>none
def cu.agg:cu->Bool
 |.struct _ _ _ _|.arr _ _ _=>true
 |_=>false
def cu.known:cu->Bool
 |.none=>false
 |_=>true
def cu.size:cu->Nat
 |.struct _ n _ _=>n
 |.arr _ _ n=>n
 |_=>1
def cu.zero:cu->Option (List aU)
 |.none=>Option.none
 |.int k=>some [.d (.int k 0)]
 |.bool=>some [.d (.bool false)]
 |.str=>some [.d (.str [])]
 |.ptr=>some [.de (.pointer Option.none)]
 |.func=>some [.de .nilFunc]
 |.slice _ t _=>some [.nil t]
 |.struct _ _ z _=>some z
 |.map _ _ _=>some [.de (.map Option.none)]
 |.arr _ t n=>(uz t).map (List.replicate n)
 |.iface=>some [.de .nilIface]
inductive Arg:Type where
 |av (a:b5)
 |fN (cells:List aU)
structure xn:Type 1 where
 J:Type
 comp:Option J
 fN:J->List (List aU)
 fH:J->List b5
abbrev aI:=List Arg->xn
def xn.fail:xn:=⟨Unit,Option.none,fun _=>[],fun _=>[]⟩
structure Ctx:Type 1 where
 tt:TypeId->cu
 b4:FuncId->Option aI
 mj:FuncId->Option FuncId:=fun _=>none
 ob:FuncId->Bool:=fun _=>false
 op:FuncId->Bool:=fun _=>false
 kR:FuncId->Bool:=fun _=>false -- a aj6 copy check
 bs:FuncId->Bool:=fun _=>false -- a aj6 String
 gt:Nat->Option ((t:bi)×List (den t)):=fun _=>none -- uD aCe tables
structure dA:Type 1 where
 J:Type
 comp:Option J
 val:J->bb
 us:J->List (Nat×Site)
 sj:J->Bool
def dA.fail:dA:=⟨Unit,Option.none,fun _=>.av (.aq .any),fun _=>[],fun _=>false⟩
def dA.ok(v:bb):dA:=⟨Unit,some (),fun _=>v,fun _=>[],fun _=>true⟩
def dA.f_(v:bb)(us:List (Nat×Site)):dA:=⟨Unit,some (),fun _=>v,fun _=>us,fun _=>true⟩
def dA.eR{J:Type}(c:Option J)(f:J->bb):dA:=⟨J,c,f,fun _=>[],fun _=>true⟩
def dA.il{J:Type}(c:Option J)(f:J->bb)(us:J->List (Nat×Site)):dA:=⟨J,c,f,us,fun _=>true⟩
def aS{aE:Type}(xs:List aE)(i:Int):Option aE:=if 0<=i then xs[i.toNat]? else none
def bf(n:Nat)(i:Int):Option Nat:=if 0<=i/\i<n then some i.toNat else none
def bq{aE:Type}(xs:List aE)(df hi:Int):Option (List aE):=if 0<=df/\df<=hi/\hi<=xs.length then some ((xs.take hi.toNat).drop df.toNat) else none
def room:Nat:=140737488355328
def cm{aE:Type}(bytes:Nat)(xs bm:List aE):Option (List aE):=if(xs.length+bm.length)*bytes<=room/\xs.length+bm.length<=maxLen then some (xs++bm) else none
def cc(s t:B):Option B:=if((s.length+t.length:Nat):Int)>IntKind.i64.max then none else some (s++t)
def l5(k:IntKind)(x y:Int):Option Int:=if y=0 then none else some (k.wrap (x.tdiv y))
def ja(x y:Int):Option Int:=if y=0 then none else some (x.tmod y)
def l4(k:IntKind)(x y:Int):Option Int:=if y<0 then none else some (k.wrap (x*2^(min y.toNat k.bits)))
def fE(k:IntKind)(x y:Int):Option Int:=if y<0 then none else some (x.fdiv (2^(min y.toNat k.bits)))
def kh{aE:Type}(bytes:Nat)(n c:Int)(z:aE):Option (List aE):=if 0<=n/\n<=c/\c*bytes<=room/\c<=maxLen then some (List.replicate n.toNat z) else none
def hd(x y:Int):Int:=if y>x then y else x
def l6(x y:Int):Int:=if y<x then y else x
def e0(k:IntKind)(x y:Int):Int:=k.wrap (BitVec.ofInt k.bits x &&& BitVec.ofInt k.bits y).toNat
def iu(k:IntKind)(x y:Int):Int:=k.wrap (BitVec.ofInt k.bits x ||| BitVec.ofInt k.bits y).toNat
def dB(k:IntKind)(x y:Int):Int:=k.wrap (BitVec.ofInt k.bits x ^^^ BitVec.ofInt k.bits y).toNat
def bytesOf(s:B):List Int:=s.map fun b=>(b.toNat:Int)
def strOf(xs:List Int):B:=xs.map fun n=>UInt8.ofNat n.toNat
abbrev one(d:bk):bb:=.av (.aq (.d d))
abbrev cf(l:aU):bb:=.av (.aq l)
def we(ti:cu):Value->bb
 |.int k n=>one (.int k n)
 |.bool b=>one (.bool b)
 |.string s=>one (.str s.data.toList)
 |.slice none 0 0=>match ti with|.slice _ t _=>cf (.nil t)|_=>cf (.de (.slice none 0 0))
 |.map none=>match ti with|.map _ _ t=>one (.map t [])|_=>cf (.de (.map none))
 |.agg _|.tuple _=>cf .any
 |v=>cf (.de v)
def bj(C:Ctx)(st:ao)(T:TypeId):Operand->bb
 |.tmp t=>st.get t
 |.const v=>we (C.tt T) v
 |.global g=>cf (.de (.pointer (some ⟨g,0,none⟩)))
 |.func f=>cf (.clo f [])
def rowOf(st:ao)(o s:Nat):Option ((t:bi)×List (den t)):=
 match st.ai o with
 |some (.row aQ t xs)=>bif aQ.beq s then some ⟨t,xs⟩ else none
 |some (.dG aQ t xs)=>bif aQ.beq s then some ⟨t,xs⟩ else none
 |_=>none
def gl(st:ao)(o s:Nat):Option (List aU):=
 match st.ai o with
 |some (.box aQ cells)=>bif aQ.beq s then some cells else none
 |_=>none
def mapOf(st:ao):aU->Option ((t:bi)×List (B×den t))
 |.d (.map t es)=>some ⟨t,es⟩
 |.own o s=>match st.ai o with
  |some (.map aQ t es)=>bif aQ.beq s then some ⟨t,es⟩ else none
  |_=>none
 |_=>none
def kY{aE:Type}:List (B×aE)->B->Option aE
 |[],_=>none
 |(k,v)::r,n=>bif k==n then some v else kY r n
def pR{aE:Type}:List (B×aE)->B->aE->List (B×aE)
 |[],n,v=>[(n,v)]
 |(k,w)::r,n,v=>bif k==n then(k,v)::r else(k,w)::pR r n v
def K1:(t:bi)->bk->Option (den t)
 |.i64,.int .i64 n=>some n
 |.bool,.bool b=>some b
 |_,_=>none
def wX:(t:bi)->Option (den t)->Option bk
 |.i64,D=>some (.int .i64 (D.getD 0))
 |.bool,D=>some (.bool (D.getD false))
 |_,_=>none
def bF(st:ao)(o:Nat):Nat:=match st.ai o with|some x=>x.cL+1|none=>0
def mO(st:ao)(o s:Nat)(t:bi)(xs:List (den t)):List (Nat×Site):=match st.ai o with
 |some (.dG _ _ _)=>[]
 |_=>[(o,.dG s t xs)]
def kn(st:ao):aU->Option (bk×List (Nat×Site))
 |.d v=>some (v,[])
 |.nil t=>some (.sl t [],[])
 |.own o s=>match rowOf st o s with|some ⟨t,xs⟩=>some (.sl t xs,mO st o s t xs)|none=>none
 |.clo g []=>some (.fn g [],[])
 |_=>none
def gC(st:ao):List aU->Option (List bk×List (Nat×Site))
 |[]=>some ([],[])
 |l::al=>match kn st l,gC st al with
  |some (d,us),some (ds,vs)=>some (d::ds,us++vs)
  |_,_=>none
def b5.cells:b5->List aU
 |.aq l=>[l]
 |.agg al=>al
def aU.storable:aU->Bool
 |.any|.dM|.fresh _ _|.eZ _ _|.fr _ _ _ _ _=>false
 |.de (.agg _)|.de (.tuple _)=>false
 |_=>true
def ia:List aU->Bool
 |[]=>true
 |l::al=>l.storable&&ia al
def cut(agg:Bool)(off n:Nat)(al:List aU):Option bb:=
 bif agg then(bif Nat.ble (off+n) al.length then some (.av (.agg ((al.drop off).take n))) else none)
 else match al.drop off with|l::_=>some (cf l)|[]=>none
def cT(ds:List bk):List aU:=ds.map .d
def bZ{aE:Type}(old:List aE)(off:Nat)(new:List aE):List aE:=old.take off++new++old.drop (off+new.length)
def Cl:bk->bk->Option Bool
 |.int k a,.int k' b=>if k=k' then some (a==b) else none
 |.bool a,.bool b=>some (a==b)
 |.str a,.str b=>some (a==b)
 |_,_=>none
def wg:List aU->List aU->Option Bool
 |[.d a],[.d b]=>Cl a b
 |.d a::as,.d b::bs=>match Cl a b,wg as bs with
  |some x,some y=>some (x&&y)
  |_,_=>none
 |_,_=>none
def W'(op:BinOp)(k:IntKind)(x y:Int):dA:=
 match op with
 |.add=>.ok (one (.int k (k.wrap (x+y))))
 |.sub=>.ok (one (.int k (k.wrap (x-y))))
 |.mul=>.ok (one (.int k (k.wrap (x*y))))
 |.quo=>.eR (l5 k x y) fun n=>one (.int k n)
 |.rem=>.eR (ja x y) fun n=>one (.int k n)
 |.and=>.ok (one (.int k (e0 k x y)))
 |.or=>.ok (one (.int k (iu k x y)))
 |.xor=>.ok (one (.int k (dB k x y)))
 |.eql=>.ok (one (.bool (x==y)))
 |.neq=>.ok (one (.bool (x !=y)))
 |.lss=>.ok (one (.bool (decide (x<y))))
 |.leq=>.ok (one (.bool (decide (x<=y))))
 |.gtr=>.ok (one (.bool (decide (x>y))))
 |.geq=>.ok (one (.bool (decide (x>=y))))
 |_=>.fail
def WP(op:BinOp)(s t:B):dA:=
 match op with
 |.add=>.eR (cc s t) fun r=>one (.str r)
 |.eql=>.ok (one (.bool (s==t)))
 |.neq=>.ok (one (.bool (!(s==t))))
 |.lss=>.ok (one (.bool (Op.bytesLess s t)))
 |.leq=>.ok (one (.bool (Op.bytesLess s t||s==t)))
 |.gtr=>.ok (one (.bool (!(Op.bytesLess s t||s==t))))
 |.geq=>.ok (one (.bool (!(Op.bytesLess s t))))
 |_=>.fail
def VM(op:BinOp)(k:IntKind)(a:Int)(k':IntKind)(b:Int):dA:=
 match op with
 |.shl=>.eR (l4 k a b) fun n=>one (.int k n)
 |.shr=>.eR (fE k a b) fun n=>one (.int k n)
 |op=>if k=k' then W' op k a b else .fail
def Wl(op:BinOp)(ti:cu)(a b:Bool):dA:=
 match ti with
 |.bool=>match op with
  |.eql=>.ok (one (.bool (a==b)))
  |.neq=>.ok (one (.bool (!(a==b))))
  |_=>.fail
 |_=>.fail
def rN:List aU->List aU->Bool
 |[],[]=>true
 |.d (.int _ _)::z,.d (.int _ _)::l=>rN z l
 |.d (.bool _)::z,.d (.bool _)::l=>rN z l
 |.d (.str _)::z,.d (.str _)::l=>rN z l
 |_,_=>false
def Xq(op:BinOp)(ti:cu)(xs bm:List aU):dA:=
 match ti with
 |.struct _ n z true=>bif xs.length.beq n&&rN z xs then
   match wg xs bm with
   |some b=>match op with
    |.eql=>.ok (one (.bool b))
    |.neq=>.ok (one (.bool (!b)))
    |_=>.fail
   |none=>.fail
  else .fail
 |_=>.fail
def Dd(op:BinOp)(ti:cu)(D:Option Int):dA:=
 match ti with
 |.iface=>match op with
  |.eql=>.ok (one (.bool D.isNone))
  |.neq=>.ok (one (.bool D.isSome))
  |_=>.fail
 |_=>.fail
def Cp:Operand->Bool
 |.const .nilIface=>true
 |_=>false
def Kr(op:BinOp)(ti:cu):bb->dA
 |.av (.aq (.d (.err _ D)))=>Dd op ti D
 |.av (.aq (.de .nilIface))=>Dd op ti none
 |_=>.fail
def LL(op:BinOp)(ti:cu)(x y:bb):dA:=
 match x,y with
 |.av (.aq (.d (.int k a))),.av (.aq (.d (.int k' b)))=>VM op k a k' b
 |.av (.aq (.d (.str s))),.av (.aq (.d (.str t)))=>WP op s t
 |.av (.aq (.d (.bool a))),.av (.aq (.d (.bool b)))=>Wl op ti a b
 |.av (.agg xs),.av (.agg bm)=>Xq op ti xs bm
 |_,_=>.fail
def tV(agg:Bool)(n:Nat)(st:ao)(a:bb):dA:=
 match a with
 |.av (.aq (.ptr o s off))=>match gl st o s with
  |some cells=>match cut agg off n cells with|some v=>.ok v|none=>.fail
  |none=>.fail
 |.av (.aq (.eZ cells off))=>match cut agg off n (cT cells) with|some v=>.ok v|none=>.fail
 |.av (.aq (.fr o s u k off))=>match rowOf st o s with
  |some ⟨t,xs⟩=>if t=u/\off+n<=bh t then .eR (xs[k]?) fun x=>match cut agg off n (cT (enc t x)) with|some v=>v|none=>cf .any else .fail
  |none=>.fail
 |_=>.fail
def tq(n:Nat)(st:ao)(a:bb)(v:b5):dA:=
 bif v.cells.length.beq n then
 match a with
 |.av (.aq (.ptr o s off))=>match gl st o s with
  |some cells=>bif Nat.ble (off+n) cells.length&&ia v.cells then .f_ (cf (.de undef)) [(o,.box s (bZ cells off v.cells))] else .fail
  |none=>.fail
 |.av (.aq (.fr o s u k off))=>match st.ai o with
  |some (.row aQ t xs)=>bif aQ.beq s&&Nat.ble (off+n) (bh t)&&decide (t=u) then
    match gC st v.cells with
    |some (ds,us)=>bif(look us o).isNone then .il ((xs[k]?).bind fun x=>dec t (bZ (enc t x) off ds)) (fun _=>cf (.de undef)) fun x=>us++[(o,.row s t (xs.set k x))] else .fail
    |none=>.fail
   else .fail
  |_=>.fail
 |_=>.fail
 else .fail
def sP(u:bi)(st:ao)(x:bb)(i:Int):dA:=
 match x with
 |.av (.aq (.d (.sl t xs)))=>if t=u then .eR (aS xs i) fun x=>cf (.eZ (enc t x) 0) else .fail
 |.av (.aq (.own o s))=>match rowOf st o s with
  |some ⟨t,xs⟩=>if t=u then .eR (bf xs.length i) fun k=>cf (.fr o s t k 0) else .fail
  |none=>.fail
 |_=>.fail
def FQ(off:Nat):bb->dA
 |.av (.aq (.ptr o s D))=>.ok (cf (.ptr o s (D+off)))
 |.av (.aq (.eZ cells D))=>.ok (cf (.eZ cells (D+off)))
 |.av (.aq (.fr o s t k D))=>.ok (cf (.fr o s t k (D+off)))
 |_=>.fail
def jk(l':Int):Option bb->Option Int
 |none=>some l'
 |some (.av (.aq (.d (.int _ n))))=>some n
 |some _=>none
def tu(ti:cu)(st:ao)(x:bb)(df hi:Option bb):dA:=
 match x with
 |.av (.aq (.d (.str s)))=>match ti,jk 0 df,jk s.length hi with
  |.str,some l,some h=>.eR (bq s l h) fun r=>one (.str r)
  |_,_,_=>.fail
 |.av (.aq (.d (.sl t xs)))=>match ti,jk 0 df,jk xs.length hi with
  |.slice _ u _,some l,some h=>if t=u then .eR (bq xs l h) fun r=>one (.sl t r) else .fail
  |_,_,_=>.fail
 |.av (.aq (.nil t))=>match ti,jk 0 df,jk 0 hi with
  |.slice _ _ _,some l,some h=>.eR (bq ([]:List (den t)) l h) fun r=>one (.sl t r)
  |_,_,_=>.fail
 |.av (.aq (.own o s))=>match rowOf st o s with
  |some ⟨t,xs⟩=>match ti,jk 0 df,jk xs.length hi with
   |.slice _ u _,some l,some h=>if t=u then .il (bq xs l h) (fun r=>one (.sl t r)) fun _=>mO st o s t xs else .fail
   |_,_,_=>.fail
  |none=>.fail
 |_=>.fail
def uj(ti:cu)(st:ao)(x:bb):dA:=
 match ti,x with
 |.str,.av (.aq (.d (.str s)))=>.ok (one (.int .i64 s.length))
 |.slice _ _ _,.av (.aq (.d (.sl _ xs)))=>.ok (one (.int .i64 xs.length))
 |.slice _ _ _,.av (.aq (.nil _))=>.ok (one (.int .i64 0))
 |.slice _ _ _,.av (.aq (.own o s))=>match rowOf st o s with
  |some ⟨_,xs⟩=>.ok (one (.int .i64 xs.length))
  |none=>.fail
 |.map _ _ _,.av (.aq l)=>match mapOf st l with
  |some ⟨_,es⟩=>.ok (one (.int .i64 es.length))
  |none=>.fail
 |_,_=>.fail
def tP(st:ao):bb->Option bk
 |.av (.aq (.d (.sl t xs)))=>some (.sl t xs)
 |.av (.aq (.d (.str s)))=>some (.str s)
 |.av (.aq (.nil t))=>some (.sl t [])
 |.av (.aq (.own o s))=>match rowOf st o s with|some ⟨t,xs⟩=>some (.sl t xs)|none=>none
 |_=>none
def rh(bytes:Nat)(t:bi)(dst:Nat)(st:ao)(s:bb)(bm:List (den t)):dA:=
 match s with
 |.av (.aq (.nil _))=>.il (cm bytes [] bm) (fun _=>cf (.own dst (bF st dst))) fun r=>[(dst,.row (bF st dst) t r)]
 |.av (.aq (.own o s))=>match st.ai o with
  |some (.row aQ bw xs)=>bif aQ.beq s then
    if an:bw=t then .il (cm bytes (an▸xs:List (den t)) bm) (fun _=>cf (.own dst (bF (st.iU o (.dead s)) dst)))
     fun r=>[(o,.dead s),(dst,.row (bF (st.iU o (.dead s)) dst) t r)]
    else .fail
   else .fail
  |_=>.fail
 |_=>.fail
def to(bytes:Nat)(t:bi)(dst:Nat)(st:ao)(s x:bb):dA:=
 match tP st x with
 |none=>.fail
 |some d=>match d with
  |.sl u bm=>if h:u=t then rh bytes t dst st s (h▸bm:List (den t)) else .fail
  |_=>.fail
def tp(bytes:Nat)(t:bi)(dst:Nat)(st:ao)(s x:bb):dA:=
 match x with
 |.av (.aq (.d (.str y)))=>if h:t=.u8 then rh bytes t dst st s (h▸(bytesOf y:List (den .u8))) else .fail
 |_=>.fail
def ma(t:bi)(st:ao):List b5->Option (List (den t)×List (Nat×Site))
 |[]=>some ([],[])
 |a::as=>match gC st a.cells with
  |some (ds,us)=>match dec t ds,ma t st as with
   |some x,some (xs,vs)=>some (x::xs,us++vs)
   |_,_=>none
  |none=>none
def mQ:bb->Option b5
 |.av a=>some a
 |.kg _=>none
def oO:List bb->Option (List b5)
 |[]=>some []
 |v::vs=>match mQ v,oO vs with|some a,some as=>some (a::as)|_,_=>none
def td:Nat->List (Nat×Operand)->Bool
 |_,[]=>true
 |n,(i,_)::r=>i.beq n&&td (n+1) r
def isByte:cu->Bool
 |.int .u8=>true
 |_=>false
def ub(C:Ctx)(src dst:TypeId)(o:Nat)(st:ao)(x:bb):dA:=
 match C.tt src,C.tt dst,x with
 |.none,_,_=>.fail
 |_,.int k,.av (.aq (.d (.int _ n)))=>.ok (one (.int k (k.wrap n)))
 |_,.str,.av (.aq (.d (.str s)))=>.ok (one (.str s))
 |.slice e .u8 _,.str,.av (.aq (.d (.sl .u8 xs)))=>bif isByte (C.tt e) then .ok (one (.str (strOf xs))) else .fail
 |.slice e .u8 _,.str,.av (.aq (.nil _))=>bif isByte (C.tt e) then .ok (one (.str [])) else .fail
 |.slice e .u8 _,.str,.av (.aq (.own ae s))=>match rowOf st ae s with
  |some ⟨.u8,xs⟩=>bif isByte (C.tt e) then .ok (one (.str (strOf xs))) else .fail
  |_=>.fail
 |.str,.slice e .u8 _,.av (.aq (.d (.str s)))=>bif isByte (C.tt e) then .il (if s.length<=maxLen then some () else none) (fun _=>cf (.own o (bF st o))) fun _=>[(o,.row (bF st o) .u8 (bytesOf s))] else .fail
 |_,_,_=>.fail
def lR(st:ao):List (Nat×Nat)->Option (List (List bk)×List (Nat×Site)×List Nat)
 |[]=>some ([],[],[])
 |(o,s)::r=>match gl st o s with
  |some cells=>match gC st cells,lR st r with
   |some (ds,us),some (rest,vs,bs)=>some (ds::rest,us++vs,o::bs)
   |_,_=>none
  |none=>none
def nM(st:ao):aU->Option (aU×List (Nat×Site)×List Nat)
 |.eZ cells 0=>some (.eZ cells 0,[],[])
 |.clo g (c::cs)=>match lR st (c::cs) with|some (ds,us,bs)=>some (.d (.fn g ds),us,bs)|none=>none
 |l=>match kn st l with|some (d,us)=>some (.d d,us,[])|none=>none
def mD(st:ao):List aU->Option (List aU×List (Nat×Site)×List Nat)
 |[]=>some ([],[],[])
 |l::al=>match nM st l,mD st al with
  |some (a,us,bs),some (as,vs,cs)=>some (a::as,us++vs,bs++cs)
  |_,_=>none
def oM(st:ao):aU->Option (aU×List (Nat×Site))
 |.d v=>some (.d v,[])
 |.nil t=>some (.fresh t [],[])
 |.own o s=>match st.ai o with
  |some (.row aQ t xs)=>bif aQ.beq s then some (.fresh t xs,[(o,.dead s)]) else none
  |some (.dG aQ t xs)=>bif aQ.beq s then some (.d (.sl t xs),[]) else none
  |_=>none
 |.dM=>some (.dM,[])
 |.de v=>some (.de v,[])
 |_=>none
def wK:List aU->List aU
 |.de (.pointer none)::r=>.dM::r
 |l=>l
def k_(st:ao):List aU->Option (List aU×List (Nat×Site))
 |[]=>some ([],[])
 |l::al=>match oM st l,k_ st al with
  |some (a,us),some (as,vs)=>some (a::as,us++vs)
  |_,_=>none
structure kK where
 as:List Arg
 fi:List (Nat×Site) -- rows Dr ada fi,as aCl aDC frozen
 gy:List Nat -- boxes Dr ada fi
 gone:List (Nat×Site) -- boxes Dr go over,and rows in aCA
 boxes:List (Nat×Nat) -- uD boxes:ai,cL
def jG(st:ao):List bb->Option kK
 |[]=>some ⟨[],[],[],[],[]⟩
 |.av (.aq (.ptr o s 0))::vs=>match gl st o s,jG st vs with
  |some cells,some r=>match k_ st cells with
   |some (cs,gone)=>some ⟨.fN cs::r.as,r.fi,r.gy,((o,.dead s)::gone)++r.gone,(o,s)::r.boxes⟩
   |none=>none
  |_,_=>none
 |.av (.aq l)::vs=>match nM st l,jG st vs with
  |some (a,us,bs),some r=>some ⟨.av (.aq a)::r.as,us++r.fi,bs++r.gy,r.gone,r.boxes⟩
  |_,_=>none
 |.av (.agg al)::vs=>match mD st al,jG st vs with
  |some (as,us,bs),some r=>some ⟨.av (.agg as)::r.as,us++r.fi,bs++r.gy,r.gone,r.boxes⟩
  |_,_=>none
 |_::_=>none
def pS(st:ao):aU->Option (aU×List (Nat×Site)×List (Nat×Site)×List Nat)
 |.own o s=>match oM st (.own o s) with|some (a,us)=>some (a,us,[],[])|none=>none
 |.nil t=>some (.fresh t [],[],[],[])
 |l=>match nM st l with|some (a,us,bs)=>some (a,[],us,bs)|none=>none
def mx(st:ao):List bb->Option kK
 |[]=>some ⟨[],[],[],[],[]⟩
 |.av (.aq l)::vs=>match pS st l,mx st vs with
  |some (a,us,al,bs),some r=>some ⟨.av (.aq a)::r.as,al++r.fi,bs++r.gy,us++r.gone,r.boxes⟩
  |_,_=>none
 |_::_=>none
def ta(b:Bool)(st:ao)(vs:List bb):Option kK:=bif b then mx st vs else jG st vs
def bi.pO:bi->Bool
 |.pack|.recipe|.hunk|.uc=>true
 |_=>false
def aU.pO:aU->Bool
 |.d (.sl _ _)|.d (.fn _ _)|.d (.map _ _)=>true
 |.d _=>false
 |.fresh t _=>t.pO
 |.dM|.de _=>false
 |_=>true
def sZ:List aU->Bool
 |[]=>false
 |l::al=>l.pO||sZ al
def sS:List b5->Bool
 |[]=>false
 |a::as=>sZ a.cells||sS as
def sR:List (List aU)->Bool
 |[]=>false
 |a::as=>sZ a||sR as
def take(st:ao)(n:Nat):List aU->List aU×List (Nat×Site)
 |[]=>([],[])
 |.fresh t xs::al=>let r:=take st (n+1) al;(.own n (bF st n)::r.1,(n,.row (bF st n) t xs)::r.2)
 |l::al=>let r:=take st (n+1) al;(l::r.1,r.2)
def eC(st:ao)(n:Nat):List b5->List b5×List (Nat×Site)
 |[]=>([],[])
 |.aq l::as=>let x:=take st n [l];let r:=eC st (n+100) as;((match x.1 with|[gU]=>.aq gU|al=>.agg al)::r.1,x.2++r.2)
 |.agg al::as=>let x:=take st n al;let r:=eC st (n+100) as;(.agg x.1::r.1,x.2++r.2)
def hL(st:ao):List (Nat×Nat)->List (List aU)->List (Nat×Site)
 |(o,s)::bs,cs::c_=>let x:=take st (1000000+o*100) cs;x.2++(o,.box s x.1)::hL st bs c_
 |_,_=>[]
def WS:List b5->bb
 |[a]=>.av a
 |as=>.kg as
def keys{aE:Type}:List (Nat×aE)->List Nat
 |[]=>[]
 |p::r=>p.1::keys r
def gB(n:Nat):List Nat->Bool
 |[]=>false
 |m::r=>n.beq m||gB n r
def gg:List Nat->Bool
 |[]=>true
 |n::r=>!gB n r&&gg r
def fv:List Nat->List Nat->Bool
 |[],_=>true
 |n::r,l=>!gB n l&&fv r l
def p_(dst:Nat)(st:ao)(S:aI)(a:kK):dA:=
 let r:=S a.as
 {J:=r.J,comp:=r.comp
  val:=fun y=>WS (eC st (2000000+dst*10000) (r.fH y)).1
  us:=fun y=>(bif sS (r.fH y)||sR (r.fN y) then a.fi else [])++a.gone++hL st a.boxes (r.fN y)++(eC st (2000000+dst*10000) (r.fH y)).2
  sj:=fun y=>gg (keys a.gone)&&fv (keys a.fi++a.gy) (keys a.gone)&&gg (keys (hL st a.boxes (r.fN y)++(eC st (2000000+dst*10000) (r.fH y)).2))&&
   fv (keys a.fi++a.gy) (keys (hL st a.boxes (r.fN y)++(eC st (2000000+dst*10000) (r.fH y)).2))&&(!(sS (r.fH y)||sR (r.fN y))||a.gy.isEmpty)}
def callee(v:bb):Option (FuncId×List (Nat×Nat)):=
 match v with
 |.av (.aq (.clo g bN))=>some (g,bN)
 |_=>none
def gS(C:Ctx)(st:ao):List Operand->List TypeId->List bb
 |[],_=>[]
 |x::xs,[]=>bj C st 0 x::gS C st xs []
 |x::xs,T::di=>bj C st T x::gS C st xs di
def oE:List (List bk)->List Arg
 |[]=>[]
 |c::cs=>.av (.aq (.eZ c 0))::oE cs
def ts(g:FuncId)(n:Nat)(st:ao):List bb->dA
 |[.av (.aq (.d (.str s))),.av (.aq (.d (.str p)))]=>.f_ (cf (.clo g [(n,bF st n),(n+1,bF st (n+1)),(n+2,bF st (n+2))]))
   [(n,.box (bF st n) [.d (.str p)]),(n+1,.box (bF st (n+1)) [.d (.str s)]),(n+2,.box (bF st (n+2)) [.d (.int .i64 0)])]
 |_=>.fail
def copyV(st:ao):List bb->dA
 |[.av (.aq (.ptr o s 0))]=>match st.ai o with
  |some (.box aQ [.dM,l])=>bif aQ.beq s then .f_ (.kg []) [(o,.box s [.dM,l])] else .fail
  |_=>.fail
 |_=>.fail
def s'(st:ao):List bb->dA
 |[.av (.aq (.ptr o s 0))]=>match gl st o s with
  |some [_,.nil .u8]=>.ok (one (.str []))
  |some [_,.own ae u]=>match st.ai ae with
   |some (.row b8 .u8 xs)=>bif b8.beq u then .f_ (one (.str (strOf xs))) [(ae,.dG u .u8 xs)] else .fail
   |_=>.fail
  |_=>.fail
 |_=>.fail
def tS(n:Nat)(st:ao):List bb->dA
 |[.av (.aq (.d (.sl .u8 xs)))]=>.f_ (cf (.ptr n (bF st n) 0)) [(n,.box (bF st n) [.d (.sl .u8 (xs.take 2000)),.d (.int .i64 0)])]
 |_=>.fail
def mw(C:Ctx)(dst:Nat)(st:ao)(f:bb)(vs:List bb):dA:=
  match f with
  |.av (.aq (.clo g bN))=>match C.mj g with
   |some cO=>match bN with
    |[]=>ts cO (3000000+dst*10) st vs
    |_=>.fail
   |none=>bif C.op g then(match bN with
    |[]=>tS (4000000+dst) st vs
    |_=>.fail) else bif C.kR g then(match bN with
    |[]=>copyV st vs
    |_=>.fail) else bif C.bs g then(match bN with
    |[]=>s' st vs
    |_=>.fail) else match C.b4 g,ta (C.ob g) st vs,lR st bN with
    |some S,some a,some (cs,us,bs)=>p_ dst st S {a with as:=a.as++oE cs,fi:=a.fi++us,gy:=a.gy++bs}
    |_,_,_=>.fail
  |.av (.aq (.d (.fn g bN)))=>match C.b4 g,jG st vs with
    |some S,some a=>p_ dst st S {a with as:=a.as++oE bN}
    |_,_=>.fail
  |_=>.fail
def DH(t:bi)(xs:List (den t))(n:Nat):List aU:=match yp t with
 |some z=>(List.range n).flatMap fun j=>cT (enc t (xs.getD j z))
 |none=>[]
def ut(t:bi):List aU->Option (List (den t))
 |[]=>some []
 |.d d::al=>match dec t [d],ut t al with
  |some x,some xs=>some (x::xs)
  |_,_=>none
 |_=>none
def long{aE:Type}(n:Nat)(xs:List aE):Option (List aE):=if xs.length=n then some xs else none
def rG(o:Nat)(st:ao)(t:bi)(n:Nat)(xs:List (den t)):dA:=bif xs.length.beq n&&Nat.ble n 1000 then .f_ (cf (.fr o (bF st o) t 0 0)) [(o,.row (bF st o) t xs)] else .fail
def tL(o:Nat)(st:ao)(t:bi)(n:Nat):dA:=match yp t with
 |some z=>rG o st t n (List.replicate n z)
 |none=>.fail
def uv(o:Nat)(st:ao)(t:bi)(n:Nat)(v:bb):dA:=match v with
 |.av (.agg al)=>match ut t al with
  |some xs=>rG o st t n xs
  |none=>.fail
 |_=>.fail
def tW(st:ao)(t:bi)(n:Nat)(a:bb):dA:=match a with
 |.av (.aq (.fr o s u 0 0))=>match rowOf st o s with
  |some ⟨bw,xs⟩=>if bw=t/\bw=u then .eR (long n xs) fun xs=>.av (.agg (DH bw xs n)) else .fail
  |none=>.fail
 |_=>.fail
def tr(st:ao)(t:bi)(n:Nat)(a:bb)(v:b5):dA:=match a,v with
 |.av (.aq (.fr o s u 0 0)),.agg al=>match st.ai o with
  |some (.row aQ bw xs)=>if bw=t/\bw=u/\aQ=s then(match ut bw al with
   |some bm=>bif bm.length.beq n then .il (long n xs) (fun _=>cf (.de undef)) fun _=>[(o,.row s bw bm)] else .fail
   |none=>.fail) else .fail
  |_=>.fail
 |_,_=>.fail
def sQ(C:Ctx)(st:ao)(t:bi)(n:Nat)(x:bb)(i:Int):dA:=match x with
 |.av (.aq (.fr o s u 0 0))=>match rowOf st o s with
  |some ⟨bw,xs⟩=>if bw=t/\bw=u then .eR ((long n xs).bind fun xs=>bf xs.length i) fun k=>cf (.fr o s bw k 0) else .fail
  |none=>.fail
 |.av (.aq (.de (.pointer (some ⟨g,0,none⟩))))=>match C.gt g with
  |some ⟨bw,xs⟩=>bif decide (bw=t)&&xs.length.beq n then .eR (aS xs i) fun x=>cf (.eZ (enc bw x) 0) else .fail
  |none=>.fail
 |_=>.fail
def Kf(t:bi)(n:Nat)(x:bb)(i:Int):dA:=match x with
 |.av (.agg al)=>match ut t al with
  |some xs=>bif xs.length.beq n then .eR (aS xs i) fun x=>(match enc t x with|[d]=>cf (.d d)|_=>cf .any) else .fail
  |none=>.fail
 |_=>.fail
def tv(st:ao)(t:bi)(n:Nat)(x:bb)(df hi:Option bb):dA:=match x with
 |.av (.aq (.fr o s u 0 0))=>match rowOf st o s,jk 0 df,jk n hi with
  |some ⟨bw,xs⟩,some l,some h=>if bw=t/\bw=u then .il ((long n xs).bind fun xs=>bq xs l h) (fun r=>cf (.d (.sl bw r))) fun _=>mO st o s bw xs else .fail
  |_,_,_=>.fail
 |_=>.fail
def lP(C:Ctx)(st:ao)(D:Oper):dA:=
 match D.op with
 |.makeMap t r=>match D.dst,C.tt t with
  |some o,.map _ _ ty=>match r with
   |none=>.f_ (cf (.own o (bF st o))) [(o,.map (bF st o) ty [])]
   |some x=>match bj C st 0 x with
    |.av (.aq (.d (.int _ _)))=>.f_ (cf (.own o (bF st o))) [(o,.map (bF st o) ty [])]
    |_=>.fail
  |_,_=>.fail
 |.mapUpdate t m k x=>tA C st t m k x
 |.insert t m k x=>tA C st t m k x
 |.lookup t m k c=>match C.tt t,bj C st t m,bj C st 0 k with
  |.map _ _ ty,.av (.aq l),.av (.aq (.d (.str n)))=>match mapOf st l with
   |some ⟨u,es⟩=>bif decide (u=ty) then(match wX u (kY es n) with
    |some d=>.ok (bif c then .kg [.aq (.d d),.aq (.d (.bool (kY es n).isSome))] else one d)
    |none=>.fail) else .fail
   |none=>.fail
  |_,_,_=>.fail
 |.makeInterface t x=>match C.tt t,bj C st t x with
  |.struct _ _ _ _,.av (.agg [.d (.int .i64 n)])=>.ok (one (.err t (some n)))
  |_,_=>.fail
 |_=>.fail
where
 tA (C:Ctx) (st:ao) (t:TypeId) (m k x:Operand):dA:=match C.tt t,bj C st t m,bj C st 0 k,bj C st 0 x with
  |.map _ _ ty,.av (.aq (.own o s)),.av (.aq (.d (.str n))),.av (.aq (.d d))=>match st.ai o with
   |some (.map aQ u es)=>bif aQ.beq s&&decide (u=ty) then(match K1 u d with
    |some v=>.f_ (cf (.de undef)) [(o,.map s u (pR es n v))]
    |none=>.fail) else .fail
   |_=>.fail
  |_,_,_,_=>.fail
def step(C:Ctx)(st:ao)(D:Oper):dA:=
 match D.op with
 |.move x|.assign x=>.ok (bj C st D.type x)
 |.pick c a b=>match bj C st D.type c with
  |.av (.aq (.d (.bool true)))=>.ok (bj C st D.type a)
  |.av (.aq (.d (.bool false)))=>.ok (bj C st D.type b)
  |_=>.fail
 |.alloc elem=>match D.dst,C.tt elem with
  |some o,.arr _ t n=>tL o st t n
  |some o,ti=>match ti.zero with
   |some z=>.f_ (cf (.ptr o (bF st o) 0)) [(o,.box (bF st o) (bif elem.beq sh then wK z else z))]
   |none=>.fail
  |_,_=>.fail
 |.box elem x=>match D.dst,C.tt elem with
  |some o,.arr _ t n=>uv o st t n (bj C st elem x)
  |some o,_=>match mQ (bj C st elem x) with
   |some a=>bif ia a.cells then .f_ (cf (.ptr o (bF st o) 0)) [(o,.box (bF st o) a.cells)] else .fail
   |none=>.fail
  |_,_=>.fail
 |.build t parts=>match C.tt t with
  |.struct b4 _ z _=>nC C st b4 z parts.toList
  |.arr _ ty n=>match uz ty with
   |some z=>nC C st ((List.range n).map fun j=>(j,1)) (List.replicate n z) parts.toList
   |none=>.fail
  |_=>.fail
 |.buildSlice t len parts=>match D.dst,C.tt t with
  |some o,.slice e ty _=>bif parts.toList.length.beq len&&td 0 parts.toList&&Nat.ble (len*bh ty) 1000 then
    match oO (parts.toList.map fun p=>bj C st e p.2) with
    |some as=>match ma ty st as with
     |some (xs,us)=>.f_ (cf (.own o (bF st o))) (us++[(o,.row (bF st o) ty xs)])
     |none=>.fail
    |none=>.fail
   else .fail
  |_,_=>.fail
 |.load t a=>match C.tt t with
  |.arr _ ty n=>tW st ty n (bj C st t a)
  |ti=>bif ti.known then tV ti.agg ti.size st (bj C st t a) else .fail
 |.store t a x=>match mQ (bj C st t x) with
  |some v=>match C.tt t with
   |.arr _ ty n=>tr st ty n (bj C st t a) v
   |ti=>bif ti.known then tq ti.size st (bj C st t a) v else .fail
  |none=>.fail
 |.nilCheck x=>match bj C st D.type x with
  |.av (.aq (.ptr o s f))=>.ok (cf (.ptr o s f))
  |.av (.aq (.eZ cs f))=>.ok (cf (.eZ cs f))
  |.av (.aq (.fr o s t k f))=>.ok (cf (.fr o s t k f))
  |_=>.fail
 |.binOp op t x y _=>bif Cp y then Kr op (C.tt t) (bj C st t x) else LL op (C.tt t) (bj C st t x) (bj C st t y)
 |.unOp op _ x=>match op,bj C st D.type x with
  |.not,.av (.aq (.d (.bool b)))=>.ok (one (.bool (!b)))
  |.neg,.av (.aq (.d (.int k n)))=>.ok (one (.int k (k.wrap (0-n))))
  |.xor,.av (.aq (.d (.int k n)))=>.ok (one (.int k (dB k (if k.signed then-1 else k.max) n)))
  |_,_=>.fail
 |.convert src dst x=>(match D.dst with|some o=>ub C src dst o st (bj C st src x)|none=>.fail)
 |.makeFunc fn first captured=>match fn with
  |.func g=>bif first.toList.isEmpty then(match oN C st captured.toList with|some bN=>.ok (cf (.clo g bN))|none=>.fail) else .fail
  |_=>.fail
 |.makeSlice t l c=>match D.dst,C.tt t,bj C st 0 l,bj C st 0 c with
  |some o,.slice e ty bytes,.av (.aq (.d (.int _ n))),.av (.aq (.d (.int _ m)))=>match(C.tt e).zero with
   |some z=>match gC st z with
    |some (ds,_)=>match dec ty ds with
     |some fm=>.il (kh bytes n m fm) (fun _=>cf (.own o (bF st o))) fun r=>[(o,.row (bF st o) ty r)]
     |none=>.fail
    |none=>.fail
   |none=>.fail
  |_,_,_,_=>.fail
 |.slice t x df hi EX=>match EX with
  |none=>match C.tt t with
   |.arr _ ty n=>tv st ty n (bj C st t x) (df.map (bj C st 0)) (hi.map (bj C st 0))
   |ti=>tu ti st (bj C st t x) (df.map (bj C st 0)) (hi.map (bj C st 0))
  |some _=>.fail
 |.fieldAddr s x f=>match C.tt s with
  |.struct b4 _ _ _=>match b4[f]? with
   |some (off,_)=>FQ off (bj C st 0 x)
   |none=>.fail
  |_=>.fail
 |.indexAddr t x i=>match C.tt t,bj C st 0 i with
  |.slice _ ty _,.av (.aq (.d (.int _ n)))=>sP ty st (bj C st t x) n
  |.arr _ ty m,.av (.aq (.d (.int _ n)))=>sQ C st ty m (bj C st t x) n
  |_,_=>.fail
 |.index t x i=>match C.tt t,bj C st t x,bj C st 0 i with
  |.str,.av (.aq (.d (.str s))),.av (.aq (.d (.int _ n)))=>.eR (aS s n) fun b=>one (.int .u8 b.toNat)
  |.arr _ ty m,v,.av (.aq (.d (.int _ n)))=>Kf ty m v n
  |_,_,_=>.fail
 |.extract t i=>match bj C st 0 t with
  |.kg as=>match as[i]? with
   |some a=>.ok (.av a)
   |none=>.fail
  |_=>.fail
 |.call c=>match c.callee with
  |.value f=>match D.dst with
   |some d=>mw C d st (bj C st 0 f) (gS C st c.args.toList c.argTypes.toList)
   |none=>mw C 0 st (bj C st 0 f) (gS C st c.args.toList c.argTypes.toList)
  |.builtin b=>match b,D.dst,c.args.toList,c.argTypes.toList with
   |.len,_,[x],[t]=>uj (C.tt t) st (bj C st t x)
   |.append,some o,[s,x],[t,u]=>match C.tt t,C.tt u with
    |.slice _ ty bytes,.slice _ _ _=>to bytes ty o st (bj C st t s) (bj C st u x)
    |.slice _ ty bytes,.str=>tp bytes ty o st (bj C st t s) (bj C st u x)
    |_,_=>.fail
   |.max,_,[x,y],_=>match bj C st D.type x,bj C st D.type y with
    |.av (.aq (.d (.int k a))),.av (.aq (.d (.int _ b)))=>.ok (one (.int k (hd a b)))
    |_,_=>.fail
   |.max,_,[x,y,z,u,v],_=>match bj C st D.type x,bj C st D.type y,bj C st D.type z,bj C st D.type u,bj C st D.type v with
    |.av (.aq (.d (.int k a))),.av (.aq (.d (.int _ b))),.av (.aq (.d (.int _ c))),.av (.aq (.d (.int _ d))),.av (.aq (.d (.int _ e)))=>.ok (one (.int k (hd (hd (hd (hd a b) c) d) e)))
    |_,_,_,_,_=>.fail
   |.min,_,[x,y],_=>match bj C st D.type x,bj C st D.type y with
    |.av (.aq (.d (.int k a))),.av (.aq (.d (.int _ b)))=>.ok (one (.int k (l6 a b)))
    |_,_=>.fail
   |_,_,_,_=>.fail
  |_=>.fail
 |_=>lP C st D
where
 nC (C:Ctx) (st:ao) (b4:List (Nat×Nat)):List aU->List (Nat×Operand)->dA
  |z,[]=>.ok (.av (.agg z))
  |z,(i,x)::r=>match b4[i]?,mQ (bj C st 0 x) with
   |some (off,n),some a=>bif a.cells.length.beq n&&ia a.cells&&Nat.ble (off+n) z.length then nC C st b4 (bZ z off a.cells) r else .fail
   |_,_=>.fail
 oN (C:Ctx) (st:ao):List Operand->Option (List (Nat×Nat))
  |[]=>some []
  |x::r=>match bj C st 0 x,oN C st r with
   |.av (.aq (.ptr o s 0)),some l=>some ((o,s)::l)
   |_,_=>none
def J2(C:Ctx)(st:ao)(D:Oper):Option (((t:bi)×List (den t))×Bool):=
 match D.op with
 |.binOp op T x (.const (.slice none 0 0)) _=>match C.tt T with
  |.slice _ _ _=>match op with
   |.eql=>match bj C st T x with
    |.av (.aq (.d (.sl t xs)))=>some (⟨t,xs⟩,false)
    |_=>none
   |.neq=>match bj C st T x with
    |.av (.aq (.d (.sl t xs)))=>some (⟨t,xs⟩,true)
    |_=>none
   |_=>none
  |_=>none
 |_=>none
def aU.names:aU->List Nat
 |.own o _|.ptr o _ _|.fr o _ _ _ _=>[o]
 |.clo _ bN=>keys bN
 |_=>[]
def d':List aU->List Nat
 |[]=>[]
 |l::al=>l.names++d' al
def s8:List b5->List Nat
 |[]=>[]
 |a::as=>d' a.cells++s8 as
def bb.names:bb->List Nat
 |.av a=>d' a.cells
 |.kg as=>s8 as
def zg(st:ao)(o:Nat):List Nat:=match st.ai o with
 |some (.box _ cells)=>d' cells
 |_=>[]
def fq(st:ao):List Nat->List Nat
 |[]=>[]
 |o::r=>o::(zg st o++fq st r)
def lW:Op->List Operand
 |.move x|.assign x|.makeInterface _ x|.box _ x|.load _ x|.nilCheck x|.unOp _ _ x|.convert _ _ x|.fieldAddr _ x _|.extract x _=>[x]
 |.pick c a b=>[c,a,b]
 |.build _ ps|.buildSlice _ _ ps=>ps.toList.map (·.2)
 |.store _ a v|.binOp _ _ a v _|.makeSlice _ a v|.indexAddr _ a v|.index _ a v=>[a,v]
 |.makeFunc _ _ captured=>captured.toList
 |.slice _ x l h _=>x::(l.toList++h.toList)
 |.call c=>(match c.callee with|.value f=>[f]|_=>[])++c.args.toList
 |.lookup _ m k _=>[m,k]
 |.mapUpdate _ m k x|.insert _ m k x=>[m,k,x]
 |.makeMap _ r=>r.toList
 |_=>[]
def oz(st:ao):List Operand->List Nat
 |[]=>[]
 |.tmp t::r=>(st.get t).names++oz st r
 |_::r=>oz st r
def pG:List Operand->List Nat
 |[]=>[]
 |.tmp t::r=>t::pG r
 |_::r=>pG r
def Cq:Op->Bool
 |.call c=>match c.callee with
  |.value _=>true
  |_=>false
 |_=>false
def KA(C:Ctx):Op->List Nat
 |.makeSlice t _ _=>match C.tt t with
  |.slice e _ _=>match(C.tt e).zero with
   |some z=>d' z
   |none=>[]
  |_=>[]
 |_=>[]
def looks:Op->Bool
 |.load _ _|.store _ _ _|.slice _ _ _ _ _|.indexAddr _ _ _|.convert _ _ _|.buildSlice _ _ _|.call _|.lookup _ _ _ _|.mapUpdate _ _ _ _|.insert _ _ _ _=>true
 |_=>false
def KO(C:Ctx)(st:ao)(D:Oper):List Nat:=(bif looks D.op then fq st (oz st (lW D.op)) else [])++D.dst.toList++KA C D.op
def Sv(u:Nat):List Oper->List Nat
 |[]=>[]
 |D::r=>(match D.op,D.dst with
  |.move (.tmp t),some d=>bif Nat.beq d u then [t] else []
  |_,_=>[])++Sv u r
def G8(all:List Oper):List Oper->List Nat
 |[]=>[]
 |D::r=>(match D.op with
  |.slice _ (.tmp u) _ _ _=>u::Sv u all
  |_=>[])++G8 all r
def Xo(st:ao)(t:Nat):List (Nat×Site):=match st.get t with
 |.av (.aq (.own o s))=>match st.ai o with
  |some (.row aQ t xs)=>bif aQ.beq s then [(o,.dG aQ t xs)] else []
  |_=>[]
 |_=>[]
def CF(st:ao):List Nat->List (Nat×Site)
 |[]=>[]
 |t::r=>Xo st t++CF st r
def ao.iI(st:ao):List (Nat×Site)->ao
 |[]=>st
 |(o,s)::r=>(st.iU o s).iI r
def ao.dh(st:ao)(dst:Option Nat)(v:bb)(us:List (Nat×Site)):ao:=
 match dst with
 |some t=>(st.iI us).set t v
 |none=>st.iI us
def cE(st:ao):Option Nat->Bool
 |some t=>Nat.blt t st.nt
 |none=>true
abbrev BX:bb:=cf (.de undef)
section
variable {R:Type}
open Classical in
noncomputable def qR{t:bi}(xs:List (den t))(a b:Option R):Option R:=if xs=[]->a=b then b else none
def kX(C:Ctx)(st:ao)(D:Oper)(K:ao->Option R):Option R:=
 bif cE st D.dst then(step C st D).comp.bind fun y=>bif(step C st D).sj y then K (st.dh D.dst ((step C st D).val y) ((step C st D).us y)) else none else none
noncomputable def wM(C:Ctx)(st:ao)(D:Oper)(K:ao->Option R):Option R:=
 match J2 C st D with
 |some (⟨t,xs⟩,neg)=>bif cE st D.dst then qR xs (K (st.dh D.dst (one (.bool (!neg))) [])) (K (st.dh D.dst (one (.bool neg)) [])) else none
 |none=>kX C st D K
def tw(st:ao)(D:Oper)(K:ao->Option R):Option R:=
 bif cE st D.dst then K (st.dh D.dst BX []) else none
noncomputable def Ug(C:Ctx)(ops:Array Oper)(st:ao)(D:Oper)(K:ao->Option R):Option R:=
 match D.guard with
 |none=>wM C st D K
 |some (j,want)=>match(ops[j]?).bind (·.dst) with
  |some t=>match st.get t with
   |.av (.aq (.d (.bool b)))=>bif(bif want then b else !b) then wM C (st.set t (one (.bool want))) D K else tw (st.set t (one (.bool (!want)))) D K
   |.av (.aq (.de (.tuple _)))=>tw st D K
   |_=>none
  |none=>none
noncomputable def wm(C:Ctx)(ops:Array Oper):List Oper->ao->(ao->Option R)->Option R
 |[],st,K=>K st
 |D::r,st,K=>Ug C ops st D fun au=>wm C ops r au K
structure Rec where
 D:Oper
 go:Bool
 v:bb
 us:List (Nat×Site)
 lw:List Nat
 rn:List Nat
 EE:Bool
def wG:List Nat->Bool
 |[]=>false
 |n::r=>Nat.ble 1000000 n||wG r
def ui(d:Option Nat)(l:List Nat):Bool:=match d with|some d=>gB d l|none=>false
def mK(a b:Rec):Bool:=
 ui a.D.dst b.lw||ui a.D.dst b.D.dst.toList||ui b.D.dst a.lw||
 !fv (keys a.us) (b.rn++keys b.us)||!fv (keys b.us) a.rn||(a.EE&&wG (keys b.us))||(b.EE&&wG (keys a.us))
def mH(acc:List (Nat×Rec×List Nat)):List Edge->List Nat
 |[]=>[]
 |e::r=>bif Region.binds .any e then(match look acc e.on with|some x=>e.on::(x.2++mH acc r)|none=>mH acc r) else mH acc r
def tn(i:Nat):List Edge->Bool
 |[]=>true
 |e::r=>(!Region.binds .any e||Nat.blt e.on i)&&tn i r
def tz(x':List Nat)(x:Rec):List (Nat×Rec×List Nat)->Bool
 |[]=>true
 |(j,y,_)::r=>(gB j x'||!mK y x)&&tz x' x r
def Uc(i:Nat):List Oper->Bool
 |[]=>false
 |D::r=>(match D.guard with|some (j,_)=>Nat.beq i j|none=>false)||Uc i r
def Lj(g:Bool)(v:bb)(K:bb->Option R):Option R:=
 bif g then(match v with
  |.av (.aq (.d (.bool b)))=>bif b then K (one (.bool true)) else K (one (.bool false))
  |v=>K v) else K v
def BQ(C:Ctx)(g:Bool)(st:ao)(D:Oper)(gs:List Nat)(K:Rec->Option R):Option R:=
 (step C st D).comp.bind fun y=>bif(step C st D).sj y then Lj g ((step C st D).val y) fun v=>
  K ⟨D,true,v,(step C st D).us y,gs++pG (lW D.op),KO C st D,Cq D.op⟩ else none
def HL(D:Oper)(gs:List Nat)(K:Rec->Option R):Option R:=K ⟨D,false,BX,[],gs,[],false⟩
def Kt(C:Ctx)(ops:Array Oper)(g:Bool)(st:ao)(D:Oper)(K:Rec->Option R):Option R:=
 match D.guard with
 |none=>BQ C g st D [] K
 |some (j,want)=>match(ops[j]?).bind (·.dst) with
  |some t=>match st.get t with
   |.av (.aq (.d (.bool b)))=>bif(bif want then b else !b) then BQ C g st D [t] K else HL D [t] K
   |.av (.aq (.de (.tuple _)))=>HL D [t] K
   |_=>none
  |none=>none
def CR(C:Ctx)(ops:Array Oper):List Oper->Nat->List (Nat×Rec×List Nat)->ao->(ao->Option R)->Option R
 |[],_,_,st,K=>K st
 |D::r,i,acc,st,K=>bif cE st D.dst&&tn i D.after.toList then Kt C ops (Uc i r) st D fun x=>
   bif tz (mH acc D.after.toList) x acc then CR C ops r (i+1) ((i,x,mH acc D.after.toList)::acc) (st.dh D.dst x.v x.us) K else none
  else none
def Ut(C:Ctx)(ops:Array Oper)(st:ao)(K:ao->Option R):Option R:=CR C ops ops.toList 0 [] (st.iI (CF st (G8 ops.toList ops.toList))) K
inductive Out:Type where
 |norm (st:ao)
 |exit (id:Nat) (st:ao)
 |ret (st:ao)
structure auQ:Type 1 where
 J:Type
 comp:Option J
 out:J->Out
 run:(R:Type)->J->(Out->Option R)->Option R
 run_eq:∀(R:Type) (y:J) (K:Out->Option R),run R y K=K (out y)
abbrev iw:=ao->auQ
structure io:Type 1 extends Ctx where
 oW:Nat->Option iw
def wrap(C:io)(p:Nat)(st:ao)(K:Out->Option R)(x:Option R):Option R:=
 match C.oW p with
 |some f=>(f st).comp.bind fun y=>(f st).run R y K
 |none=>x
noncomputable def exec(C:io):Code->Nat->ao->(Out->Option R)->Option R
 |.skip,_,st,K=>K (.norm st)
 |.region _ ops false,p,st,K=>wrap C p st K (wm C.toCtx ops ops.toList st fun au=>K (.norm au))
 |.region _ ops true,p,st,K=>wrap C p st K (Ut C.toCtx ops st fun au=>K (.norm au))
 |.seq a b,p,st,K=>wrap C p st K (exec C a (2*p) st fun
  |.norm au=>exec C b (2*p+1) au K
  |D=>K D)
 |.cond c a b,p,st,K=>wrap C p st K (match bj C.toCtx st 0 c with
  |.av (.aq (.d (.bool t)))=>bif t then exec C a (2*p) st K else exec C b (2*p+1) st K
  |_=>none)
 |.block id c,p,st,K=>wrap C p st K (exec C c (2*p) st fun
  |.exit jv au=>bif jv.beq id then K (.norm au) else K (.exit jv au)
  |D=>K D)
 |.loop _,p,st,K=>wrap C p st K none
 |.rangeFunc _ _ _ _,p,st,K=>wrap C p st K none
 |.exit id,_,st,K=>K (.exit id st)
 |.ret,_,st,K=>K (.ret st)
 |_,_,_,_=>none
end
section
variable {F a_:Nat->Value}{sites b_:List (Nat×Site)}{w w':World}{av cz:Nat->Prop}
structure iK(F a_:Nat->Value)(sites b_:List (Nat×Site))(w w':World)(av cz:Nat->Prop):Prop where
 ref:∀o ai,look sites o=some ai->∃b',look b_ o=some b'/\ai.cL<=b'.cL/\(b'.cL=ai.cL->a_ o=F o)
 b0:∀b,¬av b->b<w.heap.size->w'.heap[b]? =w.heap[b]?
 av:∀b,¬av b->b<w.heap.size->¬cz b
theorem bU.goes{d:bk}{v:Value}(G:iK F a_ sites b_ w w' av cz)(hs:w.heap.size<=w'.heap.size)(aCT:∀b,cz b->b<w'.heap.size)(r:bU w av d v):bU w' cz d v:=by
 induction r with
 |int k n=>exact .int k n
 |bool b=>exact .bool b
 |str l s h=>exact .str l s h
 |nil t=>exact .nil t
 |sl t xs a cap cs n hn hcap hb hl hc _ ih=>
  have key:xs≠[]->a.block<w.heap.size:=by
   intro hne;have nO:0<cs.length:=by
    rw[hl,fu];exact Nat.mul_pos (List.length_pos_iff.mpr hne) (mz t)
   have:=hc 0 (cs[0]) (d_ nO);have h2:=World.block_lt_of_cell? w _ this;have jp:(a.add 0).block=a.block:=by unfold Addr.add;split<;>rfl
   rwa[jp] at h2
  refine .sl t xs a cap cs n hn hcap (fun hx=>G.av _ (hb hx) (key hx)) hl (fun j u hu=>?_) ih
  have hcell:=hc j u hu;have hne:xs≠[]:=by
   rintro rfl;have:cs=[]:=fO (by simpa[flat] using hl)
   subst this;simp at hu
  have jp:(a.add j).block=a.block:=by unfold Addr.add;split<;>rfl
  rw[World.cell?_of_block (w:=w) (a:=a.add j) (by rw[jp];exact G.b0 _ (hb hne) (key hne))]
  exact hcell
 |fn g bN bs jz lb hlb uW hb hlt hl hc _ ih=>
  refine .fn g bN bs jz lb hlb uW (fun b hm=>G.av b (hb b hm) (hlt b hm)) (fun b hm=>Nat.lt_of_lt_of_le (hlt b hm) hs) hl (fun i hi j u hu=>?_) ih
  have hcell:=hc i hi j u hu;have hm:bs[i]∈bs:=List.getElem_mem hi;rw[World.cell?_of_block (w:=w) (a:=⟨bs[i],j,none⟩) (G.b0 _ (hb _ hm) (hlt _ hm))];exact hcell
 |w9 t=>exact .w9 t
 |xk T=>exact .xk T
 |err T n=>exact .err T n
 |map t es b hb hm=>exact .map t es b (G.av b hb hm.lt) (hm.of (G.b0 b hb hm.lt))
theorem Ref.goes{o s:Nat}{p h6:Prop}(G:iK F a_ sites b_ w w' av cz)(h:Ref sites o s p)(hp:a_ o=F o->p->h6):Ref b_ o s h6:=by
 obtain⟨ai,h1,h2,h3⟩:=h;obtain⟨b',g1,g2,g3⟩:=G.ref o ai h1;refine⟨b',g1,Nat.le_trans h2 g2,fun e=>?_⟩
 have:b'.cL=ai.cL:=by omega
 exact hp (g3 this) (h3 (by omega))
theorem ey.goes{l:aU}{v:Value}(G:iK F a_ sites b_ w w' av cz)(hs:w.heap.size<=w'.heap.size)(cq:∀b,cz b->b<w'.heap.size)(h:ey F sites w av l v):ey a_ b_ w' cz l v:=by
 cases l with
 |d x=>exact bU.goes G hs cq h
 |nil t=>exact h
 |own o s=>exact⟨h.1,Ref.goes G h.2 (fun e p=>p.trans e.symm)⟩
 |ptr o s off=>obtain⟨b,h1,h2⟩:=h;exact⟨b,h1,Ref.goes G h2 (fun e p=>by rw[e];exact p)⟩
 |eZ cells off=>
  obtain⟨b,D,hv,hb,hlt,cs,hl,hc,hr⟩:=h;refine⟨b,D,hv,G.av b hb hlt,Nat.lt_of_lt_of_le hlt hs,cs,hl,fun j u hu=>?_,fun j h1 h2=>(hr j h1 h2).goes G hs cq⟩
  have hcell:=hc j u hu;rw[World.cell?_of_block (w:=w) (a:=⟨b,D+j,none⟩) (G.b0 b hb hlt)];exact hcell
 |fr o s t k off=>obtain⟨b,h1,h2⟩:=h;exact⟨b,h1,Ref.goes G h2 (fun e p=>by rw[e];exact p)⟩
 |clo g bN=>
  obtain⟨vs,hv,hl,hr⟩:=h;exact⟨vs,hv,hl,fun i h1 h2=>Ref.goes G (hr i h1 h2) (fun e p=>p.trans e.symm)⟩
 |de u=>exact h
 |fresh t xs=>exact h
 |dM=>trivial
 |any=>trivial
theorem hU.goes{a:b5}{v:Value}(G:iK F a_ sites b_ w w' av cz)(hs:w.heap.size<=w'.heap.size)(cq:∀b,cz b->b<w'.heap.size)(h:hU F sites w av a v):hU a_ b_ w' cz a v:=by
 cases a with
 |aq l=>exact ey.goes G hs cq h
 |agg al=>
  obtain⟨vs,hv,hl,hr⟩:=h;exact⟨vs,hv,hl,fun j h1 h2=>(hr j h1 h2).goes G hs cq⟩
theorem cy.goes{a:bb}{v:Value}(G:iK F a_ sites b_ w w' av cz)(hs:w.heap.size<=w'.heap.size)(cq:∀b,cz b->b<w'.heap.size)(h:cy F sites w av a v):cy a_ b_ w' cz a v:=by
 cases a with
 |av a=>exact hU.goes G hs cq h
 |kg as=>
  obtain⟨vs,hv,hl,hr⟩:=h;exact⟨vs,hv,hl,fun j h1 h2=>(hr j h1 h2).goes G hs cq⟩
theorem kz.goes{o:Nat}{ai:Site}(G:iK F a_ sites b_ w w' av cz)(hs:w.heap.size<=w'.heap.size)(cq:∀b,cz b->b<w'.heap.size)(dd:a_ o=F o)
  (hb:ai.live=true->∀b,Jk.b0 (F o)=some b->w'.heap[b]? =w.heap[b]?) (h:kz F sites w av o ai):kz a_ b_ w' cz o ai:=by
 cases ai with
 |box s cells=>
  obtain⟨b,T,cur,h1,h2,h3,aD,o',bn⟩:=h;have:=hb rfl b (by rw[h1];rfl)
  exact⟨b,T,cur,dd.trans h1,this.trans h2,h3,aD,o',fun j g1 g2=>(bn j g1 g2).goes G hs cq⟩
 |row s t xs=>
  obtain⟨e,cs,h1,h2⟩:=h;refine⟨e,cs,?_,fun j g1 g2=>(h2 j g1 g2).goes G hs cq⟩
  rw[dd];refine⟨h1.1,?_⟩;rcases h1.2 with hn|⟨g,cap,cur,fz,hv,r1,r2,dE⟩
  ·exact .inl hn
  ·refine .inr ⟨g,cap,cur,fz,hv,r1,?_,dE⟩;rw[hb rfl g (by rw[hv];rfl)];exact r2
 |dG s t xs=>exact⟨by rw[dd];exact bU.goes G hs cq h.1,by rw[dd];exact h.2⟩
 |map s t es=>
  obtain⟨b,h1,h2⟩:=h;exact⟨b,dd.trans h1,h2.of (hb rfl b (by rw[h1];rfl))⟩
 |dead s=>trivial
end
theorem az.rC{U:World}{Z:List Nat}{X:Nat->Prop}{F a_:Nat->Value}{st:ao}{b_:List (Nat×Site)}{M:Array Value}{w w':World}
  (S:az U Z X F st M w)
  (rJ:∀o ai,look st.sites o=some ai->∃b',look b_ o=some b'/\ai.cL<=b'.cL/\(b'.cL=ai.cL->a_ o=F o))
  (jp:∀b,¬aN X F st.sites b->b<w.heap.size->w'.heap[b]? =w.heap[b]?)
  (cq:∀b,¬aN X F st.sites b->b<w.heap.size->¬aN X a_ b_ b)
  (aud:(∀{a v},cy F st.sites w (aN X F st.sites) a v->cy a_ b_ w' (aN X a_ b_) a v)->∀o b',look b_ o=some b'->
   (look st.sites o=some b'/\a_ o=F o/\(b'.live=true->∀b,b0 (F o)=some b->w'.heap[b]? =w.heap[b]?))\/kz a_ b_ w' (aN X a_ b_) o b')
  (arQ:∀o ae b,cD b_ o->cD b_ ae->b0 (a_ o)=some b->b0 (a_ ae)=some b->o=ae)
  (arN:∀o b,cD b_ o->b0 (a_ o)=some b->¬X b/\(b∈Z\/U.heap.size<=b))
  (hlt:∀o b,cD b_ o->b0 (a_ o)=some b->b<w'.heap.size)
  (apZ:Fr Z U w') (hs:w.heap.size<=w'.heap.size):
  az U Z X a_ {st with sites:=b_} M w':=by
 have G:iK F a_ st.sites b_ w w' (aN X F st.sites) (aN X a_ b_):=⟨rJ,jp,cq⟩;have xi:∀b,aN X a_ b_ b->b<w'.heap.size:=by
  rintro b (hx|⟨o,h1,h2⟩)
  ·exact Nat.lt_of_lt_of_le (S.old b hx) hs
  ·exact hlt o b h1 h2
 refine⟨S.nt,fun t=>(S.c8 t).goes G hs xi,fun o b' bG=>?_,arQ,arN,apZ,fun b h=>Nat.lt_of_lt_of_le (S.old b h) hs,S.fw⟩
 rcases aud (fun h=>h.goes G hs xi) o b' bG with⟨h1,h2,h3⟩|h
 ·exact(S.sites o b' h1).goes G hs xi h2 h3
 ·exact h
def cQ(M:Array Value)(dst:Option Nat)(v:Value):Array Value:=
 match dst with
 |some d=>M.setIfInBounds d v
 |none=>M
section
variable {P:Program}{K:Act->World->Prop}{Q:Exit->Act->World->Prop}{D:Oper}{M:Array Value}{w w':World}{vv:Value}
theorem pM(h:(execOp (Act.eval ⟨M,[]⟩) D).run P w=.ok (.value vv) w')(hk:K ⟨cQ M D.dst vv,[]⟩ w'):D.wp P ⟨M,[]⟩ w K Q:=by
 unfold Oper.wp;rw[h,Oper.upon_value];cases aa:D.dst with
 |none=>simp only[aa,cQ] at hk;simpa[Act.put] using hk
 |some d=>simp only[aa,cQ] at hk;simpa[Act.put] using hk
theorem aoV(h:(execOp (Act.eval ⟨M,[]⟩) D).run P w=.ok .skip w')(hk:K ⟨cQ M D.dst undef,[]⟩ w'):D.wp P ⟨M,[]⟩ w K Q:=by
 unfold Oper.wp;rw[h,Oper.upon_skip];cases aa:D.dst with
 |none=>simp only[aa,cQ] at hk;simpa[Act.put] using hk
 |some d=>simp only[aa,cQ] at hk;simpa[Act.put] using hk
end
def bB(sites:List (Nat×Site)):List (Nat×Site)->List (Nat×Site)
 |[]=>sites
 |(o,s)::r=>bB (cI sites o s) r
theorem ao.vO(st:ao)(us:List (Nat×Site)):st.iI us={st with sites:=bB st.sites us}:=by
 induction us generalizing st with
 |nil=>rfl
 |cons p us ih=>obtain⟨o,s⟩:=p;simp only[ao.iI,bB];rw[ih];rfl
theorem lG(sites:List (Nat×Site))(us vs:List (Nat×Site)):bB sites (us++vs)=bB (bB sites us) vs:=by
 induction us generalizing sites with
 |nil=>rfl
 |cons p us ih=>obtain⟨o,s⟩:=p;simp only[List.cons_append,bB];exact ih _
section
variable {U:World}{Z:List Nat}{X:Nat->Prop}{F:Nat->Value}{st:ao}{M:Array Value}{w:World}
theorem az.put(S:az U Z X F st M w){t:Nat}{v:bb}{vv:Value}(ay:t<st.nt)(hv:cy F st.sites w (aN X F st.sites) v vv):
  az U Z X F (st.set t v) (M.setIfInBounds t vv) w:=by
 refine⟨by simpa using S.nt,fun u=>?_,S.sites,S.eD,S.cF,S.frame,S.old,S.fw⟩
 rw[ao.Jf];by_cases h:t=u
 ·subst h;simp only[if_true];have:(M.setIfInBounds t vv).getD t undef=vv:=by
   have h1:t<M.size:=by rw[S.nt];exact ay
   simp[Array.getD,h1]
  rw[this];exact hv
 ·simp only[h,if_false];have:(M.setIfInBounds t vv).getD u undef=M.getD u undef:=by
   simp only[Array.getD_eq_getD_getElem?,Array.getElem?_setIfInBounds,h,if_false]
  rw[this];exact S.c8 u
theorem az.dh{dst:Option Nat}{v:bb}{vv:Value}{us:List (Nat×Site)}(S:az U Z X F {st with sites:=bB st.sites us} M w)
  (aa:cE st dst=true) (hv:cy F (bB st.sites us) w (aN X F (bB st.sites us)) v vv):az U Z X F (st.dh dst v us) (cQ M dst vv) w:=by
 cases dst with
 |none=>simp only[ao.dh,ao.vO,cQ];exact S
 |some t=>
  simp only[ao.dh,ao.vO,cQ];have ay:t<st.nt:=by simpa[cE] using aa
  exact az.put (st:={st with sites:=bB st.sites us}) S ay hv
theorem dX(S:az U Z X F st M w)(C:Ctx)(T:TypeId)(x:Operand):cy F st.sites w (aN X F st.sites) (bj C st T x) (Act.eval ⟨M,[]⟩ x):=by
 cases x with
 |tmp t=>exact S.c8 t
 |const v=>
  show cy _ _ _ _ (we (C.tt T) v) v;unfold we;split
  ·exact .int _ _
  ·exact .bool _
  ·exact .str _ _ rfl
  ·split<;>exact rfl
  ·split
   ·exact .w9 _
   ·exact rfl
  ·trivial
  ·trivial
  ·exact rfl
 |global g=>exact rfl
 |func f=>
  refine⟨[],rfl,rfl,fun i h=>?_⟩
  simp at h
variable {P:Program}{C:Ctx}{D:Oper}{K:Act->World->Prop}{Q:Exit->Act->World->Prop}
def c7(P:Program)(U:World)(Z:List Nat)(X:Nat->Prop)(st:ao)(M:Array Value)(w:World)(D:Oper)(v:bb)(us:List (Nat×Site)):Prop:=
 ∀(K:Act->World->Prop) (Q:Exit->Act->World->Prop),(∀a_ ca w',az U Z X a_ (st.dh D.dst v us) ca w'->K ⟨ca,[]⟩ w')->D.wp P ⟨M,[]⟩ w K Q
theorem eh(S:az U Z X F st M w)(aa:cE st D.dst=true){v:bb}{vv:Value}
  (h:(execOp (Act.eval ⟨M,[]⟩) D).run P w=.ok (.value vv) w) (hv:cy F st.sites w (aN X F st.sites) v vv):c7 P U Z X st M w D v []:=
 fun _ _ b6=>pM h (b6 _ _ _ (az.dh (us:=[]) S aa hv))
end
section
variable {P:Program}{w:World}
theorem aeY(op:BinOp)(t:TypeId)(x y:Operand)(k k':IntKind)(a b:Int):(eqGuard op t x y (.int k a) (.int k' b)).run P w=.ok () w:=by
 unfold eqGuard;cases op<;>rfl
theorem aeL(op:BinOp)(t:TypeId)(x y:Operand)(a b:ByteArray):(eqGuard op t x y (.string a) (.string b)).run P w=.ok () w:=by
 unfold eqGuard;cases op<;>rfl
theorem OS(op:BinOp)(t:TypeId)(x y:Operand)(a b:Bool):(eqGuard op t x y (.bool a) (.bool b)).run P w=.ok () w:=by
 unfold eqGuard;cases op<;>rfl
def Holds(r:dA)(eB:bb->List (Nat×Site)->Prop):Prop:=∀y,r.comp=some y->r.sj y=true->eB (r.val y) (r.us y)
theorem Holds.fail{eB:bb->List (Nat×Site)->Prop}:Holds .fail eB:=fun _ h _=>by cases h
theorem Holds.ok{v:bb}{eB:bb->List (Nat×Site)->Prop}(h:eB v []):Holds (.ok v) eB:=fun _ _ _=>h
theorem Holds.f_{v:bb}{us:List (Nat×Site)}{eB:bb->List (Nat×Site)->Prop}(h:eB v us):Holds (.f_ v us) eB:=fun _ _ _=>h
theorem Holds.eR{J:Type}{c:Option J}{f:J->bb}{eB:bb->List (Nat×Site)->Prop}(h:∀y,c=some y->eB (f y) []):Holds (.eR c f) eB:=fun y hy _=>h y hy
theorem Holds.il{J:Type}{c:Option J}{f:J->bb}{us:J->List (Nat×Site)}{eB:bb->List (Nat×Site)->Prop}(h:∀y,c=some y->eB (f y) (us y)):Holds (.il c f us) eB:=fun y hy _=>h y hy
def Plain(P:Program)(w:World)(s:Sem Value)(v:bb)(us:List (Nat×Site)):Prop:=
 ∃vv d,s.run P w=.ok vv w/\us=[]/\v=one d/\∀av,bU w av d vv
theorem Plain.mk{s:Sem Value}{vv:Value}{d:bk}(h:s.run P w=.ok vv w)(hr:∀av,bU w av d vv):Plain P w s (one d) []:=⟨vv,d,h,rfl,rfl,hr⟩
theorem aiQ(op:BinOp)(T:TypeId)(k:IntKind)(a b:Int)(hs:op≠.shl)(gp:op≠.shr):
  Holds (W' op k a b) (Plain P w (binOp op T (.int k a) (.int k b))):=by
 cases op with
 |shl=>exact absurd rfl hs
 |shr=>exact absurd rfl gp
 |andNot=>exact .fail
 |quo=>
  refine Holds.eR fun y hy=>?_
  unfold l5 at hy;split at hy
  ·cases hy
  ·rename_i hb;cases hy;exact .mk (by simp[binOp,Op.intDiv,hb]) fun av=>.int _ _
 |rem=>
  refine Holds.eR fun y hy=>?_
  unfold ja at hy;split at hy
  ·cases hy
  ·rename_i hb;cases hy;exact .mk (by simp[binOp,Op.intDiv,hb]) fun av=>.int _ _
 |add=>exact Holds.ok (.mk (by simp[binOp,Op.intArith]) fun av=>.int _ _)
 |sub=>exact Holds.ok (.mk (by simp[binOp,Op.intArith]) fun av=>.int _ _)
 |mul=>exact Holds.ok (.mk (by simp[binOp,Op.intArith]) fun av=>.int _ _)
 |and=>exact Holds.ok (.mk (by simp[binOp,Op.intBits,e0]) fun av=>.int _ _)
 |or=>exact Holds.ok (.mk (by simp[binOp,Op.intBits,iu]) fun av=>.int _ _)
 |xor=>exact Holds.ok (.mk (by simp[binOp,Op.intBits,dB]) fun av=>.int _ _)
 |eql=>exact Holds.ok (.mk (by simp[binOp,Op.intCmp]) fun av=>.bool _)
 |neq=>exact Holds.ok (.mk (by simp[binOp,Op.intCmp]) fun av=>.bool _)
 |lss=>exact Holds.ok (.mk (by simp[binOp,Op.intCmp]) fun av=>.bool _)
 |leq=>exact Holds.ok (.mk (by simp[binOp,Op.intCmp]) fun av=>.bool _)
 |gtr=>exact Holds.ok (.mk (by simp[binOp,Op.intCmp]) fun av=>.bool _)
 |geq=>exact Holds.ok (.mk (by simp[binOp,Op.intCmp]) fun av=>.bool _)
theorem aiO(op:BinOp)(T:TypeId)(a b:ByteArray):
  Holds (WP op a.data.toList b.data.toList) (Plain P w (binOp op T (.string a) (.string b))):=by
 have e1:a.toList=a.data.toList:=ByteArray.toList_eq a;have e2:b.toList=b.data.toList:=ByteArray.toList_eq b;have ed:a.data.toList.length=a.size:=rfl;have fU:b.data.toList.length=b.size:=rfl;cases op with
 |add=>
  refine Holds.eR fun y hy=>?_
  simp only[cc,ed,fU] at hy;split at hy
  ·cases hy
  ·rename_i hc;cases hy;refine .mk (vv:=.string (a++b)) ?_ fun av=>.str _ _ (by simp[ByteArray.data_append])
   simp only[binOp,Op.stringOp,hc,if_false,Sem.run_pure]
 |eql=>exact Holds.ok (.mk (by rw[<-e1,<-e2];rfl) fun av=>.bool _)
 |neq=>exact Holds.ok (.mk (by rw[<-e1,<-e2];rfl) fun av=>.bool _)
 |lss=>exact Holds.ok (.mk (by rw[<-e1,<-e2];rfl) fun av=>.bool _)
 |leq=>exact Holds.ok (.mk (by rw[<-e1,<-e2];rfl) fun av=>.bool _)
 |gtr=>exact Holds.ok (.mk (by rw[<-e1,<-e2];rfl) fun av=>.bool _)
 |geq=>exact Holds.ok (.mk (by rw[<-e1,<-e2];rfl) fun av=>.bool _)
 |_=>exact .fail
end
def q7:aU->Option Value
 |.d (.int k n)=>some (.int k n)
 |.d (.bool b)=>some (.bool b)
 |.d (.str [])=>some (.string ⟨#[]⟩)
 |.nil _=>some (.slice none 0 0)
 |.de (.pointer none)=>some (.pointer none)
 |.de .nilFunc=>some .nilFunc
 |.de (.map none)=>some (.map none)
 |.de .nilIface=>some .nilIface
 |_=>none
def lM:List aU->Option (List Value)
 |[]=>some []
 |l::al=>match q7 l,lM al with
  |some v,some vs=>some (v::vs)
  |_,_=>none
theorem PL{l:aU}{v:Value}(h:q7 l=some v)(F:Nat->Value)(sites:List (Nat×Site))(w:World)(av:Nat->Prop):ey F sites w av l v/\v.oneCell'=true:=by
 unfold q7 at h;split at h<;>first|cases h|skip
 ·exact⟨.int _ _,rfl⟩
 ·exact⟨.bool _,rfl⟩
 ·exact⟨.str _ _ rfl,rfl⟩
 ·exact⟨rfl,rfl⟩
 ·exact⟨rfl,rfl⟩
 ·exact⟨rfl,rfl⟩
 ·exact⟨rfl,rfl⟩
 ·exact⟨rfl,rfl⟩
theorem vl:∀{al:List aU} {vs:List Value},lM al=some vs->vs.length=al.length/\(∀u∈vs,u.oneCell'=true)/\
  ∀(F:Nat->Value) (sites:List (Nat×Site)) (w:World) (av:Nat->Prop) j (h:j<al.length) (an:j<vs.length),ey F sites w av (al[j]) (vs[j]):=by
 intro al;induction al with
 |nil=>intro vs h;simp[lM] at h;subst h;exact⟨rfl,fun u hu=>by simp at hu,fun _ _ _ _ j h=>by simp at h⟩
 |cons l al ih=>
  intro vs h;simp only[lM] at h;split at h
  ·rename_i v cH h1 h2;cases h;obtain⟨g1,g2,g3⟩:=ih h2;refine⟨by simp[g1],fun u hu=>?_,fun F sites w av j hj kl=>?_⟩
   ·rcases bR.1 hu with rfl|hu
    ·exact(PL h1 (fun _=>undef) [] default (fun _=>False)).2
    ·exact g2 u hu
   ·cases j with
    |zero=>exact(PL h1 _ _ _ _).1
    |succ j=>exact g3 F sites w av j (by simpa using hj) (by simpa using kl)
  ·cases h
def oA:Value->Value->Option Bool
 |.int k a,.int k' b=>if k=k' then some (a==b) else none
 |.bool a,.bool b=>some (a==b)
 |.string a,.string b=>some (a==b)
 |_,_=>none
def j3:List Value->List Value->Option Bool
 |[a],[b]=>oA a b
 |a::as,b::bs=>match oA a b,j3 as bs with
  |some x,some y=>some (x&&y)
  |_,_=>none
 |_,_=>none
def qh:List aU->List Value->Bool
 |[],[]=>true
 |.d (.int _ _)::z,.int _ _::l=>qh z l
 |.d (.bool _)::z,.bool _::l=>qh z l
 |.d (.str _)::z,.string _::l=>qh z l
 |_,_=>false
def jN(P:Program)(T:TypeId)(d:TypeDesc)(z:Value):Prop:=
 P.underlying T=some d/\(∀b4,d≠.struct b4)/\(∀n e,d≠.array n e)/\(P.info? T).map (fun i=>(i.size,i.zero))=some (1,some z)
def mapElem(P:Program)(e:TypeId):bi->Prop
 |.i64=>jN P e (.int .i64) (.int .i64 0)
 |.bool=>jN P e .bool (.bool false)
 |_=>False
def JB(P:Program)(e:TypeId):bi->Prop
 |.i64=>jN P e (.int .i64) (.int .i64 0)
 |.u32=>jN P e (.int .u32) (.int .u32 0)
 |.bool=>jN P e .bool (.bool false)
 |.str=>jN P e .string (.string ⟨#[]⟩)
 |_=>False
def cu.ok(P:Program)(T:TypeId):cu->Prop
 |.none=>True
 |.int k=>jN P T (.int k) (.int k 0)
 |.bool=>jN P T .bool (.bool false)
 |.str=>jN P T .string (.string ⟨#[]⟩)
 |.ptr=>∃e,jN P T (.pointer e) (.pointer Option.none)
 |.func=>∃ps lw v,jN P T (.func ps lw v) .nilFunc
 |.slice e t bytes=>jN P T (.slice e) (.slice Option.none 0 0)/\∃z,(P.info? e).map (fun i=>(i.size,i.bytes,i.zero))=some (bh t,bytes,some z)/\z.cells.size=bh t/\(t.ki=true->e=nd)
 |.struct b4 n z eq=>∃fields:Array Field,P.underlying T=some (.struct fields)/\
   (fields.toList.mapM (fun f=>(P.info? f.type).map fun i=>(f.offset,i.size))=some b4/\∀p∈b4,p.2≠0)/\
   (∃gF,(P.info? T).map (fun i=>(i.size,i.zero))=some (n,some (.agg gF))/\lM z=some gF.toList/\z.length=n)/\
   (eq=true->P.eqGuardType P.depth T=false/\∀(vs us:List Value) (b:Bool) (w:World),j3 vs us=some b->qh z vs=true->(Op.equal T (.agg vs.toArray) (.agg us.toArray)).run P w=.ok b w)
 |.map k e t=>jN P T (.map k e) (.map Option.none)/\P.underlying k=some .string/\mapElem P e t
 |.iface=>∃jy,jN P T (.interface jy) .nilIface
 |.arr e t n=>P.underlying T=some (.array n e)/\(∃gF z,(P.info? T).map (fun i=>(i.size,i.zero))=some (n,some (.agg gF))/\uz t=some z/\lM (List.replicate n z)=some gF.toList)/\JB P e t
section
variable {P:Program}{T:TypeId}{w:World}
theorem lF{i:TypeInfo}(h:P.info? T=some i):(typeInfo T).run P w=.ok i w:=by
 simp[typeInfo,h]
theorem cu.Sq{ti:cu}(h:ti.ok P T)(hn:ti≠.none):(sizeOf T).run P w=.ok ti.size w:=by
 have key:∀{z:Option Value} {n:Nat},(P.info? T).map (fun i=>(i.size,i.zero))=some (n,z)->(sizeOf T).run P w=.ok n w:=by
  intro z n h;cases hi:P.info? T with
  |none=>simp[hi] at h
  |some i=>
   simp only[hi,Option.map_some,bH,Prod.mk.injEq] at h;simp[sizeOf,lF hi,h.1]
 cases ti with
 |none=>exact absurd rfl hn
 |int k=>exact key h.2.2.2
 |bool=>exact key h.2.2.2
 |str=>exact key h.2.2.2
 |ptr=>obtain⟨e,h⟩:=h;exact key h.2.2.2
 |func=>obtain⟨_,_,_,h⟩:=h;exact key h.2.2.2
 |iface=>obtain⟨_,h⟩:=h;exact key h.2.2.2
 |slice e t b=>exact key h.1.2.2.2
 |map k e t=>exact key h.1.2.2.2
 |struct b4 n z eq=>obtain⟨fields,_,_,⟨gF,h,_⟩,_⟩:=h;exact key h
 |arr e t n=>obtain⟨_,⟨gF,z,h,_⟩,_⟩:=h;exact key h
theorem cu.G_{ti:cu}(h:ti.ok P T){z:List aU}(hz:ti.zero=some z):∃v,(zeroValue T).run P w=.ok v w/\lM z=some v.cells.toList:=by
 have key:∀{z:Value} {n:Nat},(P.info? T).map (fun i=>(i.size,i.zero))=some (n,some z)->(zeroValue T).run P w=.ok z w:=by
  intro z n h;cases hi:P.info? T with
  |none=>simp[hi] at h
  |some i=>
   simp only[hi,Option.map_some,bH,Prod.mk.injEq] at h;simp[zeroValue,lF hi,h.2]
 cases ti with
 |none=>cases hz
 |int k=>cases hz;exact⟨_,key h.2.2.2,rfl⟩
 |bool=>cases hz;exact⟨_,key h.2.2.2,rfl⟩
 |str=>cases hz;exact⟨_,key h.2.2.2,rfl⟩
 |ptr=>cases hz;obtain⟨e,h⟩:=h;exact⟨_,key h.2.2.2,rfl⟩
 |func=>cases hz;obtain⟨_,_,_,h⟩:=h;exact⟨_,key h.2.2.2,rfl⟩
 |iface=>cases hz;obtain⟨_,h⟩:=h;exact⟨_,key h.2.2.2,rfl⟩
 |slice e t b=>cases hz;exact⟨_,key h.1.2.2.2,rfl⟩
 |map k e t=>cases hz;exact⟨_,key h.1.2.2.2,rfl⟩
 |struct b4 n fm eq=>cases hz;obtain⟨fields,_,_,⟨gF,h,h2,_⟩,_⟩:=h;exact⟨_,key h,h2⟩
 |arr e t n=>
  obtain⟨_,⟨gF,z0,h,h1,h2⟩,_⟩:=h;simp only[cu.zero,h1,Option.map_some,bH] at hz;subst hz;exact⟨_,key h,h2⟩
theorem cu.Q7{ti:cu}(h:ti.ok P T)(hn:ti≠.none):(isAgg T).run P w=.ok ti.agg w:=by
 have key:∀{d:TypeDesc},P.underlying T=some d->(∀b4,d≠.struct b4)->(∀n e,d≠.array n e)->(isAgg T).run P w=.ok false w:=by
  intro d h h1 h2;simp only[isAgg,Sem.run_bind,run_underlying h,Result.andThen_ok];cases d<;>first|rfl|exact absurd rfl (h1 _)|exact absurd rfl (h2 _ _)
 cases ti with
 |none=>exact absurd rfl hn
 |int k=>exact key h.1 h.2.1 h.2.2.1
 |bool=>exact key h.1 h.2.1 h.2.2.1
 |str=>exact key h.1 h.2.1 h.2.2.1
 |ptr=>obtain⟨e,h⟩:=h;exact key h.1 h.2.1 h.2.2.1
 |func=>obtain⟨_,_,_,h⟩:=h;exact key h.1 h.2.1 h.2.2.1
 |iface=>obtain⟨_,h⟩:=h;exact key h.1 h.2.1 h.2.2.1
 |slice e t b=>exact key h.1.1 h.1.2.1 h.1.2.2.1
 |map k e t=>exact key h.1.1 h.1.2.1 h.1.2.2.1
 |struct b4 n z eq=>
  obtain⟨fields,h,_⟩:=h;simp only[isAgg,Sem.run_bind,run_underlying h,Result.andThen_ok];rfl
 |arr e t n=>
  obtain⟨h,_⟩:=h;simp only[isAgg,Sem.run_bind,run_underlying h,Result.andThen_ok];rfl
def tR(agg:Bool)(cs:List Value):Value:=bif agg then .agg cs.toArray else cs.headD undef
theorem vj{ti:cu}(h:ti.ok P T)(hn:ti≠.none)(a:Addr)(cs:List Value)(hl:cs.length=ti.size)(hc:∀j u,cs[j]? =some u->w.cell? (a.add j)=some u):
  (loadVar T a).run P w=.ok (tR ti.agg cs) w:=by
 simp only[loadVar,Sem.run_bind,cu.Q7 h hn,Result.andThen_ok];cases LF:ti.agg with
 |true=>
  simp only[if_true,Sem.run_bind,cu.Sq h hn,Result.andThen_ok,tR,ad];rw[<-hl,run_loadCells_list w a cs hc];rfl
 |false=>
  have h1:ti.size=1:=by cases ti<;>first|rfl|cases LF
  rw[h1] at hl;match cs,hl with
  |[c],_=>
   have h0:=hc 0 c rfl;have ha:a.add 0=a:=by unfold Addr.add;simp
   rw[ha] at h0;simp[tR,h0]
end
section
variable {F:Nat->Value}{sites:List (Nat×Site)}{w:World}{av:Nat->Prop}
def cN(F:Nat->Value)(sites:List (Nat×Site))(w:World)(av:Nat->Prop)(al:List aU)(vs:List Value):Prop:=
 vs.length=al.length/\∀j (h:j<al.length) (an:j<vs.length),ey F sites w av (al[j]) (vs[j])
theorem cN.nil:cN F sites w av [] []:=⟨rfl,fun j h=>by simp at h⟩
theorem cN.cons{l:aU}{al:List aU}{v:Value}{vs:List Value}(h:ey F sites w av l v)(hs:cN F sites w av al vs):cN F sites w av (l::al) (v::vs):=
 ⟨by simp[hs.1],fun j h1 h2=>by
  cases j with
  |zero=>exact h
  |succ j=>exact hs.2 j (by simpa using h1) (by simpa using h2)⟩
theorem cN.inv{l:aU}{al:List aU}{vs:List Value}(h:cN F sites w av (l::al) vs):∃v cH,vs=v::cH/\ey F sites w av l v/\cN F sites w av al cH:=by
 obtain⟨h1,h2⟩:=h;match vs,h1 with
 |v::cH,h1=>
  exact⟨v,cH,rfl,h2 0 (by simp) (by simp),by simpa using h1,fun j g1 g2=>h2 (j+1) (by simpa using g1) (by simpa using g2)⟩
theorem cN.oC{vs:List Value}(h:cN F sites w av [] vs):vs=[]:=fO h.1
theorem cN.drop{al:List aU}{vs:List Value}(n:Nat)(h:cN F sites w av al vs):cN F sites w av (al.drop n) (vs.drop n):=
 ⟨by simp[h.1],fun j h1 h2=>by simp only[List.getElem_drop];exact h.2 _ (by simp at h1;omega) (by simp at h2;omega)⟩
theorem cN.take{al:List aU}{vs:List Value}(n:Nat)(h:cN F sites w av al vs):cN F sites w av (al.take n) (vs.take n):=
 ⟨by simp[h.1],fun j h1 h2=>by simp only[List.getElem_take];exact h.2 _ (by simp at h1;omega) (by simp at h2;omega)⟩
theorem cN.append{al gQ:List aU}{vs cH:List Value}(h:cN F sites w av al vs)(an:cN F sites w av gQ cH):cN F sites w av (al++gQ) (vs++cH):=by
 induction al generalizing vs with
 |nil=>rw[h.oC];exact an
 |cons l al ih=>
  obtain⟨v,xA,rfl,h1,h2⟩:=h.inv;exact .cons h1 (ih h2)
theorem cN.bZ{al gQ:List aU}{vs cH:List Value}(off:Nat)(h:cN F sites w av al vs)(an:cN F sites w av gQ cH):cN F sites w av (Jk.bZ al off gQ) (Jk.bZ vs off cH):=by
 unfold Jk.bZ;rw[an.1];exact((h.take off).append an).append (h.drop _)
theorem ey.j4{l:aU}{u:Value}(h:ey F sites w av l u)(ej:l.storable=true):u.oneCell'=true:=by
 cases l with
 |d x=>exact bU.j4 h
 |nil t=>rw[show u=_ from h];rfl
 |own o s=>exact h.1
 |ptr o s off=>obtain⟨b,rfl,_⟩:=h;rfl
 |eZ c D=>cases ej
 |fr _ _ _ _ _=>cases ej
 |clo g bN=>obtain⟨vs,rfl,_⟩:=h;rfl
 |de x=>rw[show u=x from h];cases x<;>first|rfl|cases ej
 |fresh t xs=>cases ej
 |dM=>cases ej
 |any=>cases ej
theorem cN.j4{al:List aU}{vs:List Value}(h:cN F sites w av al vs)(ej:ia al=true):∀u∈vs,u.oneCell'=true:=by
 induction al generalizing vs with
 |nil=>rw[h.oC];intro u hu;simp at hu
 |cons l al ih=>
  obtain⟨v,cH,rfl,h1,h2⟩:=h.inv;simp only[ia,bz] at ej;intro u hu;rcases bR.1 hu with rfl|hu
  ·exact h1.j4 ej.1
  ·exact ih h2 ej.2 u hu
theorem hU.cells{a:b5}{v:Value}(h:hU F sites w av a v)(ej:ia a.cells=true):cN F sites w av a.cells v.cells.toList:=by
 cases a with
 |aq l=>
  have h1:v.oneCell'=true:=ey.j4 h (by simpa[b5.cells,ia] using ej)
  have:v.cells=#[v]:=by cases v<;>first|rfl|cases h1
  rw[this];exact .cons h .nil
 |agg al=>
  obtain⟨vs,rfl,h1,h2⟩:=h;exact⟨h1,h2⟩
theorem Wk{agg:Bool}{off n:Nat}{al:List aU}{vs:List Value}{v:bb}(hc:cut agg off n al=some v)(h1:agg=false->n=1)(h:cN F sites w av al vs):
  off+n<=vs.length/\cy F sites w av v (tR agg ((vs.drop off).take n)):=by
 unfold cut at hc;cases agg with
 |true=>
  simp only[ad] at hc;cases hb:Nat.ble (off+n) al.length with
  |false=>simp[hb] at hc
  |true=>
   simp only[hb,ad,bH] at hc;subst hc;have hle:off+n<=al.length:=Nat.le_of_ble_eq_true hb;have:=(h.drop off).take n;exact⟨by rw[h.1];exact hle,_,rfl,this.1,this.2⟩
 |false=>
  simp only[ak] at hc;have hn:=h1 rfl;subst hn;cases aa:al.drop off with
  |nil=>simp[aa] at hc
  |cons l r=>
   simp only[aa,bH] at hc;subst hc;have acT:=h.drop off;rw[aa] at acT;obtain⟨u,us,hu,hl,_⟩:=acT.inv;have hlen:off<al.length:=by
    rcases Nat.lt_or_ge off al.length with h|h
    ·exact h
    ·rw[List.drop_eq_nil_of_le h] at aa;cases aa
   refine⟨by rw[h.1];omega,?_⟩
   rw[hu];exact hl
theorem ig{ds:List bk}{vs:List Value}(hl:vs.length=ds.length)(h:∀j (h:j<ds.length) (an:j<vs.length),bU w av (ds[j]) (vs[j])):cN F sites w av (cT ds) vs:=
 ⟨by simp[cT,hl],fun j h1 h2=>by simp only[cT,List.getElem_map];exact h j (by simpa[cT] using h1) h2⟩
end
theorem hK(b D j:Nat):(⟨b,D,none⟩:Addr).add j=⟨b,D+j,none⟩:=by
 unfold Addr.add;split<;>simp_all
def iE(w:World)(b D:Nat)(cs:List Value):Prop:=∀j u,cs[j]? =some u->w.cell? ⟨b,D+j,none⟩=some u
theorem iE.drop{w:World}{b D:Nat}{cs:List Value}(h:iE w b D cs)(m:Nat):iE w b (D+m) (cs.drop m):=by
 intro j u hu;rw[List.getElem?_drop] at hu;have:=h _ _ hu;rwa[Nat.add_assoc]
theorem iE.take{w:World}{b D:Nat}{cs:List Value}(h:iE w b D cs)(m:Nat):iE w b D (cs.take m):=by
 intro j u hu;rw[List.getElem?_take] at hu;split at hu
 ·exact h _ _ hu
 ·cases hu
theorem iE.row{w:World}{b:Nat}{cur:List Value}{T:TypeId}{c4:Nat×Nat}(h:w.heap[b]? =some (.cells cur.toArray T c4)):iE w b 0 cur:=by
 intro j u hu;rw[Nat.zero_add,cell_of_row w b j _ T c4 h];simpa using hu
theorem vt(t:bi)(xs:List (den t))(k:Nat)(x:den t)(hx:xs[k]? =some x):((flat t xs).drop (k*bh t)).take (bh t)=enc t x:=by
 apply List.ext_getElem?;intro j;rw[List.getElem?_take,List.getElem?_drop];split
 ·rename_i hj;exact flat_get t xs k j x hx hj
 ·rename_i hj;rw[List.getElem?_eq_none (by rw[jC];omega)]
section
variable {P:Program}{C:io}{U:World}{Z:List Nat}{X:Nat->Prop}{F:Nat->Value}{st:ao}{M:Array Value}{w:World}
theorem hC{o s:Nat}{cells:List aU}(h:gl st o s=some cells):look st.sites o=some (.box s cells):=by
 unfold gl ao.ai at h;split at h
 ·rename_i aQ j7 hl;cases hb:aQ.beq s with
  |false=>simp[hb] at h
  |true=>
   simp only[hb,ad,bH] at h;have:=ce hb;subst this h;exact hl
 ·cases h
theorem ks{o s:Nat}{t:bi}{xs:List (den t)}(h:rowOf st o s=some ⟨t,xs⟩):look st.sites o=some (.row s t xs)\/look st.sites o=some (.dG s t xs):=by
 unfold rowOf ao.ai at h;split at h
 ·rename_i aQ bw jq hl;cases hb:aQ.beq s with
  |false=>simp[hb] at h
  |true=>
   simp only[hb,ad,bH] at h;have:=ce hb;subst this;cases h;exact .inl hl
 ·rename_i aQ bw jq hl;cases hb:aQ.beq s with
  |false=>simp[hb] at h
  |true=>
   simp only[hb,ad,bH] at h;have:=ce hb;subst this;cases h;exact .inr hl
 ·cases h
theorem Ref.at{sites:List (Nat×Site)}{o s:Nat}{p:Prop}{ai:Site}(h:Ref sites o s p)(hl:look sites o=some ai)(hs:ai.cL=s):p:=by
 obtain⟨b',h1,_,h3⟩:=h;rw[hl] at h1;cases h1;exact h3 hs
theorem Ref.mk{sites:List (Nat×Site)}{o s:Nat}{p:Prop}{ai:Site}(hl:look sites o=some ai)(hs:ai.cL=s)(hp:p):Ref sites o s p:=
 ⟨ai,hl,by omega,fun _=>hp⟩
theorem az.box(S:az U Z X F st M w){o s off:Nat}{cells:List aU}(h:look st.sites o=some (.box s cells)){v:Value}(hv:ey F st.sites w (aN X F st.sites) (.ptr o s off) v):
  ∃b T cur,F o=.pointer (some ⟨b,0,none⟩)/\v=.pointer (some ⟨b,off,none⟩)/\w.heap[b]? =some (.cells (List.toArray cur) T (0,0))/\(∀u∈cur,u.oneCell'=true)/\cN F st.sites w (aN X F st.sites) cells cur:=by
 obtain⟨b,T,cur,h1,h2,h3,aD,_,bn⟩:=S.sites o _ h;obtain⟨bS,g2,g3⟩:=hv;have g1:=Ref.at g3 h rfl;rw[h1] at g1;cases g1;exact⟨b,T,cur,h1,g2,h2,aD,h3,bn⟩
theorem az.row(S:az U Z X F st M w){o s:Nat}{t:bi}{xs:List (den t)}(h:rowOf st o s=some ⟨t,xs⟩):
  ∃cs:List Value,cN F st.sites w (aN X F st.sites) (cT (flat t xs)) cs/\
   ((F o=.slice none 0 0/\xs=[])\/∃b c,F o=.slice (some ⟨b,0,none⟩) xs.length c/\iE w b 0 cs/\xs.length<=c):=by
 rcases ks h with h|h
 ·obtain⟨e,cs,h1,h2⟩:=S.sites o _ h;have hl:cs.length=(flat t xs).length:=by rw[fu];exact h1.1
  refine⟨cs,ig hl h2,?_⟩;rcases h1.2 with⟨hn,h0⟩|⟨g,cap,cur,fz,hv,_,hg,hnc,_,_,htk⟩
  ·exact .inl ⟨hn,fO h0⟩
  ·refine .inr ⟨_,_,hv,fun j u hu=>?_,hnc⟩
   rw[Nat.zero_add,cell_of_row w g j cur e fz hg];rw[<-htk,List.getElem?_take] at hu;split at hu
   ·simpa using hu
   ·cases hu
 ·obtain⟨h1,bV⟩:bU w (aN X F st.sites) (.sl t xs) (F o)/\DP (F o):=S.sites o _ h;generalize hv:F o=v at h1 bV;cases h1 with
  |nil t=>exact⟨[],⟨rfl,fun j h=>by simp[cT,flat] at h⟩,.inl ⟨rfl,rfl⟩⟩
  |sl t xs a cap cs n hn hcap hb hl hc hr=>
   subst hn;rcases bV with bV|⟨b,n,c,bV⟩
   ·cases bV
   ·cases bV;exact⟨cs,ig hl hr,.inr ⟨b,cap,rfl,fun j u hu=>by have:=hc j u hu;rwa[hK] at this,hcap⟩⟩
def DQ(g:Nat)(t:bi)(xs:List (den t)):Prop:=g∈lm/\∀w (av:Nat->Prop),n7 w->∃T fz,∃cs:List Value,w.heap[g]? =some (.cells cs.toArray T fz)/\cs.length=(flat t xs).length/\∀j (h:j<(flat t xs).length) (an:j<cs.length),bU w av ((flat t xs)[j]) (cs[j])
structure CtxOk(P:Program)(C:Ctx):Prop where
 tt:∀T,(C.tt T).ok P T
 gt:∀g t xs,C.gt g=some ⟨t,xs⟩->DQ g t xs
theorem Hv{ti:cu}(h:ti.known=true):ti≠.none:=by rintro rfl;cases h
theorem HQ{ti:cu}(h:ti.agg=false):ti.size=1:=by cases ti<;>first|rfl|cases h
theorem al7{agg:Bool}{off n:Nat}{al:List aU}(h:off+n<=al.length)(h1:agg=false->n=1):cut agg off n al≠none:=by
 unfold cut;cases agg with
 |true=>
  have:Nat.ble (off+n) al.length=true:=Nat.ble_eq_true_of_le h;simp[this]
 |false=>
  have:=h1 rfl;simp only[ak];cases aa:al.drop off with
  |nil=>have:=congrArg List.length aa;simp at this;omega
  |cons l r=>simp
theorem anV(S:az U Z X F st M w){C:Ctx}(H:CtxOk P C){D:Oper}{T:TypeId}{x:Operand}(aP:D.op=.load T x)(aa:cE st D.dst=true)(hk:(C.tt T).known=true):
  Holds (tV (C.tt T).agg (C.tt T).size st (bj C st T x)) (c7 P U Z X st M w D):=by
 have hn:=Hv hk;have bL:=dX S C T x;have fin:∀{b p:Nat} {al:List aU} {vs:List Value} {off:Nat} {v:bb},Act.eval ⟨M,[]⟩ x=.pointer (some ⟨b,p+off,none⟩)->iE w b p vs->cN F st.sites w (aN X F st.sites) al vs->
   cut (C.tt T).agg off (C.tt T).size al=some v->c7 P U Z X st M w D v []:=by
  intro b p al vs off v hx hc hl gn;obtain⟨hle,ayo⟩:=Wk gn HQ hl;refine eh S aa (vv:=tR (C.tt T).agg ((vs.drop off).take (C.tt T).size)) ?_ ayo;have dL:=vj (P:=P) (w:=w) (H.tt T) hn ⟨b,p+off,none⟩ ((vs.drop off).take (C.tt T).size) (by simp;omega) (fun j u hu=>by rw[hK];exact(hc.drop off).take _ j u hu)
  unfold execOp;simp only[aP,Instr.loadAt,Instr.sureAddr,hx,Sem.run_bind,Sem.run_pure,Result.andThen_ok,dL]
 unfold tV;split
 ·rename_i o s off ch;rw[ch] at bL;split
  ·rename_i cells hb;split
   ·rename_i v gn;obtain⟨b,gW,cur,_,hv,hg,_,hl⟩:=S.box (hC hb) bL;exact Holds.ok (fin (p:=0) (by rw[Nat.zero_add];exact hv) (iE.row hg) hl gn)
   ·exact .fail
  ·exact .fail
 ·rename_i cells off ch;rw[ch] at bL;split
  ·rename_i v gn;obtain⟨b,p,hv,_,_,cs,hl,hc,hr⟩:=bL;exact Holds.ok (fin hv hc (ig hl hr) gn)
  ·exact .fail
 ·rename_i o s u k off ch;rw[ch] at bL;split
  ·rename_i t xs hrow;split
   ·rename_i o4;obtain⟨rfl,hle⟩:=o4;refine Holds.eR fun y hy=>?_
    have ez:xs[k]? =some y:=hy;obtain⟨cs,hl,hcell⟩:=S.row hrow;have ej:∃ai,look st.sites o=some ai/\ai.cL=s:=by
     rcases ks hrow with h|h<;>exact⟨_,h,rfl⟩
    obtain⟨ai,iP,mf⟩:=ej;obtain⟨b,hv,xg⟩:=bL;obtain⟨n,c,dd⟩:=Ref.at xg iP mf;cases gn:cut (C.tt T).agg off (C.tt T).size (cT (enc t y)) with
    |none=>exact absurd gn (al7 (by simpa[cT,jC] using hle) HQ)
    |some v=>
     rcases hcell with⟨rM,_⟩|⟨bS,fM,kF,hcs,_⟩
     ·rw[dd] at rM;cases rM
     ·rw[dd] at kF;cases kF;have e1:cT (enc t y)=((cT (flat t xs)).drop (k*bh t)).take (bh t):=by
       rw[<-vt t xs k y ez];simp[cT,List.map_drop,List.map_take]
      rw[e1] at gn;refine fin (p:=k*bh t) hv ?_ ((hl.drop (k*bh t)).take (bh t)) gn;have:=(hcs.drop (k*bh t)).take (bh t);rwa[Nat.zero_add] at this
   ·exact .fail
  ·exact .fail
 ·exact .fail
end
section
variable {P:Program}{U:World}{Z:List Nat}{X:Nat->Prop}{F:Nat->Value}{st:ao}{M:Array Value}{w:World}
theorem az.gf(S:az U Z X F st M w){o b:Nat}(hl:cD st.sites o)(hb:b0 (F o)=some b):b<w.heap.size:=by
 obtain⟨ai,h1,h2⟩:=hl;have:=S.sites o ai h1;cases ai with
 |box s cells=>
  obtain⟨bS,T,cur,g1,g2,_⟩:=this;rw[g1] at hb;cases hb;exact(Array.getElem?_eq_some_iff.1 g2).1
 |row s t xs=>
  obtain⟨e,cs,g1,_⟩:=this;rcases g1.2 with⟨hn,_⟩|⟨g,cap,cur,fz,hv,_,hg,_⟩
  ·rw[hn] at hb;cases hb
  ·rw[hv] at hb;cases hb;exact(Array.getElem?_eq_some_iff.1 hg).1
 |map s t es=>
  obtain⟨bS,g1,g2⟩:=this;rw[g1] at hb;cases hb;exact g2.lt
 |dG=>cases h2
 |dead=>cases h2
theorem Ck{F a_:Nat->Value}{sites b_:List (Nat×Site)}{w w':World}{av cz:Nat->Prop}(go:∀{a:bb} {v:Value},cy F sites w av a v->cy a_ b_ w' cz a v){al:List aU}{vs:List Value}
  (h:cN F sites w av al vs):cN a_ b_ w' cz al vs:=by
 obtain⟨cH,h1,h2,h3⟩:=go (a:=.av (.agg al)) (v:=.agg vs.toArray) ⟨vs,rfl,h.1,h.2⟩;have:vs=cH:=by simpa using h1
 subst this;exact⟨h2,h3⟩
theorem pY{F a_:Nat->Value}{sites b_:List (Nat×Site)}{w w':World}{av cz:Nat->Prop}(go:∀{a:bb} {v:Value},cy F sites w av a v->cy a_ b_ w' cz a v){d:bk}{v:Value}
  (h:bU w av d v):bU w' cz d v:=go (a:=one d) (v:=v) h
theorem P8{sites:List (Nat×Site)}{o:Nat}{ai b':Site}(hl:look sites o=some ai)(h:b'.live=ai.live)(ae:Nat):cD (cI sites o b') ae <-> cD sites ae:=by
 unfold cD;rw[dn];by_cases e:o=ae
 ·subst e;simp only[if_true,hl,bH];constructor
  ·rintro⟨s,rfl,h2⟩;exact⟨ai,rfl,h▸h2⟩
  ·rintro⟨s,rfl,h2⟩;exact⟨b',rfl,h▸h2⟩
 ·simp only[e,if_false]
theorem az.write(S:az U Z X F st M w){o b:Nat}{ai b':Site}{cur cur':Array Value}{T:TypeId}{c4:Nat×Nat}(hl:look st.sites o=some ai)(mF:ai.live=true)(apY:b'.live=true)(hs:b'.cL=ai.cL)
  (dd:b0 (F o)=some b) (hg:w.heap[b]? =some (.cells cur T c4))
  (f':∀{b_:List (Nat×Site)} {w':World},b_=cI st.sites o b'->w'=w.setRow b cur'->w'.heap[b]? =some (.cells cur' T c4)->
   (∀{a v},cy F st.sites w (aN X F st.sites) a v->cy F b_ w' (aN X F b_) a v)->kz F b_ w' (aN X F b_) o b'):
  az U Z X F {st with sites:=cI st.sites o b'} M (w.setRow b cur'):=by
 have c9:cD st.sites o:=⟨ai,hl,mF⟩;have mL:∀ae,cD (cI st.sites o b') ae <-> cD st.sites ae:=P8 hl (apY.trans mF.symm);have cq:∀bS,aN X F (cI st.sites o b') bS <-> aN X F st.sites bS:=by
  intro bS;unfold aN;simp only[mL]
 have hne:∀bS,¬aN X F st.sites bS->bS≠b:=by
  rintro bS h rfl;exact h (.inr ⟨o,c9,dd⟩)
 refine S.rC (fun ae s b7=>?_) (fun bS h _=>setRow_other w b bS _ (hne bS h)) (fun bS h _=>by rw[cq];exact h) (fun go ae s b7=>?_) (fun ae ρ bS h1 h2=>S.eD ae ρ bS ((mL ae).1 h1) ((mL ρ).1 h2))
  (fun ae bS h=>S.cF ae bS ((mL ae).1 h)) (fun ae bS h hb=>by rw[setRow_size];exact S.gf ((mL ae).1 h) hb) ?_ (by rw[setRow_size];exact Nat.le_refl _)
 ·rw[dn];by_cases e:o=ae
  ·subst e;rw[hl] at b7;cases b7;exact⟨b',by simp,by omega,fun _=>rfl⟩
  ·exact⟨s,by simp[e,b7],Nat.le_refl _,fun _=>rfl⟩
 ·rw[dn] at b7;by_cases e:o=ae
  ·subst e;simp only[if_true,bH] at b7;subst b7;exact .inr (f' rfl rfl (setRow_heap w b cur cur' T c4 hg) go)
  ·simp only[e,if_false] at b7;refine .inl ⟨b7,rfl,fun um bS eA=>setRow_other w b bS _ ?_⟩
   rintro rfl;exact e (S.eD o ae _ c9 ⟨s,b7,um⟩ dd eA)
 ·have aW:=S.frame;refine⟨aW.os,aW.tape,aW.output,by rw[setRow_size];exact aW.size,fun bS h1 h2=>?_⟩
  rw[setRow_other w b bS _ ?_]
  ·exact aW.block bS h1 h2
  ·rintro rfl;rcases(S.cF o _ c9 dd).2 with h|h
   ·exact h2 h
   ·omega
theorem az.freeze(S:az U Z X F st M w){o s:Nat}{t:bi}{xs:List (den t)}(hl:look st.sites o=some (.row s t xs)):
  az U Z X F {st with sites:=cI st.sites o (.dG s t xs)} M w:=by
 have c9:cD st.sites o:=⟨_,hl,rfl⟩;have eF:∀ae,cD (cI st.sites o (.dG s t xs)) ae->cD st.sites ae/\ae≠o:=by
  rintro ae ⟨ai,h1,h2⟩;rw[dn] at h1;by_cases e:o=ae
  ·subst e;simp at h1;subst h1;cases h2
  ·simp only[e,if_false] at h1;exact⟨⟨ai,h1,h2⟩,fun h=>e h.symm⟩
 have cq:∀bS,aN X F (cI st.sites o (.dG s t xs)) bS->aN X F st.sites bS:=by
  rintro bS (h|⟨ae,h1,h2⟩)
  ·exact .inl h
  ·exact .inr ⟨ae,(eF ae h1).1,h2⟩
 refine S.rC (fun ae ai b7=>?_) (fun _ _ _=>rfl) (fun bS h _ an=>h (cq bS an)) (fun go ae ai b7=>?_) (fun ae ρ bS h1 h2=>S.eD ae ρ bS (eF ae h1).1 (eF ρ h2).1)
  (fun ae bS h=>S.cF ae bS (eF ae h).1) (fun ae bS h hb=>S.gf (eF ae h).1 hb) S.frame (Nat.le_refl _)
 ·rw[dn];by_cases e:o=ae
  ·subst e;rw[hl] at b7;cases b7;exact⟨.dG s t xs,by simp,Nat.le_refl _,fun _=>rfl⟩
  ·exact⟨ai,by simp[e,b7],Nat.le_refl _,fun _=>rfl⟩
 ·rw[dn] at b7;by_cases e:o=ae
  ·subst e;simp only[if_true,bH] at b7;subst b7;refine .inr ?_
   show bU _ _ (.sl t xs) (F o)/\DP (F o);obtain⟨cW,cs,h1,h2⟩:=S.sites o _ hl;rcases h1.2 with⟨hn,h0⟩|⟨g,cap,cur,fz,hv,_,hg,hnc,_,_,htk⟩
   ·have:xs=[]:=fO h0;subst this;rw[hn];exact⟨.nil t,.inl rfl⟩
   ·rw[hv];refine⟨?_,.inr ⟨_,_,_,rfl⟩⟩;have hlen:cs.length=(flat t xs).length:=by rw[fu];exact h1.1
    refine .sl t xs _ cap cs xs.length rfl hnc (fun _=>?_) hlen (fun j u hu=>?_) (fun j g1 g2=>pY go (h2 j g1 g2))
    ·rintro(hx|⟨ae,g1,g2⟩)
     ·exact(S.cF o g c9 (by rw[hv];rfl)).1 hx
     ·obtain⟨g3,g4⟩:=eF ae g1;exact g4 (S.eD ae o g g3 c9 g2 (by rw[hv];rfl))
    ·rw[hK,Nat.zero_add,cell_of_row w g j cur cW fz hg];rw[<-htk,List.getElem?_take] at hu;split at hu
     ·simpa using hu
     ·cases hu
  ·simp only[e,if_false] at b7;exact .inl ⟨b7,rfl,fun _ _ _=>rfl⟩
theorem RQ{aE:Type}(l:List (Nat×aE))(n:Nat)(v:aE)(h:look l n=some v):cI l n v=l:=by
 induction l with
 |nil=>simp[look] at h
 |cons p l ih=>
  obtain⟨k,u⟩:=p;simp only[look] at h;simp only[cI];cases hb:k.beq n with
  |true=>simp only[hb,ad,bH] at h;subst h;simp
  |false=>simp only[hb,ak] at h;simp[ih h]
def ei(sites:List (Nat×Site))(us:List (Nat×Site)):Prop:=
 ∀o ai,(o,ai)∈us->∃s t,∃xs:List (den t),ai=.dG s t xs/\(look sites o=some (.row s t xs)\/look sites o=some (.dG s t xs))
theorem ei.nil{sites:List (Nat×Site)}:ei sites []:=fun _ _ h=>by simp at h
theorem ei.append{sites us vs:List (Nat×Site)}(h:ei sites us)(an:ei sites vs):ei sites (us++vs):=by
 intro o ai hm;rcases bo.1 hm with hm|hm
 ·exact h o ai hm
 ·exact an o ai hm
theorem ei.step{sites us:List (Nat×Site)}{o:Nat}{ai:Site}(h:ei sites ((o,ai)::us)):ei (cI sites o ai) us:=by
 obtain⟨s,t,xs,rfl,hl⟩:=h o ai (by simp)
 intro ae b' hm;obtain⟨aQ,bw,jq,rfl,gR⟩:=h ae b' (by simp[hm])
 refine⟨aQ,bw,jq,rfl,?_⟩;rw[dn];by_cases e:o=ae
 ·subst e;simp only[if_true];right;rcases hl with hl|hl<;>rcases gR with gR|gR<;>rw[hl] at gR<;>cases gR<;>rfl
 ·simp only[e,if_false];exact gR
theorem az.BN{us:List (Nat×Site)}:∀{st:ao},az U Z X F st M w->ei st.sites us->az U Z X F {st with sites:=bB st.sites us} M w:=by
 induction us with
 |nil=>intro st S _;exact S
 |cons p us ih=>
  obtain⟨o,ai⟩:=p;intro st S h;have an:=h.step;obtain⟨s,t,xs,rfl,hl⟩:=h o ai (by simp)
  simp only[bB];rcases hl with hl|hl
  ·exact ih (S.freeze hl) an
  ·rw[RQ _ _ _ hl] at an ⊢;exact ih S an
theorem mq{us:List (Nat×Site)}:∀{sites:List (Nat×Site)},ei sites us->∀o,(look (bB sites us) o=look sites o)\/(∃s t,∃xs:List (den t),(look sites o=some (.row s t xs)\/look sites o=some (.dG s t xs))/\look (bB sites us) o=some (.dG s t xs)):=by
 induction us with
 |nil=>intro sites _ o;exact .inl rfl
 |cons p us ih=>
  obtain⟨ae,ai⟩:=p;intro sites h o;obtain⟨s,t,xs,rfl,hl⟩:=h ae ai (by simp)
  simp only[bB];have hc:=dn sites ae o (.dG s t xs);rcases ih h.step o with h1|⟨aQ,bw,jq,h1,h2⟩
  ·by_cases e:ae=o
   ·subst e;simp only[if_true] at hc;exact .inr ⟨s,t,xs,hl,h1.trans hc⟩
   ·simp only[e,if_false] at hc;exact .inl (h1.trans hc)
  ·by_cases e:ae=o
   ·subst e;simp only[if_true] at hc;rw[hc] at h1;rcases h1 with h1|h1
    ·cases h1
    ·cases h1;exact .inr ⟨s,t,xs,hl,h2⟩
   ·simp only[e,if_false] at hc;rw[hc] at h1;exact .inr ⟨aQ,bw,jq,h1,h2⟩
theorem Fa{us:List (Nat×Site)}:∀{sites:List (Nat×Site)},ei sites us->∀{o s:Nat} {t:bi} {xs:List (den t)},(o,Site.dG s t xs)∈us->look (bB sites us) o=some (.dG s t xs):=by
 intro sites h o s t xs hm;obtain⟨iR,t0,D5,he,hl⟩:=h o _ hm;cases he;rcases mq h o with h1|⟨aQ,bw,jq,h1,h2⟩
 ·-- named,and aDs aCk
  induction us generalizing sites with
  |nil=>simp at hm
  |cons p us ih=>
   obtain⟨ae,ai⟩:=p;simp only[bB] at h1 ⊢;rcases bR.1 hm with hm|hm
   ·cases hm;rcases mq h.step o with h2|⟨aQ,bw,jq,h2,h3⟩
    ·rw[h2,dn];simp
    ·rw[dn] at h2;simp at h2;obtain⟨rfl,rfl,h2⟩:=h2;rw[h3];cases h2;rfl
   ·have hc:=dn sites ae o ai;by_cases e:ae=o
    ·subst e;obtain⟨s1,t1,axm,rfl,hY⟩:=h ae ai (by simp)
     have:Site.dG s1 t1 axm=Site.dG s t xs:=by
      rcases hl with hl|hl<;>rcases hY with hY|hY<;>rw[hl] at hY<;>cases hY<;>rfl
     cases this;simp only[if_true] at hc;rcases mq h.step ae with h2|⟨aQ,bw,jq,h2,h3⟩
     ·rw[h2,hc]
     ·rw[hc] at h2;rcases h2 with h2|h2
      ·cases h2
      ·cases h2;exact h3
    ·simp only[e,if_false] at hc;refine ih h.step hm (by rw[hc];exact hl) ?_
     rw[h1,hc]
 ·rcases hl with hl|hl<;>rcases h1 with h1|h1<;>rw[hl] at h1<;>cases h1<;>exact h2
end
section
variable {P:Program}{U:World}{Z:List Nat}{X:Nat->Prop}{F:Nat->Value}{st:ao}{M:Array Value}{w:World}
structure lE(U:World)(Z:List Nat)(X:Nat->Prop)(F:Nat->Value)(st:ao)(M:Array Value)(w:World)(vs:List (Nat×Site)):Prop where
 old:az U Z X F st M w
 fz:ei st.sites vs
theorem lE.new{vs:List (Nat×Site)}(aW:lE U Z X F st M w vs):az U Z X F {st with sites:=bB st.sites vs} M w:=aW.old.BN aW.fz
theorem lE.go{vs:List (Nat×Site)}(aW:lE U Z X F st M w vs){a:bb}{v:Value}(h:cy F st.sites w (aN X F st.sites) a v):cy F (bB st.sites vs) w (aN X F (bB st.sites vs)) a v:=by
 have eF:∀ae,cD (bB st.sites vs) ae->cD st.sites ae:=by
  rintro ae ⟨ai,h1,h2⟩;rcases mq aW.fz ae with h|⟨s,t,xs,_,h⟩
  ·exact⟨ai,h▸h1,h2⟩
  ·rw[h] at h1;cases h1;cases h2
 refine h.goes ⟨fun o ai bG=>?_,fun _ _ _=>rfl,fun b hb _ eA=>hb ?_⟩ (Nat.le_refl _) ?_
 ·rcases mq aW.fz o with h|⟨s,t,xs,h1,h2⟩
  ·exact⟨ai,h.trans bG,Nat.le_refl _,fun _=>rfl⟩
  ·refine⟨_,h2,?_,fun _=>rfl⟩
   rw[bG] at h1;rcases h1 with h1|h1<;>cases h1<;>exact Nat.le_refl _
 ·rcases eA with h|⟨ae,h1,h2⟩
  ·exact .inl h
  ·exact .inr ⟨ae,eF ae h1,h2⟩
 ·rintro b (h|⟨ae,h1,h2⟩)
  ·exact aW.old.old b h
  ·exact aW.old.gf (eF ae h1) h2
theorem aoe{o s:Nat}{t:bi}{xs:List (den t)}(hr:rowOf st o s=some ⟨t,xs⟩):ei st.sites (mO st o s t xs):=by
 unfold mO;split
 ·exact .nil
 ·intro ae ai hm;simp only[List.mem_singleton,Prod.mk.injEq] at hm;obtain⟨rfl,rfl⟩:=hm;exact⟨s,t,xs,rfl,ks hr⟩
theorem SM{o s:Nat}{t:bi}{xs:List (den t)}(hr:rowOf st o s=some ⟨t,xs⟩):bB st.sites (mO st o s t xs)=bB st.sites [(o,.dG s t xs)]:=by
 unfold mO;split
 ·rename_i iR t0 D5 h0;have h0:look st.sites o=some (.dG iR t0 D5):=h0;simp only[bB];rcases ks hr with h|h
  ·rw[h0] at h;cases h
  ·exact(RQ _ _ _ h).symm
 ·rfl
theorem ajR{sites us:List (Nat×Site)}(h:ei sites us){o s:Nat}{t:bi}{xs:List (den t)}(hl:look sites o=some (.dG s t xs)):look (bB sites us) o=some (.dG s t xs):=by
 rcases mq h o with h1|⟨aQ,bw,jq,h1,h2⟩
 ·rw[h1];exact hl
 ·rw[hl] at h1;rcases h1 with h1|h1
  ·cases h1
  ·cases h1;exact h2
theorem Wj{l:aU}{d:bk}{us:List (Nat×Site)}(h:kn st l=some (d,us)):ei st.sites us:=by
 unfold kn at h;split at h
 ·cases h;exact .nil
 ·cases h;exact .nil
 ·rename_i o s;split at h
  ·rename_i t xs hr;cases h;exact aoe hr
  ·cases h
 ·cases h;exact .nil
 ·cases h
theorem Wi{l:aU}{d:bk}{us vs:List (Nat×Site)}{v:Value}(h:kn st l=some (d,us))(hv:ey F st.sites w (aN X F st.sites) l v)
  (aW:lE U Z X F st M w vs) (eF:∀p,p∈us->p∈vs):bU w (aN X F (bB st.sites vs)) d v:=by
 unfold kn at h;split at h
 ·cases h;exact pY aW.go hv
 ·cases h;rw[show v=_ from hv];exact .nil _
 ·rename_i o s;split at h
  ·rename_i t xs hr;cases h;have hl:look (bB st.sites vs) o=some (.dG s t xs):=by
    unfold mO at eF;split at eF
    ·rename_i iR t0 D5 h0;have h0:look st.sites o=some (.dG iR t0 D5):=h0;rcases ks hr with h|h
     ·rw[h0] at h;cases h
     ·exact ajR aW.fz h
    ·exact Fa aW.fz (eF _ (List.mem_singleton.2 rfl))
   have:=aW.new.sites o _ hl;have nZ:v=F o:=by
    rcases ks hr with h1|h1<;>exact Ref.at hv.2 h1 rfl
   rw[nZ];exact this.1
  ·cases h
 ·rename_i g;cases h;obtain⟨al,rfl,hl,_⟩:=hv;have:al=[]:=fO (by simpa using hl)
  subst this;exact .fn g [] [] (fun _=>[]) _ rfl rfl (fun b hb=>by simp at hb) (fun b hb=>by simp at hb) (fun i hi=>by simp at hi) (fun i hi=>by simp at hi) (fun i hi=>by simp at hi)
 ·cases h
theorem Jy:∀{al:List aU} {ds:List bk} {us:List (Nat×Site)},gC st al=some (ds,us)->ei st.sites us:=by
 intro al;induction al with
 |nil=>intro ds us h;simp only[gC] at h;cases h;exact .nil
 |cons l al ih=>
  intro ds us h;simp only[gC] at h;split at h
  ·rename_i d u1 ln u2 h1 h2;cases h;exact(Wj h1).append (ih h2)
  ·cases h
def dl(w:World)(av:Nat->Prop)(ds:List bk)(vs:List Value):Prop:=vs.length=ds.length/\∀j (h:j<ds.length) (an:j<vs.length),bU w av (ds[j]) (vs[j])
theorem BS:∀{al:List aU} {ds:List bk} {us vs:List (Nat×Site)} {cs:List Value},gC st al=some (ds,us)->cN F st.sites w (aN X F st.sites) al cs->
  lE U Z X F st M w vs->(∀p,p∈us->p∈vs)->dl w (aN X F (bB st.sites vs)) ds cs:=by
 intro al;induction al with
 |nil=>intro ds us vs cs h hl _ _;simp only[gC] at h;cases h;rw[hl.oC];exact⟨rfl,fun j h=>by simp at h⟩
 |cons l al ih=>
  intro ds us vs cs h hl aW eF;simp only[gC] at h;split at h
  ·rename_i d u1 ln u2 h1 h2;cases h;obtain⟨c,pb,rfl,hc,hcs⟩:=hl.inv;have r1:=Wi h1 hc aW (fun p hp=>eF p (bo.2 (.inl hp)))
   obtain⟨r2,dE⟩:=ih h2 hcs aW (fun p hp=>eF p (bo.2 (.inr hp)))
   refine⟨by simp[r2],fun j g1 g2=>?_⟩
   cases j with
   |zero=>exact r1
   |succ j=>exact dE j (by simpa using g1) (by simpa using g2)
  ·cases h
theorem nQ.run{P:Program}{u:Bool}(g D:Nat)(t:TypeId)(fz:Nat×Nat):∀(vs:List Value) (i:Nat) (cur:Array Value) (w:World),w.heap[g]? =some (.cells cur t fz)->nQ u t cur fz->D+i+vs.length<=cur.size->(∀v∈vs,v.oneCell'=true)->
  (storeCells ⟨g,D,none⟩ vs i).run P w=.ok () (w.setRow g (cur.toList.take (D+i)++vs++cur.toList.drop (D+i+vs.length)).toArray)
 |[],i,cur,w,hg,_,_,_=>by
  simp only[storeCells,List.append_nil,List.length_nil,Nat.add_zero,List.take_append_drop,Array.toArray_toList];rw[setRow_self w g cur t fz hg];rfl
 |v::rest,i,cur,w,hg,hz,hl,h1=>by
  have hi:D+i<cur.size:=by simp at hl;omega
  have auy:(⟨g,D,none⟩:Addr).add i=⟨g,D+i,none⟩:=by unfold Addr.add;split<;>simp_all
  have hcell:w.cell? ⟨g,D+i,none⟩=some cur[D+i]:=by simp[World.cell?,hg,hi]
  have auq:w.frozen? ⟨g,D+i,none⟩=false:=by
   rcases hz.2 with rfl|⟨_,hz⟩
   ·simp[World.frozen?,hg]
   ·simp only[World.frozen?,hg];have:¬fz.1<=D+i:=by omega
    simp[this]
  have ej:(store ((⟨g,D,none⟩:Addr).add i) v).run P w=.ok () (w.setRow g (cur.setIfInBounds (D+i) v)):=by
   rw[auy,run_store P w _ v _ (h1 v (by simp)),hcell]
   simp[auq,setCell_eq_setRow w g (D+i) cur t fz v hg]
  have ih:=nQ.run (P:=P) (u:=u) g D t fz rest (i+1) (cur.setIfInBounds (D+i) v) (w.setRow g (cur.setIfInBounds (D+i) v)) (setRow_heap w g cur _ t _ hg)
   ⟨hz.1,hz.2.imp id fun h=>⟨h.1,by simpa using h.2⟩⟩ (by simp at hl ⊢;omega) (fun x hx=>h1 x (by simp[hx]))
  simp only[storeCells,Sem.run_bind,ej,Result.andThen_ok,ih,setRow_setRow];congr 3
  have e:=list_seg_step cur.toList (D+i) v rest (by simp at hl ⊢;omega)
  simpa[Array.toList_setIfInBounds,Nat.add_assoc] using e
theorem OU{u:Bool}{fz:Nat×Nat}{T:TypeId}{ti:cu}(h:ti.ok P T)(hn:ti≠.none){b off:Nat}{vv:Value}{cur:List Value}{gW:TypeId}(hg:w.heap[b]? =some (.cells cur.toArray gW fz))(hz:nQ u gW cur.toArray fz)
  (hsz:vv.cells.toList.length=ti.size) (hle:off+vv.cells.toList.length<=cur.length) (h1:∀u∈vv.cells.toList,u.oneCell'=true):
  (storeVar T ⟨b,off,none⟩ vv).run P w=.ok () (w.setRow b (bZ cur off vv.cells.toList).toArray):=by
 have hs:vv.cells.size=ti.size:=by simpa using hsz
 have:=nQ.run (P:=P) b off gW fz vv.cells.toList 0 cur.toArray w hg hz (by simpa using hle) h1
 simp only[storeVar,Sem.run_bind,cu.Sq h hn,Result.andThen_ok,hs,ne_eq,not_true_eq_false,if_false];rw[this];simp[bZ]
variable {D:Oper}
theorem yW{a_:Nat->Value}{w':World}{us:List (Nat×Site)}(S:az U Z X a_ {st with sites:=bB st.sites us} M w')(aa:cE st D.dst=true)
  (h:(execOp (Act.eval ⟨M,[]⟩) D).run P w=.ok .skip w'):c7 P U Z X st M w D (cf (.de undef)) us:=
 fun _ _ b6=>aoV h (b6 _ _ _ (az.dh S aa rfl))
theorem lH{a_:Nat->Value}{w':World}{us:List (Nat×Site)}{v:bb}{vv:Value}(S:az U Z X a_ {st with sites:=bB st.sites us} M w')(aa:cE st D.dst=true)
  (h:(execOp (Act.eval ⟨M,[]⟩) D).run P w=.ok (.value vv) w') (hv:cy a_ (bB st.sites us) w' (aN X a_ (bB st.sites us)) v vv):c7 P U Z X st M w D v us:=
 fun _ _ b6=>pM h (b6 _ _ _ (az.dh S aa hv))
theorem sK{aE:Type}(a:List aE)(off:Nat)(b:List aE)(h:off+b.length<=a.length):(bZ a off b).length=a.length:=by
 unfold bZ;simp only[dx,List.length_take,List.length_drop];omega
theorem agu{aE:Type}(a:List aE)(off n:Nat)(b:List aE)(h:off+b.length<=n)(hn:n<=a.length):(bZ a off b).take n=bZ (a.take n) off b:=by
 unfold bZ;apply List.ext_getElem?;intro j;simp only[List.getElem?_take,List.getElem?_append,dx,List.length_take,List.getElem?_drop];have m1:min off a.length=off:=by omega
 have m2:min off (min n a.length)=off:=by omega
 simp only[m1,m2];by_cases c1:j<off
 ·have c2:j<n:=by omega
  have c3:j<off+b.length:=by omega
  simp[c1,c2,c3]
 ·by_cases c3:j<off+b.length
  ·have c2:j<n:=by omega
   simp[c1,c2,c3]
  ·have e:off+b.length+(j-(off+b.length))=j:=by omega
   simp[c1,c3,e]
theorem ahs{cells al:List aU}{T:TypeId}{cur vs:List Value}{b off:Nat}(h:nI cells T cur b)(hl:vs.length=al.length)(hns:ia al=true):nI (bZ cells off al) T (bZ cur off vs) b:=by
 intro bV;unfold bZ at bV ⊢;cases off with
 |zero=>
  cases al with
  |nil=>
   cases vs with
   |nil=>simpa using h (by simpa using bV)
   |cons=>cases hl
  |cons l al=>
   simp only[List.take_zero,List.nil_append,List.cons_append,List.head?_cons,bH] at bV;subst bV;cases hns
 |succ n=>
  cases cells with
  |nil=>
   cases al with
   |nil=>simp at bV
   |cons l al=>
    simp only[List.take_nil,List.nil_append,List.cons_append,List.head?_cons,bH] at bV;subst bV;cases hns
  |cons c cells=>
   simp only[List.take_succ_cons,List.cons_append,List.head?_cons,bH] at bV;subst bV;have:=h rfl;cases cur with
   |nil=>simp at this
   |cons v cur=>simpa using this
theorem az.akD(S:az U Z X F st M w){o s off:Nat}{cells al:List aU}{v:Value}{vs:List Value}(hb:look st.sites o=some (.box s cells))(hv:ey F st.sites w (aN X F st.sites) (.ptr o s off) v)
  (hl:cN F st.sites w (aN X F st.sites) al vs) (hle:off+al.length<=cells.length) (h1:∀u∈vs,u.oneCell'=true) (hns:ia al=true):
  ∃b T cur,v=.pointer (some ⟨b,off,none⟩)/\w.heap[b]? =some (.cells (List.toArray cur) T (0,0))/\off+vs.length<=cur.length/\
   az U Z X F {st with sites:=cI st.sites o (.box s (bZ cells off al))} M (w.setRow b (bZ cur off vs).toArray):=by
 obtain⟨b,T,cur,dd,xS,hg,k9,kk⟩:=S.box hb hv;have qf:off+vs.length<=cur.length:=by rw[hl.1,kk.1];exact hle
 refine⟨b,T,cur,xS,hg,qf,?_⟩;have iP:nI cells T cur b:=by
  obtain⟨b2,eW,_e,aG,aK,_,_,bP,_⟩:=S.sites o _ hb;rw[dd] at aG;cases aG;rw[hg] at aK;cases aK;exact bP
 refine S.write hb rfl rfl rfl (by rw[dd];rfl) hg (fun hs hw hg' go=>?_)
 have Z1:=Ck go (kk.bZ off hl);refine⟨b,T,_,dd,hg',Z1.1,fun u hu=>?_,ahs iP hl.1 hns,Z1.2⟩
 unfold bZ at hu;simp only[bo] at hu;rcases hu with(hu|hu)|hu
 ·exact k9 u (List.mem_of_mem_take hu)
 ·exact h1 u hu
 ·exact k9 u (List.mem_of_mem_drop hu)
theorem jF{F:Nat->Value}{sites:List (Nat×Site)}{w:World}{av:Nat->Prop}{ds:List bk}{vs:List Value}(h:cN F sites w av (cT ds) vs):dl w av ds vs:=
 ⟨by simpa[cT] using h.1,fun j g1 g2=>by
  have:=h.2 j (by simpa[cT] using g1) g2
  simp only[cT,List.getElem_map] at this;exact this⟩
theorem afP{w:World}{av:Nat->Prop}{t:bi}{xs:List (den t)}{k:Nat}{iQ:den t}{cs ns:List Value}(hk:k<xs.length)(h:dl w av (flat t xs) cs)(an:dl w av (enc t iQ) ns):
  dl w av (flat t (xs.set k iQ)) (bZ cs (k*bh t) ns):=by
 have e:flat t (xs.set k iQ)=bZ (flat t xs) (k*bh t) (enc t iQ):=by
  rw[alZ,if_pos hk];unfold bZ;rw[jC,Nat.add_mul,Nat.one_mul]
 rw[e];have a:=ig (F:=fun _=>undef) (sites:=[]) h.1 h.2
 have b:=ig (F:=fun _=>undef) (sites:=[]) an.1 an.2
 have c:=a.bZ (k*bh t) b;have e2:bZ (cT (flat t xs)) (k*bh t) (cT (enc t iQ))=cT (bZ (flat t xs) (k*bh t) (enc t iQ)):=by
  simp[bZ,cT,List.map_append,List.map_take,List.map_drop]
 rw[e2] at c;exact jF c
theorem az.akC(S:az U Z X F st M w){o s k off:Nat}{t:bi}{xs:List (den t)}{x iQ:den t}{v:Value}{ds:List bk}{vs:List Value}(hb:look st.sites o=some (.row s t xs))
  (hv:ey F st.sites w (aN X F st.sites) (.fr o s t k off) v) (hx:xs[k]? =some x) (qn:enc t iQ=bZ (enc t x) off ds)
  (hl:dl w (aN X F st.sites) ds vs) (hle:off+ds.length<=bh t) (h1:∀u∈vs,u.oneCell'=true):
  ∃b T cur fz,v=.pointer (some ⟨b,k*bh t+off,none⟩)/\w.heap[b]? =some (.cells (List.toArray cur) T fz)/\nQ t.ki T cur.toArray fz/\k*bh t+off+vs.length<=cur.length/\
   az U Z X F {st with sites:=cI st.sites o (.row s t (xs.set k iQ))} M (w.setRow b (bZ cur (k*bh t+off) vs).toArray):=by
 obtain⟨b,xS,qo⟩:=hv;obtain⟨n,c,dd⟩:=Ref.at qo hb rfl;obtain⟨e,cs,l8,ek⟩:=S.sites o _ hb;have hk:k<xs.length:=by
  rcases Nat.lt_or_ge k xs.length with h|h
  ·exact h
  ·rw[List.getElem?_eq_none h] at hx;cases hx
 obtain⟨M3,h⟩:=l8;rcases h with⟨hn,_⟩|⟨g,cap,cur,fz,o9,Ng,hg,hnc,hcm,hcs,htk⟩
 ·rw[dd] at hn;cases hn
 ·rw[dd] at o9;cases o9;have r_:(k+1)*bh t<=xs.length*bh t:=Nat.mul_le_mul_right _ hk;have hk2:xs.length*bh t<=c*bh t:=Nat.mul_le_mul_right _ hnc;rw[Nat.add_mul,Nat.one_mul] at r_;have mW:vs.length=ds.length:=hl.1;have k9:cur.toList.length=c*bh t:=by simpa using hcs
  have qf:k*bh t+off+vs.length<=cur.toList.length:=by omega
  refine⟨b,e,cur.toList,fz,xS,by simpa using hg,by simpa using Ng,qf,?_⟩
  refine S.write hb rfl rfl rfl (by rw[dd];rfl) hg (fun hs hw hg' go=>?_)
  have aCP:cs.length=xs.length*bh t:=M3;refine⟨e,bZ cs (k*bh t+off) vs,⟨?_,.inr ⟨b,c,_,fz,?_,?_,hg',?_,hcm,?_,?_⟩⟩,?_⟩
  ·rw[sK _ _ _ (by omega),List.length_set];exact M3
  ·rw[dd,List.length_set]
  ·refine⟨Ng.1,?_⟩;rcases Ng.2 with h|⟨h,an⟩
   ·exact .inl h
   ·refine .inr ⟨h,?_⟩;rw[List.size_toArray,sK _ _ _ qf];simpa using an
  ·rw[List.length_set];exact hnc
  ·rw[List.size_toArray,sK _ _ _ qf];exact k9
  ·rw[<-htk,List.length_set,List.toList_toArray];exact agu _ _ _ _ (by omega) (by rw[k9];omega)
  ·have r0:dl w (aN X F st.sites) (flat t xs) cs:=⟨by rw[fu];exact M3,ek⟩
   have iP:=vt t xs k x hx;have r1:dl w (aN X F st.sites) (enc t x) ((cs.drop (k*bh t)).take (bh t)):=by
    have a:=ig (F:=fun _=>undef) (sites:=[]) r0.1 r0.2
    have bS:=(a.drop (k*bh t)).take (bh t);have e2:((cT (flat t xs)).drop (k*bh t)).take (bh t)=cT (enc t x):=by
     rw[<-iP];simp[cT,List.map_drop,List.map_take]
    rw[e2] at bS;exact jF bS
   have r2:dl w (aN X F st.sites) (enc t iQ) (bZ ((cs.drop (k*bh t)).take (bh t)) off vs):=by
    rw[qn];have a:=ig (F:=fun _=>undef) (sites:=[]) r1.1 r1.2
    have bS:=ig (F:=fun _=>undef) (sites:=[]) hl.1 hl.2
    have fM:=a.bZ off bS;have e2:bZ (cT (enc t x)) off (cT ds)=cT (bZ (enc t x) off ds):=by
     simp[bZ,cT,List.map_append,List.map_take,List.map_drop]
    rw[e2] at fM;exact jF fM
   have dE:=afP hk r0 r2;have bE:bZ cs (k*bh t) (bZ ((cs.drop (k*bh t)).take (bh t)) off vs)=bZ cs (k*bh t+off) vs:=by
    unfold bZ;apply List.ext_getElem?;intro j;simp only[List.getElem?_append,dx,List.length_take,List.length_drop,List.getElem?_take,List.getElem?_drop];have m1:min (k*bh t) cs.length=k*bh t:=by omega
    have m2:min (k*bh t+off) cs.length=k*bh t+off:=by omega
    have m3:min (bh t) (cs.length-k*bh t)=bh t:=by omega
    have m4:min off (bh t)=off:=by omega
    simp only[m1,m2,m3,m4];by_cases c1:j<k*bh t
    ·have c2:j<k*bh t+off:=by omega
     have c3:j<k*bh t+off+vs.length:=by omega
     have du:j<k*bh t+(off+vs.length+(bh t-(off+vs.length))):=by omega
     simp[c1,c2,c3,du]
    ·by_cases c2:j<k*bh t+off
     ·have d1:j-k*bh t<off:=by omega
      have d2:j-k*bh t<off+vs.length:=by omega
      have d3:j-k*bh t<bh t:=by omega
      have c3:j<k*bh t+off+vs.length:=by omega
      have du:j<k*bh t+(off+vs.length+(bh t-(off+vs.length))):=by omega
      have fp:k*bh t+(j-k*bh t)=j:=by omega
      simp[c1,c2,c3,du,d1,d2,d3,fp]
     ·by_cases c3:j<k*bh t+off+vs.length
      ·have d1:¬j-k*bh t<off:=by omega
       have d2:j-k*bh t<off+vs.length:=by omega
       have du:j<k*bh t+(off+vs.length+(bh t-(off+vs.length))):=by omega
       have fp:j-k*bh t-off=j-(k*bh t+off):=by omega
       simp[c1,c2,c3,du,d1,d2,fp]
      ·by_cases du:j<k*bh t+(off+vs.length+(bh t-(off+vs.length)))
       ·have d2:¬j-k*bh t<off+vs.length:=by omega
        have d1:¬j-k*bh t<off:=by omega
        have d5:off+vs.length+(j-k*bh t-(off+vs.length))<bh t:=by omega
        have fp:k*bh t+(off+vs.length+(j-k*bh t-(off+vs.length)))=k*bh t+off+vs.length+(j-(k*bh t+off+vs.length)):=by omega
        simp[c1,c2,c3,du,d1,d2,d5,fp]
       ·have fp:k*bh t+(off+vs.length+(bh t-(off+vs.length)))+(j-(k*bh t+(off+vs.length+(bh t-(off+vs.length)))))=k*bh t+off+vs.length+(j-(k*bh t+off+vs.length)):=by omega
        simp[c1,c2,c3,du,fp]
   rw[bE] at dE;exact fun j g1 g2=>pY go (dE.2 j g1 g2)
end
section
variable {P:Program}{U:World}{Z:List Nat}{X:Nat->Prop}{F:Nat->Value}{st:ao}{M:Array Value}{w:World}
theorem mr{o:Nat}{ai:Site}(h:look st.sites o=some ai):ai.cL<bF st o:=by
 unfold bF ao.ai;rw[h];exact Nat.lt_succ_self _
theorem az.make(S:az U Z X F st M w){o:Nat}{b':Site}{nv:Value}{w':World}
  (hw:∀b,b<w.heap.size->w'.heap[b]? =w.heap[b]?) (hos:w'.os=w.os) (arI:w'.tape=w.tape) (Ls:w'.output=w.output) (p0:w.heap.size<=w'.heap.size)
  (ww:∀ai,look st.sites o=some ai->ai.cL<b'.cL) (jp:∀b,b0 nv=some b->w.heap.size<=b/\b<w'.heap.size)
  (f':∀{b_:List (Nat×Site)} {a_:Nat->Value},b_=cI st.sites o b'->a_ o=nv->(∀{a v},cy F st.sites w (aN X F st.sites) a v->cy a_ b_ w' (aN X a_ b_) a v)->
   (∀b,w.heap.size<=b->b0 nv≠some b->¬aN X a_ b_ b)->(b'.live=false->∀b,b0 nv=some b->¬aN X a_ b_ b)->kz a_ b_ w' (aN X a_ b_) o b'):
  az U Z X (fun ae=>if ae=o then nv else F ae) {st with sites:=cI st.sites o b'} M w':=by
 have c9:∀ae,cD (cI st.sites o b') ae->(ae=o/\b'.live=true)\/(ae≠o/\cD st.sites ae):=by
  rintro ae ⟨ai,h1,h2⟩;rw[dn] at h1;by_cases e:o=ae
  ·subst e;simp at h1;subst h1;exact .inl ⟨rfl,h2⟩
  ·simp only[e,if_false] at h1;exact .inr ⟨fun h=>e h.symm,ai,h1,h2⟩
 have cq:∀b,aN X (fun ae=>if ae=o then nv else F ae) (cI st.sites o b') b->aN X F st.sites b\/(b0 nv=some b/\b'.live=true):=by
  rintro b (h|⟨ae,h1,h2⟩)
  ·exact .inl (.inl h)
  ·rcases c9 ae h1 with⟨rfl,h3⟩|⟨h3,aD⟩
   ·simp at h2;exact .inr ⟨h2,h3⟩
   ·simp only[h3,if_false] at h2;exact .inl (.inr ⟨ae,aD,h2⟩)
 have hlt:∀b,aN X F st.sites b->b<w.heap.size:=by
  rintro b (h|⟨ae,h1,h2⟩)
  ·exact S.old b h
  ·exact S.gf h1 h2
 refine S.rC (fun ae ai b7=>?_) (fun b _ hb=>hw b hb) (fun b h hb an=>?_) (fun go ae ai b7=>?_) (fun ae ρ b h1 h2 g1 g2=>?_) (fun ae b h1 g1=>?_) (fun ae b h1 g1=>?_) ?_ p0
 ·rw[dn];by_cases e:o=ae
  ·subst e;exact⟨b',by simp,Nat.le_of_lt (ww ai b7),fun h=>by have:=ww ai b7;omega⟩
  ·have cW:¬ae=o:=fun h=>e h.symm
   exact⟨ai,by simp[e,b7],Nat.le_refl _,fun _=>by simp[cW]⟩
 ·rcases cq b an with an|⟨an,_⟩
  ·exact h an
  ·have:=(jp b an).1;omega
 ·rw[dn] at b7;by_cases e:o=ae
  ·subst e;simp only[if_true,bH] at b7;subst b7;refine .inr (f' rfl (by simp) go (fun b hb hne an=>?_) (fun hl b hb an=>?_))
   ·rcases cq b an with an|⟨an,_⟩
    ·have:=hlt b an;omega
    ·exact hne an
   ·rcases cq b an with an|⟨_,an⟩
    ·have:=hlt b an;have:=(jp b hb).1;omega
    ·rw[hl] at an;cases an
  ·have cW:¬ae=o:=fun h=>e h.symm
   simp only[e,if_false] at b7;exact .inl ⟨b7,by simp[cW],fun hl b hb=>hw b (S.gf ⟨ai,b7,hl⟩ hb)⟩
 ·rcases c9 ae h1 with⟨rfl,_⟩|⟨n1,ed⟩<;>rcases c9 ρ h2 with⟨rfl,_⟩|⟨n2,fU⟩
  ·rfl
  ·simp only[if_true] at g1;simp only[n2,if_false] at g2;have:=S.gf fU g2;have:=(jp b g1).1;omega
  ·simp only[if_true] at g2;simp only[n1,if_false] at g1;have:=S.gf ed g1;have:=(jp b g2).1;omega
  ·simp only[n1,if_false] at g1;simp only[n2,if_false] at g2;exact S.eD ae ρ b ed fU g1 g2
 ·rcases c9 ae h1 with⟨rfl,_⟩|⟨n1,ed⟩
  ·simp only[if_true] at g1;have hb:=(jp b g1).1;exact⟨fun hx=>by have:=S.old b hx;have:=S.frame.size;omega,.inr (Nat.le_trans S.frame.size hb)⟩
  ·simp only[n1,if_false] at g1;exact S.cF ae b ed g1
 ·rcases c9 ae h1 with⟨rfl,_⟩|⟨n1,ed⟩
  ·simp only[if_true] at g1;exact(jp b g1).2
  ·simp only[n1,if_false] at g1;exact Nat.lt_of_lt_of_le (S.gf ed g1) p0
 ·have aW:=S.frame;exact⟨hos.trans aW.os,arI.trans aW.tape,Ls.trans aW.output,Nat.le_trans aW.size p0,fun b h1 h2=>(hw b (Nat.lt_of_lt_of_le h1 aW.size)).trans (aW.block b h1 h2)⟩
theorem az.append(S:az U Z X F st M w){o dst s:Nat}{t:bi}{xs r:List (den t)}(hl:look st.sites o=some (.row s t xs)){nv:Value}{w':World}
  (hg:w.grownBy w' (F o).ownBlock) (jp:∀b,b0 nv=some b->b<w'.heap.size/\(b0 (F o)=some b\/w.heap.size<=b))
  (f':∀{b_:List (Nat×Site)} {a_:Nat->Value},a_ dst=nv->(∀{a v},cy F st.sites w (aN X F st.sites) a v->cy a_ b_ w' (aN X a_ b_) a v)->
   kz a_ b_ w' (aN X a_ b_) dst (.row (bF (st.iU o (.dead s)) dst) t r)):
  az U Z X (fun ae=>if ae=dst then nv else F ae) {st with sites:=bB st.sites [(o,.dead s),(dst,.row (bF (st.iU o (.dead s)) dst) t r)]} M w':=by
 have bG:cD st.sites o:=⟨_,hl,rfl⟩;have ka:∀ae,look (bB st.sites [(o,.dead s),(dst,.row (bF (st.iU o (.dead s)) dst) t r)]) ae=
   if dst=ae then some (.row (bF (st.iU o (.dead s)) dst) t r) else if o=ae then some (.dead s) else look st.sites ae:=by
  intro ae;simp only[bB,dn]
 have ww:∀ai,look st.sites dst=some ai->ai.cL<bF (st.iU o (.dead s)) dst:=by
  intro ai h;unfold bF;rw[ao.yN];by_cases e:o=dst
  ·subst e;rw[hl] at h;cases h;simp[Site.cL]
  ·simp only[e,if_false,ao.ai,h];exact Nat.lt_succ_self _
 have c9:∀ae,cD (bB st.sites [(o,.dead s),(dst,.row (bF (st.iU o (.dead s)) dst) t r)]) ae->ae=dst\/(ae≠dst/\ae≠o/\cD st.sites ae):=by
  rintro ae ⟨ai,h1,h2⟩;rw[ka] at h1;by_cases e:dst=ae
  ·exact .inl e.symm
  ·simp only[e,if_false] at h1;by_cases e2:o=ae
   ·simp only[e2,if_true,bH] at h1;subst h1;cases h2
   ·simp only[e2,if_false] at h1;exact .inr ⟨fun h=>e h.symm,fun h=>e2 h.symm,ai,h1,h2⟩
 have aC8:∀b,b0 (F o)=some b->(F o).ownBlock=some b:=by
  intro b hb;obtain⟨e,cs,g1,_⟩:=S.sites o _ hl;rcases g1.2 with⟨hn,_⟩|⟨g,cap,cur,fz,hv,_⟩
  ·rw[hn] at hb;cases hb
  ·rw[hv] at hb ⊢;exact hb
 have aub:∀b,(F o).ownBlock=some b->b0 (F o)=some b:=by
  intro b hb;cases hv:F o<;>rw[hv] at hb<;>first|cases hb|skip
  rename_i a n c;cases a<;>first|exact hb|cases hb
 have KL:∀b,b<w.heap.size->b0 (F o)≠some b->w'.heap[b]? =w.heap[b]? :=fun b hb hne=>hg.block b hb (fun e=>hne (aub b e.symm))
 refine S.rC (fun ae ai b7=>?_) (fun b h hb=>KL b hb (fun e=>h (.inr ⟨o,bG,e⟩))) (fun b h hb an=>?_) (fun go ae ai b7=>?_) (fun ae ρ b h1 h2 g1 g2=>?_) (fun ae b h1 g1=>?_) (fun ae b h1 g1=>?_) ?_ hg.size
 ·rw[ka];by_cases e:dst=ae
  ·subst e;refine⟨.row (bF (st.iU o (.dead s)) dst) t r,by simp,?_,fun h=>?_⟩
   ·exact Nat.le_of_lt (ww ai b7)
   ·have:=ww ai b7;simp only[Site.cL] at h this;omega
  ·have cW:¬ae=dst:=fun h=>e h.symm
   by_cases e2:o=ae
   ·subst e2;rw[hl] at b7;cases b7;exact⟨.dead s,by simp[e],Nat.le_refl _,fun _=>by simp[cW]⟩
   ·exact⟨ai,by simp[e,e2,b7],Nat.le_refl _,fun _=>by simp[cW]⟩
 ·rcases an with an|⟨ae,h1,h2⟩
  ·exact h (.inl an)
  ·rcases c9 ae h1 with rfl|⟨n1,_,ed⟩
   ·simp only[if_true] at h2;rcases(jp b h2).2 with h3|h3
    ·exact h (.inr ⟨o,bG,h3⟩)
    ·omega
   ·simp only[n1,if_false] at h2;exact h (.inr ⟨ae,ed,h2⟩)
 ·rw[ka] at b7;by_cases e:dst=ae
  ·subst e;simp only[if_true,bH] at b7;subst b7;exact .inr (f' (by simp) go)
  ·have cW:¬ae=dst:=fun h=>e h.symm
   simp only[e,if_false] at b7;by_cases e2:o=ae
   ·simp only[e2,if_true,bH] at b7;subst b7;exact .inr trivial
   ·simp only[e2,if_false] at b7;refine .inl ⟨b7,by simp[cW],fun gR b hb=>?_⟩
    have acs:cD st.sites ae:=⟨ai,b7,gR⟩;exact KL b (S.gf acs hb) (fun h=>e2 (S.eD o ae b bG acs h hb))
 ·have key:∀ae b,ae≠dst->ae≠o->cD st.sites ae->b0 (F ae)=some b->b0 nv≠some b:=by
   intro ae b n1 n2 ed hb hn;rcases(jp b hn).2 with h3|h3
   ·exact n2 (S.eD ae o b ed bG hb h3)
   ·have:=S.gf ed hb;omega
  rcases c9 ae h1 with rfl|⟨n1,m1,ed⟩<;>rcases c9 ρ h2 with rfl|⟨n2,m2,fU⟩
  ·rfl
  ·simp only[if_true] at g1;simp only[n2,if_false] at g2;exact absurd g1 (key ρ b n2 m2 fU g2)
  ·simp only[if_true] at g2;simp only[n1,if_false] at g1;exact absurd g2 (key ae b n1 m1 ed g1)
  ·simp only[n1,if_false] at g1;simp only[n2,if_false] at g2;exact S.eD ae ρ b ed fU g1 g2
 ·rcases c9 ae h1 with rfl|⟨n1,_,ed⟩
  ·simp only[if_true] at g1;rcases(jp b g1).2 with h3|h3
   ·exact S.cF o b bG h3
   ·exact⟨fun hx=>by have:=S.old b hx;have:=S.frame.size;omega,.inr (Nat.le_trans S.frame.size h3)⟩
  ·simp only[n1,if_false] at g1;exact S.cF ae b ed g1
 ·rcases c9 ae h1 with rfl|⟨n1,_,ed⟩
  ·simp only[if_true] at g1;exact(jp b g1).1
  ·simp only[n1,if_false] at g1;exact Nat.lt_of_lt_of_le (S.gf ed g1) hg.size
 ·have aW:=S.frame;refine⟨hg.os.trans aW.os,hg.tape.trans aW.tape,hg.output.trans aW.output,Nat.le_trans aW.size hg.size,fun b h1 h2=>?_⟩
  rw[KL b (Nat.lt_of_lt_of_le h1 aW.size) (fun e=>?_)]
  ·exact aW.block b h1 h2
  ·rcases(S.cF o b bG e).2 with h|h
   ·exact h2 h
   ·omega
end
def Src(w:World)(size:Nat)(x:Value)(m:Nat)(news:List Value):Prop:=
 news.length=m*size/\(∀u∈news,u.oneCell'=true)/\((x=.slice none 0 0/\m=0)\/(∃a c,x=.slice (some a) m c/\∀j u,news[j]? =some u->w.cell? (a.add j)=some u)\/∃s:ByteArray,x=.string s/\m=s.size/\size=1/\news=s.data.toList.map fun b=>Value.int .u8 b.toNat)
theorem Src.run{P:Program}{w w2:World}{size m:Nat}{x:Value}{news:List Value}(h:Src w size x m news)(hw:w2.heap=w.heap):(Builtin.firstCells size m x).run P w2=.ok news.toArray w2:=by
 obtain⟨h1,_,h2⟩:=h;rcases h2 with⟨rfl,rfl⟩|⟨a,c,rfl,h3⟩|⟨s,rfl,rfl,rfl,rfl⟩
 ·have:news=[]:=fO (by simpa using h1)
  subst this;exact run_firstCells_none w2 size 0 0 0
 ·refine run_firstCells_some w2 size m a m c news h1 (fun j u hu=>?_)
  have:=h3 j u hu;unfold World.cell? at this ⊢;rw[hw];exact this
 ·have e:s.extract 0 s.size=s:=by simp
  show Result.ok ((s.extract 0 s.size).data.map fun b=>Value.int .u8 b.toNat) w2=_
  rw[e];congr 1
  apply Array.ext';simp
theorem Src.len{P:Program}{w w2:World}{size m:Nat}{x:Value}{news:List Value}(h:Src w size x m news):(Builtin.lenOf x).run P w2=.ok m w2:=by
 obtain⟨_,_,h2⟩:=h;rcases h2 with⟨rfl,rfl⟩|⟨a,c,rfl,_⟩|⟨s,rfl,rfl,_⟩<;>rfl
theorem Fc{P:Program}{u:Bool}(w:World)(T N7 ty e:TypeId)(hq:u=true->e=nd)(i:TypeInfo)(z:Value)(size bytes:Nat)(ay:P.underlying T=some (.slice e))(jR:(∃ex,P.underlying N7=some (.slice ex))\/P.underlying N7=some .string)(hi:P.info? e=some i)
  (hz:i.zero=some z) (p0:i.size=size) (km:i.bytes=bytes) (hzs:z.cells.size=size) (hsz:0<size)
  (v:Value) (n:Nat) (xs:List Value) (l8:∃cW,rowAt w u cW size v n xs) (x:Value) (m:Nat) (news:List Value) (fG:Src w size x m news)
  (h63:n+m<=maxLen) (Wb:(n+m)*bytes<=140737488355328):
  ∃v' w',(Builtin.append_ #[T,N7] ty #[v,x]).run P w=.ok v' w'/\(∃cW,rowAt w' u cW size v' (n+m) (xs++news))/\w.grownBy w' v.ownBlock/\
   ∀b,b0 v'=some b->b<w'.heap.size/\(b0 v=some b\/w.heap.size<=b):=by
 subst p0 km;obtain⟨cW,hl0,l8⟩:=l8;have apV:n+m<=9223372036854775807:=by simp only[maxLen] at h63;omega
 have hlen:(xs++news).length=(n+m)*i.size:=by rw[dx,hl0,fG.1,Nat.add_mul]
 have grown:∀(old:Nat),old<n+m->∀(row:Option Nat),
   rowAt (w.drew.alloc (.cells (xs.toArray++news.toArray++Builtin.zeroCells z.cells (grownCap w (n+m) old e-(n+m))) e)) u e i.size
    (.slice (some ⟨w.heap.size,0,none⟩) (n+m) (grownCap w (n+m) old e)) (n+m) (xs++news)/\
   w.grownBy (w.drew.alloc (.cells (xs.toArray++news.toArray++Builtin.zeroCells z.cells (grownCap w (n+m) old e-(n+m))) e)) row:=by
  intro old aP row;have hge:=grownCap_ge w (n+m) old e;have hcm:grownCap w (n+m) old e<=maxLen:=grownCap_le_maxLen w (n+m) old e h63;refine⟨⟨hlen,.inr ⟨w.heap.size,_,_,(0,0),rfl,⟨hq,.inl rfl⟩,heap_alloc_new w.drew _,hge,hcm,?_,?_⟩⟩,⟨rfl,rfl,rfl,by simp,fun k hk _=>RowKit.Below.heap_alloc w.drew _ k hk⟩⟩
  ·simp only[Array.size_append,List.size_toArray,size_zeroCells,hzs,hl0,fG.1,<-Nat.add_mul];congr 1
   omega
  ·simp only[Array.toList_append,List.append_assoc];rw[<-List.append_assoc,<-hlen];exact List.take_left
 have VG:∀{c:Nat} {D:Obj} {v:Value} b,b0 (.slice (some ⟨w.heap.size,0,none⟩) (n+m) c)=some b->b<(w.drew.alloc D).heap.size/\(b0 v=some b\/w.heap.size<=b):=by
  intro c D v b hb;cases hb;exact⟨by simp,.inr (Nat.le_refl _)⟩
 rcases l8 with⟨rfl,rfl⟩|⟨g,cap,cur,fz,rfl,hfz,hg,hnc,hcm,hcs,mE⟩
 ·have hx:xs=[]:=fO (by simpa using hl0)
  subst hx;by_cases hm:m=0
  ·subst hm;have hn:news=[]:=fO (by simpa using fG.1)
   subst hn;refine⟨.slice none 0 0,w,?_,⟨e,Gd w u e i.size⟩,⟨rfl,rfl,rfl,Nat.le_refl _,fun _ _ _=>rfl⟩,fun b hb=>by cases hb⟩
   rcases jR with⟨ex,jR⟩|jR<;>simp[Builtin.append_,run_underlying ay,run_underlying jR,sizeOf,typeInfo,hi,fG.len,fG.run (w2:=w) rfl]
  ·have x3:=grown 0 (by omega) (Value.ownBlock (.slice none 0 0))
   refine⟨_,_,?_,⟨e,x3.1⟩,x3.2,VG⟩;have h63':¬(9223372036854775807<(m:Int)):=by omega
   have hb:=Wb;simp only[Nat.zero_add] at hb;have LG:¬(281474976710656<Builtin.nextslicecap m 0*i.bytes):=by rw[nextslicecap_zero (by omega)];omega
   rcases jR with⟨ex,jR⟩|jR<;>simp[Builtin.append_,run_underlying ay,run_underlying jR,sizeOf,typeInfo,zeroValue,hi,hz,fG.len,hm,h63',LG,Question.forced,run_firstCells_none,fG.run (w2:=w.drew) rfl,newRow,grownCap]
 ·by_cases hroom:n+m<=cap
  ·have l9:n*i.size+news.length<=cur.size:=by rw[fG.1,hcs,<-Nat.add_mul];exact Nat.mul_le_mul_right _ hroom
   have ej:=nQ.run (P:=P) g (n*i.size) cW fz news 0 cur w hg hfz (by simpa using l9) fG.2.1
   simp only[Nat.add_zero] at ej;refine⟨.slice (some ⟨g,0,none⟩) (n+m) cap,w.setRow g (cur.toList.take (n*i.size)++news++cur.toList.drop (n*i.size+news.length)).toArray,?_,
    ⟨cW,hlen,.inr ⟨g,cap,_,fz,rfl,⟨hfz.1,hfz.2.imp id (fun h=>⟨h.1,?_⟩)⟩,setRow_heap w g cur _ cW _ hg,hroom,hcm,?_,?_⟩⟩,⟨rfl,rfl,rfl,by simp,fun k _ hk=>setRow_other w g k _ (fun e=>hk (by simp[Value.ownBlock,e]))⟩,fun b hb=>?_⟩
   ·rcases jR with⟨ex,jR⟩|jR<;>simp[Builtin.append_,run_underlying ay,run_underlying jR,sizeOf,typeInfo,hi,fG.len,hroom,fG.run (w2:=w) rfl,Addr.add_lit,ej]
   ·have:=h.2;simp only[List.size_toArray,dx,List.length_take,List.length_drop,Array.length_toList];omega
   ·simp only[List.size_toArray,dx,List.length_take,List.length_drop,Array.length_toList];omega
   ·rw[mE,<-hlen];exact List.take_left
   ·cases hb;exact⟨by rw[setRow_size];exact(Array.getElem?_eq_some_iff.1 hg).1,.inl rfl⟩
  ·have x3:=grown cap (by omega) (Value.ownBlock (.slice (some ⟨g,0,none⟩) n cap))
   refine⟨_,_,?_,⟨e,x3.1⟩,x3.2,VG⟩;have holds:∀j u,xs[j]? =some u->w.drew.cell? ((⟨g,0,none⟩:Addr).add j)=some u:=by
    intro j u hu;rw[hK,Nat.zero_add,World.cell?_drew,cell_of_row w g j cur cW fz hg];rw[<-mE,List.getElem?_take] at hu;split at hu
    ·simpa using hu
    ·cases hu
   have h63':¬(9223372036854775807<((n:Int)+(m:Int))):=by omega
   have l9:=growslice_fits (need:=n+m) (old:=cap) (bytes:=i.bytes) (by omega) Wb
   have LG:¬(281474976710656<Builtin.nextslicecap (n+m) cap*i.bytes):=by omega
   have Ey:=run_firstCells_some (P:=P) w.drew i.size n ⟨g,0,none⟩ n cap xs hl0 holds;rcases jR with⟨ex,jR⟩|jR<;>simp[Builtin.append_,run_underlying ay,run_underlying jR,sizeOf,typeInfo,zeroValue,hi,hz,fG.len,hroom,h63',LG,Question.forced,fG.run (w2:=w.drew) rfl,Ey,newRow,grownCap]
   all_goals
    congr 2
    apply Array.ext';simp[List.append_assoc]
section
variable {P:Program}{U:World}{Z:List Nat}{X:Nat->Prop}{F:Nat->Value}{st:ao}{M:Array Value}{w:World}{D:Oper}
theorem akF(S:az U Z X F st M w){x:bb}{v:Value}{t:bi}{bm:List (den t)}(hx:cy F st.sites w (aN X F st.sites) x v)(h:tP st x=some (.sl t bm)):
  ∃news,Src w (bh t) v bm.length news/\dl w (aN X F st.sites) (flat t bm) news:=by
 have one:∀{news:List Value},cN F st.sites w (aN X F st.sites) (cT (flat t bm)) news->(∀u∈news,u.oneCell'=true):=by
  intro news h;refine h.j4 ?_
  unfold cT;generalize flat t bm=l;induction l with
  |nil=>rfl
  |cons d l ih=>simpa[ia,aU.storable] using ih
 unfold tP at h;split at h
 ·rename_i bw jq;cases h;have hx:bU w (aN X F st.sites) (.sl t bm) v:=hx;cases hx with
  |nil t=>exact⟨[],⟨by simp,fun u hu=>by simp at hu,.inl ⟨rfl,rfl⟩⟩,rfl,fun j h=>by simp[flat] at h⟩
  |sl t xs a cap cs n hn hcap hb hl hc hr=>
   subst hn;have kk:=ig (F:=F) (sites:=st.sites) hl hr;exact⟨cs,⟨by rw[hl,fu],one kk,.inr (.inl ⟨a,cap,rfl,hc⟩)⟩,hl,hr⟩
 ·cases h
 ·rename_i bw;cases h;rw[show v=_ from hx]
  exact⟨[],⟨by simp,fun u hu=>by simp at hu,.inl ⟨rfl,rfl⟩⟩,rfl,fun j h=>by simp[flat] at h⟩
 ·rename_i o s;split at h
  ·rename_i bw jq hr;cases h;obtain⟨cs,hl,hc⟩:=S.row hr;have hv:v=F o:=by
    rcases ks hr with h1|h1<;>exact Ref.at hx.2 h1 rfl
   have dq:=jF hl;refine⟨cs,⟨by rw[dq.1,fu],one hl,?_⟩,dq⟩
   rw[hv];rcases hc with⟨h1,h2⟩|⟨b,c,h1,h2,_⟩
   ·subst h2;exact .inl ⟨h1,rfl⟩
   ·exact .inr (.inl ⟨⟨b,0,none⟩,c,h1,fun j u hu=>by rw[hK];exact h2 j u hu⟩)
  ·cases h
 ·cases h
theorem Qf(S:az U Z X F st M w){C:Ctx}(H:CtxOk P C){T ev:TypeId}{s x:Operand}{e:TypeId}{t:bi}{bytes:Nat}{dst:Nat}(bp:C.tt T=.slice e t bytes)(Xh:(∃ex,P.underlying ev=some (.slice ex))\/P.underlying ev=some .string)
  (aP:D.op=.call {callee:=.builtin .append,args:=#[s,x],argTypes:=#[T,ev]}) (dY:D.dst=some dst) (aa:cE st D.dst=true) {bm:List (den t)} {news:List Value} (fG:Src w (bh t) (Act.eval ⟨M,[]⟩ x) bm.length news)
  (ek:dl w (aN X F st.sites) (flat t bm) news):Holds (rh bytes t dst st (bj C st T s) bm) (c7 P U Z X st M w D):=by
 have bY:=H.tt T;rw[bp] at bY;obtain⟨⟨fZ,_⟩,z,hinfo,hzs,hq⟩:=bY;obtain⟨i,hi,x2⟩:∃i,P.info? e=some i/\(i.size,i.bytes,i.zero)=(bh t,bytes,some z):=by
  cases aC:P.info? e with
  |none=>simp[aC] at hinfo
  |some i=>exact⟨i,rfl,by simpa[aC] using hinfo⟩
 simp only[Prod.mk.injEq] at x2;obtain⟨x2,acO,Nc⟩:=x2;have DB:=dX S C T s;have runs:∀{v':Value} {w':World},(Builtin.append_ #[T,ev] D.type #[Act.eval ⟨M,[]⟩ s,Act.eval ⟨M,[]⟩ x]).run P w=.ok v' w'->
   (execOp (Act.eval ⟨M,[]⟩) D).run P w=.ok (.value v') w':=by
  intro v' w' h;unfold execOp;simp only[aP,resolve,invoke,builtin,Sem.run_bind,Sem.run_pure,Result.andThen_ok,List.map_toArray,List.map_cons,List.map_nil,h]
 have one:∀{u:Bool} {cW:TypeId} {v':Value} {n m:Nat} {l:List Value} {w':World},rowAt w' u cW n v' m l->v'.oneCell'=true:=by
  intro u cW v' n m l w' h;rcases h.2 with⟨rfl,_⟩|⟨g,cap,cur,fz,rfl,_⟩<;>rfl
 unfold rh;split
 ·-- a nil slice
  rename_i t2 ch;rw[ch] at DB;have rM:Act.eval ⟨M,[]⟩ s=.slice none 0 0:=DB;refine Holds.il fun r hr=>?_
  have dq:cm bytes [] bm=some r:=hr;unfold cm at dq;split at dq
  ·rename_i hb;cases dq;simp only[List.length_nil,Nat.zero_add,room] at hb;obtain⟨v',w',h1,⟨cW,h2⟩,h3,aD⟩:=Fc (P:=P) (u:=t.ki) w T ev D.type e hq i z (bh t) bytes fZ Xh hi Nc x2 acO hzs (mz _) (.slice none 0 0) 0 [] ⟨e,Gd w _ e _⟩ _ _ news fG
    (by rw[Nat.zero_add];exact hb.2) (by rw[Nat.zero_add];exact hb.1)
   rw[Nat.zero_add,List.nil_append] at h2;have cA:=S.make (o:=dst) (b':=.row (bF st dst) t ([]++bm)) (nv:=v') (w':=w') (fun b hb=>h3.block b hb (by simp[Value.ownBlock])) h3.os h3.tape h3.output h3.size
    (fun ai hs=>mr hs) (fun b hb=>by
     obtain⟨g1,g2⟩:=aD b hb;rcases g2 with g2|g2
     ·cases g2
     ·exact⟨g2,g1⟩) (fun hs dd go _ _=>by
     refine⟨cW,news,by rw[dd];simpa using h2,?_⟩
     intro j g1 g2;have azn:j<(flat t bm).length:=by simpa using g1
     simpa using pY go (ek.2 j azn g2))
   refine lH (us:=[(dst,.row (bF st dst) t ([]++bm))]) cA aa (runs (by rw[rM];exact h1)) ?_
   refine⟨one h2,Ref.mk (ai:=.row (bF st dst) t ([]++bm)) ?_ rfl (by simp)⟩
   simp only[bB,dn];simp
  ·cases dq
 ·-- a row of C3 own
  rename_i o s2 ch;rw[ch] at DB;split
  ·rename_i h5 t2 xs g_;have tB:look st.sites o=some (.row h5 t2 xs):=g_;cases ayT:h5.beq s2 with
   |false=>simp only[ak];exact .fail
   |true=>
    have mf:=ce ayT;subst mf;simp only[ad];split
    ·rename_i jS;subst jS;refine Holds.il fun r hr=>?_
     have dq:cm bytes xs bm=some r:=hr;unfold cm at dq;split at dq
     ·rename_i hb;cases dq;simp only[room] at hb;have hv:Act.eval ⟨M,[]⟩ s=F o:=Ref.at DB.2 tB rfl;obtain⟨fe,cs,l8,hcs⟩:=S.sites o _ tB;obtain⟨v',w',h1,⟨cW,h2⟩,h3,aD⟩:=Fc (P:=P) w T ev D.type e hq i z (bh t2) bytes fZ Xh hi Nc x2 acO hzs (mz _) (F o) xs.length cs ⟨fe,l8⟩ _ _ news fG hb.2 hb.1;have cA:=S.append (dst:=dst) (r:=xs++bm) tB (nv:=v') (w':=w') h3 aD (fun dd go=>by
       refine⟨cW,cs++news,by rw[dd,dx];exact h2,?_⟩
       have uF:dl w (aN X F st.sites) (flat t2 xs) cs:=⟨by rw[fu];exact l8.1,hcs⟩
       have nP:=jF ((ig (F:=F) (sites:=st.sites) uF.1 uF.2).append (ig (F:=F) (sites:=st.sites) ek.1 ek.2)|>fun h=>by
        rw[show cT (flat t2 xs)++cT (flat t2 bm)=cT (flat t2 (xs++bm)) from by simp[cT,sM]] at h
        exact h)
       intro j g1 g2;exact pY go (nP.2 j g1 g2))
      refine lH (us:=[(o,.dead h5),(dst,.row (bF (st.iU o (.dead h5)) dst) t2 (xs++bm))]) cA aa (runs (by rw[hv];exact h1)) ?_
      refine⟨one h2,Ref.mk (ai:=.row (bF (st.iU o (.dead h5)) dst) t2 (xs++bm)) ?_ rfl (by simp)⟩
      simp only[bB,dn];simp
     ·cases dq
    ·exact .fail
  ·exact .fail
 ·exact .fail
theorem aj4(S:az U Z X F st M w){C:Ctx}(H:CtxOk P C){T ev:TypeId}{s x:Operand}{e ex:TypeId}{t u:bi}{bytes b2:Nat}{dst:Nat}(bp:C.tt T=.slice e t bytes)(hq:C.tt ev=.slice ex u b2)
  (aP:D.op=.call {callee:=.builtin .append,args:=#[s,x],argTypes:=#[T,ev]}) (dY:D.dst=some dst) (aa:cE st D.dst=true):
  Holds (to bytes t dst st (bj C st T s) (bj C st ev x)) (c7 P U Z X st M w D):=by
 have x6:=H.tt ev;rw[hq] at x6;unfold to;split
 ·exact .fail
 ·rename_i d sb;split
  ·rename_i bw bm;split
   ·rename_i jS;subst jS;obtain⟨news,fG,ek⟩:=akF S (dX S C ev x) sb;exact Qf S H bp (.inl ⟨_,x6.1.1⟩) aP dY aa fG ek
   ·exact .fail
  ·exact .fail
theorem aic(S:az U Z X F st M w){C:Ctx}(H:CtxOk P C){T ev:TypeId}{s x:Operand}{e:TypeId}{t:bi}{bytes:Nat}{dst:Nat}(bp:C.tt T=.slice e t bytes)(hq:C.tt ev=.str)
  (aP:D.op=.call {callee:=.builtin .append,args:=#[s,x],argTypes:=#[T,ev]}) (dY:D.dst=some dst) (aa:cE st D.dst=true):
  Holds (tp bytes t dst st (bj C st T s) (bj C st ev x)) (c7 P U Z X st M w D):=by
 have x6:=H.tt ev;rw[hq] at x6;have bL:=dX S C ev x;unfold tp;split
 ·rename_i y hx;rw[hx] at bL;split
  ·rename_i jS;subst jS;have bL:bU w (aN X F st.sites) (.str y) (Act.eval ⟨M,[]⟩ x):=bL;generalize hv:Act.eval ⟨M,[]⟩ x=v at bL;cases bL with
   |str _ b hb=>
    subst hb;refine Qf S H bp (.inr x6.1) aP dY aa (news:=b.data.toList.map fun b=>Value.int .u8 b.toNat) ?_ ?_
    ·rw[hv];refine⟨by simp[bytesOf,bh],fun u hu=>?_,.inr (.inr ⟨b,rfl,?_,rfl,rfl⟩)⟩
     ·obtain⟨c,_,rfl⟩:=List.mem_map.1 hu;rfl
     ·simp only[bytesOf,List.length_map,Array.length_toList];rfl
    ·have e1:flat .u8 (bytesOf b.data.toList)=(b.data.toList.map fun b=>bk.int .u8 b.toNat):=by
      unfold flat bytesOf;rw[List.flatMap_map];generalize b.data.toList=l;induction l with
      |nil=>rfl
      |cons a l ih=>simp only[List.flatMap_cons,List.map_cons,ih];rfl
     rw[e1];refine⟨by simp,fun j g1 g2=>?_⟩
     simp only[List.getElem_map];exact .int _ _
  ·exact .fail
 ·exact .fail
end
theorem foldl_set:∀(vs:List Value) (off k:Nat) (arr:Array Value),off+k+vs.length<=arr.size->
  (vs.zipIdx k).foldl (fun cs (x:Value×Nat)=>cs.setIfInBounds (off+x.2) x.1) arr=(bZ arr.toList (off+k) vs).toArray:=by
 intro vs;induction vs with
 |nil=>intro off k arr h;simp[bZ]
 |cons v vs ih=>
  intro off k arr h;simp only[List.zipIdx_cons,List.foldl_cons];rw[ih off (k+1) _ (by simp at h ⊢;omega)]
  congr 1
  simp only[cY] at h;unfold bZ;rw[Array.toList_setIfInBounds];apply List.ext_getElem?;intro j;simp only[List.getElem?_append,dx,List.length_take,List.length_set,List.getElem?_take,List.getElem?_drop,List.getElem?_set,cY,Array.length_toList];have m1:min (off+k) arr.size=off+k:=by omega
  have m2:min (off+(k+1)) arr.size=off+(k+1):=by omega
  simp only[m1,m2];by_cases c1:j<off+k
  ·have c2:j<off+(k+1):=by omega
   have c3:j<off+(k+1)+vs.length:=by omega
   have du:j<off+k+(vs.length+1):=by omega
   have ht:¬off+k=j:=by omega
   simp[c1,c2,c3,du,ht]
  ·by_cases c0:j=off+k
   ·subst c0;have c2:off+k<off+(k+1):=by omega
    have c3:off+k<off+(k+1)+vs.length:=by omega
    have du:off+k<off+k+(vs.length+1):=by omega
    have ht:off+k<arr.size:=by omega
    simp[c2,c3,du,ht]
   ·by_cases du:j<off+k+(vs.length+1)
    ·have c2:¬j<off+(k+1):=by omega
     have c3:j<off+(k+1)+vs.length:=by omega
     have e:j-(off+k)=(j-(off+(k+1)))+1:=by omega
     simp[c1,c2,c3,du,e]
    ·have c3:¬j<off+(k+1)+vs.length:=by omega
     have ht:¬off+k=off+(k+1)+vs.length+(j-(off+(k+1)+vs.length)):=by omega
     have e:off+(k+1)+vs.length+(j-(off+(k+1)+vs.length))=off+k+(vs.length+1)+(j-(off+k+(vs.length+1))):=by omega
     simp[c3,du,ht,e];try(intro bn;exfalso;omega)
theorem PG(v:Value)(off:Nat)(arr:Array Value)(h:off+v.cells.size<=arr.size):
  v.cells.zipIdx.foldl (fun cs (x:Value×Nat)=>cs.setIfInBounds (off+x.2) x.1) arr=(bZ arr.toList off v.cells.toList).toArray:=by
 rw[<-Array.foldl_toList,Array.toList_zipIdx];exact foldl_set v.cells.toList off 0 arr (by simpa using h)
theorem Qa(s:Nat):∀(vs:List (Nat×Value)) (n:Nat) (cells:Array Value),(∀j (h:j<vs.length),(vs[j]).1=n+j)->(∀p,p∈vs->p.2.cells.size=s)->(n+vs.length)*s<=cells.size->
  Instr.fill (fun i=>some (i*s,s)) cells vs=some (bZ cells.toList (n*s) (vs.flatMap fun p=>p.2.cells.toList)).toArray:=by
 intro vs;induction vs with
 |nil=>intro n cells _ _ _;simp[Instr.fill,bZ]
 |cons p vs ih=>
  obtain⟨i,v⟩:=p;intro n cells hi hs hle;have h0:i=n:=hi 0 (Nat.zero_lt_succ _);subst h0;have hv:v.cells.size=s:=hs (i,v) (by simp)
  have qf:i*s+s<=cells.size:=by
   have:(i+1)*s<=(i+(vs.length+1))*s:=Nat.mul_le_mul_right _ (by omega)
   simp only[cY] at hle;rw[Nat.add_mul,Nat.one_mul] at this;omega
  simp only[Instr.fill,hv];rw[if_neg (by simp;omega)]
  have p2:=PG v (i*s) cells (by omega)
  rw[p2];have hlen:v.cells.toList.length=s:=by simpa using hv
  have at6:(bZ cells.toList (i*s) v.cells.toList).length=cells.toList.length:=sK _ _ _ (by simp;omega)
  rw[ih (i+1) _ (fun j h=>by have:=hi (j+1) (by simpa using h);simp at this;omega) (fun p hp=>hs p (by simp[hp])) (by
   simp only[cY] at hle;simp only[List.size_toArray,at6,Array.length_toList];have e:i+1+vs.length=i+(vs.length+1):=by omega
   rw[e];exact hle)]
  congr 2
  simp only[List.flatMap_cons,List.toList_toArray];have qw:(vs.flatMap fun p=>p.2.cells.toList).length=vs.length*s:=by
   clear ih hi hle;induction vs with
   |nil=>simp
   |cons q vs ax7=>
    have:q.2.cells.toList.length=s:=by simpa using hs q (by simp)
    rw[List.flatMap_cons,dx,this,ax7 (fun p hp=>hs p (by rcases bR.1 hp with h|h<;>simp[h])),cY,Nat.add_mul];omega
  have auk:(i+(vs.length+1))*s<=cells.size:=by simpa using hle
  rw[Nat.add_mul,Nat.add_mul] at auk;unfold bZ;apply List.ext_getElem?;intro j;have e1:(i+1)*s=i*s+s:=by rw[Nat.add_mul,Nat.one_mul]
  simp only[List.getElem?_append,dx,List.length_take,List.getElem?_take,List.getElem?_drop,List.length_drop,Array.length_toList,hlen,qw,e1];have m1:min (i*s) cells.size=i*s:=by omega
  have m2:min (i*s+s) (i*s+s+(cells.size-(i*s+s)))=i*s+s:=by omega
  simp only[m1,m2];by_cases c1:j<i*s
  ·have c2:j<i*s+s:=by omega
   have c3:j<i*s+s+vs.length*s:=by omega
   have du:j<i*s+(s+vs.length*s):=by omega
   simp[c1,c2,c3,du]
  ·by_cases c2:j<i*s+s
   ·have c3:j<i*s+s+vs.length*s:=by omega
    have du:j<i*s+(s+vs.length*s):=by omega
    have ht:j-i*s<s:=by omega
    simp[c1,c2,c3,du,ht]
   ·by_cases c3:j<i*s+s+vs.length*s
    ·have du:j<i*s+(s+vs.length*s):=by omega
     have ht:¬j-i*s<s:=by omega
     have e:j-i*s-s=j-(i*s+s):=by omega
     simp[c1,c2,c3,du,ht,e]
    ·have du:¬j<i*s+(s+vs.length*s):=by omega
     have ht:¬i*s+s+vs.length*s+(j-(i*s+s+vs.length*s))<i*s:=by omega
     have c6:¬i*s+s+vs.length*s+(j-(i*s+s+vs.length*s))<i*s+s:=by omega
     have e:i*s+s+(i*s+s+vs.length*s+(j-(i*s+s+vs.length*s))-(i*s+s))=i*s+(s+vs.length*s)+(j-(i*s+(s+vs.length*s))):=by omega
     simp[c3,du,ht,c6,e]
theorem ahV:∀(l:List (Nat×Operand)) (n:Nat),td n l=true->∀j (h:j<l.length),(l[j]).1=n+j:=by
 intro l;induction l with
 |nil=>intro n _ j h;simp at h
 |cons p l ih=>
  obtain⟨i,x⟩:=p;intro n h j hj;simp only[td,bz] at h;cases j with
  |zero=>simpa using ce h.1
  |succ j=>have:=ih (n+1) h.2 j (by simpa using hj);simp;omega
section
variable {P:Program}{U:World}{Z:List Nat}{X:Nat->Prop}{F:Nat->Value}{st:ao}{M:Array Value}{w:World}{D:Oper}
theorem afh{al:List aU}(h:ia al=true):al.head?≠some .dM:=by
 intro bV;cases al with
 |nil=>cases bV
 |cons l r=>
  simp only[List.head?_cons,bH] at bV;subst bV;cases h
theorem az.TX(S:az U Z X F st M w){o:Nat}{cells:List aU}{vs:List Value}{T:TypeId}(hl:cN F st.sites w (aN X F st.sites) cells vs)(h1:∀u∈vs,u.oneCell'=true)(hns:nI cells T vs w.heap.size):
  az U Z X (fun ae=>if ae=o then .pointer (some ⟨w.heap.size,0,none⟩) else F ae) {st with sites:=cI st.sites o (.box (bF st o) cells)} M (w.alloc (.cells vs.toArray T (0,0))):=
 S.make (fun b hb=>RowKit.Below.heap_alloc w _ b hb) rfl rfl rfl (by simp) (fun ai hs=>mr hs) (fun b hb=>by cases hb;exact⟨Nat.le_refl _,by simp⟩)
  (fun hs dd go _ _=>⟨w.heap.size,T,vs,dd,heap_alloc_new w _,hl.1,h1,hns,fun j g1 g2=>(Ck go hl).2 j g1 g2⟩)
theorem akJ{F:Nat->Value}{sites:List (Nat×Site)}{av:Nat->Prop}{cells:List aU}{T:TypeId}{cur:List Value}{b:Nat}(bp:T=sh)(h:cN F sites w av cells cur)(hs:cells.head?≠some .dM):cN F sites w av (wK cells) cur/\nI (wK cells) T cur b:=by
 unfold wK;split
 ·obtain⟨v,vs,rfl,h1,h2⟩:=h.inv;exact⟨.cons (show ey F sites w av .dM v from trivial) h2,fun _=>⟨bp,.inl (by rw[show v=_ from h1];rfl)⟩⟩
 ·exact⟨h,fun an=>absurd an hs⟩
theorem amk(S:az U Z X F st M w){C:Ctx}(H:CtxOk P C){elem:TypeId}{z:List aU}{o:Nat}(aP:D.op=.alloc elem)(dY:D.dst=some o)(hz:(C.tt elem).zero=some z)(aa:cE st D.dst=true):
  c7 P U Z X st M w D (cf (.ptr o (bF st o) 0)) [(o,.box (bF st o) (bif elem.beq sh then wK z else z))]:=by
 obtain⟨v,hv,oX⟩:=cu.G_ (w:=w) (H.tt elem) hz;obtain⟨h1,h2,h3⟩:=vl oX;have hns:z.head?≠some .dM:=by
  intro bV;cases z with
  |nil=>cases bV
  |cons l r=>
   simp only[List.head?_cons,bH] at bV;subst bV;simp[lM,q7] at oX
 have dL:(execOp (Act.eval ⟨M,[]⟩) D).run P w=.ok (.value (.pointer (some ⟨w.heap.size,0,none⟩))) (w.alloc (.cells v.cells.toList.toArray elem (0,0))):=by
  unfold execOp;simp[aP,Instr.alloc,hv,newVar,newRow]
 have key:∀cells,cN F st.sites w (aN X F st.sites) cells v.cells.toList->nI cells elem v.cells.toList w.heap.size->
   c7 P U Z X st M w D (cf (.ptr o (bF st o) 0)) [(o,.box (bF st o) cells)]:=by
  intro cells hl hs;have cA:=S.TX (o:=o) (T:=elem) hl h2 hs;refine lH (us:=[(o,.box (bF st o) cells)]) cA aa (vv:=.pointer (some ⟨w.heap.size,0,none⟩)) dL ?_
  refine⟨_,rfl,Ref.mk (ai:=.box (bF st o) cells) ?_ rfl (by simp)⟩
  simp only[bB,dn];simp
 cases bp:elem.beq sh with
 |false=>exact key z ⟨h1,h3 _ _ _ _⟩ fun h=>absurd h hns
 |true=>
  obtain⟨aG,aK⟩:=akJ (b:=w.heap.size) (ce bp) (⟨h1,h3 F st.sites w (aN X F st.sites)⟩:cN F st.sites w (aN X F st.sites) z v.cells.toList) hns;exact key _ aG aK
theorem aqe(S:az U Z X F st M w){elem:TypeId}{x:Operand}{a:b5}{o:Nat}(aP:D.op=.box elem x)(dY:D.dst=some o)(ha:hU F st.sites w (aN X F st.sites) a (Act.eval ⟨M,[]⟩ x))
  (ej:ia a.cells=true) (aa:cE st D.dst=true):c7 P U Z X st M w D (cf (.ptr o (bF st o) 0)) [(o,.box (bF st o) a.cells)]:=by
 have hl:=ha.cells ej;have cA:=S.TX (o:=o) (T:=elem) hl (hl.j4 ej) (fun h=>absurd h (afh ej))
 refine lH (us:=[(o,.box (bF st o) a.cells)]) cA aa (vv:=.pointer (some ⟨w.heap.size,0,none⟩)) ?_ ?_
 ·unfold execOp;simp[aP,Instr.box,newVar,newRow]
 ·refine⟨_,rfl,Ref.mk (ai:=.box (bF st o) a.cells) ?_ rfl (by simp)⟩
  simp only[bB,dn];simp
theorem az.II(S:az U Z X F st M w){o:Nat}{t:bi}{xs:List (den t)}{cs rest:List Value}{T:TypeId}{cap:Nat}(hl:dl w (aN X F st.sites) (flat t xs) cs)(hcap:cs.length+rest.length=cap*bh t)(hm:cap<=maxLen)(hq:t.ki=true->T=nd):
  az U Z X (fun ae=>if ae=o then .slice (some ⟨w.heap.size,0,none⟩) xs.length cap else F ae) {st with sites:=cI st.sites o (.row (bF st o) t xs)} M (w.alloc (.cells (cs++rest).toArray T (0,0))):=by
 have hcl:cs.length=xs.length*bh t:=by rw[hl.1,fu]
 have hle:xs.length<=cap:=by
  have:xs.length*bh t<=cap*bh t:=by omega
  exact Nat.le_of_mul_le_mul_right this (mz t)
 refine S.make (fun b hb=>RowKit.Below.heap_alloc w _ b hb) rfl rfl rfl (by simp) (fun ai hs=>mr hs) (fun b hb=>by cases hb;exact⟨Nat.le_refl _,by simp⟩)
  (fun hs dd go _ _=>⟨T,cs,⟨hcl,.inr ⟨w.heap.size,cap,_,(0,0),dd,⟨hq,.inl rfl⟩,heap_alloc_new w _,hle,hm,?_,?_⟩⟩,fun j g1 g2=>pY go (hl.2 j g1 g2)⟩)
 ·simp[hcap]
 ·rw[<-hcl];simp
theorem aoj:∀{as:List b5} {t:bi} {xs:List (den t)} {us vs:List (Nat×Site)} {ws:List Value},ma t st as=some (xs,us)->ws.length=as.length->
  (∀j (h:j<as.length) (an:j<ws.length),hU F st.sites w (aN X F st.sites) (as[j]) (ws[j]))->lE U Z X F st M w vs->(∀p,p∈us->p∈vs)->
  xs.length=as.length/\dl w (aN X F (bB st.sites vs)) (flat t xs) (ws.flatMap fun v=>v.cells.toList)/\∀v,v∈ws->v.cells.size=bh t:=by
 intro as;induction as with
 |nil=>
  intro t xs us vs ws h hl _ _ _;simp only[ma] at h;cases h;have:ws=[]:=fO hl;subst this;exact⟨rfl,⟨rfl,fun j h=>by simp[flat] at h⟩,fun v hv=>by simp at hv⟩
 |cons a as ih=>
  intro t xs us vs ws h hl f' aW eF;match ws,hl with
  |v::ws,hl=>
  simp only[ma] at h;split at h
  ·rename_i ds u1 qg;split at h
   ·rename_i x jq u2 kH p1;cases h;have cq:=f' 0 (by simp) (by simp)
    simp only[List.getElem_cons_zero] at cq;have ej:ia a.cells=true:=by
     clear p1 ih f' cq hl kH;generalize a.cells=al at qg;induction al generalizing ds u1 with
     |nil=>rfl
     |cons l al ih=>
      simp only[gC] at qg;split at qg
      ·rename_i d aeb ln sw h1 h2;simp only[ia,bz];refine⟨?_,ih _ _ (fun p hp=>eF p (by cases qg;rcases bo.1 hp with h|h<;>simp[h])) h2⟩
       unfold kn at h1;split at h1<;>first|rfl|cases h1
      ·cases qg
    have hY:=cq.cells ej;have M0:=BS qg hY aW (fun p hp=>eF p (bo.2 (.inl hp)))
    obtain⟨g1,g2,g3⟩:=ih p1 (by simpa using hl) (fun j h1 h2=>f' (j+1) (by simpa using h1) (by simpa using h2)) aW (fun p hp=>eF p (bo.2 (.inr hp)))
    have Z7:=BR _ _ _ kH;refine⟨by simp[g1],?_,fun u hu=>?_⟩
    ·simp only[flat,List.flatMap_cons];rw[Z7];have:=jF ((ig (F:=F) (sites:=st.sites) M0.1 M0.2).append (ig (F:=F) (sites:=st.sites) g2.1 g2.2)|>fun h=>by
      rw[show cT ds++cT (flat t jq)=cT (ds++flat t jq) from by simp[cT]] at h
      exact h)
     exact this
    ·rcases bR.1 hu with rfl|hu
     ·have:u.cells.toList.length=ds.length:=M0.1;rw[<-Z7,jC] at this;simpa using this
     ·exact g3 u hu
   ·cases h
  ·cases h
theorem aok:∀{as:List b5} {t:bi} {xs:List (den t)} {us:List (Nat×Site)},ma t st as=some (xs,us)->ei st.sites us:=by
 intro as;induction as with
 |nil=>intro t xs us h;simp only[ma] at h;cases h;exact .nil
 |cons a as ih=>
  intro t xs us h;simp only[ma] at h;split at h
  ·rename_i ds u1 qg;split at h
   ·rename_i x jq u2 kH p1;cases h;exact(Jy qg).append (ih p1)
   ·cases h
  ·cases h
theorem aeP{us:List (Nat×Site)}(h:ei st.sites us)(o:Nat):bF {st with sites:=bB st.sites us} o=bF st o:=by
 unfold bF ao.ai;simp only;rcases mq h o with h1|⟨s,t,xs,h1,h2⟩
 ·rw[h1]
 ·rw[h2];rcases h1 with h1|h1<;>rw[h1]<;>rfl
end
section
variable {P:Program}{U:World}{Z:List Nat}{X:Nat->Prop}{F:Nat->Value}{st:ao}{M:Array Value}{w:World}{D:Oper}
theorem qQ{v:bb}{a:b5}(h:mQ v=some a):v=.av a:=by
 cases v with
 |av b=>cases h;rfl
 |kg _=>cases h
theorem aia:∀{vs:List bb} {as:List b5},oO vs=some as->vs.length=as.length/\∀j (h:j<vs.length) (an:j<as.length),vs[j]=.av (as[j]):=by
 intro vs;induction vs with
 |nil=>intro as h;simp only[oO] at h;cases h;exact⟨rfl,fun j h=>by simp at h⟩
 |cons v vs ih=>
  intro as h;simp only[oO] at h;split at h
  ·rename_i a pd h1 h2;cases h;obtain⟨g1,g2⟩:=ih h2;refine⟨by simp[g1],fun j aG aK=>?_⟩
   cases j with
   |zero=>exact qQ h1
   |succ j=>exact g2 j (by simpa using aG) (by simpa using aK)
  ·cases h
theorem yZ{C:Ctx}(H:CtxOk P C){T e:TypeId}{t:bi}{bytes:Nat}(bp:C.tt T=.slice e t bytes):
  P.underlying T=some (.slice e)/\∃i z,P.info? e=some i/\i.size=bh t/\i.bytes=bytes/\i.zero=some z/\z.cells.size=bh t/\(t.ki=true->e=nd):=by
 have bY:=H.tt T;rw[bp] at bY;obtain⟨⟨fZ,_⟩,z,hinfo,hzs⟩:=bY;refine⟨fZ,?_⟩;cases aC:P.info? e with
 |none=>simp[aC] at hinfo
 |some i=>
  simp only[aC,Option.map_some,bH,Prod.mk.injEq] at hinfo;exact⟨i,z,rfl,hinfo.1,hinfo.2.1,hinfo.2.2,hzs⟩
theorem afr(S:az U Z X F st M w){C:Ctx}(H:CtxOk P C){T e:TypeId}{t:bi}{bytes len o:Nat}{parts:Array (Nat×Operand)}(bp:C.tt T=.slice e t bytes)(aP:D.op=.buildSlice T len parts)
  (dY:D.dst=some o) (aa:cE st D.dst=true) (hlen:parts.toList.length=len) (rK:td 0 parts.toList=true) (apV:len*bh t<=1000) {as:List b5} {xs:List (den t)} {us:List (Nat×Site)}
  (has:oO (parts.toList.map fun p=>bj C st e p.2)=some as) (kH:ma t st as=some (xs,us)):
  c7 P U Z X st M w D (cf (.own o (bF st o))) (us++[(o,.row (bF st o) t xs)]):=by
 obtain⟨fZ,i,z,hi,kc,Nb,uT,hzs,hq⟩:=yZ H bp;have hfz:=aok kH;have aW:lE U Z X F st M w us:=⟨S,hfz⟩;obtain⟨uX,nb⟩:=aia has;let ws:List Value:=parts.toList.map fun p=>Act.eval ⟨M,[]⟩ p.2
 have acB:ws.length=as.length:=by rw[<-uX];simp[ws]
 have at2:∀j (h:j<as.length) (an:j<ws.length),hU F st.sites w (aN X F st.sites) (as[j]) (ws[j]):=by
  intro j h1 h2;have hj:j<(parts.toList.map fun p=>bj C st e p.2).length:=by rw[uX];exact h1
  have:=nb j hj h1;simp only[List.getElem_map] at this;have bL:=dX S C e (parts.toList[j]'(by simpa using hj)).2
  rw[this] at bL;have h3:cy F st.sites w (aN X F st.sites) (.av (as[j])) (ws[j]):=by simpa[ws] using bL
  exact h3
 obtain⟨hxl,ek,hcs⟩:=aoj kH acB at2 aW (fun p hp=>hp)
 have Da:xs.length=len:=by rw[hxl,<-acB];simpa[ws] using hlen
 have apW:(parts.map fun(x:Nat×Operand)=>(x.1,Act.eval ⟨M,[]⟩ x.2)).toList=parts.toList.map fun p=>(p.1,Act.eval ⟨M,[]⟩ p.2):=by simp
 have arP:((parts.toList.map fun p=>(p.1,Act.eval ⟨M,[]⟩ p.2)).flatMap fun p:Nat×Value=>p.2.cells.toList)=ws.flatMap fun v=>v.cells.toList:=by
  simp[ws,List.flatMap_map]
 have hcl:(ws.flatMap fun v=>v.cells.toList).length=len*bh t:=by rw[ek.1,fu,Da]
 have hm:len<=maxLen:=by
  have:len*1<=len*bh t:=Nat.mul_le_mul_left _ (mz t);unfold maxLen;omega
 have cA:=aW.new.II (o:=o) (xs:=xs) (cs:=ws.flatMap fun v=>v.cells.toList) (rest:=[]) (T:=e) (cap:=len) (by exact ek) (by simp[hcl]) hm hq
 rw[aeP hfz,Da,List.append_nil] at cA;have wy:bB st.sites (us++[(o,.row (bF st o) t xs)])=cI (bB st.sites us) o (.row (bF st o) t xs):=by rw[lG];rfl
 have dL:(Instr.buildSlice T len (parts.map fun(x:Nat×Operand)=>(x.1,Act.eval ⟨M,[]⟩ x.2))).run P w=
   .ok (.slice (some ⟨w.heap.size,0,none⟩) len len) (w.alloc (.cells (ws.flatMap fun v=>v.cells.toList).toArray e)):=by
  by_cases h0:len*i.size=0
  ·have hl0:len=0:=by
    rcases Nat.mul_eq_zero.1 h0 with h|h
    ·exact h
    ·have:=mz t;omega
   subst hl0;have rY:parts.toList=[]:=fO hlen;have El:ws=[]:=by simp[ws,rY]
   have ayx:parts=#[]:=by simpa using rY
   rw[El];have mg:∀f:Nat->Value,Array.map f (Array.range 0)=#[]:=fun f=>by apply Array.ext';simp
   simp[Instr.buildSlice,run_underlying fZ,sizeOf,typeInfo,hi,ayx,Instr.fill,newRow,mg]
  ·refine run_buildSlice w T e len _ _ i z fZ hi uT (by rw[kc];omega) h0 ?_
   rw[apW];have arE:(((Array.range (len*i.size)).map fun x=>z.cells[x%z.cells.size]!)).size=len*i.size:=by simp
   have:=Qa (bh t) (parts.toList.map fun p=>(p.1,Act.eval ⟨M,[]⟩ p.2)) 0 ((Array.range (len*i.size)).map fun x=>z.cells[x%z.cells.size]!)
    (fun j h=>by have:=ahV _ 0 rK j (by simpa using h);simpa using this)
    (fun p hp=>by
     obtain⟨q,aC,rfl⟩:=List.mem_map.1 hp;exact hcs _ (List.mem_map.2 ⟨q,aC,rfl⟩))
    (by rw[arE,kc];simp[hlen])
   rw[kc] at this ⊢;rw[this,arP];congr 2
   unfold bZ;rw[Nat.zero_mul,List.take_zero,List.nil_append,Nat.zero_add,hcl,List.drop_eq_nil_of_le (by simp),List.append_nil]
 refine lH (us:=us++[(o,.row (bF st o) t xs)]) (by rw[wy];exact cA) aa (vv:=.slice (some ⟨w.heap.size,0,none⟩) len len) ?_ ?_
 ·unfold execOp;simp only[aP,Sem.run_bind];have arJ:=dL;simp only[arJ,Result.andThen_ok,Sem.run_pure]
 ·rw[wy];refine⟨rfl,Ref.mk (ai:=.row (bF st o) t xs) ?_ rfl (by simp)⟩
  simp only[dn];simp
theorem afi{w:World}{av:Nat->Prop}{t:bi}{z:den t}{zs:List Value}(h:dl w av (enc t z) zs)(n:Nat):dl w av (flat t (List.replicate n z)) ((List.replicate n zs).flatten):=by
 induction n with
 |zero=>exact⟨rfl,fun j h=>by simp[flat] at h⟩
 |succ n ih=>
  have:=jF ((ig (F:=fun _=>undef) (sites:=[]) h.1 h.2).append (ig (F:=fun _=>undef) (sites:=[]) ih.1 ih.2)|>fun h=>by
   rw[show cT (enc t z)++cT (flat t (List.replicate n z))=cT (enc t z++flat t (List.replicate n z)) from by simp[cT]] at h
   exact h)
  simpa[List.replicate_succ,flat,List.flatMap_cons] using this
theorem aiZ(z:Array Value)(n:Nat)(hz:0<z.size):((Array.range (n*z.size)).map fun x=>z[x%z.size]!).toList=(List.replicate n z.toList).flatten:=by
 induction n with
 |zero=>simp
 |succ n ih=>
  rw[List.replicate_succ',List.flatten_append];rw[<-ih];apply List.ext_getElem?;intro j;have e:(n+1)*z.size=n*z.size+z.size:=by rw[Nat.add_mul,Nat.one_mul]
  simp only[Array.toList_map,Array.toList_range,List.getElem?_map,List.getElem?_append,List.length_map,List.length_range,List.flatten_cons,List.flatten_nil,List.append_nil,e];by_cases h1:j<n*z.size
  ·rw[List.getElem?_range (by omega)];simp[h1]
  ·by_cases h2:j<n*z.size+z.size
   ·rw[List.getElem?_range h2];have h3:j-n*z.size<z.size:=by omega
    have aD:j%z.size=j-n*z.size:=by
     have:j=z.size*n+(j-n*z.size):=by rw[Nat.mul_comm];omega
     conv=>lhs;rw[this]
     rw[Nat.mul_add_mod,Nat.mod_eq_of_lt h3]
    simp[h1,aD,h3]
   ·rw[List.getElem?_eq_none (by simp;omega)]
    have h3:¬j-n*z.size<z.size:=by omega
    simp[h1,h3]
theorem aga{l:aU}{v:Value}{d:bk}{us:List (Nat×Site)}(h:q7 l=some v)(k:kn st l=some (d,us)):us=[]:=by
 cases l with
 |d x=>simp[kn] at k;exact k.2
 |nil t=>simp[kn] at k;exact k.2
 |own o s=>simp[q7] at h
 |clo g bN=>simp[q7] at h
 |_=>simp[kn] at k
theorem afU(S:az U Z X F st M w){C:Ctx}(H:CtxOk P C){T e:TypeId}{t:bi}{bytes o:Nat}{l c:Operand}{yv yw:IntKind}{n m:Int}{z:List aU}{ds:List bk}{us:List (Nat×Site)}{fm:den t}(bp:C.tt T=.slice e t bytes)(aP:D.op=.makeSlice T l c)
  (dY:D.dst=some o) (aa:cE st D.dst=true) (hl:bj C st 0 l=.av (.aq (.d (.int yv n)))) (hc:bj C st 0 c=.av (.aq (.d (.int yw m)))) (hz:(C.tt e).zero=some z) (ho:gC st z=some (ds,us)) (kH:dec t ds=some fm):
  ∀r,kh bytes n m fm=some r->c7 P U Z X st M w D (cf (.own o (bF st o))) [(o,.row (bF st o) t r)]:=by
 intro r hr;obtain⟨fZ,i,gF,hi,kc,Nb,uT,hzs,hq⟩:=yZ H bp;obtain⟨v,hv,oX⟩:=cu.G_ (w:=w) (H.tt e) hz;have ayh:v=gF:=by
  simp[zeroValue,typeInfo,hi,uT] at hv;exact hv.symm
 subst ayh;obtain⟨h1,h2,h3⟩:=vl oX;have hV:us=[]:=by
  clear kH hz h3 h2 h1;have key:∀{al:List aU} {vs:List Value} {ds:List bk} {us:List (Nat×Site)},lM al=some vs->gC st al=some (ds,us)->us=[]:=by
   intro al;induction al with
   |nil=>intro vs ds us _ h;simp only[gC] at h;cases h;rfl
   |cons l al ih=>
    intro vs ds us h1 h2;simp only[lM] at h1;split at h1
    ·rename_i v cH g1 g2;simp only[gC] at h2;split at h2
     ·rename_i d aeb ln sw aG aK;cases h2;rw[ih g2 aK,List.append_nil];exact aga g1 aG
     ·cases h2
    ·cases h1
  exact key oX ho
 subst hV;have aW:lE U Z X F st M w []:=⟨S,.nil⟩;have hrz:dl w (aN X F st.sites) ds v.cells.toList:=BS ho ⟨h1,h3 _ _ _ _⟩ aW (fun p hp=>hp)
 rw[<-BR _ _ _ kH] at hrz;unfold kh at hr;split at hr
 ·rename_i hb;obtain⟨b1,b2,b3,pm⟩:=hb;cases hr;have e1:Act.eval ⟨M,[]⟩ l=.int yv n:=by
   have:=dX S C 0 l;rw[hl] at this;have this:bU _ _ (.int yv n) _:=this;generalize Act.eval ⟨M,[]⟩ l=u at this;cases this;rfl
  have e2:Act.eval ⟨M,[]⟩ c=.int yw m:=by
   have:=dX S C 0 c;rw[hc] at this;have this:bU _ _ (.int yw m) _:=this;generalize Act.eval ⟨M,[]⟩ c=u at this;cases this;rfl
  have ZW:=afi hrz n.toNat;have hlen:((List.replicate n.toNat v.cells.toList).flatten).length=n.toNat*bh t:=by
   rw[ZW.1,fu,List.length_replicate]
  have V':(List.replicate m.toNat v.cells.toList).flatten=(List.replicate n.toNat v.cells.toList).flatten++(List.replicate (m.toNat-n.toNat) v.cells.toList).flatten:=by
   rw[<-List.flatten_append,List.replicate_append_replicate];congr 2;omega
  have hcap:((List.replicate n.toNat v.cells.toList).flatten).length+((List.replicate (m.toNat-n.toNat) v.cells.toList).flatten).length=m.toNat*bh t:=by
   rw[<-dx,<-V'];simp[hzs]
  have hmax:m.toNat<=maxLen:=by omega
  have cA:=S.II (o:=o) (T:=e) ZW hcap hmax hq;rw[List.length_replicate,<-V'] at cA;refine lH (us:=[(o,.row (bF st o) t (List.replicate n.toNat fm))]) cA aa (vv:=.slice (some ⟨w.heap.size,0,none⟩) n.toNat m.toNat) ?_ ?_
  ·unfold maxLen at pm;have a':IntKind.i64.wrap n=n:=IntWalk.i64_in n (by omega)
   have w2:IntKind.i64.wrap m=m:=IntWalk.i64_in m (by omega)
   have Lw:(decide (m<0)||decide (((i.bytes:Nat):Int)*m>2^48))=false:=by
    unfold room at b3;rw[Nb];have:(bytes:Int)*m<=140737488355328:=by rw[Int.mul_comm];exact b3
    simp;omega
   have Cr:((Array.range (m.toNat*i.size)).map fun x=>v.cells[x%v.cells.size]!)=((List.replicate m.toNat v.cells.toList).flatten).toArray:=by
    rw[<-aiZ v.cells m.toNat (by rw[hzs];exact mz t),hzs,kc]
   unfold execOp;simp only[aP,e1,e2,Sem.run_bind];have dL:(Instr.makeSlice T (.int yv n) (.int yw m)).run P w=.ok (.slice (some ⟨w.heap.size,0,none⟩) n.toNat m.toNat) (w.alloc (.cells ((List.replicate m.toNat v.cells.toList).flatten).toArray e)):=by
    have r3:¬n<0:=by omega
    have lj:¬n>m:=by omega
    unfold Instr.makeSlice;simp only[Sem.run_bind,run_underlying fZ,Result.andThen_ok,asInt,asIntOf,Sem.run_pure,lF hi,a',w2,Lw,Bool.false_eq_true,r3,lj,decide_false,Bool.or_false,Bool.or_self,if_false,
     run_askRoom,sizeOf]
    by_cases hz0:m.toNat*i.size=0
    ·have uO:m.toNat=0:=by
      rcases Nat.mul_eq_zero.1 hz0 with h|h
      ·exact h
      ·have:=mz t;omega
     have mg:∀f:Nat->Value,Array.map f (Array.range 0)=#[]:=fun f=>by apply Array.ext';simp
     simp[uO,newRow,mg]
    ·simp[hz0,uT,zeroValue,lF hi,newRow,Cr]
   simp only[dL,Result.andThen_ok,Sem.run_pure]
  ·refine⟨rfl,Ref.mk (ai:=.row (bF st o) t (List.replicate n.toNat fm)) ?_ rfl (by simp)⟩
   simp only[bB,dn];simp
 ·cases hr
end
theorem ajz{aE ls:Type}(g:aE->Option ls):∀{l:List aE} {r:List ls},l.mapM g=some r->∀{i:Nat} {y:ls},r[i]? =some y->∃x,l[i]? =some x/\g x=some y:=by
 intro l;induction l with
 |nil=>intro r h i y hy;simp at h;subst h;simp at hy
 |cons x l ih=>
  intro r h i y hy;simp only[List.mapM_cons,Option.bind_eq_bind,Option.pure_def] at h;cases hx:g x with
  |none=>simp[hx] at h
  |some z=>
   cases hl:l.mapM g with
   |none=>simp[hx,hl] at h
   |some e4=>
    simp only[hx,hl,Y,bH] at h;subst h;cases i with
    |zero=>simp at hy;subst hy;exact⟨x,by simp,hx⟩
    |succ i=>simp at hy;simpa using ih hl hy
section
variable {P:Program}{U:World}{Z:List Nat}{X:Nat->Prop}{F:Nat->Value}{st:ao}{M:Array Value}{w:World}{D:Oper}
theorem iW{k:IntKind}{n:Int}{v:Value}{av:Nat->Prop}(h:bU w av (.int k n) v):v=.int k n:=by cases h;rfl
theorem j6{b:Bool}{v:Value}{av:Nat->Prop}(h:bU w av (.bool b) v):v=.bool b:=by cases h;rfl
theorem gX{s:B}{v:Value}{av:Nat->Prop}(h:bU w av (.str s) v):∃b:ByteArray,v=.string b/\b.data.toList=s:=by
 cases h with
 |str l s h=>exact⟨s,rfl,h⟩
theorem ky(S:az U Z X F st M w){C:Ctx}{T:TypeId}{x:Operand}{k:IntKind}{n:Int}(h:bj C st T x=.av (.aq (.d (.int k n)))):Act.eval ⟨M,[]⟩ x=.int k n:=by
 have:=dX S C T x;rw[h] at this;exact iW this
theorem Ju(S:az U Z X F st M w){C:Ctx}{T:TypeId}{x:Operand}{b:Bool}(h:bj C st T x=.av (.aq (.d (.bool b)))):Act.eval ⟨M,[]⟩ x=.bool b:=by
 have:=dX S C T x;rw[h] at this;exact j6 this
theorem ap7(S:az U Z X F st M w){C:Ctx}{T:TypeId}{x:Operand}{s:B}(h:bj C st T x=.av (.aq (.d (.str s)))):∃b:ByteArray,Act.eval ⟨M,[]⟩ x=.string b/\b.data.toList=s:=by
 have:=dX S C T x;rw[h] at this;exact gX this
theorem agp{C:Ctx}(H:CtxOk P C){T:TypeId}{b4:List (Nat×Nat)}{n:Nat}{z:List aU}{eq:Bool}(bp:C.tt T=.struct b4 n z eq):(cu.struct b4 n z eq).ok P T:=by
 have:=H.tt T;rwa[bp] at this
theorem af6(S:az U Z X F st M w){C:Ctx}(H:CtxOk P C){T:TypeId}{x:Operand}{f off N9:Nat}{b4:List (Nat×Nat)}{n:Nat}{z:List aU}{eq:Bool}(bp:C.tt T=.struct b4 n z eq)(aP:D.op=.fieldAddr T x f)
  (aa:cE st D.dst=true) (hf:b4[f]? =some (off,N9)):Holds (FQ off (bj C st 0 x)) (c7 P U Z X st M w D):=by
 obtain⟨fields,fZ,⟨auf,ayz⟩,_⟩:=agp H bp;obtain⟨aes,h1,h2⟩:=ajz _ auf hf;have h1':fields[f]? =some aes:=by simpa using h1
 cases hi:P.info? aes.type with
 |none=>simp[hi] at h2
 |some i=>
  simp only[hi,Option.map_some,bH,Prod.mk.injEq] at h2;have hsz:i.size≠0:=by rw[h2.2];exact ayz (off,N9) (eK hf)
  have bL:=dX S C 0 x;have run:∀{b p:Nat},Act.eval ⟨M,[]⟩ x=.pointer (some ⟨b,p,none⟩)->(execOp (Act.eval ⟨M,[]⟩) D).run P w=.ok (.value (.pointer (some ⟨b,p+off,none⟩))) w:=by
   intro b p hx;unfold execOp;simp only[aP,hx,Instr.fieldAt,Instr.sureAddr,Sem.run_bind,run_underlying fZ,Result.andThen_ok,h1',Sem.run_pure,fieldPlace,sizeOf,lF hi,hsz,if_false,h2.1,hK]
  unfold FQ;split
  ·rename_i o s p ch;rw[ch] at bL;obtain⟨b,aG,aK⟩:=bL;exact Holds.ok (eh S aa (run aG) ⟨b,rfl,aK⟩)
  ·rename_i cells p ch;rw[ch] at bL;obtain⟨b,q,aG,aK⟩:=bL;refine Holds.ok (eh S aa (run aG) ⟨b,q,by rw[Nat.add_assoc],aK⟩)
  ·rename_i o s t k p ch;rw[ch] at bL;obtain⟨b,aG,aK⟩:=bL;exact Holds.ok (eh S aa (run aG) ⟨b,by rw[Nat.add_assoc],aK⟩)
  ·exact .fail
end
section
variable {P:Program}{U:World}{Z:List Nat}{X:Nat->Prop}{F:Nat->Value}{st:ao}{M:Array Value}{w:World}{D:Oper}
theorem akB(S:az U Z X F st M w){C:Ctx}(H:CtxOk P C){T:TypeId}{a x:Operand}{v:b5}(aP:D.op=.store T a x)(aa:cE st D.dst=true)(hk:(C.tt T).known=true)(hv:mQ (bj C st T x)=some v):
  Holds (tq (C.tt T).size st (bj C st T a) v) (c7 P U Z X st M w D):=by
 have hn:=Hv hk;have sa:=dX S C T a;have hex:=dX S C T x;rw[qQ hv] at hex;have hex:hU F st.sites w (aN X F st.sites) v (Act.eval ⟨M,[]⟩ x):=hex;have run:∀{b p:Nat} {cur:List Value} {gW:TypeId} {u:Bool} {fz:Nat×Nat},Act.eval ⟨M,[]⟩ a=.pointer (some ⟨b,p,none⟩)->w.heap[b]? =some (.cells cur.toArray gW fz)->nQ u gW cur.toArray fz->(Act.eval ⟨M,[]⟩ x).cells.toList.length=(C.tt T).size->
   p+(Act.eval ⟨M,[]⟩ x).cells.toList.length<=cur.length->(∀u∈(Act.eval ⟨M,[]⟩ x).cells.toList,u.oneCell'=true)->
   (execOp (Act.eval ⟨M,[]⟩) D).run P w=.ok .skip (w.setRow b (bZ cur p (Act.eval ⟨M,[]⟩ x).cells.toList).toArray):=by
  intro b p cur gW u fz h1 h2 hz h3 aD bn;unfold execOp;simp only[aP,h1,Instr.storeAt,Instr.sureAddr,Sem.run_bind,Sem.run_pure,Result.andThen_ok,OU (H.tt T) hn h2 hz h3 aD bn]
 unfold tq;cases hlen:v.cells.length.beq (C.tt T).size with
 |false=>simp only[ak];exact .fail
 |true=>
  have wT:=ce hlen;simp only[ad];split
  ·rename_i o s off ch;rw[ch] at sa;split
   ·rename_i cells hb;cases hc:(Nat.ble (off+(C.tt T).size) cells.length&&ia v.cells) with
    |false=>simp only[ak];exact .fail
    |true=>
     simp only[ad];simp only[bz] at hc;have hle:=Nat.le_of_ble_eq_true hc.1;have hl:=hex.cells hc.2;obtain⟨b,gW,cur,h1,h2,h3,cA⟩:=S.akD (hC hb) sa hl (by rw[wT];exact hle) (hl.j4 hc.2) hc.2
     exact Holds.f_ (yW (us:=[(o,.box s (bZ cells off v.cells))]) cA aa (run (u:=false) h1 h2 ⟨(fun h=>by cases h),.inl rfl⟩ (by rw[hl.1];exact wT) h3 (hl.j4 hc.2)))
   ·exact .fail
  ·rename_i o s u k off ch;rw[ch] at sa;split
   ·rename_i aQ t xs g_;have tB:look st.sites o=some (.row aQ t xs):=g_;cases hc:(aQ.beq s&&Nat.ble (off+(C.tt T).size) (bh t)&&decide (t=u)) with
    |false=>simp only[ak];exact .fail
    |true=>
     simp only[ad];simp only[bz,dW] at hc;obtain⟨⟨hc1,sd⟩,rfl⟩:=hc;have:=ce hc1;subst this;have hle:=Nat.le_of_ble_eq_true sd;split
     ·rename_i ds us ho;cases lj:(look us o).isNone with
      |false=>simp only[ak];exact .fail
      |true=>
       simp only[ad];refine Holds.il fun iQ qn=>?_
       have xb:((xs[k]?).bind fun x=>dec t (bZ (enc t x) off ds))=some iQ:=qn
       cases MP:xs[k]? with
       |none=>rw[MP] at xb;cases xb
       |some yq=>
        rw[MP] at xb;have kH:dec t (bZ (enc t yq) off ds)=some iQ:=xb;have hfz:=Jy ho;have aW:lE U Z X F st M w us:=⟨S,hfz⟩;have ej:ia v.cells=true:=by
         clear hlen wT qn xb kH lj hfz aW;revert ho
         generalize v.cells=al;intro ho;induction al generalizing ds us with
         |nil=>rfl
         |cons l al ih=>
          simp only[gC] at ho;split at ho
          ·rename_i d aeb ln sw h1 h2;simp only[ia,bz];refine⟨?_,ih _ _ h2⟩;unfold kn at h1;split at h1<;>first|rfl|cases h1
          ·cases ho
        have hl:=hex.cells ej;have hr:=BS ho hl aW (fun p hp=>hp)
        have hdl:ds.length=(C.tt T).size:=by
         have:=hr.1;rw[hl.1] at this;omega
        have Lw:look (bB st.sites us) o=some (.row aQ t xs):=by
         rcases mq hfz o with h|⟨s2,t2,aCW,h,an⟩
         ·rw[h];exact tB
         ·exfalso
          have:∀(us:List (Nat×Site)) (sites:List (Nat×Site)),look us o=none->look (bB sites us) o=look sites o:=by
           intro us;induction us with
           |nil=>intro sites _;rfl
           |cons p us ih=>
            obtain⟨ae,ai⟩:=p;intro sites C_;simp only[look] at C_;cases hb:ae.beq o with
            |true=>simp[hb] at C_
            |false=>
             simp only[hb,ak] at C_;simp only[bB];rw[ih _ C_,dn,if_neg];rintro rfl;simp at hb
          have h3:=this us st.sites (by simpa using lj)
          rw[an,tB] at h3;cases h3
        have aus:=aW.go (a:=.av (.aq (.fr o aQ t k off))) sa;obtain⟨b,gW,cur,fz,h1,h2,hz,h3,cA⟩:=aW.new.akC Lw aus MP (BR _ _ _ kH) hr (by rw[hdl];exact hle) (hl.j4 ej)
        refine yW (a_:=F) (us:=us++[(o,.row aQ t (xs.set k iQ))]) ?_ aa (run h1 h2 hz (by rw[hl.1];exact wT) h3 (hl.j4 ej))
        rw[lG];exact cA
     ·exact .fail
   ·exact .fail
  ·exact .fail
theorem af2(S:az U Z X F st M w){C:Ctx}(H:CtxOk P C){T e:TypeId}{t:bi}{bytes:Nat}{x i:Operand}{k:IntKind}{n:Int}(bp:C.tt T=.slice e t bytes)(hi:bj C st 0 i=.av (.aq (.d (.int k n))))(aP:D.op=.indexAddr T x i)
  (aa:cE st D.dst=true):
  Holds (sP t st (bj C st T x) n) (c7 P U Z X st M w D):=by
 obtain⟨fZ,inf,z,k8,kc,Nb,uT,hzs,_⟩:=yZ H bp;have xf:=ky S hi;have bL:=dX S C T x;have run:∀{a:Addr} {len cap:Nat},Act.eval ⟨M,[]⟩ x=.slice (some a) len cap->0<=n->n<len->(execOp (Act.eval ⟨M,[]⟩) D).run P w=.ok (.value (.pointer (some (a.add (n.toNat*bh t))))) w:=by
  intro a len cap hx h0 h1;unfold execOp;simp[aP,hx,xf,Instr.indexAt,asIntOf,run_underlying fZ,h0,h1,sizeOf,lF k8,kc]
 unfold sP;split
 ·rename_i u xs ch;split;case isFalse=>exact .fail
  rename_i o4;subst o4;rw[ch] at bL;have bL:bU w (aN X F st.sites) (.sl u xs) (Act.eval ⟨M,[]⟩ x):=bL;refine Holds.eR fun y hy=>?_
  have ez:aS xs n=some y:=hy;unfold aS at ez;split at ez
  ·rename_i h0;have hlt:n.toNat<xs.length:=by
    rcases Nat.lt_or_ge n.toNat xs.length with h|h
    ·exact h
    ·rw[List.getElem?_eq_none h] at ez;cases ez
   generalize hx:Act.eval ⟨M,[]⟩ x=v at bL;cases bL with
   |nil=>simp at hlt
   |sl _ _ a cap cs m hm hcap hb hl hc hr=>
    subst hm;have hne:xs≠[]:=by rintro rfl;simp at hlt
    have hrow:dl w (aN X F st.sites) (flat u xs) cs:=⟨hl,hr⟩;have kj:a.spot=none:=by
     have nO:0<cs.length:=by rw[hl,fu];exact Nat.mul_pos (List.length_pos_iff.mpr hne) (mz u)
     have h1:=hc 0 cs[0] (d_ nO);have h2:a.add 0=a:=by unfold Addr.add;simp
     rw[h2] at h1;unfold World.cell? at h1;split at h1
     ·cases hs:a.spot with
      |none=>rfl
      |some _=>simp[hs] at h1
     ·cases h1
    obtain⟨pn,E4,azD⟩:=a;simp only at kj;subst kj;have hcs:iE w pn E4 cs:=fun j v hv=>by have:=hc j v hv;rwa[hK] at this
    refine eh S aa (run hx h0 (by omega)) ?_
    rw[hK];have iP:=vt u xs n.toNat y ez;have arL:=(hcs.drop (n.toNat*bh u)).take (bh u);have kk:=((ig (F:=F) (sites:=st.sites) hl hr).drop (n.toNat*bh u)).take (bh u);have e2:((cT (flat u xs)).drop (n.toNat*bh u)).take (bh u)=cT (enc u y):=by
     rw[<-iP];simp[cT,List.map_drop,List.map_take]
    rw[e2] at kk;have ek:=jF kk;have hlt2:pn<w.heap.size:=by
     have nO:0<cs.length:=by rw[hl,fu];exact Nat.mul_pos (List.length_pos_iff.mpr hne) (mz u)
     exact World.block_lt_of_cell? w _ (hcs 0 cs[0] (d_ nO))
    exact⟨pn,E4+n.toNat*bh u,by rw[Nat.add_zero],hb hne,hlt2,_,ek.1,arL,ek.2⟩
  ·cases ez
 ·rename_i o s ch;rw[ch] at bL;split
  ·rename_i u xs hrow;split;case isFalse=>exact .fail
   rename_i o4;subst o4;refine Holds.eR fun y hy=>?_
   have ez:bf xs.length n=some y:=hy;unfold bf at ez;split at ez
   ·rename_i hb;cases ez;obtain⟨cs,hl,hcell⟩:=S.row hrow;have ej:∃ai,look st.sites o=some ai/\ai.cL=s:=by
     rcases ks hrow with h|h<;>exact⟨_,h,rfl⟩
    obtain⟨ai,iP,mf⟩:=ej;have hv:Act.eval ⟨M,[]⟩ x=F o:=Ref.at bL.2 iP mf;rcases hcell with⟨hn,oY⟩|⟨b,c,dd,acW,_⟩
    ·subst oY;simp at hb;omega
    ·refine eh S aa (run (by rw[hv];exact dd) hb.1 hb.2) ?_
     rw[hK,Nat.zero_add];exact⟨b,by rw[Nat.add_zero],Ref.mk iP mf ⟨_,_,dd⟩⟩
   ·cases ez
  ·exact .fail
 ·exact .fail
end
section
variable {P:Program}{U:World}{Z:List Nat}{X:Nat->Prop}{F:Nat->Value}{st:ao}{M:Array Value}{w:World}{D:Oper}
theorem SV(S:az U Z X F st M w){C:Ctx}{df:Option Operand}{l' l:Int}(h:jk l' (df.map (bj C st 0))=some l):
  (df=none/\l=l')\/∃x k,df=some x/\Act.eval ⟨M,[]⟩ x=.int k l:=by
 cases df with
 |none=>simp only[Option.map_none,jk,bH] at h;exact .inl ⟨rfl,h.symm⟩
 |some x=>
  simp only[Option.map_some] at h;generalize hx:bj C st 0 x=v at h;unfold jk at h;split at h
  ·rename_i ch;cases ch
  ·rename_i k n ch;cases h;cases ch;exact .inr ⟨x,k,rfl,ky S hx⟩
  ·cases h
theorem np(t:bi)(xs:List (den t))(n:Nat):flat t (xs.take n)=(flat t xs).take (n*bh t):=by
 rcases Nat.lt_or_ge xs.length n with h|h
 ·rw[List.take_of_length_le (Nat.le_of_lt h),List.take_of_length_le (by rw[fu];exact Nat.mul_le_mul_right _ (Nat.le_of_lt h))]
 ·have:=sM t (xs.take n) (xs.drop n);rw[List.take_append_drop] at this;rw[this,List.take_left' (by rw[fu,List.length_take,Nat.min_eq_left h])]
theorem Rq(t:bi)(xs:List (den t))(n:Nat):flat t (xs.drop n)=(flat t xs).drop (n*bh t):=by
 rcases Nat.lt_or_ge xs.length n with h|h
 ·rw[List.drop_eq_nil_of_le (Nat.le_of_lt h),List.drop_eq_nil_of_le (by rw[fu];exact Nat.mul_le_mul_right _ (Nat.le_of_lt h))]
  rfl
 ·have:=sM t (xs.take n) (xs.drop n);rw[List.take_append_drop] at this;rw[this,List.drop_left' (by rw[fu,List.length_take,Nat.min_eq_left h])]
theorem FH{P:Program}{w:World}(isSlice:Bool)(len cap:Nat)(df hi:Option Value)(l h:Int)(gE:(df=none/\l=0)\/∃k,df=some (.int k l))(hhi:(hi=none/\h=len)\/∃k,hi=some (.int k h))
  (h0:0<=l) (h1:l<=h) (h2:h<=len) (hc:len<=cap):(Instr.sliceBounds isSlice len cap df hi none).run P w=.ok (l.toNat,h.toNat,cap) w:=by
 have bV:0<=h:=by omega
 have acP:h<=cap:=by omega
 have aym:((h.toNat:Nat):Int)=h:=Int.toNat_of_nonneg bV;rcases gE with⟨rfl,rfl⟩|⟨k,rfl⟩<;>rcases hhi with⟨rfl,rfl⟩|⟨k',rfl⟩
 ·simp[Instr.sliceBounds]
 ·simp[Instr.sliceBounds,Instr.sliceBound,asIntOf,bV,acP]
 ·simp[Instr.sliceBounds,Instr.sliceBound,asIntOf,h0,h1]
 ·simp[Instr.sliceBounds,Instr.sliceBound,asIntOf,bV,acP,h0,aym,h1]
theorem akA(s:ByteArray)(l h:Nat)(h2:h<=s.size):(s.extract l h).data.toList=(s.data.toList.take h).drop l:=by
 rw[ByteArray.data_extract,Array.toList_extract];simp[List.extract_eq_take_drop,List.drop_take]
theorem Vf{w:World}{av:Nat->Prop}{t:bi}{xs:List (den t)}{b D:Nat}{cs:List Value}(hb:xs≠[]->¬av b)(hr:dl w av (flat t xs) cs)(hc:iE w b D cs)(l h:Nat)(h1:l<=h)(h2:h<=xs.length)(a:Addr)(fM:Nat)(acY:h-l<=fM)
  (ha:a=⟨b,D+l*bh t,none⟩\/l=h) (acZ:a.block=b):bU w av (.sl t ((xs.take h).drop l)) (.slice (some a) (h-l) fM):=by
 have hlen:((xs.take h).drop l).length=h-l:=by simp;omega
 by_cases acJ:l=h
 ·subst acJ;have:(xs.take l).drop l=[]:=fO (by rw[hlen];omega)
  rw[this];exact .sl t [] a fM [] _ (by simp) acY (fun hx=>absurd rfl hx) rfl (fun j u hu=>by simp at hu) (fun j h=>by simp[flat] at h)
 ·rcases ha with ha|ha
  ·subst ha;have hf:flat t ((xs.take h).drop l)=((flat t xs).take (h*bh t)).drop (l*bh t):=by
    rw[Rq,np]
   have kk:=((ig (F:=fun _=>undef) (sites:=[]) hr.1 hr.2).take (h*bh t)).drop (l*bh t)
   have e2:((cT (flat t xs)).take (h*bh t)).drop (l*bh t)=cT (flat t ((xs.take h).drop l)):=by
    rw[hf];simp[cT,List.map_drop,List.map_take]
   rw[e2] at kk;have dq:=jF kk;refine .sl t _ _ fM _ _ hlen.symm acY (fun hx=>hb ?_) dq.1 (fun j u hu=>?_) dq.2
   ·rintro rfl;simp at hx
   ·rw[hK];exact((hc.take (h*bh t)).drop (l*bh t)) j u hu
  ·exact absurd ha acJ
theorem IG{w:World}{av:Nat->Prop}{t:bi}{xs:List (den t)}{a:Addr}{cs:List Value}(hb:xs≠[]->¬av a.block)(hr:dl w av (flat t xs) cs)(hc:∀j u,cs[j]? =some u->w.cell? (a.add j)=some u)
  (l h cap:Nat) (h1:l<=h) (h2:h<=xs.length) (hcap:xs.length<=cap):
  bU w av (.sl t ((xs.take h).drop l)) (.slice (if cap=l then some a else(some a).map (·.add (l*bh t))) (h-l) (cap-l)):=by
 by_cases hx:xs=[]
 ·subst hx;have:h=0:=by simpa using h2
  subst this;have hl0:l=0:=by omega
  subst hl0;have:((if cap=0 then some a else(some a).map (·.add (0*bh t))):Option Addr)=some a:=by
   split
   ·rfl
   ·simp[Addr.add]
  rw[this];exact .sl t [] a (cap-0) [] 0 rfl (by omega) (fun hx=>absurd rfl hx) rfl (fun j u hu=>by simp at hu) (fun j h=>by simp[flat] at h)
 ·have kj:a.spot=none:=by
   have nO:0<cs.length:=by rw[hr.1,fu];exact Nat.mul_pos (List.length_pos_iff.mpr hx) (mz t)
   have h1:=hc 0 cs[0] (d_ nO);have h2:a.add 0=a:=by unfold Addr.add;simp
   rw[h2] at h1;unfold World.cell? at h1;split at h1
   ·cases hs:a.spot with
    |none=>rfl
    |some _=>simp[hs] at h1
   ·cases h1
  obtain⟨pn,E4,azD⟩:=a;simp only at kj;subst kj;have hcs:iE w pn E4 cs:=fun j v hv=>by have:=hc j v hv;rwa[hK] at this
  split
  ·rename_i e;exact Vf hb hr hcs l h h1 h2 _ _ (by omega) (.inr (by omega)) rfl
  ·simp only[Option.map_some,hK];exact Vf hb hr hcs l h h1 h2 _ _ (by omega) (.inl rfl) rfl
theorem QN{v:bb}{us nS:List (Nat×Site)}(e:bB st.sites us=bB st.sites nS)(h:c7 P U Z X st M w D v us):c7 P U Z X st M w D v nS:=by
 have:st.dh D.dst v nS=st.dh D.dst v us:=by cases D.dst<;>simp only[ao.dh,ao.vO,e]
 intro K Q b6;rw[this] at b6;exact h K Q b6
theorem akH(S:az U Z X F st M w){C:Ctx}(H:CtxOk P C){T:TypeId}{x:Operand}{df hi:Option Operand}(aP:D.op=.slice T x df hi none)(aa:cE st D.dst=true):
  Holds (tu (C.tt T) st (bj C st T x) (df.map (bj C st 0)) (hi.map (bj C st 0))) (c7 P U Z X st M w D):=by
 have bL:=dX S C T x;have rL:∀{df:Option Operand} {l' l:Int},jk l' (df.map (bj C st 0))=some l->(df.map (Act.eval ⟨M,[]⟩)=none/\l=l')\/∃k,df.map (Act.eval ⟨M,[]⟩)=some (.int k l):=by
  intro df l' l h;rcases SV S h with⟨rfl,an⟩|⟨x,k,rfl,an⟩
  ·exact .inl ⟨rfl,an⟩
  ·exact .inr ⟨k,by simp[an]⟩
 have runs:∀{vv:Value},(Instr.sliceAt T (Act.eval ⟨M,[]⟩ x) (df.map (Act.eval ⟨M,[]⟩)) (hi.map (Act.eval ⟨M,[]⟩)) none).run P w=.ok vv w->(execOp (Act.eval ⟨M,[]⟩) D).run P w=.ok (.value vv) w:=by
  intro vv h;unfold execOp;simp only[aP,Option.map_none,Sem.run_bind,h,Result.andThen_ok,Sem.run_pure]
 have wL:∀{e:TypeId} {t:bi} {bytes:Nat} {a:Option Addr} {len cap:Nat} {l h:Int},C.tt T=.slice e t bytes->Act.eval ⟨M,[]⟩ x=.slice a len cap->jk 0 (df.map (bj C st 0))=some l->jk len (hi.map (bj C st 0))=some h->
   0<=l->l<=h->h<=len->len<=cap->(execOp (Act.eval ⟨M,[]⟩) D).run P w=.ok (.value (.slice (if cap=l.toNat then a else a.map (·.add (l.toNat*bh t))) (h.toNat-l.toNat) (cap-l.toNat))) w:=by
  intro e t bytes a len cap l h bp hx gE hhi h0 h1 h2 hc;obtain⟨fZ,inf,z,k8,kc,_⟩:=yZ H bp;refine runs ?_
  have hb:=FH (P:=P) (w:=w) true len cap (df.map (Act.eval ⟨M,[]⟩)) (hi.map (Act.eval ⟨M,[]⟩)) l h (rL gE) (rL hhi) h0 h1 h2 hc;simp only[Instr.sliceAt,Instr.slice,Sem.run_bind,run_underlying fZ,Result.andThen_ok,hx,hb,sizeOf,lF k8,kc,Sem.run_pure]
 unfold tu;split
 ·rename_i s ch;rw[ch] at bL;obtain⟨b,hx,hs⟩:=gX bL;split
  ·rename_i l h bp gE hhi;have bY:=H.tt T;rw[bp] at bY;refine Holds.eR fun r hr=>?_
   have dq:bq s l h=some r:=hr;unfold bq at dq;split at dq
   ·rename_i hb;obtain⟨h0,h1,h2⟩:=hb;cases dq;have hsz:s.length=b.size:=by rw[<-hs];rfl
    rw[hsz] at h2 hhi;refine eh S aa (vv:=.string (b.extract l.toNat h.toNat)) (runs ?_) (.str _ _ ?_)
    ·have hb:=FH (P:=P) (w:=w) false b.size b.size (df.map (Act.eval ⟨M,[]⟩)) (hi.map (Act.eval ⟨M,[]⟩)) l h (rL gE) (rL hhi) h0 h1 h2 (Nat.le_refl _);simp[Instr.sliceAt,Instr.slice,run_underlying bY.1,hx,hb]
    ·rw[akA b _ _ (by omega),hs]
   ·cases dq
  ·exact .fail
 ·rename_i t xs ch;rw[ch] at bL;have bL:bU w (aN X F st.sites) (.sl t xs) (Act.eval ⟨M,[]⟩ x):=bL;split
  ·rename_i e u bytes l h bp gE hhi;split;case isFalse=>exact .fail
   rename_i o4;subst o4;refine Holds.eR fun r hr=>?_
   have dq:bq xs l h=some r:=hr;unfold bq at dq;split at dq
   ·rename_i hb;obtain⟨h0,h1,h2⟩:=hb;cases dq;generalize hx:Act.eval ⟨M,[]⟩ x=v at bL;cases bL with
    |nil=>
     have bV:h=0:=by simp at h2;omega
     have hl:l=0:=by omega
     subst bV hl;refine eh S aa (wL bp hx gE hhi h0 h1 h2 (Nat.le_refl _)) ?_
     simp only[List.take_nil,List.drop_nil];exact bU.nil t
    |sl _ _ a cap cs m hm hcap hb hl hc hr=>
     subst hm;refine eh S aa (wL bp hx gE hhi h0 h1 h2 hcap) ?_
     exact IG hb ⟨hl,hr⟩ hc l.toNat h.toNat cap (by omega) (by omega) hcap
   ·cases dq
  ·exact .fail
 ·rename_i t ch;rw[ch] at bL;have hx:Act.eval ⟨M,[]⟩ x=.slice none 0 0:=bL;split
  ·rename_i e u bytes l h bp gE hhi;refine Holds.eR fun r hr=>?_
   have dq:bq ([]:List (den t)) l h=some r:=hr;unfold bq at dq;split at dq
   ·rename_i hb;obtain⟨h0,h1,h2⟩:=hb;cases dq;have bV:h=0:=by simp at h2;omega
    have hl:l=0:=by omega
    subst bV hl;refine eh S aa (wL bp hx gE hhi h0 h1 h2 (Nat.le_refl _)) ?_
    simp only[List.take_nil,List.drop_nil];exact bU.nil t
   ·cases dq
  ·exact .fail
 ·rename_i o s ch;rw[ch] at bL;split
  ·rename_i t xs hrow;split
   ·rename_i e u bytes l h bp gE hhi;split;case isFalse=>exact .fail
    rename_i o4;subst o4;refine Holds.il fun r hr=>?_
    have dq:bq xs l h=some r:=hr;unfold bq at dq;split at dq
    ·rename_i hb;obtain⟨h0,h1,h2⟩:=hb;cases dq;refine QN (us:=[(o,.dG s t xs)]) (SM hrow).symm ?_
     have hfz:ei st.sites [(o,.dG s t xs)]:=by
      intro ae ai hm;simp only[List.mem_singleton,Prod.mk.injEq] at hm;obtain⟨rfl,rfl⟩:=hm;exact⟨s,t,xs,rfl,ks hrow⟩
     have aW:lE U Z X F st M w [(o,.dG s t xs)]:=⟨S,hfz⟩;have M7:=Fa hfz (List.mem_singleton.2 rfl);obtain⟨ek,Xl⟩:=aW.new.sites o _ M7;have hv:Act.eval ⟨M,[]⟩ x=F o:=by
      rcases ks hrow with h1|h1<;>exact Ref.at bL.2 h1 rfl
     generalize hx:F o=v at ek Xl;rw[hx] at hv;cases ek with
     |nil=>
      have bV:h=0:=by simp at h2;omega
      have hl:l=0:=by omega
      subst bV hl;refine lH (us:=[(o,.dG s t [])]) aW.new aa (wL bp hv gE hhi h0 h1 h2 (Nat.le_refl _)) ?_
      simp only[List.take_nil,List.drop_nil];exact bU.nil t
     |sl _ _ a cap cs m hm hcap hb hl hc hr=>
      subst hm;refine lH (us:=[(o,.dG s t xs)]) aW.new aa (wL bp hv gE hhi h0 h1 h2 hcap) ?_
      exact IG hb ⟨hl,hr⟩ hc l.toNat h.toNat cap (by omega) (by omega) hcap
    ·cases dq
   ·exact .fail
  ·exact .fail
 ·exact .fail
end
section
variable {P:Program}{U:World}{Z:List Nat}{X:Nat->Prop}{F:Nat->Value}{st:ao}{M:Array Value}{w:World}{D:Oper}
theorem TP{av:Nat->Prop}{o s:Nat}{t:bi}{xs:List (den t)}{v:Value}(h:cy F st.sites w av (cf (.own o s)) v)(hr:rowOf st o s=some ⟨t,xs⟩):v=F o:=by
 rcases ks hr with h1|h1<;>exact Ref.at h.2 h1 rfl
theorem TW(S:az U Z X F st M w){l:aU}{v:Value}{t:bi}{es:List (B×den t)}(h:ey F st.sites w (aN X F st.sites) l v)(hm:mapOf st l=some ⟨t,es⟩):
  (v=.map none/\es=[])\/∃b,v=.map (some b)/\mI w b t es:=by
 unfold mapOf at hm;split at hm
 ·cases hm;have h:bU w (aN X F st.sites) (.map t es) v:=h;cases h with
  |w9=>exact .inl ⟨rfl,rfl⟩
  |map _ _ b hb hm=>exact .inr ⟨b,rfl,hm⟩
 ·rename_i o s;split at hm
  ·rename_i aQ u u0 hl;cases hb:aQ.beq s with
   |false=>rw[hb] at hm;cases hm
   |true=>
    rw[hb] at hm;have hs:=ce hb;subst hs;cases hm;have hl:look st.sites o=some (.map aQ _ es):=hl;have hv:v=F o:=Ref.at h.2 hl rfl;obtain⟨b,h1,h2⟩:=S.sites o _ hl;exact .inr ⟨b,hv.trans h1,h2⟩
  ·cases hm
 ·cases hm
theorem mI.size{b:Nat}{t:bi}{es:List (B×den t)}{arr:Array MapEntry}(h:nB arr=kA t es):arr.size=es.length:=by
 have:=congrArg List.length h;simpa[nB,kA] using this
theorem apQ(S:az U Z X F st M w){C:Ctx}(H:CtxOk P C){T:TypeId}{x:Operand}(aP:D.op=.call {callee:=.builtin .len,args:=#[x],argTypes:=#[T]})(aa:cE st D.dst=true):
  Holds (uj (C.tt T) st (bj C st T x)) (c7 P U Z X st M w D):=by
 have bL:=dX S C T x;have bY:=H.tt T;have run:∀{vv:Value},(Builtin.len_ #[T] D.type #[Act.eval ⟨M,[]⟩ x]).run P w=.ok vv w->(execOp (Act.eval ⟨M,[]⟩) D).run P w=.ok (.value vv) w:=by
  intro vv h;unfold execOp;simp only[aP,resolve,invoke,builtin,Sem.run_bind,Sem.run_pure,Result.andThen_ok,List.map_toArray,List.map_cons,List.map_nil,h]
 unfold uj;split
 ·rename_i s bp ch;rw[ch] at bL;rw[bp] at bY;obtain⟨b,hx,hs⟩:=gX bL;refine Holds.ok (eh S aa (run (vv:=.int .i64 s.length) ?_) (.int _ _));have:s.length=b.size:=by rw[<-hs];rfl
  simp[Builtin.len_,hx,run_underlying bY.1,goInt,this]
 ·rename_i e t b u xs bp ch;rw[ch] at bL;rw[bp] at bY;have bL:bU w (aN X F st.sites) (.sl u xs) (Act.eval ⟨M,[]⟩ x):=bL;refine Holds.ok (eh S aa (run (vv:=.int .i64 xs.length) ?_) (.int _ _));generalize Act.eval ⟨M,[]⟩ x=v at bL;cases bL with
  |nil=>simp[Builtin.len_,run_underlying bY.1.1,goInt]
  |sl _ _ a cap cs n hn hcap hb hl hc hr=>simp[Builtin.len_,run_underlying bY.1.1,goInt,hn]
 ·rename_i e t b u bp ch;rw[ch] at bL;rw[bp] at bY;have hx:Act.eval ⟨M,[]⟩ x=.slice none 0 0:=bL;exact Holds.ok (eh S aa (run (vv:=.int .i64 0) (by simp[Builtin.len_,hx,run_underlying bY.1.1,goInt])) (.int _ _))
 ·rename_i e t b o s bp ch;rw[ch] at bL;rw[bp] at bY;split
  ·rename_i u xs hrow;have hv:=TP bL hrow;refine Holds.ok (eh S aa (run (vv:=.int .i64 xs.length) ?_) (.int _ _));obtain⟨cs,_,hc⟩:=S.row hrow;rcases hc with⟨h1,h2⟩|⟨bS,c,h1,_⟩
   ·subst h2;simp[Builtin.len_,hv,h1,run_underlying bY.1.1,goInt]
   ·simp[Builtin.len_,hv,h1,run_underlying bY.1.1,goInt]
  ·exact .fail
 ·rename_i iz lA u l bp ch;rw[ch] at bL;rw[bp] at bY;split
  ·rename_i b8 es hm;refine Holds.ok (eh S aa (run (vv:=.int .i64 es.length) ?_) (.int _ _));rcases TW S bL hm with⟨h1,rfl⟩|⟨b,h1,arr,c,h2,h3⟩
   ·simp[Builtin.len_,h1,run_underlying bY.1.1,goInt]
   ·have hsz:=mI.size (b:=b) h3;simp[Builtin.len_,h1,run_underlying bY.1.1,goInt,MapKept.run_getObj_map h2,hsz,Result.andThen]
  ·exact .fail
 ·exact .fail
theorem alP(S:az U Z X F st M w){C:Ctx}(H:CtxOk P C){T:TypeId}{x i:Operand}{s:B}{k:IntKind}{n:Int}(aP:D.op=.index T x i)(aa:cE st D.dst=true)(bp:C.tt T=.str)
  (hx:bj C st T x=.av (.aq (.d (.str s)))) (hi:bj C st 0 i=.av (.aq (.d (.int k n)))):Holds (.eR (aS s n) fun b=>one (.int .u8 b.toNat)) (c7 P U Z X st M w D):=by
 have bY:=H.tt T;rw[bp] at bY;obtain⟨b,hb,hs⟩:=ap7 S hx;have hn:=ky S hi;refine Holds.eR fun y hy=>?_
 have ez:aS s n=some y:=hy;unfold aS at ez;split at ez
 ·rename_i h0;refine eh S aa (vv:=.int .u8 y.toNat) ?_ (.int _ _);have un:b[n.toNat]? =some y:=by
   have:n.toNat<s.length:=by
    rcases Nat.lt_or_ge n.toNat s.length with h|h
    ·exact h
    ·rw[List.getElem?_eq_none h] at ez;cases ez
   rw[<-hs] at ez this;have hsz:n.toNat<b.size:=this;rw[getElem?_pos b n.toNat hsz];rw[d_ this] at ez;have h3:b.data[n.toNat]=y:=by simpa using ez
   rw[<-h3];rfl
  unfold execOp;simp[aP,hb,hn,Instr.index,asIntOf,run_underlying bY.1,h0,un]
 ·cases ez
theorem bytes_beq(x y:ByteArray):(x==y)=(x.data.toList==y.data.toList):=by
 obtain⟨a⟩:=x;obtain⟨b⟩:=y;have h:((⟨a⟩:ByteArray)==⟨b⟩)=(a==b):=rfl;rw[h,Bool.eq_iff_iff];simp
theorem al0:∀{z al:List aU} {vs:List Value},rN z al=true->cN F st.sites w (aN X F st.sites) al vs->qh z vs=true:=by
 intro z;induction z with
 |nil=>
  intro al vs h h1;cases al with
  |nil=>rw[h1.oC];rfl
  |cons l al=>cases h
 |cons c z ih=>
  intro al vs h h1;unfold rN at h;split at h
  ·rename_i hz;cases hz
  ·rename_i ch;cases ch;obtain⟨v,cH,rfl,a1,a2⟩:=h1.inv;rw[iW a1];exact ih h a2
  ·rename_i ch;cases ch;obtain⟨v,cH,rfl,a1,a2⟩:=h1.inv;rw[j6 a1];exact ih h a2
  ·rename_i ch;cases ch;obtain⟨v,cH,rfl,a1,a2⟩:=h1.inv;obtain⟨x,rfl,hx⟩:=gX a1;exact ih h a2
  ·cases h
theorem ag0:∀{al jy:List aU} {vs us:List Value} {b:Bool},wg al jy=some b->cN F st.sites w (aN X F st.sites) al vs->cN F st.sites w (aN X F st.sites) jy us->j3 vs us=some b:=by
 have leaf:∀{d e:bk} {v u:Value} {b:Bool} {av:Nat->Prop},Cl d e=some b->bU w av d v->bU w av e u->oA v u=some b:=by
  intro d e v u b av h h1 h2;unfold Cl at h;split at h
  ·rw[iW h1,iW h2];exact h
  ·rw[j6 h1,j6 h2];exact h
  ·obtain⟨x,rfl,hx⟩:=gX h1;obtain⟨y,rfl,hy⟩:=gX h2;subst hx hy;cases h;show some (x==y)=some (x.data.toList==y.data.toList);rw[bytes_beq]
  ·cases h
 intro al;induction al with
 |nil=>intro jy vs us b h _ _;cases jy<;>simp[wg] at h
 |cons l al ih=>
  intro jy vs us b h h1 h2;obtain⟨v,cH,rfl,a1,a2⟩:=h1.inv;unfold wg at h;split at h
  ·rename_i d e ch;cases ch;obtain⟨u,nS,rfl,b1,b2⟩:=h2.inv;rw[a2.oC,b2.oC];exact leaf h a1 b1
  ·rename_i d ds e es hne ch;cases ch;obtain⟨u,nS,rfl,b1,b2⟩:=h2.inv;split at h
   ·rename_i x y hx hy;cases h;have e1:=leaf hx a1 b1;have e2:=ih hy a2 b2;match cH,nS,e2 with
    |[],[],e2=>simp[j3] at e2
    |[],_::_,e2=>simp[j3] at e2
    |_::_,[],e2=>simp[j3] at e2
    |v2::aCX,u2::aCY,e2=>rw[j3,e1,e2];simp
   ·cases h
  ·cases h
theorem run_equal_bool{T:TypeId}(h:P.underlying T=some .bool)(a b:Bool):(Op.equal T (.bool a) (.bool b)).run P w=.ok (a==b) w:=by
 have e:Op.maxDepth=9999+1:=rfl;unfold Op.equal;rw[e];unfold Op.equalIn;simp only[Sem.run_bind,run_underlying h,Result.andThen_ok,Sem.run_pure]
theorem run_eql_bool{T:TypeId}(h:P.underlying T=some .bool)(a b:Bool):(binOp .eql T (.bool a) (.bool b)).run P w=.ok (.bool (a==b)) w:=by
 show((do pure (.bool (<-Op.equal T (.bool a) (.bool b)))):Sem Value).run P w=_
 simp only[Sem.run_bind,run_equal_bool h,Result.andThen_ok,Sem.run_pure]
theorem run_neq_bool{T:TypeId}(h:P.underlying T=some .bool)(a b:Bool):(binOp .neq T (.bool a) (.bool b)).run P w=.ok (.bool (!(a==b))) w:=by
 show((do pure (.bool (!(<-Op.equal T (.bool a) (.bool b))))):Sem Value).run P w=_
 simp only[Sem.run_bind,run_equal_bool h,Result.andThen_ok,Sem.run_pure]
theorem aor(S:az U Z X F st M w){C:Ctx}(H:CtxOk P C){op:BinOp}{T n':TypeId}{x y:Operand}(aP:D.op=.binOp op T x y n')(aa:cE st D.dst=true):
  Holds (LL op (C.tt T) (bj C st T x) (bj C st T y)) (c7 P U Z X st M w D):=by
 have hx:=dX S C T x;have hy:=dX S C T y;have bY:=H.tt T;have run:∀{vv:Value},(eqGuard op T x y (Act.eval ⟨M,[]⟩ x) (Act.eval ⟨M,[]⟩ y)).run P w=.ok () w->(binOp op T (Act.eval ⟨M,[]⟩ x) (Act.eval ⟨M,[]⟩ y)).run P w=.ok vv w->
   (execOp (Act.eval ⟨M,[]⟩) D).run P w=.ok (.value vv) w:=by
  intro vv h1 h2;unfold execOp;simp only[aP,Sem.run_bind,h1,h2,Result.andThen_ok,Sem.run_pure]
 have plain:∀{r:dA},(eqGuard op T x y (Act.eval ⟨M,[]⟩ x) (Act.eval ⟨M,[]⟩ y)).run P w=.ok () w->Holds r (Plain P w (binOp op T (Act.eval ⟨M,[]⟩ x) (Act.eval ⟨M,[]⟩ y)))->Holds r (c7 P U Z X st M w D):=by
  intro r h1 h2 z hz hc;obtain⟨vv,d,g1,g2,g3,g4⟩:=h2 z hz hc;rw[g2,g3];exact eh S aa (run h1 g1) (g4 _)
 unfold LL;split
 ·rename_i k a k' b hxe hye;rw[hxe] at hx;rw[hye] at hy;refine plain (by rw[iW hx,iW hy];exact aeY _ _ _ _ _ _ _ _) ?_
  rw[iW hx,iW hy];unfold VM;split
  ·refine Holds.eR fun n hn=>?_
   have jc:l4 k a b=some n:=hn;unfold l4 at jc;split at jc
   ·cases jc
   ·rename_i hb;cases jc;exact .mk (by simp[binOp,Op.shift,hb]) fun av=>.int _ _
  ·refine Holds.eR fun n hn=>?_
   have jc:fE k a b=some n:=hn;unfold fE at jc;split at jc
   ·cases jc
   ·rename_i hb;cases jc;exact .mk (by simp[binOp,Op.shift,hb]) fun av=>.int _ _
  ·rename_i h1 h2;split
   ·rename_i hk;subst hk;exact aiQ _ T k a b h1 h2
   ·exact .fail
 ·rename_i s t hxe hye;rw[hxe] at hx;rw[hye] at hy;obtain⟨a,ha,hs⟩:=gX hx;obtain⟨b,hb,ay⟩:=gX hy;subst hs ay;refine plain (by rw[ha,hb];exact aeL _ _ _ _ _ _) ?_
  rw[ha,hb];exact aiO op T a b
 ·rename_i a b hxe hye;rw[hxe] at hx;rw[hye] at hy;unfold Wl;split
  ·rename_i bp;rw[bp] at bY;split
   ·refine plain (by rw[j6 hx,j6 hy];exact OS _ _ _ _ _ _) (Holds.ok ?_)
    rw[j6 hx,j6 hy];exact .mk (run_eql_bool bY.1 _ _) fun av=>.bool _
   ·refine plain (by rw[j6 hx,j6 hy];exact OS _ _ _ _ _ _) (Holds.ok ?_)
    rw[j6 hx,j6 hy];exact .mk (run_neq_bool bY.1 _ _) fun av=>.bool _
   ·exact .fail
  ·exact .fail
 ·rename_i xs bm hxe hye;rw[hxe] at hx;rw[hye] at hy;unfold Xq;split
  ·rename_i b4 n z bp;rw[bp] at bY;cases hl:xs.length.beq n&&rN z xs with
   |false=>exact .fail
   |true=>
    simp only[ad];simp only[bz] at hl;have gR:=ce hl.1;split
    ·rename_i b hb;obtain⟨vs,hv,qp,qo⟩:=hx;obtain⟨us,hu,MU,MT⟩:=hy;have uV:=ag0 hb ⟨qp,qo⟩ ⟨MU,MT⟩;obtain⟨fields,fZ,_,⟨gF,hz,_,_⟩,ch⟩:=bY;obtain⟨hg,Lx⟩:=ch rfl;have:=Lx vs us b w uV (al0 hl.2 ⟨qp,qo⟩);split
     ·refine plain ?_ (Holds.ok ?_)
      ·rw[hv,hu];simp[eqGuard,hg]
      ·rw[hv,hu];refine .mk (vv:=.bool b) ?_ fun av=>.bool _
       show((do pure (.bool (<-Op.equal T (.agg vs.toArray) (.agg us.toArray)))):Sem Value).run P w=_
       simp only[Sem.run_bind,this,Result.andThen_ok,Sem.run_pure]
     ·refine plain ?_ (Holds.ok ?_)
      ·rw[hv,hu];simp[eqGuard,hg]
      ·rw[hv,hu];refine .mk (vv:=.bool (!b)) ?_ fun av=>.bool _
       show((do pure (.bool (!(<-Op.equal T (.agg vs.toArray) (.agg us.toArray))))):Sem Value).run P w=_
       simp only[Sem.run_bind,this,Result.andThen_ok,Sem.run_pure]
     ·exact .fail
    ·exact .fail
  ·exact .fail
 ·exact .fail
theorem afO{T:TypeId}{jy:Array (String×TypeId)}(ay:P.underlying T=some (.interface jy))(gW:TypeId)(dm:Option Int)(v:Value)(hv:v=match dm with|none=>.nilIface|some n=>.iface gW (.agg #[.int .i64 n])):
  (Op.equal T v .nilIface).run P w=.ok dm.isNone w:=by
 have h:∀d:Nat,(Op.equalIn (d+1) T v .nilIface).run P w=.ok dm.isNone w:=fun d=>by
  subst hv;cases dm<;>simp[Op.equalIn,run_underlying ay]
 exact h 9999
theorem ajT(S:az U Z X F st M w){C:Ctx}(H:CtxOk P C){op:BinOp}{T n':TypeId}{x y:Operand}(aP:D.op=.binOp op T x y n')(aa:cE st D.dst=true)(hn:Cp y=true):
  Holds (Kr op (C.tt T) (bj C st T x)) (c7 P U Z X st M w D):=by
 have hy:y=.const .nilIface:=by
  unfold Cp at hn;split at hn
  ·rfl
  ·cases hn
 subst hy;have hx:=dX S C T x;have bY:=H.tt T;have key:∀(gW:TypeId) (dm:Option Int),(Act.eval ⟨M,[]⟩ x=match dm with|none=>.nilIface|some n=>.iface gW (.agg #[.int .i64 n]))->Holds (Dd op (C.tt T) dm) (c7 P U Z X st M w D):=by
  intro gW dm hv;unfold Dd;split
  ·rename_i bp;rw[bp] at bY;obtain⟨jy,bY⟩:=bY;have he:=afO (P:=P) (w:=w) bY.1 gW dm _ hv;have hg:(eqGuard op T x (.const .nilIface) (Act.eval ⟨M,[]⟩ x) .nilIface).run P w=.ok () w:=by
    rw[hv];cases dm<;>cases op<;>simp[eqGuard]
   split
   ·refine Holds.ok (eh S aa (vv:=.bool dm.isNone) ?_ (.bool _));unfold execOp;simp only[aP,Act.eval,Sem.run_bind,Result.andThen_ok,Sem.run_pure] at hg ⊢;rw[hg];simp only[Result.andThen_ok];have:(binOp .eql T (Act.eval ⟨M,[]⟩ x) .nilIface).run P w=.ok (.bool dm.isNone) w:=by
     have e:binOp .eql T (Act.eval ⟨M,[]⟩ x) .nilIface=(do pure (.bool (<-Op.equal T (Act.eval ⟨M,[]⟩ x) .nilIface))):=by rw[hv];cases dm<;>rfl
     rw[e];simp only[Sem.run_bind,he,Result.andThen_ok,Sem.run_pure]
    simp only[Act.eval] at this;rw[this];rfl
   ·refine Holds.ok (eh S aa (vv:=.bool dm.isSome) ?_ (.bool _));unfold execOp;simp only[aP,Act.eval,Sem.run_bind,Result.andThen_ok,Sem.run_pure] at hg ⊢;rw[hg];simp only[Result.andThen_ok];have:(binOp .neq T (Act.eval ⟨M,[]⟩ x) .nilIface).run P w=.ok (.bool dm.isSome) w:=by
     have e:binOp .neq T (Act.eval ⟨M,[]⟩ x) .nilIface=(do pure (.bool (!(<-Op.equal T (Act.eval ⟨M,[]⟩ x) .nilIface)))):=by rw[hv];cases dm<;>rfl
     rw[e];simp only[Sem.run_bind,he,Result.andThen_ok,Sem.run_pure];cases dm<;>rfl
    simp only[Act.eval] at this;rw[this];rfl
   ·exact .fail
  ·exact .fail
 unfold Kr;split
 ·rename_i gW dm hxe;rw[hxe] at hx;have hx:bU w (aN X F st.sites) (.err gW dm) (Act.eval ⟨M,[]⟩ x):=hx;exact key gW dm (by revert hx;generalize Act.eval ⟨M,[]⟩ x=vv;intro hx;cases hx<;>rfl)
 ·rename_i hxe;rw[hxe] at hx;exact key 0 none hx
 ·exact .fail
theorem aeQ(S:az U Z X F st M w){C:Ctx}(H:CtxOk P C){T:TypeId}{x:Operand}{n:Int}{b4 z q e}(aP:D.op=.makeInterface T x)(aa:cE st D.dst=true)(bp:C.tt T=.struct b4 q z e)
  (hx:bj C st T x=.av (.agg [.d (.int .i64 n)])):c7 P U Z X st M w D (one (.err T (some n))) []:=by
 have bY:=H.tt T;rw[bp] at bY;obtain⟨fields,hu,_⟩:=bY;have bL:=dX S C T x;rw[hx] at bL;obtain⟨vs,h1,h2,h3⟩:=bL;match vs,h2,h1,h3 with
 |[v],_,h1,h3=>
  have hv:=iW (h3 0 (by simp) (by simp))
  simp only[List.getElem_cons_zero] at hv;subst hv;refine eh S aa (vv:=.iface T (.agg #[.int .i64 n])) ?_ (.err _ _);unfold execOp;simp[aP,Instr.makeInterface,run_underlying hu,h1]
end
section
variable {P:Program}{U:World}{Z:List Nat}{X:Nat->Prop}{F:Nat->Value}{st:ao}{M:Array Value}{w:World}{D:Oper}
theorem tm(xs:List Int):flat .u8 xs=xs.map (bk.int .u8):=by
 unfold flat;induction xs with
 |nil=>rfl
 |cons x xs ih=>simp only[List.flatMap_cons,List.map_cons,ih];rfl
theorem Ve{w:World}{av:Nat->Prop}{xs:List Int}{cs:List Value}(h:dl w av (flat .u8 xs) cs):cs=xs.map (Value.int .u8):=by
 obtain⟨h1,h2⟩:=h;rw[tm] at h1;apply List.ext_getElem
 ·rw[h1];simp
 ·intro j g1 g2;have g3:j<xs.length:=by simpa using g2
  have:=h2 j (by rw[tm];simpa using g3) g1
  have e:(flat .u8 xs)[j]'(by rw[tm];simpa using g3)=bk.int .u8 xs[j]:=by simp[tm]
  rw[e] at this;rw[iW this];simp
theorem O6{src dst e:TypeId}{a:Addr}{len cap:Nat}{xs:List Int}(hs:P.underlying src=some (.slice e))(he:P.underlying e=some (.int .u8))(aa:P.underlying dst=some .string)
  (hlen:xs.length=len) (hc:∀j u,(xs.map (Value.int .u8))[j]? =some u->w.cell? (a.add j)=some u):
  ∃b:ByteArray,(convert src dst (.slice (some a) len cap)).run P w=.ok (.string b) w/\b.data.toList=strOf xs:=by
 have hl:(loadCells a len).run P w=.ok (xs.map (Value.int .u8)).toArray w:=by
  have:=run_loadCells_list (P:=P) w a (xs.map (Value.int .u8)) hc;simpa[hlen] using this
 rw[run_convert_bytes_string w src dst e _ len cap hs he aa,run_bytesToString w a len cap xs hl,foldl_push_bytes];exact⟨_,rfl,by simp[strOf]⟩
theorem y6{ti:cu}(h:isByte ti=true):ti=.int .u8:=by
 unfold isByte at h;split at h
 ·rfl
 ·cases h
theorem aj1(s:B):(bytesOf s).length=s.length:=by simp[bytesOf]
theorem ama(S:az U Z X F st M w){C:Ctx}(H:CtxOk P C){src dst:TypeId}{x:Operand}{o:Nat}(aP:D.op=.convert src dst x)(dY:D.dst=some o)(aa:cE st D.dst=true):
  Holds (ub C src dst o st (bj C st src x)) (c7 P U Z X st M w D):=by
 have bL:=dX S C src x;have hs:=H.tt src;have ay:=H.tt dst;have run:∀{vv:Value} {w':World},(convert src dst (Act.eval ⟨M,[]⟩ x)).run P w=.ok vv w'->(execOp (Act.eval ⟨M,[]⟩) D).run P w=.ok (.value vv) w':=by
  intro vv w' h;unfold execOp;simp only[aP,Sem.run_bind,h,Result.andThen_ok,Sem.run_pure]
 have rQ:∀{ti:cu},ti.ok P src->ti≠.none->∃d,P.underlying src=some d:=by
  intro ti h hn;cases ti with
  |none=>exact absurd rfl hn
  |int k=>exact⟨_,h.1⟩
  |bool=>exact⟨_,h.1⟩
  |str=>exact⟨_,h.1⟩
  |ptr=>obtain⟨_,h⟩:=h;exact⟨_,h.1⟩
  |func=>obtain⟨_,_,_,h⟩:=h;exact⟨_,h.1⟩
  |iface=>obtain⟨_,h⟩:=h;exact⟨_,h.1⟩
  |slice e t b=>exact⟨_,h.1.1⟩
  |map k e t=>exact⟨_,h.1.1⟩
  |struct b4 n z eq=>obtain⟨f,h,_⟩:=h;exact⟨_,h⟩
  |arr e t n=>exact⟨_,h.1⟩
 unfold ub;split
 ·exact .fail
 ·rename_i k k' n hk hx hn;rw[hx] at bL;rw[hk] at ay;obtain⟨d,sb⟩:=rQ hs (by rintro h;exact absurd h (by simpa using hn))
  refine Holds.ok (eh S aa (run (vv:=.int k (k.wrap n)) ?_) (.int _ _));rw[iW bL];simp[convert,run_underlying sb,run_underlying ay.1,Conv.intToInt]
 ·rename_i s hk hx hn;rw[hx] at bL;rw[hk] at ay;obtain⟨b,hb,eS⟩:=gX bL;obtain⟨d,sb⟩:=rQ hs (by rintro h;exact absurd h (by simpa using hn))
  refine Holds.ok (eh S aa (run (vv:=.string b) ?_) (.str _ _ eS));rw[hb];simp[convert,run_underlying sb,run_underlying ay.1]
 ·rename_i e b xs fG ry hx;cases km:isByte (C.tt e) with
  |false=>exact .fail
  |true=>
   rw[hx] at bL;rw[ry] at ay;rw[fG] at hs;have he:=H.tt e;rw[y6 km] at he;have bL:bU w (aN X F st.sites) (.sl .u8 xs) (Act.eval ⟨M,[]⟩ x):=bL;have:∃b:ByteArray,(convert src dst (Act.eval ⟨M,[]⟩ x)).run P w=.ok (.string b) w/\b.data.toList=strOf xs:=by
    generalize Act.eval ⟨M,[]⟩ x=v at bL;cases bL with
    |nil=>exact⟨_,run_convert_bytes_nil w src e hs.1.1 he.1 _ _ dst ay.1,rfl⟩
    |sl _ _ a cap cs n hn hcap hb hl hc hr=>
     have:=Ve (xs:=xs) ⟨hl,hr⟩;subst this;exact O6 hs.1.1 he.1 ay.1 hn.symm hc
   obtain⟨b,h1,h2⟩:=this;exact Holds.ok (eh S aa (run h1) (.str _ _ h2))
 ·rename_i e b u fG ry hx;cases km:isByte (C.tt e) with
  |false=>exact .fail
  |true=>
   rw[hx] at bL;rw[ry] at ay;rw[fG] at hs;have he:=H.tt e;rw[y6 km] at he;have bL:Act.eval ⟨M,[]⟩ x=.slice none 0 0:=bL;refine Holds.ok (eh S aa (run (vv:=.string ByteArray.empty) ?_) (.str _ _ rfl));rw[bL];exact run_convert_bytes_nil w src e hs.1.1 he.1 _ _ dst ay.1
 ·rename_i e b ae s fG ry hx;split
  ·rename_i xs hrow;cases km:isByte (C.tt e) with
   |false=>exact .fail
   |true=>
    rw[hx] at bL;rw[ry] at ay;rw[fG] at hs;have he:=H.tt e;rw[y6 km] at he;have hv:=TP bL hrow;have:∃b:ByteArray,(convert src dst (Act.eval ⟨M,[]⟩ x)).run P w=.ok (.string b) w/\b.data.toList=strOf xs:=by
     rw[hv];obtain⟨cs,h1,hc⟩:=S.row hrow;rcases hc with⟨h2,h3⟩|⟨bS,c,h2,h3,aD⟩
     ·subst h3;rw[h2];exact⟨_,run_convert_bytes_nil w src e hs.1.1 he.1 _ _ dst ay.1,rfl⟩
     ·have:=Ve (xs:=xs) (jF h1);subst this;rw[h2];exact O6 hs.1.1 he.1 ay.1 rfl (fun j u hu=>by rw[hK];exact h3 j u hu)
    obtain⟨b,h1,h2⟩:=this;exact Holds.ok (eh S aa (run h1) (.str _ _ h2))
  ·exact .fail
 ·rename_i e b s fG ry hx;cases km:isByte (C.tt e) with
  |false=>exact .fail
  |true=>
   rw[hx] at bL;rw[ry] at ay;rw[fG] at hs;have he:=H.tt e;rw[y6 km] at he;obtain⟨hA,hb,eS⟩:=gX bL;have dL:(convert src dst (Act.eval ⟨M,[]⟩ x)).run P w=.ok (.slice (some ⟨w.heap.size,0,none⟩) hA.size (grownCap w hA.size 0 e)) (Go.Lib.bytesWorld w e hA):=by
    rw[hb];exact Go.Lib.run_convert_string_bytes w src dst e hA hs.1 ay.1.1 he.1
   have hcap:hA.size<=grownCap w hA.size 0 e:=grownCap_ge w hA.size 0 e;refine Holds.il fun r hr=>?_
   have hmax:hA.size<=maxLen:=by
    have hr:(if s.length<=maxLen then some () else none)=some r:=hr
    split at hr
    ·rename_i h;rw[<-eS] at h;simpa using h
    ·cases hr
   have hsz:(Go.Lib.bytesCells w e hA).size=grownCap w hA.size 0 e:=by
    simp only[Go.Lib.bytesCells,Array.size_append,Array.size_map,Array.size_replicate];have:hA.data.size=hA.size:=rfl;omega
   have hlen:hA.size=(bytesOf s).length:=by rw[aj1,<-eS];rfl
   have e5:az U Z X (fun ae=>if ae=o then .slice (some ⟨w.heap.size,0,none⟩) hA.size (grownCap w hA.size 0 e) else F ae) {st with sites:=cI st.sites o (.row (bF st o) .u8 (bytesOf s))} M (Go.Lib.bytesWorld w e hA):=by
    refine S.make (fun b hb=>Go.Lib.bytesWorld_at_old w e hA b hb) rfl rfl rfl (by rw[Go.Lib.bytesWorld_size];omega) (fun ai hs=>mr hs)
     (fun b hb=>by cases hb;exact⟨Nat.le_refl _,by rw[Go.Lib.bytesWorld_size];exact Nat.lt_succ_self _⟩) ?_
    intro b_ a_ gp kF go aCo aCv;refine⟨e,hA.data.toList.map fun b=>Value.int .u8 b.toNat,⟨?_,.inr ⟨_,_,Go.Lib.bytesCells w e hA,_,kF.trans (by rw[hlen]),⟨(fun h=>by obtain⟨_,z,_,_,hq⟩:=ay;exact hq h),.inr ⟨rfl,Nat.le_refl _⟩⟩,Go.Lib.bytesWorld_at_new w e hA,by rw[<-hlen];exact hcap,grownCap_le_maxLen w hA.size 0 e hmax,?_,?_⟩⟩,fun j g1 g2=>?_⟩
    ·rw[List.length_map,<-hlen];exact(Nat.mul_one _).symm
    ·rw[hsz];exact(Nat.mul_one _).symm
    ·have h1:(bytesOf s).length*bh .u8=(hA.data.toList.map fun b=>Value.int .u8 b.toNat).length:=by rw[List.length_map,<-hlen];exact Nat.mul_one _
     rw[h1];simp only[Go.Lib.bytesCells,Array.toList_append,Array.toList_map];exact List.take_left
    ·subst eS;simp only[tm,bytesOf,List.getElem_map];exact .int _ _
   refine lH (us:=[(o,.row (bF st o) .u8 (bytesOf s))]) e5 aa (run dL) ?_
   refine⟨rfl,Ref.mk (ai:=.row (bF st o) .u8 (bytesOf s)) ?_ rfl (by simp)⟩
   simp only[bB,dn];simp
 ·exact .fail
end
section
variable {P:Program}{U:World}{Z:List Nat}{X:Nat->Prop}{F:Nat->Value}{st:ao}{M:Array Value}{w:World}{D:Oper}
theorem TU(S:az U Z X F st M w){C:Ctx}{x:Operand}(aP:D.op=.move x\/D.op=.assign x)(aa:cE st D.dst=true)(T:TypeId):c7 P U Z X st M w D (bj C st T x) []:=by
 refine eh S aa (vv:=Act.eval ⟨M,[]⟩ x) ?_ (dX S C T x);unfold execOp;rcases aP with h|h<;>simp only[h,Sem.run_pure]
theorem TM(S:az U Z X F st M w){C:Ctx}{c a b:Operand}{t:Bool}{T:TypeId}(aP:D.op=.pick c a b)(aa:cE st D.dst=true)(hc:bj C st T c=.av (.aq (.d (.bool t)))):
  c7 P U Z X st M w D (bj C st T (if t then a else b)) []:=by
 refine eh S aa (vv:=Act.eval ⟨M,[]⟩ (if t then a else b)) ?_ (dX S C T _)
 unfold execOp;have:=Ju S hc;cases t<;>simp[aP,this,asBool]
theorem agl(S:az U Z X F st M w){C:Ctx}{x:Operand}{t:Bool}{T ev:TypeId}(aP:D.op=.unOp .not ev x)(aa:cE st D.dst=true)(hc:bj C st T x=.av (.aq (.d (.bool t)))):
  c7 P U Z X st M w D (one (.bool (!t))) []:=by
 refine eh S aa (vv:=.bool (!t)) ?_ (.bool _);unfold execOp;simp[aP,Ju S hc,Op.unary]
theorem agm(S:az U Z X F st M w){C:Ctx}{x:Operand}{k:IntKind}{n:Int}{T ev:TypeId}(aP:D.op=.unOp .neg ev x)(aa:cE st D.dst=true)(hc:bj C st T x=.av (.aq (.d (.int k n)))):
  c7 P U Z X st M w D (one (.int k (k.wrap (0-n)))) []:=by
 refine eh S aa (vv:=.int k (k.wrap (0-n))) ?_ (.int _ _);unfold execOp;simp[aP,ky S hc,Op.unary,Op.intArith]
theorem Fv(S:az U Z X F st M w){C:Ctx}{x:Operand}{v:bb}{T:TypeId}(aP:D.op=.nilCheck x)(aa:cE st D.dst=true)(hc:bj C st T x=v)
  (hv:∀vv,cy F st.sites w (aN X F st.sites) v vv->∃a,vv=.pointer (some a)):c7 P U Z X st M w D v []:=by
 have:=dX S C T x;rw[hc] at this;obtain⟨a,ha⟩:=hv _ this;refine eh S aa (vv:=Act.eval ⟨M,[]⟩ x) ?_ this;unfold execOp;simp[aP,ha]
theorem ahX(S:az U Z X F st M w){C:Ctx}{x:Operand}{i:Nat}{as:List b5}{a:b5}{T:TypeId}(aP:D.op=.extract x i)(aa:cE st D.dst=true)(hc:bj C st T x=.kg as)(ha:as[i]? =some a):
  c7 P U Z X st M w D (.av a) []:=by
 have bL:=dX S C T x;rw[hc] at bL;obtain⟨vs,h1,h2,h3⟩:=bL;obtain⟨hi,ayI⟩:=List.getElem?_eq_some_iff.1 ha;have jU:i<vs.length:=by omega
 refine eh S aa (vv:=vs[i]) ?_ (by rw[<-ayI];exact h3 i hi jU)
 unfold execOp;simp[aP,h1,Instr.extract,jU]
theorem Rc(S:az U Z X F st M w){C:Ctx}{x y:Operand}{k k':IntKind}{a b:Int}{T:TypeId}{tX:Bool}{di:Array TypeId}(aP:D.op=.call {callee:=.builtin (if tX then .max else .min),args:=#[x,y],argTypes:=di})(aa:cE st D.dst=true)
  (hx:bj C st T x=.av (.aq (.d (.int k a)))) (hy:bj C st T y=.av (.aq (.d (.int k' b)))):c7 P U Z X st M w D (one (.int k (if tX then hd a b else l6 a b))) []:=by
 refine eh S aa (vv:=.int k (if tX then hd a b else l6 a b)) ?_ (.int _ _)
 unfold execOp;cases tX<;>simp[aP,resolve,invoke,builtin,ky S hx,ky S hy,Builtin.max_,Builtin.min_,Builtin.max2,Builtin.min2,hd,l6]
theorem anS(S:az U Z X F st M w){C:Ctx}{x y z u v:Operand}{k aG aK bP cU:IntKind}{a b c d e:Int}{T:TypeId}{di:Array TypeId}(aP:D.op=.call {callee:=.builtin .max,args:=#[x,y,z,u,v],argTypes:=di})(aa:cE st D.dst=true)
  (hx:bj C st T x=.av (.aq (.d (.int k a)))) (hy:bj C st T y=.av (.aq (.d (.int aG b)))) (hz:bj C st T z=.av (.aq (.d (.int aK c)))) (hu:bj C st T u=.av (.aq (.d (.int bP d)))) (hv:bj C st T v=.av (.aq (.d (.int cU e)))):
  c7 P U Z X st M w D (one (.int k (hd (hd (hd (hd a b) c) d) e))) []:=by
 refine eh S aa (vv:=.int k (hd (hd (hd (hd a b) c) d) e)) ?_ (.int _ _);unfold execOp;simp[aP,resolve,invoke,builtin,ky S hx,ky S hy,ky S hz,ky S hu,ky S hv,Builtin.max_,Builtin.max2,hd]
theorem amb(S:az U Z X F st M w){C:Ctx}:∀{xs:List Operand} {bN:List (Nat×Nat)},step.oN C st xs=some bN->xs.length=bN.length/\
  ∀i (h:i<bN.length) (an:i<xs.length),Ref st.sites (bN[i]).1 (bN[i]).2 (Act.eval ⟨M,[]⟩ (xs[i])=F (bN[i]).1):=by
 intro xs;induction xs with
 |nil=>intro bN h;simp only[step.oN] at h;cases h;exact⟨rfl,fun i h=>by simp at h⟩
 |cons x xs ih=>
  intro bN h;simp only[step.oN] at h;split at h
  ·rename_i o s l hx hl;cases h;obtain⟨h1,h2⟩:=ih hl;refine⟨by simp[h1],fun i g1 g2=>?_⟩
   cases i with
   |zero=>
    have:=dX S C 0 x;rw[hx] at this;obtain⟨b,hb,ai,r1,r2,dE⟩:=this;exact⟨ai,r1,r2,fun e=>by simp only[List.getElem_cons_zero];rw[hb,dE e]⟩
   |succ i=>simpa using h2 i (by simpa using g1) (by simpa using g2)
  ·cases h
theorem agJ(S:az U Z X F st M w){C:Ctx}{g:FuncId}{first captured:Array Operand}{bN:List (Nat×Nat)}(aP:D.op=.makeFunc (.func g) first captured)(aa:cE st D.dst=true)(hf:first.toList.isEmpty=true)
  (hc:step.oN C st captured.toList=some bN):c7 P U Z X st M w D (cf (.clo g bN)) []:=by
 obtain⟨h1,h2⟩:=amb S hc;refine eh S aa (vv:=.func (.func g) #[] (captured.toList.map (Act.eval ⟨M,[]⟩)).toArray) ?_ ⟨captured.toList.map (Act.eval ⟨M,[]⟩),rfl,by simpa using h1,fun i g1 g2=>?_⟩
 ·have:first=#[]:=by simpa using hf
  unfold execOp;simp only[aP,Instr.makeFunc,Sem.run_bind,Sem.run_pure,Result.andThen_ok,this];simp;apply Array.ext';simp
 ·have:=h2 i g1 (by simpa using g2)
  simpa using this
theorem Ry(S:az U Z X F st M w){C:Ctx}{b4:List (Nat×Nat)}:∀(parts:List (Nat×Operand)) (z:List aU) (cells:Array Value),cN F st.sites w (aN X F st.sites) z cells.toList->
  Holds (step.nC C st b4 z parts) (fun v us=>us=[]/\∃j7,Instr.fill (b4.toArray[·]?) cells (parts.map fun p=>(p.1,Act.eval ⟨M,[]⟩ p.2))=some j7/\cy F st.sites w (aN X F st.sites) v (.agg j7)):=by
 intro parts;induction parts with
 |nil=>intro z cells h;exact Holds.ok ⟨rfl,cells,rfl,cells.toList,by simp,h.1,h.2⟩
 |cons p parts ih=>
  obtain⟨i,x⟩:=p;intro z cells h;simp only[step.nC];split
  ·rename_i off n a hf ha;cases hb:(a.cells.length.beq n&&ia a.cells&&Nat.ble (off+n) z.length) with
   |false=>exact .fail
   |true=>
    simp only[ad];simp only[bz] at hb;obtain⟨⟨b1,b2⟩,b3⟩:=hb;have b1:=ce b1;have b3:=Nat.le_of_ble_eq_true b3;have bL:=dX S C 0 x;rw[qQ ha] at bL;have Cr:=hU.cells (bL:hU F st.sites w _ a _) b2;have hsz:(Act.eval ⟨M,[]⟩ x).cells.size=n:=by rw[<-b1,<-Cr.1];simp
    have hle:off+(Act.eval ⟨M,[]⟩ x).cells.size<=cells.size:=by
     have:=h.1;simp at this;omega
    have:=ih (Jk.bZ z off a.cells) (Jk.bZ cells.toList off (Act.eval ⟨M,[]⟩ x).cells.toList).toArray (by simpa using cN.bZ off h Cr)
    intro y hy hc;obtain⟨g1,j7,g2,g3⟩:=this y hy hc;refine⟨g1,j7,?_,g3⟩;simp only[List.map_cons,Instr.fill];have Nj:b4.toArray[i]? =some (off,n):=by simpa using hf
    simp only[Nj];have c1:¬((Act.eval ⟨M,[]⟩ x).cells.size≠n\/off+(Act.eval ⟨M,[]⟩ x).cells.size>cells.size):=by omega
    have c2:(decide ((Act.eval ⟨M,[]⟩ x).cells.size≠n)||decide (off+(Act.eval ⟨M,[]⟩ x).cells.size>cells.size))=false:=by
     simp;omega
    have qf:off+n<=cells.size:=by omega
    rw[PG _ _ _ hle];simp only[Bool.decide_or,hsz] at*;simpa[c2,qf] using g2
  ·exact .fail
theorem amd(S:az U Z X F st M w){C:Ctx}(H:CtxOk P C){T:TypeId}{parts:Array (Nat×Operand)}{b4:List (Nat×Nat)}{n:Nat}{z:List aU}{eq:Bool}(bp:C.tt T=.struct b4 n z eq)(aP:D.op=.build T parts)
  (aa:cE st D.dst=true):Holds (step.nC C st b4 z parts.toList) (c7 P U Z X st M w D):=by
 have bY:=H.tt T;rw[bp] at bY;obtain⟨fields,fZ,⟨hf,_⟩,⟨gF,hz,hzz,Ei⟩,_⟩:=bY;obtain⟨aG,aK,bP⟩:=vl hzz;intro y hy hc;obtain⟨g1,j7,g2,g3⟩:=Ry S parts.toList z gF ⟨aG,fun j h an=>bP _ _ _ _ j h an⟩ y hy hc
 rw[g1];refine eh S aa (vv:=.agg j7) ?_ g3;cases hi:P.info? T with
 |none=>simp[hi] at hz
 |some it=>
  simp only[hi,Option.map_some,bH,Prod.mk.injEq] at hz;have hb:P.built T (parts.toList.map fun p=>(p.1,Act.eval ⟨M,[]⟩ p.2))=some j7:=by
   unfold Program.built;simp only[hi,fZ,hz.2,hf];exact g2
  have eA:P.built T (parts.map fun p=>(p.1,Act.eval ⟨M,[]⟩ p.2)).toList=some j7:=by simpa using hb
  unfold execOp;simp only[aP,Sem.run_bind,run_build w T _ j7 eA,Result.andThen_ok,Sem.run_pure]
end
def nz(w:World)(b:Nat)(D:Obj):World:={w with heap:=w.heap.setIfInBounds b D}
theorem Tm{b:ByteArray}{l:B}(h:b.data.toList=l):Value.string b=hP l:=by
 subst h;rfl
def lX{aE:Type}:List (B×aE)->B->Nat->Option (Nat×aE)
 |[],_,_=>none
 |(k,v)::r,n,i=>bif k==n then some (i,v) else lX r n (i+1)
theorem ajA{aE:Type}(n:B):∀(es:List (B×aE)) (i:Nat),(lX es n i).map (·.2)=kY es n:=by
 intro es;induction es with
 |nil=>intro i;rfl
 |cons p es ih=>
  intro i;simp only[lX,kY];cases p.1==n with
  |true=>rfl
  |false=>exact ih (i+1)
theorem agI{aE:Type}(n:B)(v:aE):∀(es:List (B×aE)) (i:Nat),lX es n i=none->pR es n v=es++[(n,v)]:=by
 intro es;induction es with
 |nil=>intro i _;rfl
 |cons p es ih=>
  intro i h;simp only[lX] at h;simp only[pR];cases hp:(p.1==n) with
  |true=>rw[hp] at h;cases h
  |false=>rw[hp] at h;simp only[ak,ih (i+1) h,List.cons_append]
theorem ahR{aE:Type}(n:B)(v:aE):∀(es:List (B×aE)) (i j:Nat) (v0:aE),lX es n i=some (j,v0)->i<=j/\(∃p,es[j-i]? =some p/\p.1=n)/\pR es n v=es.modify (j-i) fun p=>(p.1,v):=by
 intro es;induction es with
 |nil=>intro i j v0 h;cases h
 |cons p es ih=>
  intro i j v0 h;simp only[lX] at h;simp only[pR];cases hp:(p.1==n) with
  |true=>
   rw[hp] at h;cases h;refine⟨Nat.le_refl _,⟨p,by simp,eq_of_beq hp⟩,?_⟩
   simp
  |false=>
   rw[hp] at h;obtain⟨h1,⟨q,h2,h3⟩,aD⟩:=ih (i+1) j v0 h;have e:j-i=(j-(i+1))+1:=by omega
   refine⟨by omega,⟨q,by rw[e];simpa using h2,h3⟩,?_⟩
   rw[e,ak,aD,List.modify_succ_cons]
theorem PH{t:bi}(n:B):∀(es:List (B×den t)) (jy:List MapEntry) (i:Nat),jy.map (fun e=>(e.key,e.val))=kA t es->
  Instr.findNow .string (hP n) jy i=some ((lX es n i).map fun p=>(p.1,oa t p.2))
 |[],jy,i,h=>by
  have:jy=[]:=by simpa[kA] using h
  subst this;rfl
 |(k,v)::es,[],i,h=>by simp[kA] at h
 |(k,v)::es,m::jy,i,h=>by
  simp only[kA,List.map_cons,List.cons.injEq,Prod.mk.injEq] at h;obtain⟨⟨h1,h2⟩,h3⟩:=h;have ih:=PH n es jy (i+1) h3;have hs:Instr.sameNow .string (hP n) m.key=some (k==n):=by
   rw[h1];show some ((⟨n.toArray⟩:ByteArray)==⟨k.toArray⟩)=_;rw[bytes_beq];congr 1
   rw[Bool.eq_iff_iff];simp only[beq_iff_eq];exact eq_comm
  unfold Instr.findNow lX;rw[hs];cases k==n with
  |true=>simp only[ad,Option.map_some,h2]
  |false=>simp only[ak];exact ih
section
variable {P:Program}{w:World}{iz lA T:TypeId}{t:bi}
theorem ahv{iz:TypeId}(hk:P.underlying iz=some .string)(c:Bool)(s:B)(n:Nat):(Instr.checkKey c (n+1) iz (hP s)).run P w=.ok () w:=by
 simp[Instr.checkKey,run_underlying hk,hP,Result.andThen]
theorem vx{iz:TypeId}(hk:P.underlying iz=some .string)(c:Bool)(s:B):(Instr.checkKey c 10000 iz (hP s)).run P w=.ok () w:=ahv hk c s 9999
theorem z_{iz:TypeId}(hk:P.underlying iz=some .string){es:List (B×den t)}{arr:Array MapEntry}(h:nB arr=kA t es)(n:B):
  (Instr.findKey iz (hP n) arr.toList).run P w=.ok ((lX es n 0).map fun p=>(p.1,oa t p.2)) w:=by
 simp[Instr.findKey,run_underlying hk,PH n es arr.toList 0 h,Result.andThen]
theorem aiP(s:B):(Instr.keyThatStays (hP s) (hP s)).run P w=.ok (hP s) w:=by
 have:Instr.sameBits 10000 (hP s) (hP s)=true:=by
  show((⟨s.toArray⟩:ByteArray)==⟨s.toArray⟩)=true;rw[bytes_beq];simp
 simp[Instr.keyThatStays,this]
theorem arw{t:bi}{d:bk}{x:den t}{v:Value}{av:Nat->Prop}(h:K1 t d=some x)(hr:bU w av d v):v=oa t x:=by
 unfold K1 at h;split at h
 ·cases h;cases hr;rfl
 ·cases h;cases hr;rfl
 ·cases h
theorem aht(bp:P.underlying T=some (.map iz lA))(hk:P.underlying iz=some .string){b:Nat}{arr:Array MapEntry}{clock:Nat}{es:List (B×den t)}(hb:w.heap[b]? =some (.map arr clock))(he:nB arr=kA t es)(n:B)(x:den t):
  ∃qi pU,(Instr.mapUpdate T (.map (some b)) (hP n) (oa t x)).run P w=.ok () (nz w b (.map qi pU))/\nB qi=kA t (pR es n x):=by
 cases hm:lX es n 0 with
 |none=>
  refine⟨arr.push ⟨hP n,oa t x,clock⟩,clock+1,?_,?_⟩
  ·have hf:=z_ (w:=w) hk he n;rw[hm] at hf;simp[Instr.mapUpdate,run_underlying bp,MapKept.run_getObj_map hb,vx hk,hf,MapKept.run_setObj_map _ hb,Result.andThen,nz]
  ·rw[agI n x es 0 hm];unfold nB kA at he ⊢;simp[he]
 |some p=>
  obtain⟨j,v0⟩:=p;obtain⟨_,⟨q,h2,h3⟩,aD⟩:=ahR n x es 0 j v0 hm;rw[Nat.sub_zero] at h2 aD;have hlen:arr.size=es.length:=mI.size (b:=b) he;have hj:j<arr.size:=by rw[hlen];exact(List.getElem?_eq_some_iff.1 h2).1
  have aun:((arr[j]?).map (·.key)).getD (hP n)=hP n:=by
   have bn:=congrArg (fun l=>l[j]?) he
   simp only[nB,kA,List.getElem?_map,h2,Option.map_some,Array.getElem?_toList] at bn;cases ha:arr[j]? with
   |none=>rfl
   |some e=>
    rw[ha] at bn;simp only[Option.map_some,bH,Prod.mk.injEq] at bn;simp[bn.1,h3]
  refine⟨arr.modify j fun e=>{e with key:=hP n,val:=oa t x},clock,?_,?_⟩
  ·have hf:=z_ (w:=w) hk he n;rw[hm] at hf;simp[Instr.mapUpdate,run_underlying bp,MapKept.run_getObj_map hb,vx hk,hf,MapKept.run_setObj_map _ hb,Result.andThen,nz,aun,aiP]
  ·rw[aD];unfold nB kA at he ⊢;apply List.ext_getElem?;intro i;have bn:=congrArg (fun l=>l[i]?) he
   simp only[List.getElem?_map,Array.getElem?_toList] at bn;simp only[List.getElem?_map,Array.getElem?_toList,Array.getElem?_modify,List.getElem?_modify];by_cases qv:j=i
   ·subst qv;simp only[if_true,h2,Option.map_some,<-h3];cases ha:arr[j]? with
    |none=>rw[ha,h2] at bn;cases bn
    |some e=>rfl
   ·simp only[qv,if_false];cases ha:arr[i]? <;>cases eA:es[i]? <;>rw[ha,eA] at bn<;>simp_all
end
section
variable {P:Program}{U:World}{Z:List Nat}{X:Nat->Prop}{F:Nat->Value}{st:ao}{M:Array Value}{w:World}{D:Oper}
theorem FM(w:World)(b bS:Nat)(D:Obj)(h:bS≠b):(nz w b D).heap[bS]? =w.heap[bS]? :=by
 simp only[nz,Array.getElem?_setIfInBounds];rw[if_neg (fun e=>h e.symm)]
theorem ae0(w:World)(b:Nat)(D dm:Obj)(h:w.heap[b]? =some dm):(nz w b D).heap[b]? =some D:=by
 have:=(Array.getElem?_eq_some_iff.1 h).1;simp[nz,Array.getElem?_setIfInBounds,this]
theorem az.apI(S:az U Z X F st M w){o s b:Nat}{t:bi}{es u0:List (B×den t)}{D:Obj}{qi:Array MapEntry}{pU:Nat}(hl:look st.sites o=some (.map s t es))(dd:F o=.map (some b))(hg:w.heap[b]? =some D)
  (he:nB qi=kA t u0):az U Z X F {st with sites:=cI st.sites o (.map s t u0)} M (nz w b (.map qi pU)):=by
 have hbk:b0 (F o)=some b:=by rw[dd];rfl
 have c9:cD st.sites o:=⟨_,hl,rfl⟩;have mL:∀ae,cD (cI st.sites o (.map s t u0)) ae <-> cD st.sites ae:=P8 hl rfl;have cq:∀bS,aN X F (cI st.sites o (.map s t u0)) bS <-> aN X F st.sites bS:=by
  intro bS;unfold aN;simp only[mL]
 have hne:∀bS,¬aN X F st.sites bS->bS≠b:=by
  rintro bS h rfl;exact h (.inr ⟨o,c9,hbk⟩)
 have hsz:(nz w b (.map qi pU)).heap.size=w.heap.size:=by simp[nz]
 refine S.rC (fun ae aQ b7=>?_) (fun bS h _=>FM w b bS _ (hne bS h)) (fun bS h _=>by rw[cq];exact h) (fun go ae aQ b7=>?_) (fun ae ρ bS h1 h2=>S.eD ae ρ bS ((mL ae).1 h1) ((mL ρ).1 h2))
  (fun ae bS h=>S.cF ae bS ((mL ae).1 h)) (fun ae bS h hb=>by rw[hsz];exact S.gf ((mL ae).1 h) hb) ?_ (by rw[hsz];exact Nat.le_refl _)
 ·rw[dn];by_cases e:o=ae
  ·subst e;rw[hl] at b7;cases b7;exact⟨.map s t u0,by simp,Nat.le_refl _,fun _=>rfl⟩
  ·exact⟨aQ,by simp[e,b7],Nat.le_refl _,fun _=>rfl⟩
 ·rw[dn] at b7;by_cases e:o=ae
  ·subst e;simp only[if_true,bH] at b7;subst b7;exact .inr ⟨b,dd,qi,pU,ae0 w b _ _ hg,he⟩
  ·simp only[e,if_false] at b7;refine .inl ⟨b7,rfl,fun um bS eA=>FM w b bS _ ?_⟩
   rintro rfl;exact e (S.eD o ae _ c9 ⟨aQ,b7,um⟩ hbk eA)
 ·have aW:=S.frame;refine⟨aW.os,aW.tape,aW.output,by rw[hsz];exact aW.size,fun bS h1 h2=>?_⟩
  rw[FM w b bS _ ?_]
  ·exact aW.block bS h1 h2
  ·rintro rfl;rcases(S.cF o _ c9 hbk).2 with h|h
   ·exact h2 h
   ·omega
theorem az.makeMap(S:az U Z X F st M w){o:Nat}{t:bi}:
  az U Z X (fun ae=>if ae=o then .map (some w.heap.size) else F ae) {st with sites:=cI st.sites o (.map (bF st o) t [])} M (w.alloc (.map #[] 0)):=
 S.make (fun b hb=>RowKit.Below.heap_alloc w _ b hb) rfl rfl rfl (by simp) (fun ai hs=>mr hs) (fun b hb=>by cases hb;exact⟨Nat.le_refl _,by simp⟩)
  (fun hs dd go _ _=>⟨w.heap.size,dd,#[],0,heap_alloc_new w _,rfl⟩)
end
section
variable {P:Program}{U:World}{Z:List Nat}{X:Nat->Prop}{F:Nat->Value}{st:ao}{M:Array Value}{w:World}{D:Oper}
theorem P3(S:az U Z X F st M w){T:TypeId}{iz lA:TypeId}{t:bi}{r:Option Operand}{o:Nat}(aP:D.op=.makeMap T r)(dY:D.dst=some o)(aa:cE st D.dst=true)(bp:P.underlying T=some (.map iz lA))
  (hr:∀x,r=some x->∃k n,Act.eval ⟨M,[]⟩ x=.int k n):c7 P U Z X st M w D (cf (.own o (bF st o))) [(o,.map (bF st o) t [])]:=by
 have cA:=S.makeMap (o:=o) (t:=t);refine lH (us:=[(o,.map (bF st o) t [])]) cA aa (vv:=.map (some w.heap.size)) ?_ ?_
 ·unfold execOp;cases r with
  |none=>simp[aP,Instr.makeMap]
  |some x=>
   obtain⟨k,n,hx⟩:=hr x rfl;simp[aP,Instr.makeMap,hx,run_underlying bp,asInt,asIntOf,Result.andThen]
 ·refine⟨rfl,Ref.mk (ai:=.map (bF st o) t []) ?_ rfl (by simp)⟩
  simp only[bB,dn];simp
theorem Rd(S:az U Z X F st M w){C:Ctx}(H:CtxOk P C){T:TypeId}{m k x:Operand}(aP:D.op=.mapUpdate T m k x\/D.op=.insert T m k x)(aa:cE st D.dst=true):
  Holds (lP.tA C st T m k x) (c7 P U Z X st M w D):=by
 have bY:=H.tt T;unfold lP.tA;split
 ·rename_i iz lA t o s n d bp hm hk hx;rw[bp] at bY;split
  ·rename_i aQ u es hl;cases hb:(aQ.beq s&&decide (u=t)) with
   |false=>exact .fail
   |true=>
    simp only[ad];simp only[bz,dW] at hb;have hs:=ce hb.1;subst hs;split
    ·rename_i v hv;refine Holds.f_ ?_
     have em:=dX S C T m;rw[hm] at em;have sC:=dX S C 0 k;rw[hk] at sC;have ex:=dX S C 0 x;rw[hx] at ex;have hl:look st.sites o=some (.map aQ u es):=hl;have acH:Act.eval ⟨M,[]⟩ m=F o:=Ref.at em.2 hl rfl;obtain⟨b,h1,arr,clock,h2,h3⟩:=S.sites o _ hl;obtain⟨bs,M9,hkl⟩:=gX (s:=n) sC;have Ev:Act.eval ⟨M,[]⟩ k=hP n:=by rw[M9];exact Tm hkl
     have acA:Act.eval ⟨M,[]⟩ x=oa u v:=arw hv (av:=aN X F st.sites) ex;obtain⟨qi,pU,r1,r2⟩:=aht (T:=T) bY.1.1 bY.2.1 h2 h3 n v;have cA:=S.apI hl h1 h2 (pU:=pU) r2;refine yW (us:=[(o,.map aQ u (pR es n v))]) cA aa ?_
     unfold execOp;rcases aP with aP|aP
     ·simp only[aP,acH,h1,Ev,acA,Sem.run_bind,r1,Result.andThen_ok,Sem.run_pure]
     ·simp only[aP,acH,h1,Ev,acA,Sem.run_bind,r1,Result.andThen_ok,Sem.run_pure]
    ·exact .fail
  ·exact .fail
 ·exact .fail
theorem ajD(S:az U Z X F st M w){C:Ctx}(H:CtxOk P C){T iz lA:TypeId}{t:bi}{m k:Operand}{c:Bool}{l:aU}{n:B}{es:List (B×den t)}{d:bk}(aP:D.op=.lookup T m k c)(aa:cE st D.dst=true)
  (bp:C.tt T=.map iz lA t) (hm:bj C st T m=.av (.aq l)) (hk:bj C st 0 k=.av (.aq (.d (.str n)))) (Nk:mapOf st l=some ⟨t,es⟩) (Nl:wX t (kY es n)=some d):
  c7 P U Z X st M w D (bif c then .kg [.aq (.d d),.aq (.d (.bool (kY es n).isSome))] else one d) []:=by
 have bY:=H.tt T;rw[bp] at bY;have em:=dX S C T m;rw[hm] at em;have sC:=dX S C 0 k;rw[hk] at sC;obtain⟨bs,M9,hkl⟩:=gX (s:=n) sC;have Ev:Act.eval ⟨M,[]⟩ k=hP n:=by rw[M9];exact Tm hkl
 have hz:∀dm:Option (den t),wX t dm=some d->(∀x,dm=some x->∀av,bU w av d (oa t x))/\(dm=none->∃z,(zeroValue lA).run P w=.ok z w/\∀av,bU w av d z):=by
  intro dm h;have he:=bY.2.2;have key:∀{aet:TypeDesc} {z:Value},jN P lA aet z->(zeroValue lA).run P w=.ok z w:=by
   intro aet z h;obtain⟨_,_,_,h⟩:=h;cases hi:P.info? lA with
   |none=>simp[hi] at h
   |some i=>
    simp only[hi,Option.map_some,bH,Prod.mk.injEq] at h;simp[zeroValue,lF hi,h.2]
  cases t<;>first|(exact he.elim)|skip
  ·simp only[wX,bH] at h;subst h;refine⟨fun x hx av=>by subst hx;exact .int _ _,fun hn=>?_⟩
   subst hn;exact⟨_,key he,fun av=>.int _ _⟩
  ·simp only[wX,bH] at h;subst h;refine⟨fun x hx av=>by subst hx;exact .bool _,fun hn=>?_⟩
   subst hn;exact⟨_,key he,fun av=>.bool _⟩
 obtain⟨hz1,hz2⟩:=hz _ Nl;have main:∃v,(Instr.lookup T (Act.eval ⟨M,[]⟩ m) (Act.eval ⟨M,[]⟩ k) c).run P w=.ok (if c then .tuple #[v,.bool (kY es n).isSome] else v) w/\∀av,bU w av d v:=by
  rw[Ev];rcases TW S em Nk with⟨h1,rfl⟩|⟨b,h1,arr,clock,h2,h3⟩
  ·obtain⟨z,gq,z2⟩:=hz2 rfl;refine⟨z,?_,z2⟩;have hf:=z_ (w:=w) (t:=t) bY.2.1 (es:=[]) (arr:=#[]) rfl n;have Nj:(Instr.findKey iz (hP n) []).run P w=.ok none w:=hf;simp[Instr.lookup,run_underlying bY.1.1,h1,vx bY.2.1,Nj,gq,kY,Result.andThen]
  ·have hf:=z_ (w:=w) bY.2.1 h3 n;have hg:=ajA n es 0;cases ha:lX es n 0 with
   |none=>
    rw[ha] at hf hg;have hg:kY es n=none:=hg.symm;obtain⟨z,gq,z2⟩:=hz2 hg;refine⟨z,?_,z2⟩;simp[Instr.lookup,run_underlying bY.1.1,h1,MapKept.run_getObj_map h2,vx bY.2.1,hf,gq,hg,Result.andThen]
   |some p=>
    rw[ha] at hf hg;have hg:kY es n=some p.2:=hg.symm;refine⟨oa t p.2,?_,hz1 p.2 hg⟩;simp[Instr.lookup,run_underlying bY.1.1,h1,MapKept.run_getObj_map h2,vx bY.2.1,hf,hg,Result.andThen]
 obtain⟨v,r1,r2⟩:=main;refine eh S aa (vv:=if c then .tuple #[v,.bool (kY es n).isSome] else v) ?_ ?_
 ·unfold execOp;simp only[aP,Sem.run_bind,r1,Result.andThen_ok,Sem.run_pure]
 ·cases c with
  |true=>
   refine⟨[v,.bool (kY es n).isSome],rfl,rfl,fun j g1 g2=>?_⟩
   match j,g1 with
   |0,_=>exact r2 _
   |1,_=>exact bU.bool _
  |false=>exact r2 _
theorem ahQ(S:az U Z X F st M w){C:Ctx}(H:CtxOk P C)(aa:cE st D.dst=true):Holds (lP C st D) (c7 P U Z X st M w D):=by
 unfold lP;split
 ·rename_i t r aP;split
  ·rename_i o iz lA ty dY bp;have bY:=H.tt t;rw[bp] at bY;split
   ·exact Holds.f_ (P3 S aP dY aa bY.1.1 (fun x h=>by cases h))
   ·rename_i x;split
    ·rename_i k n hx;refine Holds.f_ (P3 S aP dY aa bY.1.1 (fun y h=>?_))
     cases h;have ex:=dX S C 0 x;rw[hx] at ex;exact⟨k,n,iW ex⟩
    ·exact .fail
  ·exact .fail
 ·rename_i t m k x aP;exact Rd S H (.inl aP) aa
 ·rename_i t m k x aP;exact Rd S H (.inr aP) aa
 ·rename_i t m k c aP;split
  ·rename_i iz lA ty l n bp hm hk;split
   ·rename_i u es Nk;cases hu:decide (u=ty) with
    |false=>exact .fail
    |true=>
     have hu:=of_decide_eq_true hu;subst hu;simp only[ad];split
     ·rename_i d Nl;exact Holds.ok (ajD S H aP aa bp hm hk Nk Nl)
     ·exact .fail
   ·exact .fail
  ·exact .fail
 ·rename_i t x aP;split
  ·rename_i b4 q z e n bp hx;exact Holds.ok (aeQ S H aP aa bp hx)
  ·exact .fail
 ·exact .fail
end
theorem ol{P:Program}{e:TypeId}{t:bi}(h:JB P e t):bh t=1/\(∃d z,jN P e d z)/\∃l fm,uz t=some l/\yp t=some fm/\cT (enc t fm)=[l]:=by
 cases t<;>first|exact h.elim|exact⟨rfl,⟨_,_,h⟩,_,_,rfl,rfl,rfl⟩
theorem Qe{P:Program}{e:TypeId}{t:bi}{T:TypeId}(h:JB P e t):t.ki=true->T=nd:=by intro an;cases t<;>first|exact h.elim|cases an
theorem GH(t:bi)(x:den t)(xs:List (den t)):flat t (x::xs)=enc t x++flat t xs:=by simp[flat]
theorem JA(a b:List bk):cT (a++b)=cT a++cT b:=by simp[cT]
theorem Uw{t:bi}{z:den t}(hz:yp t=some z)(xs:List (den t)):DH t xs xs.length=cT (flat t xs):=by
 unfold DH;rw[hz];suffices h:∀(bm zs:List (den t)),xs=zs++bm->((List.range' zs.length bm.length).flatMap fun j=>cT (enc t (xs.getD j z)))=cT (flat t bm) by
  have:=h xs [] rfl;rw[List.length_nil,<-List.range_eq_range'] at this;exact this
 intro bm;induction bm with
 |nil=>intro zs _;rfl
 |cons y bm ih=>
  intro zs hx;rw[cY,List.range'_succ,List.flatMap_cons,GH,JA];have e1:xs.getD zs.length z=y:=by rw[hx];simp[List.getD]
  have e2:=ih (zs++[y]) (by rw[hx];simp)
  rw[dx,List.length_singleton] at e2;rw[e1,e2]
theorem Jx{t:bi}:∀{al:List aU} {xs:List (den t)},ut t al=some xs->al=cT (flat t xs):=by
 intro al;induction al with
 |nil=>intro xs h;cases h;rfl
 |cons l al ih=>
  intro xs h;cases l<;>try(cases h;done)
  rename_i d;simp only[ut] at h;split at h
  ·rename_i x bm h1 h2;cases h;rw[GH,JA,<-ih h2,BR _ _ _ h1];rfl
  ·cases h
theorem vy{aE:Type}{n:Nat}{xs bm:List aE}(h:long n xs=some bm):bm=xs/\xs.length=n:=by
 unfold long at h;split at h
 ·cases h;exact⟨rfl,by assumption⟩
 ·cases h
section
variable {P:Program}{U:World}{Z:List Nat}{X:Nat->Prop}{F:Nat->Value}{st:ao}{M:Array Value}{w:World}{D:Oper}
theorem az.ly(S:az U Z X F st M w):n7 w/\∀b,b∈lm->¬aN X F st.sites b/\b<w.heap.size:=by
 have G:=S.fw;refine⟨arU (fun b hb=>S.frame.block b (G.lt b hb) (G.Z b hb)) G.ok,fun b hb=>⟨?_,Nat.lt_of_lt_of_le (G.lt b hb) S.frame.size⟩⟩
 rintro(h|⟨o,h1,h2⟩)
 ·exact G.X b hb h
 ·rcases(S.cF o b h1 h2).2 with h|h
  ·exact G.Z b hb h
  ·have:=G.lt b hb;omega
theorem apM{ds:List bk}{vs:List Value}{av:Nat->Prop}(h:dl w av ds vs):∀u∈vs,u.oneCell'=true:=by
 intro u hu;obtain⟨j,hj,rfl⟩:=List.getElem_of_mem hu;exact(h.2 j (by rw[<-h.1];exact hj) hj).j4
theorem TT(S:az U Z X F st M w){T:TypeId}{o n:Nat}{t:bi}{xs:List (den t)}{vs:List Value}(he:bh t=1)(hq:t.ki=true->T=nd)(hv:dl w (aN X F st.sites) (flat t xs) vs)(aa:cE st D.dst=true)
  (dL:(execOp (Act.eval ⟨M,[]⟩) D).run P w=.ok (.value (.pointer (some ⟨w.heap.size,0,none⟩))) (w.alloc (.cells vs.toArray T (0,0)))):Holds (rG o st t n xs) (c7 P U Z X st M w D):=by
 unfold rG;cases hc:(xs.length.beq n&&Nat.ble n 1000) with
 |false=>exact .fail
 |true=>
  simp only[bz] at hc;have h1:=ce hc.1;have h2:=Nat.le_of_ble_eq_true hc.2;simp only[ad];have hl:vs.length=xs.length:=by rw[hv.1,fu,he,Nat.mul_one]
  have cA:=S.II (o:=o) (T:=T) (rest:=[]) (cap:=n) hv (by rw[he,hl,h1];simp) (by unfold maxLen;omega) hq
  rw[List.append_nil] at cA;refine Holds.f_ (lH (us:=[(o,.row (bF st o) t xs)]) cA aa dL ?_);refine⟨w.heap.size,by simp,Ref.mk (ai:=.row (bF st o) t xs) ?_ rfl ⟨xs.length,n,by simp⟩⟩
  simp only[bB,dn];simp
theorem aj5(S:az U Z X F st M w){C:Ctx}(H:CtxOk P C){elem e:TypeId}{t:bi}{n o:Nat}(bp:C.tt elem=.arr e t n)(aP:D.op=.alloc elem)(aa:cE st D.dst=true):Holds (tL o st t n) (c7 P U Z X st M w D):=by
 have bY:=H.tt elem;rw[bp] at bY;obtain⟨_,_,m'⟩:=id bY;obtain⟨he,_,l,fm,Ei,nX,hzz⟩:=ol m';unfold tL;rw[nX];obtain⟨v,hv,oX⟩:=cu.G_ (w:=w) bY (z:=List.replicate n l) (by simp only[cu.zero,Ei,Option.map_some])
 obtain⟨h1,h2,h3⟩:=vl oX;have hr:dl w (aN X F st.sites) (flat t (List.replicate n fm)) v.cells.toList:=by
  have:=h3 F st.sites w (aN X F st.sites);have e1:∀n,cT (flat t (List.replicate n fm))=List.replicate n l:=by
   intro n;induction n with
   |zero=>rfl
   |succ n ih=>rw[List.replicate_succ,GH,JA,hzz,List.replicate_succ,ih];rfl
  refine jF (F:=F) (sites:=st.sites) ?_
  rw[e1];exact⟨h1,this⟩
 refine TT (T:=elem) S he (Qe m') hr aa ?_
 unfold execOp;simp[aP,Instr.alloc,hv,newVar,newRow]
theorem aoo(S:az U Z X F st M w){C:Ctx}(H:CtxOk P C){elem e:TypeId}{t:bi}{n o:Nat}{x:Operand}(bp:C.tt elem=.arr e t n)(aP:D.op=.box elem x)(aa:cE st D.dst=true):Holds (uv o st t n (bj C st elem x)) (c7 P U Z X st M w D):=by
 have bY:=H.tt elem;rw[bp] at bY;have he:=(ol bY.2.2).1;have bL:=dX S C elem x;unfold uv;split
 ·rename_i al hx;rw[hx] at bL;split
  ·rename_i xs uF;obtain⟨vs,hv,hl,hr⟩:∃vs:List Value,Act.eval ⟨M,[]⟩ x=.agg vs.toArray/\vs.length=al.length/\∀j (h:j<al.length) (an:j<vs.length),ey F st.sites w (aN X F st.sites) (al[j]) (vs[j]):=bL;have qs:cN F st.sites w (aN X F st.sites) al vs:=⟨hl,hr⟩;rw[Jx uF] at qs;refine TT (T:=elem) S he (Qe bY.2.2) (jF qs) aa ?_
   unfold execOp;simp[aP,Instr.box,newVar,newRow,hv,Value.cells]
  ·exact .fail
 ·exact .fail
theorem az.arr(S:az U Z X F st M w){o s:Nat}{t:bi}{xs:List (den t)}{v:Value}(hr:rowOf st o s=some ⟨t,xs⟩)(hv:ey F st.sites w (aN X F st.sites) (.fr o s t 0 0) v):
  ∃b c,∃cs:List Value,v=.pointer (some ⟨b,0,none⟩)/\F o=.slice (some ⟨b,0,none⟩) xs.length c/\iE w b 0 cs/\dl w (aN X F st.sites) (flat t xs) cs:=by
 obtain⟨cs,hl,hcell⟩:=S.row hr;obtain⟨ai,iP,mf⟩:∃ai,look st.sites o=some ai/\ai.cL=s:=by
  rcases ks hr with h|h<;>exact⟨_,h,rfl⟩
 obtain⟨b,hv,xg⟩:=hv;obtain⟨n,c,dd⟩:=Ref.at xg iP mf;rcases hcell with⟨rM,_⟩|⟨bS,fM,kF,hcs,_⟩
 ·rw[dd] at rM;cases rM
 ·rw[dd] at kF;cases kF;exact⟨b,c,cs,by simpa using hv,dd,hcs,jF hl⟩
theorem alD(S:az U Z X F st M w){C:Ctx}(H:CtxOk P C){T e:TypeId}{t:bi}{n:Nat}{x:Operand}(bp:C.tt T=.arr e t n)(aP:D.op=.load T x)(aa:cE st D.dst=true):Holds (tW st t n (bj C st T x)) (c7 P U Z X st M w D):=by
 have bY:=H.tt T;rw[bp] at bY;obtain⟨he,_,_,fm,_,nX,_⟩:=ol bY.2.2;have bL:=dX S C T x;unfold tW;split
 ·rename_i o s u hx;rw[hx] at bL;split
  ·rename_i bw xs hrow;split
   ·rename_i jS;obtain⟨rfl,rfl⟩:=jS;refine Holds.eR fun y hy=>?_
    obtain⟨rfl,hlen⟩:=vy (hy:long n xs=some y);obtain⟨b,c,cs,hv,_,hc,hr⟩:=S.arr hrow bL;have hcl:cs.length=n:=by rw[hr.1,fu,he,hlen,Nat.mul_one]
    refine eh S aa (vv:=.agg cs.toArray) ?_ ?_
    ·have dL:=vj (P:=P) (w:=w) bY (by rintro h;cases h) ⟨b,0,none⟩ cs hcl (fun j u hu=>by rw[hK];exact hc j u hu)
     unfold execOp;simp only[aP,Instr.loadAt,Instr.sureAddr,hv,Sem.run_bind,Sem.run_pure,Result.andThen_ok,dL];rfl
    ·subst hlen;have:=ig (F:=F) (sites:=st.sites) hr.1 hr.2;rw[<-Uw nX] at this;exact⟨cs,rfl,this.1,this.2⟩
   ·exact .fail
  ·exact .fail
 ·exact .fail
theorem aiH(S:az U Z X F st M w){C:Ctx}(H:CtxOk P C){T e:TypeId}{t:bi}{n:Nat}{a x:Operand}{v:b5}(bp:C.tt T=.arr e t n)(aP:D.op=.store T a x)(aa:cE st D.dst=true)(hv:mQ (bj C st T x)=some v):
  Holds (tr st t n (bj C st T a) v) (c7 P U Z X st M w D):=by
 have bY:=H.tt T;rw[bp] at bY;have he:=(ol bY.2.2).1;have sa:=dX S C T a;have hex:=dX S C T x;rw[qQ hv] at hex;unfold tr;split
 ·rename_i o s u al hx;rw[hx] at sa;split
  ·rename_i aQ bw xs g_;have g_:look st.sites o=some (.row aQ bw xs):=g_;split
   ·rename_i jS;obtain⟨rfl,rfl,rfl⟩:=jS;split
    ·rename_i bm ayb;cases hc:bm.length.beq n with
     |false=>exact .fail
     |true=>
      have Ej:=ce hc;refine Holds.il fun r hr=>?_
      obtain⟨_,hlen⟩:=vy (hr:long n xs=some r);obtain⟨vs,xS,hl,ek⟩:∃vs:List Value,Act.eval ⟨M,[]⟩ x=.agg vs.toArray/\vs.length=al.length/\∀j (h:j<al.length) (an:j<vs.length),ey F st.sites w (aN X F st.sites) (al[j]) (vs[j]):=hex;have qs:cN F st.sites w (aN X F st.sites) al vs:=⟨hl,ek⟩;rw[Jx ayb] at qs;have uL:=jF qs;have mW:vs.length=n:=by rw[uL.1,fu,he,Ej,Nat.mul_one]
      obtain⟨b,Ep,xg⟩:=sa;obtain⟨m,c,dd⟩:=Ref.at xg g_ rfl;obtain⟨cW,cs,l8,hcs⟩:=S.sites o _ g_;rcases l8.2 with⟨hn,_⟩|⟨g,cap,cur,fz,o9,hz,hg,hnc,hcm,k9,htk⟩
      ·rw[dd] at hn;cases hn
      ·rw[dd] at o9;cases o9;have ayQ:cur.size=c:=by rw[k9,he,Nat.mul_one]
       have l9:0+vs.length<=cur.toList.length:=by
        have:cur.toList.length=cur.size:=Array.length_toList;omega
       have cA:az U Z X F {st with sites:=cI st.sites o (.row aQ bw bm)} M (w.setRow b (bZ cur.toList 0 vs).toArray):=by
        refine S.write g_ rfl rfl rfl (by rw[dd];rfl) hg (fun hs hw hg' go=>?_)
        refine⟨cW,vs,⟨by rw[he,Ej,Nat.mul_one];exact mW,.inr ⟨b,c,_,fz,by rw[dd,hlen,Ej],?_,hg',by omega,hcm,?_,?_⟩⟩,fun j g1 g2=>pY go (uL.2 j g1 g2)⟩
        ·refine⟨hz.1,hz.2.imp id fun h=>⟨h.1,?_⟩⟩
         rw[List.size_toArray,sK _ _ _ l9];simpa using h.2
        ·rw[List.size_toArray,sK _ _ _ l9,Array.length_toList,ayQ,he,Nat.mul_one]
        ·rw[he,Nat.mul_one,Ej,<-mW];simp[bZ]
       refine yW (us:=[(o,.row aQ bw bm)]) cA aa ?_
       have dL:=OU (P:=P) (w:=w) bY (by rintro h;cases h) (vv:=.agg vs.toArray) (cur:=cur.toList) (off:=0) (by simpa using hg) (by simpa using hz) (by simpa[Value.cells,cu.size] using mW) (by simpa[Value.cells] using l9) (by simpa[Value.cells] using apM uL)
       unfold execOp;simp only[aP,Ep,xS,Instr.storeAt,Instr.sureAddr,Sem.run_bind,Sem.run_pure,Result.andThen_ok,Nat.zero_mul,Nat.zero_add,dL];simp[Value.cells]
    ·exact .fail
   ·exact .fail
  ·exact .fail
 ·exact .fail
theorem afn(S:az U Z X F st M w){C:Ctx}(H:CtxOk P C){T e:TypeId}{t:bi}{m:Nat}{x i:Operand}{k:IntKind}{n:Int}(bp:C.tt T=.arr e t m)(hi:bj C st 0 i=.av (.aq (.d (.int k n))))(aP:D.op=.indexAddr T x i)(aa:cE st D.dst=true):
  Holds (sQ C st t m (bj C st T x) n) (c7 P U Z X st M w D):=by
 have bY:=H.tt T;rw[bp] at bY;obtain⟨fZ,_,m'⟩:=bY;obtain⟨he,⟨d,z0,n5⟩,_⟩:=ol m';have xf:=ky S hi;have bL:=dX S C T x;obtain⟨inf,k8,kc⟩:∃inf,P.info? e=some inf/\inf.size=1:=by
  have:=n5.2.2.2;cases aC:P.info? e with
  |none=>simp[aC] at this
  |some i=>simp only[aC,Option.map_some,bH,Prod.mk.injEq] at this;exact⟨i,rfl,this.1⟩
 have run:∀{b:Nat},Act.eval ⟨M,[]⟩ x=.pointer (some ⟨b,0,none⟩)->0<=n->n<m->(execOp (Act.eval ⟨M,[]⟩) D).run P w=.ok (.value (.pointer (some ⟨b,n.toNat,none⟩))) w:=by
  intro b hx h0 h1;unfold execOp;simp[aP,hx,xf,Instr.indexAt,Instr.sureAddr,asIntOf,run_underlying fZ,h0,h1,sizeOf,lF k8,kc,hK]
 unfold sQ;split
 ·rename_i o s u hx;rw[hx] at bL;split
  ·rename_i bw xs hrow;split
   ·rename_i jS;obtain⟨rfl,rfl⟩:=jS;refine Holds.eR fun y hy=>?_
    obtain⟨zs,hz1,hz2⟩:=Option.bind_eq_some_iff.1 (hy:(long m xs).bind (fun xs=>bf xs.length n)=some y)
    obtain⟨rfl,hlen⟩:=vy hz1;unfold bf at hz2;split at hz2
    ·rename_i hb;cases hz2;obtain⟨b,c,cs,hv,dd,_⟩:=S.arr hrow bL;refine eh S aa (run hv hb.1 (by rw[<-hlen];exact hb.2)) ⟨b,?_,?_⟩
     ·rw[he,Nat.mul_one,Nat.add_zero]
     ·rcases ks hrow with h|h<;>exact Ref.mk h rfl ⟨_,_,dd⟩
    ·cases hz2
   ·exact .fail
  ·exact .fail
 ·rename_i g hx;rw[hx] at bL;split
  ·rename_i bw xs r';cases hc:(decide (bw=t)&&xs.length.beq m) with
   |false=>exact .fail
   |true=>
    simp only[bz,dW] at hc;obtain⟨rfl,hlen⟩:=hc;have hlen:=ce hlen;refine Holds.eR fun y hy=>?_
    have ez:aS xs n=some y:=hy;unfold aS at ez;split at ez
    ·rename_i h0;have hlt:n.toNat<xs.length:=by
      rcases Nat.lt_or_ge n.toNat xs.length with h|h
      ·exact h
      ·rw[List.getElem?_eq_none h] at ez;cases ez
     obtain⟨acQ,uU⟩:=H.gt g _ _ r';obtain⟨f',cq⟩:=S.ly;obtain⟨gW,fz',cs,hg,ek⟩:=uU w (aN X F st.sites) f';have hv:Act.eval ⟨M,[]⟩ x=.pointer (some ⟨g,0,none⟩):=bL;refine eh S aa (run hv h0 (by omega)) ⟨g,n.toNat,rfl,(cq g acQ).1,(cq g acQ).2,(cs.drop n.toNat).take 1,?_,fun j u hu=>?_,?_⟩
     ·have:cs.length=xs.length:=by rw[ek.1,fu,he,Nat.mul_one]
      rw[jC,he];simp;omega
     ·exact(((iE.row hg).drop n.toNat).take 1) j u hu|>fun h=>by simpa using h
     ·have hs:=vt bw xs n.toNat y ez;rw[he,Nat.mul_one] at hs;have nP:dl w (aN X F st.sites) (flat bw xs) cs:=ek;have arS:=ig (F:=F) (sites:=st.sites) nP.1 nP.2;have h2:=jF (ds:=((flat bw xs).drop n.toNat).take 1) (by
       have:=(arS.drop n.toNat).take 1;simpa[cT,List.map_drop,List.map_take] using this)
      rw[hs] at h2;exact h2.2
    ·cases ez
  ·exact .fail
 ·exact .fail
theorem ajL(S:az U Z X F st M w){C:Ctx}(H:CtxOk P C){T e:TypeId}{t:bi}{m:Nat}{x i:Operand}{k:IntKind}{n:Int}(bp:C.tt T=.arr e t m)(hi:bj C st 0 i=.av (.aq (.d (.int k n))))(aP:D.op=.index T x i)(aa:cE st D.dst=true):
  Holds (Kf t m (bj C st T x) n) (c7 P U Z X st M w D):=by
 have bY:=H.tt T;rw[bp] at bY;obtain⟨fZ,_,m'⟩:=bY;obtain⟨he,⟨d,z0,n5⟩,_⟩:=ol m';have xf:=ky S hi;have bL:=dX S C T x;obtain⟨inf,k8,kc⟩:∃inf,P.info? e=some inf/\inf.size=1:=by
  have:=n5.2.2.2;cases aC:P.info? e with
  |none=>simp[aC] at this
  |some i=>simp only[aC,Option.map_some,bH,Prod.mk.injEq] at this;exact⟨i,rfl,this.1⟩
 unfold Kf;split
 ·rename_i al hx;rw[hx] at bL;split
  ·rename_i xs uF;cases hc:xs.length.beq m with
   |false=>exact .fail
   |true=>
    have hlen:=ce hc;refine Holds.eR fun y hy=>?_
    have ez:aS xs n=some y:=hy;unfold aS at ez;split at ez
    ·rename_i h0;have hlt:n.toNat<xs.length:=by
      rcases Nat.lt_or_ge n.toNat xs.length with h|h
      ·exact h
      ·rw[List.getElem?_eq_none h] at ez;cases ez
     obtain⟨vs,hv,hl,hr⟩:∃vs:List Value,Act.eval ⟨M,[]⟩ x=.agg vs.toArray/\vs.length=al.length/\∀j (h:j<al.length) (an:j<vs.length),ey F st.sites w (aN X F st.sites) (al[j]) (vs[j]):=bL;have qs:cN F st.sites w (aN X F st.sites) al vs:=⟨hl,hr⟩;rw[Jx uF] at qs;have uL:=jF qs;have mW:vs.length=xs.length:=by rw[uL.1,fu,he,Nat.mul_one]
     obtain⟨d1,hd1⟩:∃d1,enc t y=[d1]:=by
      have:=jC t y;rw[he] at this;match h:enc t y,this with
      |[d1],_=>exact⟨d1,rfl⟩
     simp only[hd1];have c9:n.toNat<vs.length:=by omega
     refine eh S aa (vv:=vs[n.toNat]) ?_ ?_
     ·have LF:(isAgg e).run P w=.ok false w:=by
       have h1:=n5.1;simp only[isAgg,Sem.run_bind,run_underlying h1,Result.andThen_ok];have g1:=n5.2.1;have g2:=n5.2.2.1;cases d<;>first|rfl|exact absurd rfl (g1 _)|exact absurd rfl (g2 _ _)
      have h1:n<(m:Int):=by omega
      unfold execOp;simp[aP,hv,xf,Instr.index,asIntOf,run_underlying fZ,h0,h1,sizeOf,lF k8,kc,part,LF,c9]
     ·have hs:=vt t xs n.toNat y ez;rw[he,Nat.mul_one,hd1] at hs;have qw:n.toNat<(flat t xs).length:=by rw[fu,he,Nat.mul_one];exact hlt
      have e1:(flat t xs)[n.toNat]=d1:=by
       have:=congrArg (fun l=>l[0]?) hs
       simp only[List.getElem?_take,List.getElem?_drop] at this;rw[if_pos (by decide),Nat.add_zero,d_ qw] at this
       simpa using this
      have:=uL.2 n.toNat qw c9;rw[e1] at this;exact this
    ·cases ez
  ·exact .fail
 ·exact .fail
theorem aiL(S:az U Z X F st M w){C:Ctx}(H:CtxOk P C){T e:TypeId}{t:bi}{m:Nat}{x:Operand}{df hi:Option Operand}(bp:C.tt T=.arr e t m)(aP:D.op=.slice T x df hi none)(aa:cE st D.dst=true):
  Holds (tv st t m (bj C st T x) (df.map (bj C st 0)) (hi.map (bj C st 0))) (c7 P U Z X st M w D):=by
 have bY:=H.tt T;rw[bp] at bY;obtain⟨fZ,_,m'⟩:=bY;obtain⟨he,⟨d,z0,n5⟩,_⟩:=ol m';have bL:=dX S C T x;obtain⟨inf,k8,kc⟩:∃inf,P.info? e=some inf/\inf.size=1:=by
  have:=n5.2.2.2;cases aC:P.info? e with
  |none=>simp[aC] at this
  |some i=>simp only[aC,Option.map_some,bH,Prod.mk.injEq] at this;exact⟨i,rfl,this.1⟩
 have rL:∀{df:Option Operand} {l' l:Int},jk l' (df.map (bj C st 0))=some l->(df.map (Act.eval ⟨M,[]⟩)=none/\l=l')\/∃k,df.map (Act.eval ⟨M,[]⟩)=some (.int k l):=by
  intro df l' l h;rcases SV S h with⟨rfl,an⟩|⟨x,k,rfl,an⟩
  ·exact .inl ⟨rfl,an⟩
  ·exact .inr ⟨k,by simp[an]⟩
 unfold tv;split
 ·rename_i o s u hx;rw[hx] at bL;split
  ·rename_i bw xs l h hrow gE hhi;split
   ·rename_i jS;obtain⟨rfl,rfl⟩:=jS;refine Holds.il fun r hr=>?_
    obtain⟨zs,hz1,hz2⟩:=Option.bind_eq_some_iff.1 (hr:(long m xs).bind (fun xs=>bq xs l h)=some r)
    obtain⟨rfl,hlen⟩:=vy hz1;unfold bq at hz2;split at hz2
    ·rename_i hb;obtain⟨h0,h1,h2⟩:=hb;cases hz2;obtain⟨b,c,cs,hv,dd,_⟩:=S.arr hrow bL;refine QN (us:=[(o,.dG s bw zs)]) (SM hrow).symm ?_
     have hfz:ei st.sites [(o,.dG s bw zs)]:=by
      intro ae ai hm;simp only[List.mem_singleton,Prod.mk.injEq] at hm;obtain⟨rfl,rfl⟩:=hm;exact⟨s,bw,zs,rfl,ks hrow⟩
     have aW:lE U Z X F st M w [(o,.dG s bw zs)]:=⟨S,hfz⟩;have M7:=Fa hfz (List.mem_singleton.2 rfl);obtain⟨ek,Xl⟩:=aW.new.sites o _ M7;rw[dd] at ek;generalize acz:Value.slice (some ⟨b,0,none⟩) zs.length c=v at ek;cases ek with
     |nil=>cases acz
     |sl _ _ a cap pb k hk hcap eA hl hc hr=>
      cases acz;have ayV:=FH (P:=P) (w:=w) false m m (df.map (Act.eval ⟨M,[]⟩)) (hi.map (Act.eval ⟨M,[]⟩)) l h (rL gE) (rL hhi) h0 h1 (by omega) (Nat.le_refl _)
      refine lH (us:=[(o,.dG s bw zs)]) aW.new aa (vv:=.slice (if m=l.toNat then some ⟨b,0,none⟩ else(some (⟨b,0,none⟩:Addr)).map (·.add (l.toNat*bh bw))) (h.toNat-l.toNat) (m-l.toNat)) ?_ ?_
      ·unfold execOp;simp only[aP,Option.map_none,Sem.run_bind,Instr.sliceAt,run_underlying fZ,Result.andThen_ok,hv,Instr.sureAddr,Sem.run_pure,ayV,sizeOf,lF k8,kc,he];split<;>simp
      ·exact IG eA ⟨hl,hr⟩ hc l.toNat h.toNat m (by omega) (by omega) (by omega)
    ·cases hz2
   ·exact .fail
  ·exact .fail
 ·exact .fail
theorem ajS{f g:Nat->Option (Nat×Nat)}(h:∀i p,f i=some p->g i=some p):∀(l:List (Nat×Value)) (cs pb:Array Value),Instr.fill f cs l=some pb->Instr.fill g cs l=some pb:=by
 intro l;induction l with
 |nil=>intro cs pb k;exact k
 |cons p l ih=>
  obtain⟨i,v⟩:=p;intro cs pb k;simp only[Instr.fill] at k ⊢;cases hf:f i with
  |none=>simp[hf] at k
  |some q=>
   obtain⟨off,size⟩:=q;rw[h i _ hf];rw[hf] at k;simp only at k ⊢;split at k
   ·cases k
   ·rename_i hn;rw[if_neg hn];exact ih _ _ k
theorem aj2(S:az U Z X F st M w){C:Ctx}(H:CtxOk P C){T e:TypeId}{t:bi}{n:Nat}{z:aU}{parts:Array (Nat×Operand)}(bp:C.tt T=.arr e t n)(hz:uz t=some z)(aP:D.op=.build T parts)(aa:cE st D.dst=true):
  Holds (step.nC C st ((List.range n).map fun j=>(j,1)) (List.replicate n z) parts.toList) (c7 P U Z X st M w D):=by
 have bY:=H.tt T;rw[bp] at bY;obtain⟨fZ,⟨gF,gq,k8,hz1,hzz⟩,m'⟩:=bY;rw[hz] at hz1;cases hz1;obtain⟨he,⟨d,z0,n5⟩,_⟩:=ol m';obtain⟨aDw,ayH,auo⟩:∃inf,P.info? e=some inf/\inf.size=1:=by
  have:=n5.2.2.2;cases aC:P.info? e with
  |none=>simp[aC] at this
  |some i=>simp only[aC,Option.map_some,bH,Prod.mk.injEq] at this;exact⟨i,rfl,this.1⟩
 obtain⟨aG,aK,bP⟩:=vl hzz;intro y hy hc;obtain⟨g1,j7,g2,g3⟩:=Ry S parts.toList (List.replicate n z) gF ⟨aG,fun j h an=>bP _ _ _ _ j h an⟩ y hy hc
 rw[g1];refine eh S aa (vv:=.agg j7) ?_ g3;cases hi:P.info? T with
 |none=>simp[hi] at k8
 |some it=>
  simp only[hi,Option.map_some,bH,Prod.mk.injEq] at k8;have hb:P.built T (parts.toList.map fun p=>(p.1,Act.eval ⟨M,[]⟩ p.2))=some j7:=by
   unfold Program.built;simp only[hi,fZ,k8.2,ayH,auo];refine ajS (fun i p hp=>?_) _ _ _ g2
   simp only[List.getElem?_toArray,List.getElem?_map,Option.map_eq_some_iff] at hp;obtain⟨a,ha,rfl⟩:=hp;have:=List.getElem?_eq_some_iff.1 ha;obtain⟨h1,h2⟩:=this;simp at h2;subst h2;simp
  have eA:P.built T (parts.map fun p=>(p.1,Act.eval ⟨M,[]⟩ p.2)).toList=some j7:=by simpa using hb
  unfold execOp;simp only[aP,Sem.run_bind,run_build w T _ j7 eA,Result.andThen_ok,Sem.run_pure]
theorem agk(S:az U Z X F st M w){C:Ctx}{x:Operand}{k:IntKind}{n:Int}{T ev:TypeId}(aP:D.op=.unOp .xor ev x)(aa:cE st D.dst=true)(hc:bj C st T x=.av (.aq (.d (.int k n)))):
  c7 P U Z X st M w D (one (.int k (dB k (if k.signed then-1 else k.max) n))) []:=by
 refine eh S aa (vv:=.int k (dB k (if k.signed then-1 else k.max) n)) ?_ (.int _ _)
 unfold execOp;simp[aP,ky S hc,Op.unary,Op.intBits,dB]
end
def mJ:Nat->Value:=fun _=>undef
def nJ(w:World)(av:Nat->Prop)(l:aU)(v:Value)(bs:List Nat):Prop:=
 match l with
 |.fresh t xs=>bs=(b0 v).toList/\∃e,∃cs:List Value,rowAt w t.ki e (bh t) v xs.length cs/\dl w av (flat t xs) cs
 |l=>bs=[]/\ey mJ [] w av l v
def l2(w:World)(av:Nat->Prop):List aU->List Value->List Nat->Prop
 |[],[],bs=>bs=[]
 |l::al,v::vs,bs=>∃b1 b2,bs=b1++b2/\nJ w av l v b1/\l2 w av al vs b2
 |_,_,_=>False
def Dj(w:World)(av:Nat->Prop):b5->Value->List Nat->Prop
 |.aq l,v,bs=>nJ w av l v bs
 |.agg al,v,bs=>∃vs:List Value,v=.agg vs.toArray/\l2 w av al vs bs
def lT(w:World)(av:Nat->Prop):List b5->List Value->List Nat->Prop
 |[],[],bs=>bs=[]
 |l::al,v::vs,bs=>∃b1 b2,bs=b1++b2/\Dj w av l v b1/\lT w av al vs b2
 |_,_,_=>False
def JC(w:World)(av:Nat->Prop)(b:Nat)(cells:List aU)(bs:List Nat):Prop:=
 ∃T,∃cur:List Value,∃pc,bs=b::pc/\w.heap[b]? =some (.cells cur.toArray T (0,0))/\(∀u∈cur,u.oneCell'=true)/\nI cells T cur b/\l2 w av cells cur pc
def Uy(w:World)(av:Nat->Prop):Arg->Value->List Nat->Prop
 |.av a,v,bs=>Dj w av a v bs
 |.fN cells,v,bs=>∃b,v=.pointer (some ⟨b,0,none⟩)/\JC w av b cells bs
def jD(w:World)(av:Nat->Prop):List Arg->List Value->List Nat->Prop
 |[],[],bs=>bs=[]
 |l::al,v::vs,bs=>∃b1 b2,bs=b1++b2/\Uy w av l v b1/\jD w av al vs b2
 |_,_,_=>False
def eu:List Arg->List Value->List Nat
 |.fN _::as,.pointer (some a)::vs=>a.block::eu as vs
 |_::as,_::vs=>eu as vs
 |_,_=>[]
def jH(w:World)(av:Nat->Prop):List Nat->List (List aU)->List Nat->Prop
 |[],[],bs=>bs=[]
 |b::dV,cs::c_,bs=>∃b1 b2,bs=b1++b2/\JC w av b cs b1/\jH w av dV c_ b2
 |_,_,_=>False
def oH:List Value->Value
 |[v]=>v
 |vs=>.tuple vs.toArray
def Enters(P:Program)(g:FuncId)(vs:Array Value)(w:World)(R:Value->World->Prop):Prop:=
 ((callFunc g vs).run P w=.ok (.enter g vs) w/\Calls P g vs w fun|.returned v,w'=>R v w'|_,_=>False)\/(∃v w',(callFunc g vs).run P w=.ok (.value v) w'/\R v w')
def aF(P:Program)(g:FuncId)(S:aI):Prop:=
 ∀as y,(S as).comp=some y->∀(w:World) (X:Nat->Prop) (vs:List Value) (dP:List Nat),jD w (fun b=>X b\/b∈dP) as vs dP->dP.Nodup->(∀b,b∈dP->¬X b)->(∀b,X b->b<w.heap.size)->jg w dP X->
  Enters P g vs.toArray w fun v w'=>∃eO eN rv,Fr dP w w'/\jH w' (fun b=>X b\/b∈eO++eN) (eu as vs) ((S as).fN y) eO/\lT w' (fun b=>X b\/b∈eO++eN) ((S as).fH y) rv eN/\
   v=oH rv/\(eO++eN).Nodup/\∀b,b∈eO++eN->¬X b/\(b∈dP\/w.heap.size<=b)
section
variable {U:World}{Z:List Nat}{X:Nat->Prop}{F:Nat->Value}{st:ao}{M:Array Value}{w:World}
theorem cy.hT{sites:List (Nat×Site)}{av cz:Nat->Prop}(h:∀b,cz b->av b)(hlt:∀b,cz b->b<w.heap.size){a:bb}{v:Value}(k:cy F sites w av a v):cy F sites w cz a v:=by
 have G:iK F F sites sites w w av cz:=⟨fun o ai hs=>⟨ai,hs,Nat.le_refl _,fun _=>rfl⟩,fun _ _ _=>rfl,fun b hb _ an=>hb (h b an)⟩
 exact k.goes G (Nat.le_refl _) hlt
theorem kz.hT{sites:List (Nat×Site)}{av cz:Nat->Prop}(h:∀b,cz b->av b)(hlt:∀b,cz b->b<w.heap.size){o:Nat}{ai:Site}(k:kz F sites w av o ai):kz F sites w cz o ai:=by
 have G:iK F F sites sites w w av cz:=⟨fun o ai hs=>⟨ai,hs,Nat.le_refl _,fun _=>rfl⟩,fun _ _ _=>rfl,fun b hb _ an=>hb (h b an)⟩
 exact k.goes G (Nat.le_refl _) hlt rfl (fun _ _ _=>rfl)
theorem az.lt(S:az U Z X F st M w){b:Nat}(h:aN X F st.sites b):b<w.heap.size:=by
 rcases h with h|⟨o,h1,h2⟩
 ·exact S.old b h
 ·exact S.gf h1 h2
theorem az.shrink(S:az U Z X F st M w){X':Nat->Prop}(h:∀b,X' b->X b):az U Z X' F st M w:=by
 have cq:∀b,aN X' F st.sites b->aN X F st.sites b:=by
  rintro b (hb|hb)
  ·exact .inl (h b hb)
  ·exact .inr hb
 have hlt:=fun b hb=>S.lt (cq b hb)
 exact⟨S.nt,fun t=>(S.c8 t).hT cq hlt,fun o ai hs=>(S.sites o ai hs).hT cq hlt,S.eD,fun o b h1 h2=>⟨fun hx=>(S.cF o b h1 h2).1 (h b hx),(S.cF o b h1 h2).2⟩,S.frame,fun b hb=>S.old b (h b hb),S.fw.less fun b _=>h b⟩
theorem az.kill(S:az U Z X F st M w){o:Nat}{ai:Site}(hl:look st.sites o=some ai)(mF:ai.live=true):
  az U Z (fun b=>X b\/b0 (F o)=some b) F {st with sites:=cI st.sites o (.dead ai.cL)} M w:=by
 have c9:∀ae,cD (cI st.sites o (.dead ai.cL)) ae->ae≠o/\cD st.sites ae:=by
  rintro ae ⟨s,h1,h2⟩;rw[dn] at h1;by_cases e:o=ae
  ·subst e;simp at h1;subst h1;cases h2
  ·simp only[e,if_false] at h1;exact⟨fun h=>e h.symm,s,h1,h2⟩
 have cq:∀b,aN (fun b=>X b\/b0 (F o)=some b) F (cI st.sites o (.dead ai.cL)) b->aN X F st.sites b:=by
  rintro b ((h|h)|⟨ae,h1,h2⟩)
  ·exact .inl h
  ·exact .inr ⟨o,⟨ai,hl,mF⟩,h⟩
  ·exact .inr ⟨ae,(c9 ae h1).2,h2⟩
 have hlt:=fun b hb=>S.lt (cq b hb)
 have cA:az U Z X F {st with sites:=cI st.sites o (.dead ai.cL)} M w:=by
  have xi:∀b,aN X F (cI st.sites o (.dead ai.cL)) b->aN X F st.sites b:=by
   rintro b (h|⟨ae,h1,h2⟩)
   ·exact .inl h
   ·exact .inr ⟨ae,(c9 ae h1).2,h2⟩
  refine S.rC (fun ae s hs=>?_) (fun _ _ _=>rfl) (fun b hb _ an=>hb (xi b an)) (fun go ae s hs=>?_) (fun ae ρ b h1 h2 g1 g2=>S.eD ae ρ b (c9 ae h1).2 (c9 ρ h2).2 g1 g2) (fun ae b h1 h2=>S.cF ae b (c9 ae h1).2 h2)
   (fun ae b h1 h2=>S.gf (c9 ae h1).2 h2) S.frame (Nat.le_refl _)
  ·rw[dn];by_cases e:o=ae
   ·subst e;rw[hl] at hs;cases hs;exact⟨.dead ai.cL,by simp,Nat.le_refl _,fun _=>rfl⟩
   ·exact⟨s,by simp[e,hs],Nat.le_refl _,fun _=>rfl⟩
  ·rw[dn] at hs;by_cases e:o=ae
   ·simp only[e,if_true,bH] at hs;subst hs;exact .inr trivial
   ·simp only[e,if_false] at hs;exact .inl ⟨hs,rfl,fun _ _ _=>rfl⟩
 refine⟨cA.nt,fun t=>?_,fun ae s hs=>?_,cA.eD,fun ae b h1 h2=>⟨?_,(cA.cF ae b h1 h2).2⟩,cA.frame,?_,S.fw.less fun b hb hx=>hx.elim id fun e=>absurd (.inr ⟨o,⟨ai,hl,mF⟩,e⟩) (S.ly.2 b hb).1⟩
 ·have G:iK F F st.sites (cI st.sites o (.dead ai.cL)) w w (aN X F st.sites) (aN (fun b=>X b\/b0 (F o)=some b) F (cI st.sites o (.dead ai.cL))):=
   ⟨fun ae s hs=>by
    rw[dn];by_cases e:o=ae
    ·subst e;rw[hl] at hs;cases hs;exact⟨.dead ai.cL,by simp,Nat.le_refl _,fun _=>rfl⟩
    ·exact⟨s,by simp[e,hs],Nat.le_refl _,fun _=>rfl⟩,fun _ _ _=>rfl,fun b hb _ an=>hb (cq b an)⟩
  exact(S.c8 t).goes G (Nat.le_refl _) hlt
 ·have gp:look (cI st.sites o (.dead ai.cL)) ae=some s:=hs;rw[dn] at gp;by_cases e:o=ae
  ·simp only[e,if_true,bH] at gp;subst gp;trivial
  ·simp only[e,if_false] at gp;have G:iK F F st.sites (cI st.sites o (.dead ai.cL)) w w (aN X F st.sites) (aN (fun b=>X b\/b0 (F o)=some b) F (cI st.sites o (.dead ai.cL))):=
    ⟨fun ae s hs=>by
     rw[dn];by_cases e:o=ae
     ·subst e;rw[hl] at hs;cases hs;exact⟨.dead ai.cL,by simp,Nat.le_refl _,fun _=>rfl⟩
     ·exact⟨s,by simp[e,hs],Nat.le_refl _,fun _=>rfl⟩,fun _ _ _=>rfl,fun b hb _ an=>hb (cq b an)⟩
   exact(S.sites ae s gp).goes G (Nat.le_refl _) hlt rfl (fun _ _ _=>rfl)
 ·rintro(hx|hx)
  ·exact(cA.cF ae b h1 h2).1 hx
  ·exact(c9 ae h1).1 (S.eD ae o b (c9 ae h1).2 ⟨ai,hl,mF⟩ h2 hx)
 ·rintro b (hb|hb)
  ·exact S.old b hb
  ·exact S.gf ⟨ai,hl,mF⟩ hb
theorem az.jump(S:az U Z X F st M w){w':World}(h:∀b,¬X b->b<w.heap.size->w'.heap[b]? =w.heap[b]?)(hs:w.heap.size<=w'.heap.size)(hf:Fr Z U w'):
  az U Z (fun b=>X b\/(w.heap.size<=b/\b<w'.heap.size)) F st M w':=by
 have hlt:∀b,aN (fun b=>X b\/(w.heap.size<=b/\b<w'.heap.size)) F st.sites b->b<w'.heap.size:=by
  rintro b ((hb|hb)|⟨ae,h1,h2⟩)
  ·exact Nat.lt_of_lt_of_le (S.old b hb) hs
  ·exact hb.2
  ·exact Nat.lt_of_lt_of_le (S.gf h1 h2) hs
 have G:iK F F st.sites st.sites w w' (aN X F st.sites) (aN (fun b=>X b\/(w.heap.size<=b/\b<w'.heap.size)) F st.sites):=
  ⟨fun ae s h=>⟨s,h,Nat.le_refl _,fun _=>rfl⟩,fun b hb eA=>h b (fun hx=>hb (.inl hx)) eA,fun b hb eA an=>by
   rcases an with(an|an)|an
   ·exact hb (.inl an)
   ·omega
   ·exact hb (.inr an)⟩
 refine⟨S.nt,fun t=>(S.c8 t).goes G hs hlt,fun o s h1=>(S.sites o s h1).goes G hs hlt rfl (fun hl b hb=>?_),S.eD,fun o b h1 h2=>⟨?_,(S.cF o b h1 h2).2⟩,hf,?_,S.fw.less fun b hb hx=>hx.elim id fun e=>absurd (S.ly.2 b hb).2 (by omega)⟩
 ·exact h b (S.cF o b ⟨s,h1,hl⟩ hb).1 (S.gf ⟨s,h1,hl⟩ hb)
 ·rintro(hx|hx)
  ·exact(S.cF o b h1 h2).1 hx
  ·have:=S.gf h1 h2;omega
 ·rintro b (hb|hb)
  ·exact Nat.lt_of_lt_of_le (S.old b hb) hs
  ·exact hb.2
theorem az.wZ(S:az U Z X F st M w){X':Nat->Prop}{n:Nat}{b':Site}{nv:Value}(gV:∀b,X' b->X b)
  (ej:(∀ai,look st.sites n=some ai->ai.cL<b'.cL)\/(F n=nv/\∀ai,look st.sites n=some ai->ai.cL=b'.cL/\ai.live=false))
  (hb:∀b,b0 nv=some b->X b/\¬X' b/\(b∈Z\/U.heap.size<=b))
  (f':∀{b_:List (Nat×Site)} {a_:Nat->Value},b_=cI st.sites n b'->a_ n=nv->(∀{a v},cy F st.sites w (aN X F st.sites) a v->cy a_ b_ w (aN X' a_ b_) a v)->
   (∀b,aN X' a_ b_ b->aN X F st.sites b)->kz a_ b_ w (aN X' a_ b_) n b'):
  az U Z X' (fun ae=>if ae=n then nv else F ae) {st with sites:=cI st.sites n b'} M w/\
   (∀b,aN X' (fun ae=>if ae=n then nv else F ae) (cI st.sites n b') b->aN X F st.sites b)/\
   (∀{a v},cy F st.sites w (aN X F st.sites) a v->cy (fun ae=>if ae=n then nv else F ae) (cI st.sites n b') w (aN X' (fun ae=>if ae=n then nv else F ae) (cI st.sites n b')) a v):=by
 have c9:∀ae,cD (cI st.sites n b') ae->ae=n\/(ae≠n/\cD st.sites ae):=by
  rintro ae ⟨s,h1,h2⟩;rw[dn] at h1;by_cases e:n=ae
  ·exact .inl e.symm
  ·simp only[e,if_false] at h1;exact .inr ⟨fun h=>e h.symm,s,h1,h2⟩
 have cq:∀b,aN X' (fun ae=>if ae=n then nv else F ae) (cI st.sites n b') b->aN X F st.sites b:=by
  rintro b (h|⟨ae,h1,h2⟩)
  ·exact .inl (gV b h)
  ·rcases c9 ae h1 with rfl|⟨h3,aD⟩
   ·simp at h2;exact .inl (hb b h2).1
   ·simp only[h3,if_false] at h2;exact .inr ⟨ae,aD,h2⟩
 have rJ:∀o ai,look st.sites o=some ai->∃aQ,look (cI st.sites n b') o=some aQ/\ai.cL<=aQ.cL/\(aQ.cL=ai.cL->(fun ae=>if ae=n then nv else F ae) o=F o):=by
  intro ae s hs;rw[dn];by_cases e:n=ae
  ·subst e;refine⟨b',by simp,?_,fun h=>?_⟩
   ·rcases ej with h|⟨_,h⟩
    ·exact Nat.le_of_lt (h s hs)
    ·exact Nat.le_of_eq (h s hs).1
   ·rcases ej with an|⟨an,_⟩
    ·have:=an s hs;omega
    ·simp[an]
  ·have cW:¬ae=n:=fun h=>e h.symm
   exact⟨s,by simp[e,hs],Nat.le_refl _,fun _=>by simp[cW]⟩
 have G:iK F (fun ae=>if ae=n then nv else F ae) st.sites (cI st.sites n b') w w (aN X F st.sites) (aN X' (fun ae=>if ae=n then nv else F ae) (cI st.sites n b')):=
  ⟨rJ,fun _ _ _=>rfl,fun b hb _ an=>hb (cq b an)⟩
 have hlt:=fun b hb=>S.lt (cq b hb)
 refine⟨⟨S.nt,fun t=>(S.c8 t).goes G (Nat.le_refl _) hlt,fun ae s hs=>?_,fun ae ρ b h1 h2 g1 g2=>?_,fun ae b h1 h2=>?_,S.frame,fun b h=>S.old b (gV b h),S.fw.less fun b _=>gV b⟩,cq,fun h=>h.goes G (Nat.le_refl _) hlt⟩
 ·have gp:look (cI st.sites n b') ae=some s:=hs;rw[dn] at gp;by_cases e:n=ae
  ·subst e;simp only[if_true,bH] at gp;subst gp;exact f' rfl (by simp) (fun h=>h.goes G (Nat.le_refl _) hlt) cq
  ·have cW:¬ae=n:=fun h=>e h.symm
   simp only[e,if_false] at gp;exact(S.sites ae s gp).goes G (Nat.le_refl _) hlt (by simp[cW]) (fun _ _ _=>rfl)
 ·rcases c9 ae h1 with rfl|⟨n1,ed⟩<;>rcases c9 ρ h2 with rfl|⟨n2,fU⟩
  ·rfl
  ·simp only[if_true] at g1;simp only[n2,if_false] at g2;exact absurd (hb b g1).1 (S.cF ρ b fU g2).1
  ·simp only[if_true] at g2;simp only[n1,if_false] at g1;exact absurd (hb b g2).1 (S.cF ae b ed g1).1
  ·simp only[n1,if_false] at g1;simp only[n2,if_false] at g2;exact S.eD ae ρ b ed fU g1 g2
 ·rcases c9 ae h1 with rfl|⟨n1,ed⟩
  ·simp only[if_true] at h2;exact⟨(hb b h2).2.1,(hb b h2).2.2⟩
  ·simp only[n1,if_false] at h2;exact⟨fun hx=>(S.cF ae b ed h2).1 (gV b hx),(S.cF ae b ed h2).2⟩
end
def k0(w:World)(av:Nat->Prop):List (List bk)->List Value->Prop
 |[],[]=>True
 |ds::r,v::vs=>(∃b,∃cs:List Value,v=.pointer (some ⟨b,0,none⟩)/\¬av b/\b<w.heap.size/\iE w b 0 cs/\dl w av ds cs)/\k0 w av r vs
 |_,_=>False
theorem k0.fn{w:World}{av:Nat->Prop}{g:FuncId}:∀{bN:List (List bk)} {vs:List Value},k0 w av bN vs->bU w av (.fn g bN) (.func (.func g) #[] vs.toArray):=by
 intro bN vs h;have key:∀{bN:List (List bk)} {vs:List Value},k0 w av bN vs->∃oe:List Nat,∃fx:List (List Value),vs=oe.map (fun b=>Value.pointer (some ⟨b,0,none⟩))/\oe.length=bN.length/\fx.length=bN.length/\
   (∀b,b∈oe->¬av b/\b<w.heap.size)/\(∀i (h:i<oe.length) (an:i<fx.length),iE w oe[i] 0 fx[i])/\(∀i (h:i<bN.length) (an:i<fx.length),dl w av bN[i] fx[i]):=by
  intro bN;induction bN with
  |nil=>
   intro vs h;match vs,h with
   |[],_=>exact⟨[],[],rfl,rfl,rfl,fun b h=>by simp at h,fun i h=>by simp at h,fun i h=>by simp at h⟩
  |cons ds bN ih=>
   intro vs h;match vs,h with
   |v::vs,⟨⟨b,cs,h1,h2,h3,aD,bn⟩,cl⟩=>
    obtain⟨oe,fx,aG,aK,bP,cU,fA,h9⟩:=ih cl;refine⟨b::oe,cs::fx,by simp[h1,aG],by simp[aK],by simp[bP],fun c hc=>?_,fun i g1 g2=>?_,fun i g1 g2=>?_⟩
    ·rcases bR.1 hc with rfl|hc
     ·exact⟨h2,h3⟩
     ·exact cU c hc
    ·cases i with
     |zero=>exact aD
     |succ i=>exact fA i (by simpa using g1) (by simpa using g2)
    ·cases i with
     |zero=>exact bn
     |succ i=>exact h9 i (by simpa using g1) (by simpa using g2)
 obtain⟨oe,fx,aG,aK,bP,cU,fA,h9⟩:=key h;refine .fn g bN oe (fun i=>fx.getD i []) _ (by rw[aG]) aK (fun b hb=>(cU b hb).1) (fun b hb=>(cU b hb).2) (fun i hi=>?_) (fun i hi j u hu=>?_) (fun i hi j h1 h2=>?_)
 ·have an:i<fx.length:=by omega
  have:=(h9 i hi an).1;simpa[List.getD,an] using this
 ·have an:i<fx.length:=by omega
  have:=fA i hi an j u (by simpa[List.getD,an] using hu)
  simpa using this
 ·have an:i<fx.length:=by omega
  have h2':j<fx[i].length:=by simpa[List.getD,an] using h2
  have:=(h9 i hi an).2 j h1 h2';simpa[List.getD,an] using this
theorem k0.WV{w:World}{av:Nat->Prop}{g:FuncId}{bN:List (List bk)}{v:Value}(h:bU w av (.fn g bN) v):∃vs:List Value,v=.func (.func g) #[] vs.toArray/\k0 w av bN vs:=by
 cases h with
 |fn _ _ bs jz lb hlb uW hb hlt hl hc hr=>
  refine⟨bs.map fun b=>Value.pointer (some ⟨b,0,none⟩),by rw[hlb],?_⟩
  have key:∀(bN:List (List bk)) (bs:List Nat) (jz:Nat->List Value),bs.length=bN.length->(∀b,b∈bs->¬av b/\b<w.heap.size)->(∀i (h:i<bN.length),(jz i).length=(bN[i]).length)->
    (∀i (h:i<bs.length) j u,(jz i)[j]? =some u->w.cell? ⟨bs[i],j,none⟩=some u)->(∀i (h:i<bN.length) j (h1:j<(bN[i]).length) (h2:j<(jz i).length),bU w av ((bN[i])[j]) ((jz i)[j]))->
    k0 w av bN (bs.map fun b=>Value.pointer (some ⟨b,0,none⟩)):=by
   intro bN;induction bN with
   |nil=>intro bs jz h _ _ _ _;rw[fO h];trivial
   |cons ds bN ih=>
    intro bs jz h h1 h2 h3 aD;match bs,h with
    |b::bs,h=>
     refine⟨⟨b,jz 0,rfl,(h1 b cj).1,(h1 b cj).2,fun j u hu=>?_,h2 0 (by simp),fun j g1 g2=>aD 0 (by simp) j g1 g2⟩,?_⟩
     ·have:=h3 0 (by simp) j u hu
      simpa using this
     ·exact ih bs (fun i=>jz (i+1)) (by simpa using h) (fun c hc=>h1 c (ci _ hc)) (fun i hi=>h2 (i+1) (by simpa using hi)) (fun i hi j u hu=>h3 (i+1) (by simpa using hi) j u hu)
       (fun i hi j g1 g2=>aD (i+1) (by simpa using hi) j g1 g2)
  exact key bN bs jz uW (fun b h=>⟨hb b h,hlt b h⟩) hl hc hr
section
variable {U:World}{Z:List Nat}{X:Nat->Prop}{F:Nat->Value}{st:ao}{M:Array Value}{w:World}
structure fX(U:World)(Z:List Nat)(X:Nat->Prop)(F:Nat->Value)(st:ao)(M:Array Value)(w:World)(dF:List (Nat×Site))(fs:List Nat)(av:Nat->Prop):Prop where
 fz:lE U Z X F st M w dF
 le:∀b,av b->aN X F (bB st.sites dF) b
 aBz:∀o,o∈fs->∀b,b0 (F o)=some b->¬av b
variable {dF:List (Nat×Site)}{fs:List Nat}{av:Nat->Prop}
theorem fX.lt(L:fX U Z X F st M w dF fs av){b:Nat}(h:av b):b<w.heap.size:=L.fz.new.lt (L.le b h)
theorem fX.sub(L:fX U Z X F st M w dF fs av){b:Nat}(h:av b):aN X F st.sites b:=by
 rcases L.le b h with h|⟨o,⟨ai,h1,h2⟩,h3⟩
 ·exact .inl h
 ·refine .inr ⟨o,?_,h3⟩;rcases mq L.fz.fz o with h|⟨s,t,xs,aD,bn⟩
  ·exact⟨ai,h▸h1,h2⟩
  ·rw[bn] at h1;cases h1;cases h2
theorem fX.rd(L:fX U Z X F st M w dF fs av){d:bk}{v:Value}(h:bU w (aN X F (bB st.sites dF)) d v):bU w av d v:=
 cy.hT (F:=F) (sites:=[]) (a:=one d) (v:=v) L.le (fun b hb=>L.lt hb) h
theorem fX.xD(L:fX U Z X F st M w dF fs av){d:bk}{v:Value}(h:bU w (aN X F st.sites) d v):bU w av d v:=
 cy.hT (F:=F) (sites:=[]) (a:=one d) (v:=v) (fun b hb=>L.sub hb) (fun b hb=>L.lt hb) h
theorem Rw(L:fX U Z X F st M w dF fs av):∀{bN:List (Nat×Nat)} {cs:List (List bk)} {us:List (Nat×Site)} {bs:List Nat} {vs:List Value},lR st bN=some (cs,us,bs)->
  (∀p,p∈us->p∈dF)->(∀o,o∈bs->o∈fs)->vs.length=bN.length->(∀i (h:i<bN.length) (an:i<vs.length),Ref st.sites (bN[i]).1 (bN[i]).2 (vs[i]=F (bN[i]).1))->k0 w av cs vs:=by
 intro bN;induction bN with
 |nil=>
  intro cs us bs vs h _ _ hl _;simp only[lR] at h;cases h;rw[fO hl];trivial
 |cons c bN ih=>
  obtain⟨o,s⟩:=c;intro cs us bs vs h hV eS hl hr;simp only[lR] at h;split at h
  ·rename_i cells mM;split at h
   ·rename_i ds u1 rest u2 b2 ho p1;cases h;match vs,hl with
    |v::vs,hl=>
     have ka:=hC mM;obtain⟨b,T,cur,h1,h2,h3,aD,_,bn⟩:=L.fz.old.sites o _ ka;have hv:v=F o:=Ref.at (hr 0 (by simp) (by simp)) ka rfl
     have ek:=BS ho ⟨h3,bn⟩ L.fz (fun p hp=>hV p (bo.2 (.inl hp)))
     refine⟨⟨b,cur,by rw[hv,h1],L.aBz o (eS o cj) b (by rw[h1];rfl),L.fz.old.gf ⟨_,ka,rfl⟩ (by rw[h1];rfl),.row h2,ek.1,fun j g1 g2=>L.rd (ek.2 j g1 g2)⟩,?_⟩
     exact ih p1 (fun p hp=>hV p (bo.2 (.inr hp))) (fun ae b7=>eS ae (ci _ b7)) (by simpa using hl) (fun i g1 g2=>hr (i+1) (by simpa using g1) (by simpa using g2))
   ·cases h
  ·cases h
theorem IJ(L:fX U Z X F st M w dF fs av){l gU:aU}{us:List (Nat×Site)}{bs:List Nat}{v:Value}(h:nM st l=some (gU,us,bs))(hV:∀p,p∈us->p∈dF)(eS:∀o,o∈bs->o∈fs)
  (hv:ey F st.sites w (aN X F st.sites) l v):nJ w av gU v []:=by
 unfold nM at h;split at h
 ·rename_i cells;cases h;obtain⟨b,D,h1,h2,h3,cs,aD,bn,cl⟩:=hv;exact⟨rfl,b,D,h1,fun hx=>h2 (L.sub hx),h3,cs,aD,bn,fun j g1 g2=>L.xD (cl j g1 g2)⟩
 ·rename_i g c cs;split at h
  ·rename_i ds u b hc;cases h;obtain⟨vs,h1,h2,h3⟩:=hv;rw[h1];exact⟨rfl,(Rw L hc hV eS h2 h3).fn⟩
  ·cases h
 ·split at h
  ·rename_i d u aa;cases h;exact⟨rfl,L.rd (Wi aa hv L.fz hV)⟩
  ·cases h
theorem alI(L:fX U Z X F st M w dF fs av):∀{al gQ:List aU} {us:List (Nat×Site)} {bs:List Nat} {vs:List Value},mD st al=some (gQ,us,bs)->(∀p,p∈us->p∈dF)->(∀o,o∈bs->o∈fs)->
  cN F st.sites w (aN X F st.sites) al vs->l2 w av gQ vs []:=by
 intro al;induction al with
 |nil=>intro gQ us bs vs h _ _ hv;simp only[mD] at h;cases h;rw[hv.oC];rfl
 |cons l al ih=>
  intro gQ us bs vs h hV eS hv;simp only[mD] at h;split at h
  ·rename_i a u1 b1 as u2 b2 h1 h2;cases h;obtain⟨v,cH,rfl,qp,qo⟩:=hv.inv;exact⟨[],[],rfl,IJ L h1 (fun p hp=>hV p (bo.2 (.inl hp))) (fun p hp=>eS p (bo.2 (.inl hp))) qp,
    ih h2 (fun p hp=>hV p (bo.2 (.inr hp))) (fun p hp=>eS p (bo.2 (.inr hp))) qo⟩
  ·cases h
def dy(F:Nat->Value)(gH:List Nat):List Nat:=gH.filterMap fun o=>b0 (F o)
theorem kr{aE:Type}(a b:List (Nat×aE)):keys (a++b)=keys a++keys b:=by
 induction a with
 |nil=>rfl
 |cons p a ih=>simp[keys,ih]
theorem pv(a b:List Nat):dy F (a++b)=dy F a++dy F b:=by simp[dy]
def hO(sites:List (Nat×Site))(us:List (Nat×Site)):Prop:=∀o aQ,(o,aQ)∈us->∃ai,look sites o=some ai/\ai.live=true/\aQ=.dead ai.cL
theorem hO.nil{sites:List (Nat×Site)}:hO sites []:=fun _ _ h=>by simp at h
theorem hO.append{sites us vs:List (Nat×Site)}(h:hO sites us)(an:hO sites vs):hO sites (us++vs):=by
 intro o s hm;rcases bo.1 hm with hm|hm
 ·exact h o s hm
 ·exact an o s hm
theorem anP(L:fX U Z X F st M w dF fs av){o s:Nat}{t:bi}{xs:List (den t)}(hl:look st.sites o=some (.row s t xs)):
  ∃e,∃cs:List Value,rowAt w t.ki e (bh t) (F o) xs.length cs/\dl w av (flat t xs) cs:=by
 obtain⟨e,cs,h1,h2⟩:=L.fz.old.sites o _ hl;refine⟨e,cs,h1,by rw[fu];exact h1.1,fun j g1 g2=>L.xD (h2 j g1 g2)⟩
theorem Ad(L:fX U Z X F st M w dF fs av){l gU:aU}{us:List (Nat×Site)}{v:Value}(h:oM st l=some (gU,us))(hv:ey F st.sites w (aN X F st.sites) l v):
  nJ w av gU v (dy F (keys us))/\hO st.sites us:=by
 unfold oM at h;split at h
 ·cases h;exact⟨⟨rfl,L.xD hv⟩,.nil⟩
 ·rename_i t;cases h;have hv:v=.slice none 0 0:=hv;subst hv;exact⟨⟨rfl,0,[],⟨by simp,.inl ⟨rfl,rfl⟩⟩,rfl,fun j g=>by simp[flat] at g⟩,.nil⟩
 ·rename_i o s;split at h
  ·rename_i aQ t xs hl;cases hb:aQ.beq s with
   |false=>simp[hb] at h
   |true=>
    simp only[hb,ad,bH,Prod.mk.injEq] at h;obtain⟨rfl,rfl⟩:=h;have hs:=ce hb;subst hs;have hl:look st.sites o=some (.row aQ t xs):=hl;have nZ:v=F o:=Ref.at hv.2 hl rfl;obtain⟨e,cs,h1,h2⟩:=anP L hl;refine⟨⟨?_,e,cs,by rw[nZ];exact h1,h2⟩,fun ae aC2 hm=>?_⟩
    ·simp only[keys,dy,List.filterMap_cons,List.filterMap_nil,nZ];cases b0 (F o)<;>rfl
    ·simp only[List.mem_singleton,Prod.mk.injEq] at hm;obtain⟨rfl,rfl⟩:=hm;exact⟨_,hl,rfl,rfl⟩
  ·rename_i aQ t xs hl;cases hb:aQ.beq s with
   |false=>simp[hb] at h
   |true=>
    simp only[hb,ad,bH,Prod.mk.injEq] at h;obtain⟨rfl,rfl⟩:=h;have hs:=ce hb;subst hs;have hl:look st.sites o=some (.dG aQ t xs):=hl;have nZ:v=F o:=Ref.at hv.2 hl rfl;refine⟨⟨rfl,?_⟩,.nil⟩;rw[nZ];exact L.xD (L.fz.old.sites o _ hl).1
  ·cases h
 ·cases h;exact⟨⟨rfl,trivial⟩,.nil⟩
 ·cases h;exact⟨⟨rfl,hv⟩,.nil⟩
 ·cases h
theorem Rm{al gQ:List aU}{us:List (Nat×Site)}(h:k_ st al=some (gQ,us))(bV:gQ.head?=some .dM):al.head?=some .dM:=by
 cases al with
 |nil=>simp only[k_] at h;cases h;cases bV
 |cons l al=>
  simp only[k_] at h;split at h
  ·rename_i a u1 as u2 h1 h2;cases h;simp only[List.head?_cons,bH] at bV ⊢;subst bV;unfold oM at h1;split at h1<;>try(cases h1;done)
   ·split at h1;all_goals first|cases h1;done|skip
    all_goals
     rename_i aQ t xs _;revert h1
     generalize aQ.beq _=q;intro h1;cases q<;>cases h1
   ·rfl
  ·cases h
theorem Je(L:fX U Z X F st M w dF fs av):∀{al gQ:List aU} {us:List (Nat×Site)} {vs:List Value},k_ st al=some (gQ,us)->cN F st.sites w (aN X F st.sites) al vs->
  l2 w av gQ vs (dy F (keys us))/\hO st.sites us:=by
 intro al;induction al with
 |nil=>intro gQ us vs h hv;simp only[k_] at h;cases h;rw[hv.oC];exact⟨rfl,.nil⟩
 |cons l al ih=>
  intro gQ us vs h hv;simp only[k_] at h;split at h
  ·rename_i a u1 as u2 h1 h2;cases h;obtain⟨v,cH,rfl,qp,qo⟩:=hv.inv;obtain⟨aG,aK⟩:=Ad L h1 qp;obtain⟨bP,cU⟩:=ih h2 qo;exact⟨⟨_,_,by rw[kr,pv],aG,bP⟩,aK.append cU⟩
  ·cases h
theorem jD.append{as pd:List Arg}{vs cH:List Value}{bs pc:List Nat}(h:jD w av as vs bs)(an:jD w av pd cH pc):jD w av (as++pd) (vs++cH) (bs++pc):=by
 induction as generalizing vs bs with
 |nil=>
  match vs,h with
  |[],h=>have h:bs=[]:=h;subst h;exact an
 |cons a as ih=>
  match vs,h with
  |v::vs,⟨b1,b2,h1,h2,h3⟩=>exact⟨b1,b2++pc,by rw[h1,List.append_assoc],h2,ih h3⟩
theorem ah6{cs:List (List bk)}{vs:List Value}(h:k0 w av cs vs):jD w av (oE cs) vs []:=by
 induction cs generalizing vs with
 |nil=>
  match vs,h with
  |[],_=>rfl
 |cons ds cs ih=>
  match vs,h with
  |v::vs,⟨⟨b,cur,h1,h2,h3,aD,bn⟩,cl⟩=>
   refine⟨[],[],rfl,⟨rfl,b,0,by rw[h1],h2,h3,cur,by rw[bn.1],fun j u hu=>aD j u hu,bn.2⟩,ih cl⟩
theorem Pa{as pd:List Arg}{vs cH:List Value}(hl:as.length=vs.length):eu (as++pd) (vs++cH)=eu as vs++eu pd cH:=by
 induction as generalizing vs with
 |nil=>rw[fO hl.symm];rfl
 |cons a as ih=>
  match vs,hl with
  |v::vs,hl=>
   have:=ih (vs:=vs) (by simpa using hl)
   cases a with
   |av a=>cases v<;>simp[eu,this]
   |fN c=>
    cases v<;>try(simp[eu,this];done)
    rename_i p;cases p<;>simp[eu,this]
theorem ah8(cs:List (List bk))(vs:List Value):eu (oE cs) vs=[]:=by
 induction cs generalizing vs with
 |nil=>cases vs<;>rfl
 |cons c cs ih=>cases vs<;>simp[oE,eu,ih]
theorem jD.length{as:List Arg}{vs:List Value}{bs:List Nat}(h:jD w av as vs bs):as.length=vs.length:=by
 induction as generalizing vs bs with
 |nil=>
  match vs,h with
  |[],_=>rfl
 |cons a as ih=>
  match vs,h with
  |v::vs,⟨_,_,_,_,h⟩=>simp[ih h]
theorem ajw(L:fX U Z X F st M w dF fs av):∀{cS:List bb} {a:kK} {vs:List Value},jG st cS=some a->cS.length=vs.length->
  (∀i (h:i<cS.length) (an:i<vs.length),cy F st.sites w (aN X F st.sites) (cS[i]) (vs[i]))->(∀p,p∈a.fi->p∈dF)->(∀o,o∈a.gy->o∈fs)->
  jD w av a.as vs (dy F (keys a.gone))/\hO st.sites a.gone/\eu a.as vs=dy F (keys a.boxes)/\(∀o s,(o,s)∈a.boxes->(o,.dead s)∈a.gone/\∃b,F o=.pointer (some ⟨b,0,none⟩)):=by
 intro cS;induction cS with
 |nil=>
  intro a vs h hl _ _ _;simp only[jG] at h;cases h;rw[fO hl.symm];exact⟨rfl,.nil,rfl,fun o s hm=>by simp at hm⟩
 |cons sy cS ih=>
  intro a vs h hl hv hV eS;match vs,hl with
  |v::vs,hl=>
   have nY:=hv 0 (by simp) (by simp)
   have hvs:∀i (h:i<cS.length) (an:i<vs.length),cy F st.sites w (aN X F st.sites) (cS[i]) (vs[i]):=fun i g1 g2=>hv (i+1) (by simpa using g1) (by simpa using g2)
   have gR:cS.length=vs.length:=by simpa using hl
   simp only[List.getElem_cons_zero] at nY;unfold jG at h;split at h
   ·cases ‹sy::cS=[]›
   ·rename_i o s cH ch;cases ch;split at h
    ·rename_i cells r mM hr;split at h
     ·rename_i cs gone hg;cases h;obtain⟨aG,aK,bP,cU⟩:=ih hr gR hvs hV eS;have ka:=hC mM;obtain⟨b,T,cur,e1,e2,bE,dN,fp⟩:=L.fz.old.box ka nY;have Lq:nI cells T cur b:=by
       obtain⟨b2,eW,_e,q1,q2,_,_,dU,_⟩:=L.fz.old.sites o _ ka;rw[e1] at q1;cases q1;rw[bE] at q2;cases q2;exact dU
      obtain⟨g1,g2⟩:=Je L hg fp;subst e2;refine⟨⟨b::dy F (keys gone),_,?_,⟨b,rfl,T,cur,_,rfl,bE,dN,fun bV=>Lq (Rm hg bV),g1⟩,aG⟩,?_,?_,?_⟩
      ·show dy F (keys (((o,Site.dead s)::gone)++r.gone))=_;rw[kr,pv];congr 1
       simp[keys,dy,e1,b0]
      ·refine hO.append ?_ aK;intro ae aQ hm;rcases bR.1 hm with hm|hm
       ·cases hm;exact⟨_,ka,rfl,rfl⟩
       ·exact g2 ae aQ hm
      ·simp[eu,bP,keys,dy,e1,b0]
      ·intro ae aQ hm;rcases bR.1 hm with hm|hm
       ·cases hm;exact⟨by simp,b,e1⟩
       ·obtain⟨q1,q2⟩:=cU ae aQ hm;exact⟨bo.2 (.inr q1),q2⟩
     ·cases h
    ·cases h
   ·rename_i l cH _ ch;cases ch;split at h
    ·rename_i gU us bs r h1 hr;cases h;obtain⟨aG,aK,bP,cU⟩:=ih hr gR hvs (fun p hp=>hV p (bo.2 (.inr hp))) (fun p hp=>eS p (bo.2 (.inr hp)))
     have:=IJ L h1 (fun p hp=>hV p (bo.2 (.inl hp))) (fun p hp=>eS p (bo.2 (.inl hp))) nY
     refine⟨⟨[],_,rfl,this,aG⟩,aK,?_,cU⟩;cases v<;>simp[eu,bP]
    ·cases h
   ·rename_i al cH ch;cases ch;split at h
    ·rename_i gQ us bs r h1 hr;cases h;obtain⟨aG,aK,bP,cU⟩:=ih hr gR hvs (fun p hp=>hV p (bo.2 (.inr hp))) (fun p hp=>eS p (bo.2 (.inr hp)))
     obtain⟨nS,e1,e2,bE⟩:=nY;have:=alI L h1 (fun p hp=>hV p (bo.2 (.inl hp))) (fun p hp=>eS p (bo.2 (.inl hp))) ⟨e2,bE⟩
     refine⟨⟨[],_,rfl,⟨nS,e1,this⟩,aG⟩,aK,?_,cU⟩;cases v<;>simp[eu,bP]
    ·cases h
   ·cases h
theorem ajO(L:fX U Z X F st M w dF fs av){l gU:aU}{gs us:List (Nat×Site)}{bs:List Nat}{v:Value}(h:pS st l=some (gU,gs,us,bs))(hV:∀p,p∈us->p∈dF)(eS:∀o,o∈bs->o∈fs)
  (hv:ey F st.sites w (aN X F st.sites) l v):nJ w av gU v (dy F (keys gs))/\hO st.sites gs:=by
 unfold pS at h;split at h
 ·split at h
  ·rename_i hg;cases h;exact Ad L hg hv
  ·cases h
 ·cases h;exact Ad (l:=.nil _) (us:=[]) L rfl hv
 ·split at h
  ·rename_i hl;cases h;exact⟨IJ L hl hV eS hv,.nil⟩
  ·cases h
theorem ahO(L:fX U Z X F st M w dF fs av):∀{cS:List bb} {a:kK} {vs:List Value},mx st cS=some a->cS.length=vs.length->
  (∀i (h:i<cS.length) (an:i<vs.length),cy F st.sites w (aN X F st.sites) (cS[i]) (vs[i]))->(∀p,p∈a.fi->p∈dF)->(∀o,o∈a.gy->o∈fs)->
  jD w av a.as vs (dy F (keys a.gone))/\hO st.sites a.gone/\eu a.as vs=dy F (keys a.boxes)/\(∀o s,(o,s)∈a.boxes->(o,.dead s)∈a.gone/\∃b,F o=.pointer (some ⟨b,0,none⟩)):=by
 intro cS;induction cS with
 |nil=>
  intro a vs h hl _ _ _;simp only[mx] at h;cases h;rw[fO hl.symm];exact⟨rfl,.nil,rfl,fun o s hm=>by simp at hm⟩
 |cons sy cS ih=>
  intro a vs h hl hv hV eS;match vs,hl with
  |v::vs,hl=>
   have nY:=hv 0 (by simp) (by simp)
   have hvs:∀i (h:i<cS.length) (an:i<vs.length),cy F st.sites w (aN X F st.sites) (cS[i]) (vs[i]):=fun i g1 g2=>hv (i+1) (by simpa using g1) (by simpa using g2)
   have gR:cS.length=vs.length:=by simpa using hl
   simp only[List.getElem_cons_zero] at nY;unfold mx at h;split at h
   ·cases ‹sy::cS=[]›
   ·rename_i l cH ch;cases ch;split at h
    ·rename_i gU gs us bs r h1 hr;cases h;obtain⟨aG,aK,bP,cU⟩:=ih hr gR hvs (fun p hp=>hV p (bo.2 (.inr hp))) (fun p hp=>eS p (bo.2 (.inr hp)))
     obtain⟨g1,g2⟩:=ajO L h1 (fun p hp=>hV p (bo.2 (.inl hp))) (fun p hp=>eS p (bo.2 (.inl hp))) nY
     refine⟨⟨_,_,by rw[kr,pv],g1,aG⟩,g2.append aK,?_,fun ae aQ hm=>?_⟩
     ·cases v<;>simp[eu,bP]
     ·obtain⟨q1,q2⟩:=cU ae aQ hm;exact⟨bo.2 (.inr q1),q2⟩
    ·cases h
   ·cases h
theorem P2{b:Bool}(L:fX U Z X F st M w dF fs av){cS:List bb}{a:kK}{vs:List Value}(h:ta b st cS=some a)(hl:cS.length=vs.length)
  (hv:∀i (h:i<cS.length) (an:i<vs.length),cy F st.sites w (aN X F st.sites) (cS[i]) (vs[i])) (h1:∀p,p∈a.fi->p∈dF) (h2:∀o,o∈a.gy->o∈fs):
  jD w av a.as vs (dy F (keys a.gone))/\hO st.sites a.gone/\eu a.as vs=dy F (keys a.boxes)/\(∀o s,(o,s)∈a.boxes->(o,.dead s)∈a.gone/\∃b,F o=.pointer (some ⟨b,0,none⟩)):=by
 cases b
 ·exact ajw L h hl hv h1 h2
 ·exact ahO L h hl hv h1 h2
end
end Go.Jk
