/- FnExactDiskTear: the program's DiskTear returns what the reference's returns, for all arguments. (part 1 of 7: JkCore, JkGlob, JkState, JkExec, JkFoot, JkCode, JkTurn, JkOps1, JkOps2, JkOps3, JkOps4, JkOps5, JkOps6, JkOps7, JkOps8, JkOps9, JkOps10, JkOps11, JkOps12, JkOps13, JkOps14, JkOps15, JkOps16, JkOps17,) Conditions: none beyond the statement. -/
import Derived.Calls
import Derived.Below
import Derived.WalkKit
import Derived.Laws.AppendOwn
import Derived.Great.BuildSlice
import Derived.IntWalk
import Derived.Laws.Tables
import Derived.MapKept
import Derived.Laws.BytesArg
import Derived.Lib.ConvBytes
set_option linter.unusedSimpArgs false
set_option linter.unusedVariables false
namespace Go.Jk
abbrev F:=List UInt8
structure az where
 path:F
 kind:Int
 mode:Int
 text:F
structure bB where
 name:F
 kind:Int
 aV:F
structure aW where
 name:F
 aV:F
 bl:List bB
 bQ:List az
structure aoa where
 name:F
 text:F
structure Zc where
 name:F
 text:F
structure Source where
 name:F
 sum:F
structure Piece where
 name:F
 eY:F
structure aiR where
 name:F
 aV:F
 lets:List Zc
 builds:List bB
 runs:List bB
 sources:List Source
 pieces:List Piece
 steps:List F
structure anF where
 at_:Int
 lines:List F
inductive a6 where
 |i64|u8|u32|bool|str|entry|need|pack|file|lt|source|piece|recipe|hunk|sQ
 deriving DecidableEq
@[reducible] def den:a6->Type
 |.i64|.u8|.u32=>Int
 |.bool=>Bool
 |.str=>F
 |.entry=>az
 |.need=>bB
 |.pack=>aW
 |.file=>aoa
 |.lt=>Zc
 |.source=>Source
 |.piece=>Piece
 |.recipe=>aiR
 |.hunk=>anF
 |.sQ=>List Bool
inductive aZ:Type where
 |int (k:IntKind) (n:Int)
 |bool (b:Bool)
 |str (s:F)
 |sl (t:a6) (xs:List (den t))
 |fn (g:FuncId) (bz:List (List aZ))
 |map (t:a6) (es:List (F×den t))
 |err (T:Nat) (B:Option Int)
def enc:(t:a6)->den t->List aZ
 |.i64,n=>[.int .i64 n]
 |.u8,n=>[.int .u8 n]
 |.u32,n=>[.int .u32 n]
 |.bool,b=>[.bool b]
 |.str,s=>[.str s]
 |.entry,e=>[.str e.path,.int .i64 e.kind,.int .i64 e.mode,.str e.text]
 |.need,n=>[.str n.name,.int .i64 n.kind,.str n.aV]
 |.pack,p=>[.str p.name,.str p.aV,.sl .need p.bl,.sl .entry p.bQ]
 |.file,f=>[.str f.name,.str f.text]
 |.lt,f=>[.str f.name,.str f.text]
 |.source,f=>[.str f.name,.str f.sum]
 |.piece,f=>[.str f.name,.str f.eY]
 |.recipe,r=>[.str r.name,.str r.aV,.sl .lt r.lets,.sl .need r.builds,.sl .need r.runs,.sl .source r.sources,.sl .piece r.pieces,.sl .str r.steps]
 |.hunk,h=>[.int .i64 h.at_,.sl .str h.lines]
 |.sQ,b=>[.sl .bool b]
def aT:a6->Nat
 |.i64|.u8|.u32|.bool|.str|.sQ=>1
 |.entry=>4
 |.need=>3
 |.pack=>4
 |.file|.lt|.source|.piece|.hunk=>2
 |.recipe=>8
def dec:(t:a6)->List aZ->Option (den t)
 |.i64,[.int .i64 n]=>some n
 |.u8,[.int .u8 n]=>some n
 |.u32,[.int .u32 n]=>some n
 |.bool,[.bool b]=>some b
 |.str,[.str s]=>some s
 |.entry,[.str a,.int .i64 k,.int .i64 m,.str b]=>some ⟨a,k,m,b⟩
 |.need,[.str a,.int .i64 k,.str b]=>some ⟨a,k,b⟩
 |.pack,[.str a,.str b,.sl .need ns,.sl .entry es]=>some ⟨a,b,ns,es⟩
 |.file,[.str a,.str b]=>some ⟨a,b⟩
 |.lt,[.str a,.str b]=>some ⟨a,b⟩
 |.source,[.str a,.str b]=>some ⟨a,b⟩
 |.piece,[.str a,.str b]=>some ⟨a,b⟩
 |.recipe,[.str a,.str b,.sl .lt ad,.sl .need bs,.sl .need kK,.sl .source aR,.sl .piece ps,.sl .str b']=>some ⟨a,b,ad,bs,kK,aR,ps,b'⟩
 |.hunk,[.int .i64 n,.sl .str ad]=>some ⟨n,ad⟩
 |.sQ,[.sl .bool b]=>some b
 |_,_=>none
theorem iU:∀(t:a6) (x:den t),(enc t x).length=aT t:=by
 intro t x;cases t<;>rfl
theorem lK(t:a6):0<aT t:=by cases t<;>decide
theorem zP:∀(t:a6) (ds:List aZ) (x:den t),dec t ds=some x->enc t x=ds:=by
 intro t ds x h;unfold dec at h;split at h<;>first|(cases h;rfl)|cases h
def flat(t:a6)(xs:List (den t)):List aZ:=xs.flatMap (enc t)
theorem eW(t:a6)(xs:List (den t)):(flat t xs).length=xs.length*aT t:=by
 unfold flat;induction xs with
 |nil=>simp
 |cons x xs ih=>simp[List.flatMap_cons,iU,ih,Nat.add_mul,Nat.add_comm]
theorem ru(t:a6)(xs bd:List (den t)):flat t (xs++bd)=flat t xs++flat t bd:=by
 simp[flat,List.flatMap_append]
theorem flat_get(t:a6)(xs:List (den t))(i j:Nat)(x:den t)(hx:xs[i]? =some x)(hj:j<aT t):
  (flat t xs)[i*aT t+j]? =(enc t x)[j]? :=by
 induction xs generalizing i with
 |nil=>simp at hx
 |cons y bd ih=>
  cases i with
  |zero=>
   simp only[List.getElem?_cons_zero,Option.some.injEq] at hx;subst hx;simp only[Nat.zero_mul,Nat.zero_add,flat,List.flatMap_cons];rw[List.getElem?_append_left (by rw[iU];exact hj)]
  |succ i=>
   simp only[List.getElem?_cons_succ] at hx;have:=ih i hx;simp only[flat,List.flatMap_cons] at this ⊢;rw[List.getElem?_append_right (by rw[iU,Nat.add_mul];omega),iU]
   rw[<-this];congr 1
   rw[Nat.add_mul];omega
theorem afe(t:a6)(xs:List (den t))(i:Nat)(x:den t):
  flat t (xs.set i x)=(flat t xs).take (i*aT t)++(if i<xs.length then enc t x else [])++(flat t xs).drop ((i+1)*aT t):=by
 induction xs generalizing i with
 |nil=>simp[flat]
 |cons y bd ih=>
  cases i with
  |zero=>
   simp only[List.set_cons_zero,flat,List.flatMap_cons,Nat.zero_mul,List.take_zero,List.nil_append,List.length_cons,Nat.zero_lt_succ,if_true,Nat.zero_add,Nat.one_mul];rw[List.drop_append_of_le_length (by rw[iU];omega)]
   rw[show List.drop (aT t) (enc t y)=[] from List.drop_eq_nil_of_le (by rw[iU];exact Nat.le_refl _)]
   rfl
  |succ i=>
   have h:=ih i;simp only[flat] at h;simp only[List.set_cons_succ,flat,List.flatMap_cons,List.length_cons];rw[h];have e1:List.take ((i+1)*aT t) (enc t y++bd.flatMap (enc t))=enc t y++(bd.flatMap (enc t)).take (i*aT t):=by
    rw[List.take_append,List.take_of_length_le (by rw[iU,Nat.add_mul];omega),iU]
    congr 2
    rw[Nat.add_mul];omega
   have e2:List.drop ((i+1+1)*aT t) (enc t y++bd.flatMap (enc t))=(bd.flatMap (enc t)).drop ((i+1)*aT t):=by
    rw[List.drop_append,List.drop_eq_nil_of_le (by rw[iU,Nat.add_mul,Nat.add_mul];omega),iU,List.nil_append]
    congr 1
    rw[Nat.add_mul (i+1) 1];omega
   rw[e1,e2];simp only[Nat.add_lt_add_iff_right,List.append_assoc]
def il:List Int:=[1116352408,1899447441,3049323471,3921009573,961987163,1508970993,2453635748,2870763221,3624381080,310598401,607225278,1426881987,1925078388,2162078206,2614888103,3248222580,3835390401,4022224774,264347078,604807628,770255983,1249150122,1555081692,1996064986,2554220882,2821834349,2952996808,3210313671,3336571891,3584528711,113926993,338241895,666307205,773529912,1294757372,1396182291,1695183700,1986661051,2177026350,2456956037,2730485921,2820302411,3259730800,3345764771,3516065817,3600352804,4094571909,275423344,430227734,506948616,659060556,883997877,958139571,1322822218,1537002063,1747873779,1955562222,2024104815,2227730452,2361852424,2428436474,2756734187,3204031479,3329325298]
def Su:List Int:=(List.range 20).map fun i=>((10^i:Nat):Int)
def nN(w:World)(g:Nat)(k:IntKind)(zs:List Int):Prop:=∃T fz,w.heap[g]? =some (.cells (zs.map fun z=>Value.int k z).toArray T fz)
def qZ:TypeId:=91
def mc:TypeId:=5
def kF:List Nat:=[0,1]
def mW(w:World):Prop:=nN w 0 .u32 il/\nN w 1 .u64 Su
theorem ajW{w w':World}(h:∀b,b∈kF->w'.heap[b]? =w.heap[b]?)(k:mW w):mW w':=by
 obtain⟨⟨Lo,f0,h0⟩,⟨c',f1,h1⟩⟩:=k;exact⟨⟨Lo,f0,(h 0 (by simp[kF])).trans h0⟩,⟨c',f1,(h 1 (by simp[kF])).trans h1⟩⟩
theorem nN.lt{w:World}{g:Nat}{k:IntKind}{zs:List Int}(h:nN w g k zs):g<w.heap.size:=by
 obtain⟨T,f,h⟩:=h;exact(Array.getElem?_eq_some_iff.1 h).1
theorem aqL{w:World}(k:mW w)(b:Nat)(h:b∈kF):b<w.heap.size:=by
 simp only[kF,List.mem_cons,List.not_mem_nil,or_false] at h;rcases h with rfl|rfl
 ·exact k.1.lt
 ·exact k.2.lt
inductive aF:Type where
 |d (v:aZ)
 |nil (t:a6) -- td nil slice
 |own (o s:Nat) -- td whole of a row of AX own
 |ptr (o s off:Nat) -- a pointer atT a box of AX own
 |ev (cells:List aZ) (off:Nat) -- a pointer YU cells Bl XX only read
 |eT (o s:Nat) (t:a6) (k off:Nat) -- a pointer YU ats k of a row of AX own,apu cell 'oY
 |clo (g:FuncId) (bz:List (Nat×Nat)) -- a closure over boxes of AX own
 |cP (v:Value) -- atS this value
 |fresh (t:a6) (xs:List (den t)) -- a row Bl aty else holds (ahj caller and callee alone)
 |dn -- in a aj3 first cell:nil,or td aj3 own address (strings.atu)
 |any
inductive bL:Type where
 |ak (l:aF)
 |agg (ad:List aF)
inductive aJ:Type where
 |av (a:bL)
 |jD (as:List bL)
inductive Site:Type where
 |box (s:Nat) (cells:List aF)
 |row (s:Nat) (t:a6) (xs:List (den t))
 |di (s:Nat) (t:a6) (xs:List (den t))
 |map (s:Nat) (t:a6) (es:List (F×den t))
 |dead (s:Nat)
def Site.cq:Site->Nat
 |.box s _|.row s _ _|.di s _ _|.map s _ _|.dead s=>s
def Site.live:Site->Bool
 |.box _ _|.row _ _ _|.map _ _ _=>true
 |_=>false
def look{ax:Type}:List (Nat×ax)->Nat->Option ax
 |[],_=>none
 |(k,v)::r,n=>bif k.beq n then some v else look r n
def cl{ax:Type}:List (Nat×ax)->Nat->ax->List (Nat×ax)
 |[],n,v=>[(n,v)]
 |(k,w)::r,n,v=>bif k.beq n then(k,v)::r else(k,w)::cl r n v
theorem jB{a b:Nat}(h:¬a=b):a.beq b=false:=by
 cases e:a.beq b
 ·rfl
 ·exact absurd (Nat.eq_of_beq_eq_true e) h
theorem cZ{ax:Type}(l:List (Nat×ax))(n m:Nat)(v:ax):look (cl l n v) m=if n=m then some v else look l m:=by
 induction l with
 |nil=>
  simp only[cl,look];by_cases h:n=m
  ·subst h;simp
  ·have:n.beq m=false:=jB h;simp[this,h]
 |cons p l ih=>
  obtain⟨k,w⟩:=p;simp only[cl];by_cases h:k=n
  ·subst h;simp only[Nat.beq_refl,cond_true,look];by_cases hm:k=m
   ·subst hm;simp
   ·have:k.beq m=false:=jB hm;simp[this,hm]
  ·have hb:k.beq n=false:=jB h;simp only[hb,cond_false,look];by_cases hm:k=m
   ·subst hm;have:¬n=k:=fun e=>h e.symm
    simp[this]
   ·have:k.beq m=false:=jB hm;simp[this,ih]
structure ah where
 cF:List (Nat×aJ)
 sites:List (Nat×Site)
 nt:Nat
def ah.get(st:ah)(t:Nat):aJ:=match look st.cF t with|some v=>v|none=>.av (.ak .any)
def ah.ab(st:ah)(o:Nat):Option Site:=look st.sites o
def ah.set(st:ah)(t:Nat)(v:aJ):ah:={st with cF:=cl st.cF t v}
def ah.ib(st:ah)(o:Nat)(s:Site):ah:={st with sites:=cl st.sites o s}
@[simp] theorem ah.Gw(st:ah)(t u:Nat)(v:aJ):(st.set t v).get u=if t=u then v else st.get u:=by
 unfold ah.set ah.get;rw[cZ];by_cases h:t=u<;>simp[h]
@[simp] theorem ah.aef(st:ah)(t o:Nat)(v:aJ):(st.set t v).ab o=st.ab o:=rfl
@[simp] theorem ah.aio(st:ah)(t:Nat)(v:aJ):(st.set t v).nt=st.nt:=rfl
@[simp] theorem ah.aag(st:ah)(o u:Nat)(s:Site):(st.ib o s).get u=st.get u:=rfl
@[simp] theorem ah.w9(st:ah)(o aa:Nat)(s:Site):(st.ib o s).ab aa=if o=aa then some s else st.ab aa:=by
 unfold ah.ib ah.ab;simp only[cZ]
@[simp] theorem ah.aa6(st:ah)(o:Nat)(s:Site):(st.ib o s).nt=st.nt:=rfl
def m_:(t:a6)->den t->Value
 |.i64,n=>.int .i64 n
 |.bool,b=>.bool b
 |_,_=>undef
def gQ(l:F):Value:=.string ⟨l.toArray⟩
def my(arr:Array MapEntry):List (Value×Value):=arr.toList.map fun e=>(e.key,e.val)
def jV(t:a6)(es:List (F×den t)):List (Value×Value):=es.map fun p=>(gQ p.1,m_ t p.2)
def lT(w:World)(b:Nat)(t:a6)(es:List (F×den t)):Prop:=∃arr clock,w.heap[b]? =some (.map arr clock)/\my arr=jV t es
theorem lT.of{w w':World}{b:Nat}{t:a6}{es:List (F×den t)}(h:w'.heap[b]? =w.heap[b]?)(m:lT w b t es):lT w' b t es:=by
 obtain⟨arr,c,h1,h2⟩:=m;exact⟨arr,c,h.trans h1,h2⟩
theorem lT.lt{w:World}{b:Nat}{t:a6}{es:List (F×den t)}(m:lT w b t es):b<w.heap.size:=by
 obtain⟨arr,c,h1,h2⟩:=m;rcases Nat.lt_or_ge b w.heap.size with h|h
 ·exact h
 ·rw[Array.getElem?_eq_none h] at h1;cases h1
inductive bD(w:World)(av:Nat->Prop):aZ->Value->Prop where
 |int (k:IntKind) (n:Int):bD w av (.int k n) (.int k n)
 |bool (b:Bool):bD w av (.bool b) (.bool b)
 |str (l:F) (s:ByteArray) (h:s.data.toList=l):bD w av (.str l) (.string s)
 |nil (t:a6):bD w av (.sl t []) (.slice none 0 0)
 |sl (t:a6) (xs:List (den t)) (a:Addr) (cap:Nat) (cs:List Value) (n:Nat) (hn:n=xs.length) (hcap:n<=cap) (hb:xs≠[]->¬av a.block)
   (hl:cs.length=(flat t xs).length)
   (hc:∀j u,cs[j]? =some u->w.cell? (a.add j)=some u)
   (hr:∀j (h:j<(flat t xs).length) (af:j<cs.length),bD w av ((flat t xs)[j]) (cs[j])):bD w av (.sl t xs) (.slice (some a) n cap)
 |fn (g:FuncId) (bz:List (List aZ)) (bs:List Nat) (iR:Nat->List Value) (lb:Array Value) (hlb:lb=(bs.map fun b=>Value.pointer (some ⟨b,0,none⟩)).toArray) (tx:bs.length=bz.length)
   (hb:∀b,b∈bs->¬av b) (hlt:∀b,b∈bs->b<w.heap.size)
   (hl:∀i (h:i<bz.length),(iR i).length=(bz[i]).length)
   (hc:∀i (h:i<bs.length) j u,(iR i)[j]? =some u->w.cell? ⟨bs[i],j,none⟩=some u)
   (hr:∀i (h:i<bz.length) j (h1:j<(bz[i]).length) (h2:j<(iR i).length),bD w av ((bz[i])[j]) ((iR i)[j])):
   bD w av (.fn g bz) (.func (.func g) #[] lb)
 |vu (t:a6):bD w av (.map t []) (.map none)
 |map (t:a6) (es:List (F×den t)) (b:Nat) (hb:¬av b) (hm:lT w b t es):bD w av (.map t es) (.map (some b))
 |vG (T:TypeId):bD w av (.err T none) .nilIface
 |err (T:TypeId) (n:Int):bD w av (.err T (some n)) (.iface T (.agg #[.int .i64 n]))
theorem bD.jr{w:World}{av:Nat->Prop}{d:aZ}{v:Value}(r:bD w av d v):v.oneCell'=true:=by
 cases r<;>rfl
def BH(v:Value):Prop:=v=.slice none 0 0\/∃b n c,v=.slice (some ⟨b,0,none⟩) n c
def bH:Value->Option Nat
 |.slice (some a) _ _=>some a.block
 |.pointer (some a)=>some a.block
 |.map (some b)=>some b
 |_=>none
section
variable (D:Nat->Value)(sites:List (Nat×Site))(w:World)(av:Nat->Prop)
def Ref(o s:Nat)(p:Prop):Prop:=∃ab,look sites o=some ab/\s<=ab.cq/\(ab.cq=s->p)
def dQ:aF->Value->Prop
 |.d x,v=>bD w av x v
 |.nil _,v=>v=.slice none 0 0
 |.own o s,v=>v.oneCell'=true/\Ref sites o s (v=D o)
 |.ptr o s off,v=>∃b,v=.pointer (some ⟨b,off,none⟩)/\Ref sites o s (D o=.pointer (some ⟨b,0,none⟩))
 |.ev cells off,v=>∃b B,v=.pointer (some ⟨b,B+off,none⟩)/\¬av b/\b<w.heap.size/\∃cs:List Value,cs.length=cells.length/\(∀j u,cs[j]? =some u->w.cell? ⟨b,B+j,none⟩=some u)/\
   ∀j (h:j<cells.length) (af:j<cs.length),bD w av (cells[j]) (cs[j])
 |.eT o s t k off,v=>∃b,v=.pointer (some ⟨b,k*aT t+off,none⟩)/\Ref sites o s (∃n c,D o=.slice (some ⟨b,0,none⟩) n c)
 |.clo g bz,v=>∃vs:List Value,v=.func (.func g) #[] vs.toArray/\vs.length=bz.length/\∀i (h:i<bz.length) (af:i<vs.length),Ref sites (bz[i]).1 (bz[i]).2 (vs[i]=D (bz[i]).1)
 |.cP u,v=>v=u
 |.fresh _ _,_=>False
 |.dn,_=>True
 |.any,_=>True
def a6.jF:a6->Bool
 |.u8=>true
 |_=>false
def mK(u:Bool)(e:TypeId)(cur:Array Value)(fz:Nat×Nat):Prop:=(u=true->e=mc)/\(fz=(0,0)\/u=true/\cur.size<=fz.1)
def rowAt(w:World)(u:Bool)(e:TypeId)(size:Nat)(v:Value)(n:Nat)(xs:List Value):Prop:=
 xs.length=n*size/\((v=.slice none 0 0/\n=0)\/
  ∃g cap cur fz,v=.slice (some ⟨g,0,none⟩) n cap/\mK u e cur fz/\w.heap[g]? =some (.cells cur e fz)/\n<=cap/\cap<=maxLen/\cur.size=cap*size/\cur.toList.take (n*size)=xs)
theorem DH(w:World)(u:Bool)(e:TypeId)(size:Nat):rowAt w u e size (.slice none 0 0) 0 []:=⟨by simp,.inl ⟨rfl,rfl⟩⟩
def mE(cells:List aF)(T:TypeId)(cur:List Value)(b:Nat):Prop:=cells.head?=some .dn->T=qZ/\(cur.head?=some (.pointer none)\/cur.head?=some (.pointer (some ⟨b,0,none⟩)))
def gU:bL->Value->Prop
 |.ak l,v=>dQ D sites w av l v
 |.agg ad,v=>∃vs:List Value,v=.agg vs.toArray/\vs.length=ad.length/\∀j (h:j<ad.length) (af:j<vs.length),dQ D sites w av (ad[j]) (vs[j])
def cc:aJ->Value->Prop
 |.av a,v=>gU D sites w av a v
 |.jD as,v=>∃vs:List Value,v=.tuple vs.toArray/\vs.length=as.length/\∀j (h:j<as.length) (af:j<vs.length),gU D sites w av (as[j]) (vs[j])
def jU(o:Nat):Site->Prop
 |.box _ cells=>∃b T,∃cur:List Value,D o=.pointer (some ⟨b,0,none⟩)/\w.heap[b]? =some (.cells cur.toArray T (0,0))/\cur.length=cells.length/\
   (∀u∈cur,u.oneCell'=true)/\mE cells T cur b/\∀j (h:j<cells.length) (af:j<cur.length),dQ D sites w av (cells[j]) (cur[j])
 |.row _ t xs=>∃e,∃cs:List Value,rowAt w t.jF e (aT t) (D o) xs.length cs/\∀j (h:j<(flat t xs).length) (af:j<cs.length),bD w av ((flat t xs)[j]) (cs[j])
 |.di _ t xs=>bD w av (.sl t xs) (D o)/\BH (D o)
 |.map _ t es=>∃b,D o=.map (some b)/\lT w b t es
 |.dead _=>True
end
def cg(sites:List (Nat×Site))(o:Nat):Prop:=∃ab,look sites o=some ab/\ab.live=true
def ay(X:Nat->Prop)(D:Nat->Value)(sites:List (Nat×Site))(b:Nat):Prop:=X b\/∃o,cg sites o/\bH (D o)=some b
structure Fr(Y:List Nat)(O w:World):Prop where
 os:w.os=O.os
 tape:w.tape=O.tape
 output:w.output=O.output
 size:O.heap.size<=w.heap.size
 block:∀b,b<O.heap.size->b∉Y->w.heap[b]? =O.heap[b]?
theorem Fr.refl(Y:List Nat)(w:World):Fr Y w w:=⟨rfl,rfl,rfl,Nat.le_refl _,fun _ _ _=>rfl⟩
structure iz(w:World)(Y:List Nat)(X:Nat->Prop):Prop where
 ok:mW w
 Y:∀b,b∈kF->b∉Y
 X:∀b,b∈kF->¬X b
 lt:∀b,b∈kF->b<w.heap.size
theorem iz.less{w:World}{Y:List Nat}{X X':Nat->Prop}(G:iz w Y X)(h:∀b,b∈kF->X' b->X b):iz w Y X':=⟨G.ok,G.Y,fun b hb hx=>G.X b hb (h b hb hx),G.lt⟩
theorem iz.ajB{w:World}{Y:List Nat}{X X':Nat->Prop}(G:iz w Y X)(h:∀b,X' b->X b\/b∈Y):iz w Y X':=⟨G.ok,G.Y,fun b hb hx=>(h b hx).elim (G.X b hb) (G.Y b hb),G.lt⟩
structure am(O:World)(Y:List Nat)(X:Nat->Prop)(D:Nat->Value)(st:ah)(M:Array Value)(w:World):Prop where
 nt:M.size=st.nt
 cF:∀t,cc D st.sites w (ay X D st.sites) (st.get t) (M.getD t undef)
 sites:∀o ab,look st.sites o=some ab->jU D st.sites w (ay X D st.sites) o ab
 dV:∀o aa b,cg st.sites o->cg st.sites aa->bH (D o)=some b->bH (D aa)=some b->o=aa
 ci:∀o b,cg st.sites o->bH (D o)=some b->¬X b/\(b∈Y\/O.heap.size<=b)
 frame:Fr Y O w
 old:∀b,X b->b<w.heap.size
 eY:iz O Y X
inductive b_:Type where
 |none
 |int (k:IntKind)
 |bool
 |str
 |ptr
 |func
 |slice (e:TypeId) (t:a6) (bytes:Nat)
 |struct (bK:List (Nat×Nat)) (n:Nat) (z:List aF) (eq:Bool)
 |map (k e:TypeId) (t:a6)
 |arr (e:TypeId) (t:a6) (n:Nat)
 |iface
def wL:(t:a6)->Option (den t)
 |.i64|.u8|.u32=>some (0:Int)
 |.bool=>some false
 |.str=>some ([]:F)
 |_=>none
def ta:a6->Option aF
 |.i64=>some (.d (.int .i64 0))
 |.u8=>some (.d (.int .u8 0))
 |.u32=>some (.d (.int .u32 0))
 |.bool=>some (.d (.bool false))
 |.str=>some (.d (.str []))
 |_=>none
def b_.agg:b_->Bool
 |.struct _ _ _ _|.arr _ _ _=>true
 |_=>false
def b_.known:b_->Bool
 |.none=>false
 |_=>true
def b_.size:b_->Nat
 |.struct _ n _ _=>n
 |.arr _ _ n=>n
 |_=>1
def b_.zero:b_->Option (List aF)
 |.none=>Option.none
 |.int k=>some [.d (.int k 0)]
 |.bool=>some [.d (.bool false)]
 |.str=>some [.d (.str [])]
 |.ptr=>some [.cP (.pointer Option.none)]
 |.func=>some [.cP .nilFunc]
 |.slice _ t _=>some [.nil t]
 |.struct _ _ z _=>some z
 |.map _ _ _=>some [.cP (.map Option.none)]
 |.arr _ t n=>(ta t).map (List.replicate n)
 |.iface=>some [.cP .nilIface]
inductive Arg:Type where
 |av (a:bL)
 |fj (cells:List aF)
structure vJ:Type 1 where
 J:Type
 comp:Option J
 fj:J->List (List aF)
 fa:J->List bL
abbrev aH:=List Arg->vJ
def vJ.fail:vJ:=⟨Unit,Option.none,fun _=>[],fun _=>[]⟩
structure Ctx:Type 1 where
 tt:TypeId->b_
 bK:FuncId->Option aH
 lu:FuncId->Option FuncId:=fun _=>none
 m':FuncId->Bool:=fun _=>false
 op:FuncId->Bool:=fun _=>false
 ke:FuncId->Bool:=fun _=>false -- a adA copy check
 bs:FuncId->Bool:=fun _=>false -- a adA String
 gt:Nat->Option ((t:a6)×List (den t)):=fun _=>none -- td atp tables
structure de:Type 1 where
 J:Type
 comp:Option J
 val:J->aJ
 us:J->List (Nat×Site)
 q3:J->Bool
def de.fail:de:=⟨Unit,Option.none,fun _=>.av (.ak .any),fun _=>[],fun _=>false⟩
def de.ok(v:aJ):de:=⟨Unit,some (),fun _=>v,fun _=>[],fun _=>true⟩
def de.fu(v:aJ)(us:List (Nat×Site)):de:=⟨Unit,some (),fun _=>v,fun _=>us,fun _=>true⟩
def de.eo{J:Type}(c:Option J)(f:J->aJ):de:=⟨J,c,f,fun _=>[],fun _=>true⟩
def de.hH{J:Type}(c:Option J)(f:J->aJ)(us:J->List (Nat×Site)):de:=⟨J,c,f,us,fun _=>true⟩
def aU{ax:Type}(xs:List ax)(i:Int):Option ax:=if 0<=i then xs[i.toNat]? else none
def a8(n:Nat)(i:Int):Option Nat:=if 0<=i/\i<n then some i.toNat else none
def br{ax:Type}(xs:List ax)(cQ hi:Int):Option (List ax):=if 0<=cQ/\cQ<=hi/\hi<=xs.length then some ((xs.take hi.toNat).drop cQ.toNat) else none
def room:Nat:=140737488355328
def cy{ax:Type}(bytes:Nat)(xs bd:List ax):Option (List ax):=if(xs.length+bd.length)*bytes<=room/\xs.length+bd.length<=maxLen then some (xs++bd) else none
def bY(s t:F):Option F:=if((s.length+t.length:Nat):Int)>IntKind.i64.max then none else some (s++t)
def nO(k:IntKind)(x y:Int):Option Int:=if y=0 then none else some (k.wrap (x.tdiv y))
def lU(x y:Int):Option Int:=if y=0 then none else some (x.tmod y)
def lh(k:IntKind)(x y:Int):Option Int:=if y<0 then none else some (k.wrap (x*2^(min y.toNat k.bits)))
def e7(k:IntKind)(x y:Int):Option Int:=if y<0 then none else some (x.fdiv (2^(min y.toNat k.bits)))
def jE{ax:Type}(bytes:Nat)(n c:Int)(z:ax):Option (List ax):=if 0<=n/\n<=c/\c*bytes<=room/\c<=maxLen then some (List.replicate n.toNat z) else none
def fQ(x y:Int):Int:=if y>x then y else x
def jZ(x y:Int):Int:=if y<x then y else x
def ew(k:IntKind)(x y:Int):Int:=k.wrap (BitVec.ofInt k.bits x &&& BitVec.ofInt k.bits y).toNat
def hN(k:IntKind)(x y:Int):Int:=k.wrap (BitVec.ofInt k.bits x ||| BitVec.ofInt k.bits y).toNat
def dl(k:IntKind)(x y:Int):Int:=k.wrap (BitVec.ofInt k.bits x ^^^ BitVec.ofInt k.bits y).toNat
def bytesOf(s:F):List Int:=s.map fun b=>(b.toNat:Int)
def strOf(xs:List Int):F:=xs.map fun n=>UInt8.ofNat n.toNat
abbrev one(d:aZ):aJ:=.av (.ak (.d d))
abbrev bZ(l:aF):aJ:=.av (.ak l)
def uL(ti:b_):Value->aJ
 |.int k n=>one (.int k n)
 |.bool b=>one (.bool b)
 |.string s=>one (.str s.data.toList)
 |.slice none 0 0=>match ti with|.slice _ t _=>bZ (.nil t)|_=>bZ (.cP (.slice none 0 0))
 |.map none=>match ti with|.map _ _ t=>one (.map t [])|_=>bZ (.cP (.map none))
 |.agg _|.tuple _=>bZ .any
 |v=>bZ (.cP v)
def a7(C:Ctx)(st:ah)(T:TypeId):Operand->aJ
 |.tmp t=>st.get t
 |.const v=>uL (C.tt T) v
 |.global g=>bZ (.cP (.pointer (some ⟨g,0,none⟩)))
 |.func f=>bZ (.clo f [])
def rowOf(st:ah)(o s:Nat):Option ((t:a6)×List (den t)):=
 match st.ab o with
 |some (.row aC t xs)=>bif aC.beq s then some ⟨t,xs⟩ else none
 |some (.di aC t xs)=>bif aC.beq s then some ⟨t,xs⟩ else none
 |_=>none
def fD(st:ah)(o s:Nat):Option (List aF):=
 match st.ab o with
 |some (.box aC cells)=>bif aC.beq s then some cells else none
 |_=>none
def mapOf(st:ah):aF->Option ((t:a6)×List (F×den t))
 |.d (.map t es)=>some ⟨t,es⟩
 |.own o s=>match st.ab o with
  |some (.map aC t es)=>bif aC.beq s then some ⟨t,es⟩ else none
  |_=>none
 |_=>none
def kj{ax:Type}:List (F×ax)->F->Option ax
 |[],_=>none
 |(k,v)::r,n=>bif k==n then some v else kj r n
def oI{ax:Type}:List (F×ax)->F->ax->List (F×ax)
 |[],n,v=>[(n,v)]
 |(k,w)::r,n,v=>bif k==n then(k,v)::r else(k,w)::oI r n v
def H8:(t:a6)->aZ->Option (den t)
 |.i64,.int .i64 n=>some n
 |.bool,.bool b=>some b
 |_,_=>none
def vi:(t:a6)->Option (den t)->Option aZ
 |.i64,B=>some (.int .i64 (B.getD 0))
 |.bool,B=>some (.bool (B.getD false))
 |_,_=>none
def bn(st:ah)(o:Nat):Nat:=match st.ab o with|some x=>x.cq+1|none=>0
def l0(st:ah)(o s:Nat)(t:a6)(xs:List (den t)):List (Nat×Site):=match st.ab o with
 |some (.di _ _ _)=>[]
 |_=>[(o,.di s t xs)]
def jJ(st:ah):aF->Option (aZ×List (Nat×Site))
 |.d v=>some (v,[])
 |.nil t=>some (.sl t [],[])
 |.own o s=>match rowOf st o s with|some ⟨t,xs⟩=>some (.sl t xs,l0 st o s t xs)|none=>none
 |.clo g []=>some (.fn g [],[])
 |_=>none
def fR(st:ah):List aF->Option (List aZ×List (Nat×Site))
 |[]=>some ([],[])
 |l::ad=>match jJ st l,fR st ad with
  |some (d,us),some (ds,vs)=>some (d::ds,us++vs)
  |_,_=>none
def bL.cells:bL->List aF
 |.ak l=>[l]
 |.agg ad=>ad
def aF.storable:aF->Bool
 |.any|.dn|.fresh _ _|.ev _ _|.eT _ _ _ _ _=>false
 |.cP (.agg _)|.cP (.tuple _)=>false
 |_=>true
def hh:List aF->Bool
 |[]=>true
 |l::ad=>l.storable&&hh ad
def cut(agg:Bool)(off n:Nat)(ad:List aF):Option aJ:=
 bif agg then(bif Nat.ble (off+n) ad.length then some (.av (.agg ((ad.drop off).take n))) else none)
 else match ad.drop off with|l::_=>some (bZ l)|[]=>none
def cx(ds:List aZ):List aF:=ds.map .d
def bG{ax:Type}(old:List ax)(off:Nat)(new:List ax):List ax:=old.take off++new++old.drop (off+new.length)
def An:aZ->aZ->Option Bool
 |.int k a,.int k' b=>if k=k' then some (a==b) else none
 |.bool a,.bool b=>some (a==b)
 |.str a,.str b=>some (a==b)
 |_,_=>none
def uM:List aF->List aF->Option Bool
 |[.d a],[.d b]=>An a b
 |.d a::as,.d b::bs=>match An a b,uM as bs with
  |some x,some y=>some (x&&y)
  |_,_=>none
 |_,_=>none
def RU(op:BinOp)(k:IntKind)(x y:Int):de:=
 match op with
 |.add=>.ok (one (.int k (k.wrap (x+y))))
 |.sub=>.ok (one (.int k (k.wrap (x-y))))
 |.mul=>.ok (one (.int k (k.wrap (x*y))))
 |.quo=>.eo (nO k x y) fun n=>one (.int k n)
 |.rem=>.eo (lU x y) fun n=>one (.int k n)
 |.and=>.ok (one (.int k (ew k x y)))
 |.or=>.ok (one (.int k (hN k x y)))
 |.xor=>.ok (one (.int k (dl k x y)))
 |.eql=>.ok (one (.bool (x==y)))
 |.neq=>.ok (one (.bool (x !=y)))
 |.lss=>.ok (one (.bool (decide (x<y))))
 |.leq=>.ok (one (.bool (decide (x<=y))))
 |.gtr=>.ok (one (.bool (decide (x>y))))
 |.geq=>.ok (one (.bool (decide (x>=y))))
 |_=>.fail
def RF(op:BinOp)(s t:F):de:=
 match op with
 |.add=>.eo (bY s t) fun r=>one (.str r)
 |.eql=>.ok (one (.bool (s==t)))
 |.neq=>.ok (one (.bool (!(s==t))))
 |.lss=>.ok (one (.bool (Op.bytesLess s t)))
 |.leq=>.ok (one (.bool (Op.bytesLess s t||s==t)))
 |.gtr=>.ok (one (.bool (!(Op.bytesLess s t||s==t))))
 |.geq=>.ok (one (.bool (!(Op.bytesLess s t))))
 |_=>.fail
def Q1(op:BinOp)(k:IntKind)(a:Int)(k':IntKind)(b:Int):de:=
 match op with
 |.shl=>.eo (lh k a b) fun n=>one (.int k n)
 |.shr=>.eo (e7 k a b) fun n=>one (.int k n)
 |op=>if k=k' then RU op k a b else .fail
def Rj(op:BinOp)(ti:b_)(a b:Bool):de:=
 match ti with
 |.bool=>match op with
  |.eql=>.ok (one (.bool (a==b)))
  |.neq=>.ok (one (.bool (!(a==b))))
  |_=>.fail
 |_=>.fail
def qz:List aF->List aF->Bool
 |[],[]=>true
 |.d (.int _ _)::z,.d (.int _ _)::l=>qz z l
 |.d (.bool _)::z,.d (.bool _)::l=>qz z l
 |.d (.str _)::z,.d (.str _)::l=>qz z l
 |_,_=>false
def R7(op:BinOp)(ti:b_)(xs bd:List aF):de:=
 match ti with
 |.struct _ n z true=>bif xs.length.beq n&&qz z xs then
   match uM xs bd with
   |some b=>match op with
    |.eql=>.ok (one (.bool b))
    |.neq=>.ok (one (.bool (!b)))
    |_=>.fail
   |none=>.fail
  else .fail
 |_=>.fail
def A_(op:BinOp)(ti:b_)(B:Option Int):de:=
 match ti with
 |.iface=>match op with
  |.eql=>.ok (one (.bool B.isNone))
  |.neq=>.ok (one (.bool B.isSome))
  |_=>.fail
 |_=>.fail
def Ap:Operand->Bool
 |.const .nilIface=>true
 |_=>false
def HJ(op:BinOp)(ti:b_):aJ->de
 |.av (.ak (.d (.err _ B)))=>A_ op ti B
 |.av (.ak (.cP .nilIface))=>A_ op ti none
 |_=>.fail
def IT(op:BinOp)(ti:b_)(x y:aJ):de:=
 match x,y with
 |.av (.ak (.d (.int k a))),.av (.ak (.d (.int k' b)))=>Q1 op k a k' b
 |.av (.ak (.d (.str s))),.av (.ak (.d (.str t)))=>RF op s t
 |.av (.ak (.d (.bool a))),.av (.ak (.d (.bool b)))=>Rj op ti a b
 |.av (.agg xs),.av (.agg bd)=>R7 op ti xs bd
 |_,_=>.fail
def sH(agg:Bool)(n:Nat)(st:ah)(a:aJ):de:=
 match a with
 |.av (.ak (.ptr o s off))=>match fD st o s with
  |some cells=>match cut agg off n cells with|some v=>.ok v|none=>.fail
  |none=>.fail
 |.av (.ak (.ev cells off))=>match cut agg off n (cx cells) with|some v=>.ok v|none=>.fail
 |.av (.ak (.eT o s u k off))=>match rowOf st o s with
  |some ⟨t,xs⟩=>if t=u/\off+n<=aT t then .eo (xs[k]?) fun x=>match cut agg off n (cx (enc t x)) with|some v=>v|none=>bZ .any else .fail
  |none=>.fail
 |_=>.fail
def sg(n:Nat)(st:ah)(a:aJ)(v:bL):de:=
 bif v.cells.length.beq n then
 match a with
 |.av (.ak (.ptr o s off))=>match fD st o s with
  |some cells=>bif Nat.ble (off+n) cells.length&&hh v.cells then .fu (bZ (.cP undef)) [(o,.box s (bG cells off v.cells))] else .fail
  |none=>.fail
 |.av (.ak (.eT o s u k off))=>match st.ab o with
  |some (.row aC t xs)=>bif aC.beq s&&Nat.ble (off+n) (aT t)&&decide (t=u) then
    match fR st v.cells with
    |some (ds,us)=>bif(look us o).isNone then .hH ((xs[k]?).bind fun x=>dec t (bG (enc t x) off ds)) (fun _=>bZ (.cP undef)) fun x=>us++[(o,.row s t (xs.set k x))] else .fail
    |none=>.fail
   else .fail
  |_=>.fail
 |_=>.fail
 else .fail
def rB(u:a6)(st:ah)(x:aJ)(i:Int):de:=
 match x with
 |.av (.ak (.d (.sl t xs)))=>if t=u then .eo (aU xs i) fun x=>bZ (.ev (enc t x) 0) else .fail
 |.av (.ak (.own o s))=>match rowOf st o s with
  |some ⟨t,xs⟩=>if t=u then .eo (a8 xs.length i) fun k=>bZ (.eT o s t k 0) else .fail
  |none=>.fail
 |_=>.fail
def Dm(off:Nat):aJ->de
 |.av (.ak (.ptr o s B))=>.ok (bZ (.ptr o s (B+off)))
 |.av (.ak (.ev cells B))=>.ok (bZ (.ev cells (B+off)))
 |.av (.ak (.eT o s t k B))=>.ok (bZ (.eT o s t k (B+off)))
 |_=>.fail
def iD(lk:Int):Option aJ->Option Int
 |none=>some lk
 |some (.av (.ak (.d (.int _ n))))=>some n
 |some _=>none
def sj(ti:b_)(st:ah)(x:aJ)(cQ hi:Option aJ):de:=
 match x with
 |.av (.ak (.d (.str s)))=>match ti,iD 0 cQ,iD s.length hi with
  |.str,some l,some h=>.eo (br s l h) fun r=>one (.str r)
  |_,_,_=>.fail
 |.av (.ak (.d (.sl t xs)))=>match ti,iD 0 cQ,iD xs.length hi with
  |.slice _ u _,some l,some h=>if t=u then .eo (br xs l h) fun r=>one (.sl t r) else .fail
  |_,_,_=>.fail
 |.av (.ak (.nil t))=>match ti,iD 0 cQ,iD 0 hi with
  |.slice _ _ _,some l,some h=>.eo (br ([]:List (den t)) l h) fun r=>one (.sl t r)
  |_,_,_=>.fail
 |.av (.ak (.own o s))=>match rowOf st o s with
  |some ⟨t,xs⟩=>match ti,iD 0 cQ,iD xs.length hi with
   |.slice _ u _,some l,some h=>if t=u then .hH (br xs l h) (fun r=>one (.sl t r)) fun _=>l0 st o s t xs else .fail
   |_,_,_=>.fail
  |none=>.fail
 |_=>.fail
def sX(ti:b_)(st:ah)(x:aJ):de:=
 match ti,x with
 |.str,.av (.ak (.d (.str s)))=>.ok (one (.int .i64 s.length))
 |.slice _ _ _,.av (.ak (.d (.sl _ xs)))=>.ok (one (.int .i64 xs.length))
 |.slice _ _ _,.av (.ak (.nil _))=>.ok (one (.int .i64 0))
 |.slice _ _ _,.av (.ak (.own o s))=>match rowOf st o s with
  |some ⟨_,xs⟩=>.ok (one (.int .i64 xs.length))
  |none=>.fail
 |.map _ _ _,.av (.ak l)=>match mapOf st l with
  |some ⟨_,es⟩=>.ok (one (.int .i64 es.length))
  |none=>.fail
 |_,_=>.fail
def sB(st:ah):aJ->Option aZ
 |.av (.ak (.d (.sl t xs)))=>some (.sl t xs)
 |.av (.ak (.d (.str s)))=>some (.str s)
 |.av (.ak (.nil t))=>some (.sl t [])
 |.av (.ak (.own o s))=>match rowOf st o s with|some ⟨t,xs⟩=>some (.sl t xs)|none=>none
 |_=>none
def qb(bytes:Nat)(t:a6)(dst:Nat)(st:ah)(s:aJ)(bd:List (den t)):de:=
 match s with
 |.av (.ak (.nil _))=>.hH (cy bytes [] bd) (fun _=>bZ (.own dst (bn st dst))) fun r=>[(dst,.row (bn st dst) t r)]
 |.av (.ak (.own o s))=>match st.ab o with
  |some (.row aC bj xs)=>bif aC.beq s then
    if af:bj=t then .hH (cy bytes (af▸xs:List (den t)) bd) (fun _=>bZ (.own dst (bn (st.ib o (.dead s)) dst)))
     fun r=>[(o,.dead s),(dst,.row (bn (st.ib o (.dead s)) dst) t r)]
    else .fail
   else .fail
  |_=>.fail
 |_=>.fail
def se(bytes:Nat)(t:a6)(dst:Nat)(st:ah)(s x:aJ):de:=
 match sB st x with
 |none=>.fail
 |some d=>match d with
  |.sl u bd=>if h:u=t then qb bytes t dst st s (h▸bd:List (den t)) else .fail
  |_=>.fail
def sf(bytes:Nat)(t:a6)(dst:Nat)(st:ah)(s x:aJ):de:=
 match x with
 |.av (.ak (.d (.str y)))=>if h:t=.u8 then qb bytes t dst st s (h▸(bytesOf y:List (den .u8))) else .fail
 |_=>.fail
def ll(t:a6)(st:ah):List bL->Option (List (den t)×List (Nat×Site))
 |[]=>some ([],[])
 |a::as=>match fR st a.cells with
  |some (ds,us)=>match dec t ds,ll t st as with
   |some x,some (xs,vs)=>some (x::xs,us++vs)
   |_,_=>none
  |none=>none
def l1:aJ->Option bL
 |.av a=>some a
 |.jD _=>none
def nM:List aJ->Option (List bL)
 |[]=>some []
 |v::vs=>match l1 v,nM vs with|some a,some as=>some (a::as)|_,_=>none
def r3:Nat->List (Nat×Operand)->Bool
 |_,[]=>true
 |n,(i,_)::r=>i.beq n&&r3 (n+1) r
def isByte:b_->Bool
 |.int .u8=>true
 |_=>false
def sP(C:Ctx)(src dst:TypeId)(o:Nat)(st:ah)(x:aJ):de:=
 match C.tt src,C.tt dst,x with
 |.none,_,_=>.fail
 |_,.int k,.av (.ak (.d (.int _ n)))=>.ok (one (.int k (k.wrap n)))
 |_,.str,.av (.ak (.d (.str s)))=>.ok (one (.str s))
 |.slice e .u8 _,.str,.av (.ak (.d (.sl .u8 xs)))=>bif isByte (C.tt e) then .ok (one (.str (strOf xs))) else .fail
 |.slice e .u8 _,.str,.av (.ak (.nil _))=>bif isByte (C.tt e) then .ok (one (.str [])) else .fail
 |.slice e .u8 _,.str,.av (.ak (.own aa s))=>match rowOf st aa s with
  |some ⟨.u8,xs⟩=>bif isByte (C.tt e) then .ok (one (.str (strOf xs))) else .fail
  |_=>.fail
 |.str,.slice e .u8 _,.av (.ak (.d (.str s)))=>bif isByte (C.tt e) then .hH (if s.length<=maxLen then some () else none) (fun _=>bZ (.own o (bn st o))) fun _=>[(o,.row (bn st o) .u8 (bytesOf s))] else .fail
 |_,_,_=>.fail
def k5(st:ah):List (Nat×Nat)->Option (List (List aZ)×List (Nat×Site)×List Nat)
 |[]=>some ([],[],[])
 |(o,s)::r=>match fD st o s with
  |some cells=>match fR st cells,k5 st r with
   |some (ds,us),some (rest,vs,bs)=>some (ds::rest,us++vs,o::bs)
   |_,_=>none
  |none=>none
def mG(st:ah):aF->Option (aF×List (Nat×Site)×List Nat)
 |.ev cells 0=>some (.ev cells 0,[],[])
 |.clo g (c::cs)=>match k5 st (c::cs) with|some (ds,us,bs)=>some (.d (.fn g ds),us,bs)|none=>none
 |l=>match jJ st l with|some (d,us)=>some (.d d,us,[])|none=>none
def lO(st:ah):List aF->Option (List aF×List (Nat×Site)×List Nat)
 |[]=>some ([],[],[])
 |l::ad=>match mG st l,lO st ad with
  |some (a,us,bs),some (as,vs,cs)=>some (a::as,us++vs,bs++cs)
  |_,_=>none
def nK(st:ah):aF->Option (aF×List (Nat×Site))
 |.d v=>some (.d v,[])
 |.nil t=>some (.fresh t [],[])
 |.own o s=>match st.ab o with
  |some (.row aC t xs)=>bif aC.beq s then some (.fresh t xs,[(o,.dead s)]) else none
  |some (.di aC t xs)=>bif aC.beq s then some (.d (.sl t xs),[]) else none
  |_=>none
 |.dn=>some (.dn,[])
 |.cP v=>some (.cP v,[])
 |_=>none
def u5:List aF->List aF
 |.cP (.pointer none)::r=>.dn::r
 |l=>l
def ku(st:ah):List aF->Option (List aF×List (Nat×Site))
 |[]=>some ([],[])
 |l::ad=>match nK st l,ku st ad with
  |some (a,us),some (as,vs)=>some (a::as,us++vs)
  |_,_=>none
structure j5 where
 as:List Arg
 eM:List (Nat×Site) -- rows Bl XX eM,as atw auO frozen
 fN:List Nat -- boxes Bl XX eM
 gone:List (Nat×Site) -- boxes Bl go over,and rows in atL
 boxes:List (Nat×Nat) -- td boxes:ab,cq
def iZ(st:ah):List aJ->Option j5
 |[]=>some ⟨[],[],[],[],[]⟩
 |.av (.ak (.ptr o s 0))::vs=>match fD st o s,iZ st vs with
  |some cells,some r=>match ku st cells with
   |some (cs,gone)=>some ⟨.fj cs::r.as,r.eM,r.fN,((o,.dead s)::gone)++r.gone,(o,s)::r.boxes⟩
   |none=>none
  |_,_=>none
 |.av (.ak l)::vs=>match mG st l,iZ st vs with
  |some (a,us,bs),some r=>some ⟨.av (.ak a)::r.as,us++r.eM,bs++r.fN,r.gone,r.boxes⟩
  |_,_=>none
 |.av (.agg ad)::vs=>match lO st ad,iZ st vs with
  |some (as,us,bs),some r=>some ⟨.av (.agg as)::r.as,us++r.eM,bs++r.fN,r.gone,r.boxes⟩
  |_,_=>none
 |_::_=>none
def oJ(st:ah):aF->Option (aF×List (Nat×Site)×List (Nat×Site)×List Nat)
 |.own o s=>match nK st (.own o s) with|some (a,us)=>some (a,us,[],[])|none=>none
 |.nil t=>some (.fresh t [],[],[],[])
 |l=>match mG st l with|some (a,us,bs)=>some (a,[],us,bs)|none=>none
def lI(st:ah):List aJ->Option j5
 |[]=>some ⟨[],[],[],[],[]⟩
 |.av (.ak l)::vs=>match oJ st l,lI st vs with
  |some (a,us,ad,bs),some r=>some ⟨.av (.ak a)::r.as,ad++r.eM,bs++r.fN,us++r.gone,r.boxes⟩
  |_,_=>none
 |_::_=>none
def rY(b:Bool)(st:ah)(vs:List aJ):Option j5:=bif b then lI st vs else iZ st vs
def a6.oG:a6->Bool
 |.pack|.recipe|.hunk|.sQ=>true
 |_=>false
def aF.oG:aF->Bool
 |.d (.sl _ _)|.d (.fn _ _)|.d (.map _ _)=>true
 |.d _=>false
 |.fresh t _=>t.oG
 |.dn|.cP _=>false
 |_=>true
def rM:List aF->Bool
 |[]=>false
 |l::ad=>l.oG||rM ad
def rE:List bL->Bool
 |[]=>false
 |a::as=>rM a.cells||rE as
def rD:List (List aF)->Bool
 |[]=>false
 |a::as=>rM a||rD as
def take(st:ah)(n:Nat):List aF->List aF×List (Nat×Site)
 |[]=>([],[])
 |.fresh t xs::ad=>let r:=take st (n+1) ad;(.own n (bn st n)::r.1,(n,.row (bn st n) t xs)::r.2)
 |l::ad=>let r:=take st (n+1) ad;(l::r.1,r.2)
def dT(st:ah)(n:Nat):List bL->List bL×List (Nat×Site)
 |[]=>([],[])
 |.ak l::as=>let x:=take st n [l];let r:=dT st (n+100) as;((match x.1 with|[gp]=>.ak gp|ad=>.agg ad)::r.1,x.2++r.2)
 |.agg ad::as=>let x:=take st n ad;let r:=dT st (n+100) as;(.agg x.1::r.1,x.2++r.2)
def gN(st:ah):List (Nat×Nat)->List (List aF)->List (Nat×Site)
 |(o,s)::bs,cs::cK=>let x:=take st (1000000+o*100) cs;x.2++(o,.box s x.1)::gN st bs cK
 |_,_=>[]
def RI:List bL->aJ
 |[a]=>.av a
 |as=>.jD as
def keys{ax:Type}:List (Nat×ax)->List Nat
 |[]=>[]
 |p::r=>p.1::keys r
def fP(n:Nat):List Nat->Bool
 |[]=>false
 |m::r=>n.beq m||fP n r
def fA:List Nat->Bool
 |[]=>true
 |n::r=>!fP n r&&fA r
def eX:List Nat->List Nat->Bool
 |[],_=>true
 |n::r,l=>!fP n l&&eX r l
def oU(dst:Nat)(st:ah)(S:aH)(a:j5):de:=
 let r:=S a.as
 {J:=r.J,comp:=r.comp
  val:=fun y=>RI (dT st (2000000+dst*10000) (r.fa y)).1
  us:=fun y=>(bif rE (r.fa y)||rD (r.fj y) then a.eM else [])++a.gone++gN st a.boxes (r.fj y)++(dT st (2000000+dst*10000) (r.fa y)).2
  q3:=fun y=>fA (keys a.gone)&&eX (keys a.eM++a.fN) (keys a.gone)&&fA (keys (gN st a.boxes (r.fj y)++(dT st (2000000+dst*10000) (r.fa y)).2))&&
   eX (keys a.eM++a.fN) (keys (gN st a.boxes (r.fj y)++(dT st (2000000+dst*10000) (r.fa y)).2))&&(!(rE (r.fa y)||rD (r.fj y))||a.fN.isEmpty)}
def callee(v:aJ):Option (FuncId×List (Nat×Nat)):=
 match v with
 |.av (.ak (.clo g bz))=>some (g,bz)
 |_=>none
def gl(C:Ctx)(st:ah):List Operand->List TypeId->List aJ
 |[],_=>[]
 |x::xs,[]=>a7 C st 0 x::gl C st xs []
 |x::xs,T::cV=>a7 C st T x::gl C st xs cV
def nA:List (List aZ)->List Arg
 |[]=>[]
 |c::cs=>.av (.ak (.ev c 0))::nA cs
def si(g:FuncId)(n:Nat)(st:ah):List aJ->de
 |[.av (.ak (.d (.str s))),.av (.ak (.d (.str p)))]=>.fu (bZ (.clo g [(n,bn st n),(n+1,bn st (n+1)),(n+2,bn st (n+2))]))
   [(n,.box (bn st n) [.d (.str p)]),(n+1,.box (bn st (n+1)) [.d (.str s)]),(n+2,.box (bn st (n+2)) [.d (.int .i64 0)])]
 |_=>.fail
def copyV(st:ah):List aJ->de
 |[.av (.ak (.ptr o s 0))]=>match st.ab o with
  |some (.box aC [.dn,l])=>bif aC.beq s then .fu (.jD []) [(o,.box s [.dn,l])] else .fail
  |_=>.fail
 |_=>.fail
def rW(st:ah):List aJ->de
 |[.av (.ak (.ptr o s 0))]=>match fD st o s with
  |some [_,.nil .u8]=>.ok (one (.str []))
  |some [_,.own aa u]=>match st.ab aa with
   |some (.row b5 .u8 xs)=>bif b5.beq u then .fu (one (.str (strOf xs))) [(aa,.di u .u8 xs)] else .fail
   |_=>.fail
  |_=>.fail
 |_=>.fail
def sE(n:Nat)(st:ah):List aJ->de
 |[.av (.ak (.d (.sl .u8 xs)))]=>.fu (bZ (.ptr n (bn st n) 0)) [(n,.box (bn st n) [.d (.sl .u8 (xs.take 2000)),.d (.int .i64 0)])]
 |_=>.fail
def lG(C:Ctx)(dst:Nat)(st:ah)(f:aJ)(vs:List aJ):de:=
  match f with
  |.av (.ak (.clo g bz))=>match C.lu g with
   |some ct=>match bz with
    |[]=>si ct (3000000+dst*10) st vs
    |_=>.fail
   |none=>bif C.op g then(match bz with
    |[]=>sE (4000000+dst) st vs
    |_=>.fail) else bif C.ke g then(match bz with
    |[]=>copyV st vs
    |_=>.fail) else bif C.bs g then(match bz with
    |[]=>rW st vs
    |_=>.fail) else match C.bK g,rY (C.m' g) st vs,k5 st bz with
    |some S,some a,some (cs,us,bs)=>oU dst st S {a with as:=a.as++nA cs,eM:=a.eM++us,fN:=a.fN++bs}
    |_,_,_=>.fail
  |.av (.ak (.d (.fn g bz)))=>match C.bK g,iZ st vs with
    |some S,some a=>oU dst st S {a with as:=a.as++nA bz}
    |_,_=>.fail
  |_=>.fail
def By(t:a6)(xs:List (den t))(n:Nat):List aF:=match wL t with
 |some z=>(List.range n).flatMap fun j=>cx (enc t (xs.getD j z))
 |none=>[]
def s6(t:a6):List aF->Option (List (den t))
 |[]=>some []
 |.d d::ad=>match dec t [d],s6 t ad with
  |some x,some xs=>some (x::xs)
  |_,_=>none
 |_=>none
def long{ax:Type}(n:Nat)(xs:List ax):Option (List ax):=if xs.length=n then some xs else none
def qs(o:Nat)(st:ah)(t:a6)(n:Nat)(xs:List (den t)):de:=bif xs.length.beq n&&Nat.ble n 1000 then .fu (bZ (.eT o (bn st o) t 0 0)) [(o,.row (bn st o) t xs)] else .fail
def sy(o:Nat)(st:ah)(t:a6)(n:Nat):de:=match wL t with
 |some z=>qs o st t n (List.replicate n z)
 |none=>.fail
def s8(o:Nat)(st:ah)(t:a6)(n:Nat)(v:aJ):de:=match v with
 |.av (.agg ad)=>match s6 t ad with
  |some xs=>qs o st t n xs
  |none=>.fail
 |_=>.fail
def sI(st:ah)(t:a6)(n:Nat)(a:aJ):de:=match a with
 |.av (.ak (.eT o s u 0 0))=>match rowOf st o s with
  |some ⟨bj,xs⟩=>if bj=t/\bj=u then .eo (long n xs) fun xs=>.av (.agg (By bj xs n)) else .fail
  |none=>.fail
 |_=>.fail
def sh(st:ah)(t:a6)(n:Nat)(a:aJ)(v:bL):de:=match a,v with
 |.av (.ak (.eT o s u 0 0)),.agg ad=>match st.ab o with
  |some (.row aC bj xs)=>if bj=t/\bj=u/\aC=s then(match s6 bj ad with
   |some bd=>bif bd.length.beq n then .hH (long n xs) (fun _=>bZ (.cP undef)) fun _=>[(o,.row s bj bd)] else .fail
   |none=>.fail) else .fail
  |_=>.fail
 |_,_=>.fail
def rC(C:Ctx)(st:ah)(t:a6)(n:Nat)(x:aJ)(i:Int):de:=match x with
 |.av (.ak (.eT o s u 0 0))=>match rowOf st o s with
  |some ⟨bj,xs⟩=>if bj=t/\bj=u then .eo ((long n xs).bind fun xs=>a8 xs.length i) fun k=>bZ (.eT o s bj k 0) else .fail
  |none=>.fail
 |.av (.ak (.cP (.pointer (some ⟨g,0,none⟩))))=>match C.gt g with
  |some ⟨bj,xs⟩=>bif decide (bj=t)&&xs.length.beq n then .eo (aU xs i) fun x=>bZ (.ev (enc bj x) 0) else .fail
  |none=>.fail
 |_=>.fail
def Hw(t:a6)(n:Nat)(x:aJ)(i:Int):de:=match x with
 |.av (.agg ad)=>match s6 t ad with
  |some xs=>bif xs.length.beq n then .eo (aU xs i) fun x=>(match enc t x with|[d]=>bZ (.d d)|_=>bZ .any) else .fail
  |none=>.fail
 |_=>.fail
def sk(st:ah)(t:a6)(n:Nat)(x:aJ)(cQ hi:Option aJ):de:=match x with
 |.av (.ak (.eT o s u 0 0))=>match rowOf st o s,iD 0 cQ,iD n hi with
  |some ⟨bj,xs⟩,some l,some h=>if bj=t/\bj=u then .hH ((long n xs).bind fun xs=>br xs l h) (fun r=>bZ (.d (.sl bj r))) fun _=>l0 st o s bj xs else .fail
  |_,_,_=>.fail
 |_=>.fail
def k3(C:Ctx)(st:ah)(B:Oper):de:=
 match B.op with
 |.makeMap t r=>match B.dst,C.tt t with
  |some o,.map _ _ ty=>match r with
   |none=>.fu (bZ (.own o (bn st o))) [(o,.map (bn st o) ty [])]
   |some x=>match a7 C st 0 x with
    |.av (.ak (.d (.int _ _)))=>.fu (bZ (.own o (bn st o))) [(o,.map (bn st o) ty [])]
    |_=>.fail
  |_,_=>.fail
 |.mapUpdate t m k x=>sq C st t m k x
 |.insert t m k x=>sq C st t m k x
 |.lookup t m k c=>match C.tt t,a7 C st t m,a7 C st 0 k with
  |.map _ _ ty,.av (.ak l),.av (.ak (.d (.str n)))=>match mapOf st l with
   |some ⟨u,es⟩=>bif decide (u=ty) then(match vi u (kj es n) with
    |some d=>.ok (bif c then .jD [.ak (.d d),.ak (.d (.bool (kj es n).isSome))] else one d)
    |none=>.fail) else .fail
   |none=>.fail
  |_,_,_=>.fail
 |.makeInterface t x=>match C.tt t,a7 C st t x with
  |.struct _ _ _ _,.av (.agg [.d (.int .i64 n)])=>.ok (one (.err t (some n)))
  |_,_=>.fail
 |_=>.fail
where
 sq (C:Ctx) (st:ah) (t:TypeId) (m k x:Operand):de:=match C.tt t,a7 C st t m,a7 C st 0 k,a7 C st 0 x with
  |.map _ _ ty,.av (.ak (.own o s)),.av (.ak (.d (.str n))),.av (.ak (.d d))=>match st.ab o with
   |some (.map aC u es)=>bif aC.beq s&&decide (u=ty) then(match H8 u d with
    |some v=>.fu (bZ (.cP undef)) [(o,.map s u (oI es n v))]
    |none=>.fail) else .fail
   |_=>.fail
  |_,_,_,_=>.fail
def step(C:Ctx)(st:ah)(B:Oper):de:=
 match B.op with
 |.move x|.assign x=>.ok (a7 C st B.type x)
 |.pick c a b=>match a7 C st B.type c with
  |.av (.ak (.d (.bool true)))=>.ok (a7 C st B.type a)
  |.av (.ak (.d (.bool false)))=>.ok (a7 C st B.type b)
  |_=>.fail
 |.alloc elem=>match B.dst,C.tt elem with
  |some o,.arr _ t n=>sy o st t n
  |some o,ti=>match ti.zero with
   |some z=>.fu (bZ (.ptr o (bn st o) 0)) [(o,.box (bn st o) (bif elem.beq qZ then u5 z else z))]
   |none=>.fail
  |_,_=>.fail
 |.box elem x=>match B.dst,C.tt elem with
  |some o,.arr _ t n=>s8 o st t n (a7 C st elem x)
  |some o,_=>match l1 (a7 C st elem x) with
   |some a=>bif hh a.cells then .fu (bZ (.ptr o (bn st o) 0)) [(o,.box (bn st o) a.cells)] else .fail
   |none=>.fail
  |_,_=>.fail
 |.build t parts=>match C.tt t with
  |.struct bK _ z _=>mz C st bK z parts.toList
  |.arr _ ty n=>match ta ty with
   |some z=>mz C st ((List.range n).map fun j=>(j,1)) (List.replicate n z) parts.toList
   |none=>.fail
  |_=>.fail
 |.buildSlice t len parts=>match B.dst,C.tt t with
  |some o,.slice e ty _=>bif parts.toList.length.beq len&&r3 0 parts.toList&&Nat.ble (len*aT ty) 1000 then
    match nM (parts.toList.map fun p=>a7 C st e p.2) with
    |some as=>match ll ty st as with
     |some (xs,us)=>.fu (bZ (.own o (bn st o))) (us++[(o,.row (bn st o) ty xs)])
     |none=>.fail
    |none=>.fail
   else .fail
  |_,_=>.fail
 |.load t a=>match C.tt t with
  |.arr _ ty n=>sI st ty n (a7 C st t a)
  |ti=>bif ti.known then sH ti.agg ti.size st (a7 C st t a) else .fail
 |.store t a x=>match l1 (a7 C st t x) with
  |some v=>match C.tt t with
   |.arr _ ty n=>sh st ty n (a7 C st t a) v
   |ti=>bif ti.known then sg ti.size st (a7 C st t a) v else .fail
  |none=>.fail
 |.nilCheck x=>match a7 C st B.type x with
  |.av (.ak (.ptr o s f))=>.ok (bZ (.ptr o s f))
  |.av (.ak (.ev cs f))=>.ok (bZ (.ev cs f))
  |.av (.ak (.eT o s t k f))=>.ok (bZ (.eT o s t k f))
  |_=>.fail
 |.binOp op t x y _=>bif Ap y then HJ op (C.tt t) (a7 C st t x) else IT op (C.tt t) (a7 C st t x) (a7 C st t y)
 |.unOp op _ x=>match op,a7 C st B.type x with
  |.not,.av (.ak (.d (.bool b)))=>.ok (one (.bool (!b)))
  |.neg,.av (.ak (.d (.int k n)))=>.ok (one (.int k (k.wrap (0-n))))
  |.xor,.av (.ak (.d (.int k n)))=>.ok (one (.int k (dl k (if k.signed then-1 else k.max) n)))
  |_,_=>.fail
 |.convert src dst x=>(match B.dst with|some o=>sP C src dst o st (a7 C st src x)|none=>.fail)
 |.makeFunc fn first captured=>match fn with
  |.func g=>bif first.toList.isEmpty then(match nL C st captured.toList with|some bz=>.ok (bZ (.clo g bz))|none=>.fail) else .fail
  |_=>.fail
 |.makeSlice t l c=>match B.dst,C.tt t,a7 C st 0 l,a7 C st 0 c with
  |some o,.slice e ty bytes,.av (.ak (.d (.int _ n))),.av (.ak (.d (.int _ m)))=>match(C.tt e).zero with
   |some z=>match fR st z with
    |some (ds,_)=>match dec ty ds with
     |some eQ=>.hH (jE bytes n m eQ) (fun _=>bZ (.own o (bn st o))) fun r=>[(o,.row (bn st o) ty r)]
     |none=>.fail
    |none=>.fail
   |none=>.fail
  |_,_,_,_=>.fail
 |.slice t x cQ hi CF=>match CF with
  |none=>match C.tt t with
   |.arr _ ty n=>sk st ty n (a7 C st t x) (cQ.map (a7 C st 0)) (hi.map (a7 C st 0))
   |ti=>sj ti st (a7 C st t x) (cQ.map (a7 C st 0)) (hi.map (a7 C st 0))
  |some _=>.fail
 |.fieldAddr s x f=>match C.tt s with
  |.struct bK _ _ _=>match bK[f]? with
   |some (off,_)=>Dm off (a7 C st 0 x)
   |none=>.fail
  |_=>.fail
 |.indexAddr t x i=>match C.tt t,a7 C st 0 i with
  |.slice _ ty _,.av (.ak (.d (.int _ n)))=>rB ty st (a7 C st t x) n
  |.arr _ ty m,.av (.ak (.d (.int _ n)))=>rC C st ty m (a7 C st t x) n
  |_,_=>.fail
 |.index t x i=>match C.tt t,a7 C st t x,a7 C st 0 i with
  |.str,.av (.ak (.d (.str s))),.av (.ak (.d (.int _ n)))=>.eo (aU s n) fun b=>one (.int .u8 b.toNat)
  |.arr _ ty m,v,.av (.ak (.d (.int _ n)))=>Hw ty m v n
  |_,_,_=>.fail
 |.extract t i=>match a7 C st 0 t with
  |.jD as=>match as[i]? with
   |some a=>.ok (.av a)
   |none=>.fail
  |_=>.fail
 |.call c=>match c.callee with
  |.value f=>match B.dst with
   |some d=>lG C d st (a7 C st 0 f) (gl C st c.args.toList c.argTypes.toList)
   |none=>lG C 0 st (a7 C st 0 f) (gl C st c.args.toList c.argTypes.toList)
  |.builtin b=>match b,B.dst,c.args.toList,c.argTypes.toList with
   |.len,_,[x],[t]=>sX (C.tt t) st (a7 C st t x)
   |.append,some o,[s,x],[t,u]=>match C.tt t,C.tt u with
    |.slice _ ty bytes,.slice _ _ _=>se bytes ty o st (a7 C st t s) (a7 C st u x)
    |.slice _ ty bytes,.str=>sf bytes ty o st (a7 C st t s) (a7 C st u x)
    |_,_=>.fail
   |.max,_,[x,y],_=>match a7 C st B.type x,a7 C st B.type y with
    |.av (.ak (.d (.int k a))),.av (.ak (.d (.int _ b)))=>.ok (one (.int k (fQ a b)))
    |_,_=>.fail
   |.max,_,[x,y,z,u,v],_=>match a7 C st B.type x,a7 C st B.type y,a7 C st B.type z,a7 C st B.type u,a7 C st B.type v with
    |.av (.ak (.d (.int k a))),.av (.ak (.d (.int _ b))),.av (.ak (.d (.int _ c))),.av (.ak (.d (.int _ d))),.av (.ak (.d (.int _ e)))=>.ok (one (.int k (fQ (fQ (fQ (fQ a b) c) d) e)))
    |_,_,_,_,_=>.fail
   |.min,_,[x,y],_=>match a7 C st B.type x,a7 C st B.type y with
    |.av (.ak (.d (.int k a))),.av (.ak (.d (.int _ b)))=>.ok (one (.int k (jZ a b)))
    |_,_=>.fail
   |_,_,_,_=>.fail
  |_=>.fail
 |_=>k3 C st B
where
 mz (C:Ctx) (st:ah) (bK:List (Nat×Nat)):List aF->List (Nat×Operand)->de
  |z,[]=>.ok (.av (.agg z))
  |z,(i,x)::r=>match bK[i]?,l1 (a7 C st 0 x) with
   |some (off,n),some a=>bif a.cells.length.beq n&&hh a.cells&&Nat.ble (off+n) z.length then mz C st bK (bG z off a.cells) r else .fail
   |_,_=>.fail
 nL (C:Ctx) (st:ah):List Operand->Option (List (Nat×Nat))
  |[]=>some []
  |x::r=>match a7 C st 0 x,nL C st r with
   |.av (.ak (.ptr o s 0)),some l=>some ((o,s)::l)
   |_,_=>none
def Hf(C:Ctx)(st:ah)(B:Oper):Option (((t:a6)×List (den t))×Bool):=
 match B.op with
 |.binOp op T x (.const (.slice none 0 0)) _=>match C.tt T with
  |.slice _ _ _=>match op with
   |.eql=>match a7 C st T x with
    |.av (.ak (.d (.sl t xs)))=>some (⟨t,xs⟩,false)
    |_=>none
   |.neq=>match a7 C st T x with
    |.av (.ak (.d (.sl t xs)))=>some (⟨t,xs⟩,true)
    |_=>none
   |_=>none
  |_=>none
 |_=>none
def aF.names:aF->List Nat
 |.own o _|.ptr o _ _|.eT o _ _ _ _=>[o]
 |.clo _ bz=>keys bz
 |_=>[]
def dD:List aF->List Nat
 |[]=>[]
 |l::ad=>l.names++dD ad
def rT:List bL->List Nat
 |[]=>[]
 |a::as=>dD a.cells++rT as
def aJ.names:aJ->List Nat
 |.av a=>dD a.cells
 |.jD as=>rT as
def xC(st:ah)(o:Nat):List Nat:=match st.ab o with
 |some (.box _ cells)=>dD cells
 |_=>[]
def eS(st:ah):List Nat->List Nat
 |[]=>[]
 |o::r=>o::(xC st o++eS st r)
def k8:Op->List Operand
 |.move x|.assign x|.makeInterface _ x|.box _ x|.load _ x|.nilCheck x|.unOp _ _ x|.convert _ _ x|.fieldAddr _ x _|.extract x _=>[x]
 |.pick c a b=>[c,a,b]
 |.build _ ps|.buildSlice _ _ ps=>ps.toList.map (·.2)
 |.store _ a v|.binOp _ _ a v _|.makeSlice _ a v|.indexAddr _ a v|.index _ a v=>[a,v]
 |.makeFunc _ _ captured=>captured.toList
 |.slice _ x l h _=>x::(l.toList++h.toList)
 |.call c=>(match c.callee with|.value f=>[f]|_=>[])++c.args.toList
 |.lookup _ m k _=>[m,k]
 |.mapUpdate _ m k x|.insert _ m k x=>[m,k,x]
 |.makeMap _ r=>r.toList
 |_=>[]
def nu(st:ah):List Operand->List Nat
 |[]=>[]
 |.tmp t::r=>(st.get t).names++nu st r
 |_::r=>nu st r
def oy:List Operand->List Nat
 |[]=>[]
 |.tmp t::r=>t::oy r
 |_::r=>oy r
def Aq:Op->Bool
 |.call c=>match c.callee with
  |.value _=>true
  |_=>false
 |_=>false
def HO(C:Ctx):Op->List Nat
 |.makeSlice t _ _=>match C.tt t with
  |.slice e _ _=>match(C.tt e).zero with
   |some z=>dD z
   |none=>[]
  |_=>[]
 |_=>[]
def looks:Op->Bool
 |.load _ _|.store _ _ _|.slice _ _ _ _ _|.indexAddr _ _ _|.convert _ _ _|.buildSlice _ _ _|.call _|.lookup _ _ _ _|.mapUpdate _ _ _ _|.insert _ _ _ _=>true
 |_=>false
def HZ(C:Ctx)(st:ah)(B:Oper):List Nat:=(bif looks B.op then eS st (nu st (k8 B.op)) else [])++B.dst.toList++HO C B.op
def OQ(u:Nat):List Oper->List Nat
 |[]=>[]
 |B::r=>(match B.op,B.dst with
  |.move (.tmp t),some d=>bif Nat.beq d u then [t] else []
  |_,_=>[])++OQ u r
def Ex(all:List Oper):List Oper->List Nat
 |[]=>[]
 |B::r=>(match B.op with
  |.slice _ (.tmp u) _ _ _=>u::OQ u all
  |_=>[])++Ex all r
def R5(st:ah)(t:Nat):List (Nat×Site):=match st.get t with
 |.av (.ak (.own o s))=>match st.ab o with
  |some (.row aC t xs)=>bif aC.beq s then [(o,.di aC t xs)] else []
  |_=>[]
 |_=>[]
def AG(st:ah):List Nat->List (Nat×Site)
 |[]=>[]
 |t::r=>R5 st t++AG st r
def ah.h4(st:ah):List (Nat×Site)->ah
 |[]=>st
 |(o,s)::r=>(st.ib o s).h4 r
def ah.cT(st:ah)(dst:Option Nat)(v:aJ)(us:List (Nat×Site)):ah:=
 match dst with
 |some t=>(st.h4 us).set t v
 |none=>st.h4 us
def ch(st:ah):Option Nat->Bool
 |some t=>Nat.blt t st.nt
 |none=>true
abbrev zV:aJ:=bZ (.cP undef)
section
variable {R:Type}
open Classical in
noncomputable def pK{t:a6}(xs:List (den t))(a b:Option R):Option R:=if xs=[]->a=b then b else none
def ki(C:Ctx)(st:ah)(B:Oper)(K:ah->Option R):Option R:=
 bif ch st B.dst then(step C st B).comp.bind fun y=>bif(step C st B).q3 y then K (st.cT B.dst ((step C st B).val y) ((step C st B).us y)) else none else none
noncomputable def u7(C:Ctx)(st:ah)(B:Oper)(K:ah->Option R):Option R:=
 match Hf C st B with
 |some (⟨t,xs⟩,neg)=>bif ch st B.dst then pK xs (K (st.cT B.dst (one (.bool (!neg))) [])) (K (st.cT B.dst (one (.bool neg)) [])) else none
 |none=>ki C st B K
def sn(st:ah)(B:Oper)(K:ah->Option R):Option R:=
 bif ch st B.dst then K (st.cT B.dst zV []) else none
noncomputable def P'(C:Ctx)(ops:Array Oper)(st:ah)(B:Oper)(K:ah->Option R):Option R:=
 match B.guard with
 |none=>u7 C st B K
 |some (j,want)=>match(ops[j]?).bind (·.dst) with
  |some t=>match st.get t with
   |.av (.ak (.d (.bool b)))=>bif(bif want then b else !b) then u7 C (st.set t (one (.bool want))) B K else sn (st.set t (one (.bool (!want)))) B K
   |.av (.ak (.cP (.tuple _)))=>sn st B K
   |_=>none
  |none=>none
noncomputable def uR(C:Ctx)(ops:Array Oper):List Oper->ah->(ah->Option R)->Option R
 |[],st,K=>K st
 |B::r,st,K=>P' C ops st B fun al=>uR C ops r al K
structure Rec where
 B:Oper
 go:Bool
 v:aJ
 us:List (Nat×Site)
 kK:List Nat
 rn:List Nat
 Cp:Bool
def uZ:List Nat->Bool
 |[]=>false
 |n::r=>Nat.ble 1000000 n||uZ r
def sW(d:Option Nat)(l:List Nat):Bool:=match d with|some d=>fP d l|none=>false
def lW(a b:Rec):Bool:=
 sW a.B.dst b.kK||sW a.B.dst b.B.dst.toList||sW b.B.dst a.kK||
 !eX (keys a.us) (b.rn++keys b.us)||!eX (keys b.us) a.rn||(a.Cp&&uZ (keys b.us))||(b.Cp&&uZ (keys a.us))
def lS(acc:List (Nat×Rec×List Nat)):List Edge->List Nat
 |[]=>[]
 |e::r=>bif Region.binds .any e then(match look acc e.on with|some x=>e.on::(x.2++lS acc r)|none=>lS acc r) else lS acc r
def sd(i:Nat):List Edge->Bool
 |[]=>true
 |e::r=>(!Region.binds .any e||Nat.blt e.on i)&&sd i r
def sp(wD:List Nat)(x:Rec):List (Nat×Rec×List Nat)->Bool
 |[]=>true
 |(j,y,_)::r=>(fP j wD||!lW y x)&&sp wD x r
def P7(i:Nat):List Oper->Bool
 |[]=>false
 |B::r=>(match B.guard with|some (j,_)=>Nat.beq i j|none=>false)||P7 i r
def Iq(g:Bool)(v:aJ)(K:aJ->Option R):Option R:=
 bif g then(match v with
  |.av (.ak (.d (.bool b)))=>bif b then K (one (.bool true)) else K (one (.bool false))
  |v=>K v) else K v
def zO(C:Ctx)(g:Bool)(st:ah)(B:Oper)(gs:List Nat)(K:Rec->Option R):Option R:=
 (step C st B).comp.bind fun y=>bif(step C st B).q3 y then Iq g ((step C st B).val y) fun v=>
  K ⟨B,true,v,(step C st B).us y,gs++oy (k8 B.op),HZ C st B,Aq B.op⟩ else none
def E_(B:Oper)(gs:List Nat)(K:Rec->Option R):Option R:=K ⟨B,false,zV,[],gs,[],false⟩
def HL(C:Ctx)(ops:Array Oper)(g:Bool)(st:ah)(B:Oper)(K:Rec->Option R):Option R:=
 match B.guard with
 |none=>zO C g st B [] K
 |some (j,want)=>match(ops[j]?).bind (·.dst) with
  |some t=>match st.get t with
   |.av (.ak (.d (.bool b)))=>bif(bif want then b else !b) then zO C g st B [t] K else E_ B [t] K
   |.av (.ak (.cP (.tuple _)))=>E_ B [t] K
   |_=>none
  |none=>none
def AN(C:Ctx)(ops:Array Oper):List Oper->Nat->List (Nat×Rec×List Nat)->ah->(ah->Option R)->Option R
 |[],_,_,st,K=>K st
 |B::r,i,acc,st,K=>bif ch st B.dst&&sd i B.after.toList then HL C ops (P7 i r) st B fun x=>
   bif sp (lS acc B.after.toList) x acc then AN C ops r (i+1) ((i,x,lS acc B.after.toList)::acc) (st.cT B.dst x.v x.us) K else none
  else none
def Qf(C:Ctx)(ops:Array Oper)(st:ah)(K:ah->Option R):Option R:=AN C ops ops.toList 0 [] (st.h4 (AG st (Ex ops.toList ops.toList))) K
inductive Out:Type where
 |norm (st:ah)
 |exit (id:Nat) (st:ah)
 |ret (st:ah)
structure amq:Type 1 where
 J:Type
 comp:Option J
 out:J->Out
 run:(R:Type)->J->(Out->Option R)->Option R
 run_eq:∀(R:Type) (y:J) (K:Out->Option R),run R y K=K (out y)
abbrev hO:=ah->amq
structure hJ:Type 1 extends Ctx where
 nW:Nat->Option hO
def wrap(C:hJ)(p:Nat)(st:ah)(K:Out->Option R)(x:Option R):Option R:=
 match C.nW p with
 |some f=>(f st).comp.bind fun y=>(f st).run R y K
 |none=>x
noncomputable def exec(C:hJ):Code->Nat->ah->(Out->Option R)->Option R
 |.skip,_,st,K=>K (.norm st)
 |.region _ ops false,p,st,K=>wrap C p st K (uR C.toCtx ops ops.toList st fun al=>K (.norm al))
 |.region _ ops true,p,st,K=>wrap C p st K (Qf C.toCtx ops st fun al=>K (.norm al))
 |.seq a b,p,st,K=>wrap C p st K (exec C a (2*p) st fun
  |.norm al=>exec C b (2*p+1) al K
  |B=>K B)
 |.cond c a b,p,st,K=>wrap C p st K (match a7 C.toCtx st 0 c with
  |.av (.ak (.d (.bool t)))=>bif t then exec C a (2*p) st K else exec C b (2*p+1) st K
  |_=>none)
 |.block id c,p,st,K=>wrap C p st K (exec C c (2*p) st fun
  |.exit iM al=>bif iM.beq id then K (.norm al) else K (.exit iM al)
  |B=>K B)
 |.loop _,p,st,K=>wrap C p st K none
 |.rangeFunc _ _ _ _,p,st,K=>wrap C p st K none
 |.exit id,_,st,K=>K (.exit id st)
 |.ret,_,st,K=>K (.ret st)
 |_,_,_,_=>none
end
section
variable {D aI:Nat->Value}{sites bU:List (Nat×Site)}{w w':World}{av cd:Nat->Prop}
structure h6(D aI:Nat->Value)(sites bU:List (Nat×Site))(w w':World)(av cd:Nat->Prop):Prop where
 ref:∀o ab,look sites o=some ab->∃bV,look bU o=some bV/\ab.cq<=bV.cq/\(bV.cq=ab.cq->aI o=D o)
 bH:∀b,¬av b->b<w.heap.size->w'.heap[b]? =w.heap[b]?
 av:∀b,¬av b->b<w.heap.size->¬cd b
theorem bD.goes{d:aZ}{v:Value}(G:h6 D aI sites bU w w' av cd)(hs:w.heap.size<=w'.heap.size)(at5:∀b,cd b->b<w'.heap.size)(r:bD w av d v):bD w' cd d v:=by
 induction r with
 |int k n=>exact .int k n
 |bool b=>exact .bool b
 |str l s h=>exact .str l s h
 |nil t=>exact .nil t
 |sl t xs a cap cs n hn hcap hb hl hc _ ih=>
  have key:xs≠[]->a.block<w.heap.size:=by
   intro hne;have mI:0<cs.length:=by
    rw[hl,eW];exact Nat.mul_pos (List.length_pos_iff.mpr hne) (lK t)
   have:=hc 0 (cs[0]) (List.getElem?_eq_getElem mI);have h2:=World.block_lt_of_cell? w _ this;have iH:(a.add 0).block=a.block:=by unfold Addr.add;split<;>rfl
   rwa[iH] at h2
  refine .sl t xs a cap cs n hn hcap (fun hx=>G.av _ (hb hx) (key hx)) hl (fun j u hu=>?_) ih
  have hcell:=hc j u hu;have hne:xs≠[]:=by
   rintro rfl;have:cs=[]:=List.eq_nil_of_length_eq_zero (by simpa[flat] using hl)
   subst this;simp at hu
  have iH:(a.add j).block=a.block:=by unfold Addr.add;split<;>rfl
  rw[World.cell?_of_block (w:=w) (a:=a.add j) (by rw[iH];exact G.bH _ (hb hne) (key hne))]
  exact hcell
 |fn g bz bs iR lb hlb tx hb hlt hl hc _ ih=>
  refine .fn g bz bs iR lb hlb tx (fun b hm=>G.av b (hb b hm) (hlt b hm)) (fun b hm=>Nat.lt_of_lt_of_le (hlt b hm) hs) hl (fun i hi j u hu=>?_) ih
  have hcell:=hc i hi j u hu;have hm:bs[i]∈bs:=List.getElem_mem hi;rw[World.cell?_of_block (w:=w) (a:=⟨bs[i],j,none⟩) (G.bH _ (hb _ hm) (hlt _ hm))];exact hcell
 |vu t=>exact .vu t
 |vG T=>exact .vG T
 |err T n=>exact .err T n
 |map t es b hb hm=>exact .map t es b (G.av b hb hm.lt) (hm.of (G.bH b hb hm.lt))
theorem Ref.goes{o s:Nat}{p kd:Prop}(G:h6 D aI sites bU w w' av cd)(h:Ref sites o s p)(hp:aI o=D o->p->kd):Ref bU o s kd:=by
 obtain⟨ab,h1,h2,h3⟩:=h;obtain⟨bV,g1,g2,g3⟩:=G.ref o ab h1;refine⟨bV,g1,Nat.le_trans h2 g2,fun e=>?_⟩
 have:bV.cq=ab.cq:=by omega
 exact hp (g3 this) (h3 (by omega))
theorem dQ.goes{l:aF}{v:Value}(G:h6 D aI sites bU w w' av cd)(hs:w.heap.size<=w'.heap.size)(b9:∀b,cd b->b<w'.heap.size)(h:dQ D sites w av l v):dQ aI bU w' cd l v:=by
 cases l with
 |d x=>exact bD.goes G hs b9 h
 |nil t=>exact h
 |own o s=>exact⟨h.1,Ref.goes G h.2 (fun e p=>p.trans e.symm)⟩
 |ptr o s off=>obtain⟨b,h1,h2⟩:=h;exact⟨b,h1,Ref.goes G h2 (fun e p=>by rw[e];exact p)⟩
 |ev cells off=>
  obtain⟨b,B,hv,hb,hlt,cs,hl,hc,hr⟩:=h;refine⟨b,B,hv,G.av b hb hlt,Nat.lt_of_lt_of_le hlt hs,cs,hl,fun j u hu=>?_,fun j h1 h2=>(hr j h1 h2).goes G hs b9⟩
  have hcell:=hc j u hu;rw[World.cell?_of_block (w:=w) (a:=⟨b,B+j,none⟩) (G.bH b hb hlt)];exact hcell
 |eT o s t k off=>obtain⟨b,h1,h2⟩:=h;exact⟨b,h1,Ref.goes G h2 (fun e p=>by rw[e];exact p)⟩
 |clo g bz=>
  obtain⟨vs,hv,hl,hr⟩:=h;exact⟨vs,hv,hl,fun i h1 h2=>Ref.goes G (hr i h1 h2) (fun e p=>p.trans e.symm)⟩
 |cP u=>exact h
 |fresh t xs=>exact h
 |dn=>trivial
 |any=>trivial
theorem gU.goes{a:bL}{v:Value}(G:h6 D aI sites bU w w' av cd)(hs:w.heap.size<=w'.heap.size)(b9:∀b,cd b->b<w'.heap.size)(h:gU D sites w av a v):gU aI bU w' cd a v:=by
 cases a with
 |ak l=>exact dQ.goes G hs b9 h
 |agg ad=>
  obtain⟨vs,hv,hl,hr⟩:=h;exact⟨vs,hv,hl,fun j h1 h2=>(hr j h1 h2).goes G hs b9⟩
theorem cc.goes{a:aJ}{v:Value}(G:h6 D aI sites bU w w' av cd)(hs:w.heap.size<=w'.heap.size)(b9:∀b,cd b->b<w'.heap.size)(h:cc D sites w av a v):cc aI bU w' cd a v:=by
 cases a with
 |av a=>exact gU.goes G hs b9 h
 |jD as=>
  obtain⟨vs,hv,hl,hr⟩:=h;exact⟨vs,hv,hl,fun j h1 h2=>(hr j h1 h2).goes G hs b9⟩
theorem jU.goes{o:Nat}{ab:Site}(G:h6 D aI sites bU w w' av cd)(hs:w.heap.size<=w'.heap.size)(b9:∀b,cd b->b<w'.heap.size)(cO:aI o=D o)
  (hb:ab.live=true->∀b,Jk.bH (D o)=some b->w'.heap[b]? =w.heap[b]?) (h:jU D sites w av o ab):jU aI bU w' cd o ab:=by
 cases ab with
 |box s cells=>
  obtain⟨b,T,cur,h1,h2,h3,aw,n9,bk⟩:=h;have:=hb rfl b (by rw[h1];rfl)
  exact⟨b,T,cur,cO.trans h1,this.trans h2,h3,aw,n9,fun j g1 g2=>(bk j g1 g2).goes G hs b9⟩
 |row s t xs=>
  obtain⟨e,cs,h1,h2⟩:=h;refine⟨e,cs,?_,fun j g1 g2=>(h2 j g1 g2).goes G hs b9⟩
  rw[cO];refine⟨h1.1,?_⟩;rcases h1.2 with hn|⟨g,cap,cur,fz,hv,r1,r2,is⟩
  ·exact .inl hn
  ·refine .inr ⟨g,cap,cur,fz,hv,r1,?_,is⟩;rw[hb rfl g (by rw[hv];rfl)];exact r2
 |di s t xs=>exact⟨by rw[cO];exact bD.goes G hs b9 h.1,by rw[cO];exact h.2⟩
 |map s t es=>
  obtain⟨b,h1,h2⟩:=h;exact⟨b,cO.trans h1,h2.of (hb rfl b (by rw[h1];rfl))⟩
 |dead s=>trivial
end
theorem am.qn{O:World}{Y:List Nat}{X:Nat->Prop}{D aI:Nat->Value}{st:ah}{bU:List (Nat×Site)}{M:Array Value}{w w':World}
  (S:am O Y X D st M w)
  (qv:∀o ab,look st.sites o=some ab->∃bV,look bU o=some bV/\ab.cq<=bV.cq/\(bV.cq=ab.cq->aI o=D o))
  (iH:∀b,¬ay X D st.sites b->b<w.heap.size->w'.heap[b]? =w.heap[b]?)
  (b9:∀b,¬ay X D st.sites b->b<w.heap.size->¬ay X aI bU b)
  (alQ:(∀{a v},cc D st.sites w (ay X D st.sites) a v->cc aI bU w' (ay X aI bU) a v)->∀o bV,look bU o=some bV->
   (look st.sites o=some bV/\aI o=D o/\(bV.live=true->∀b,bH (D o)=some b->w'.heap[b]? =w.heap[b]?))\/jU aI bU w' (ay X aI bU) o bV)
  (ajS:∀o aa b,cg bU o->cg bU aa->bH (aI o)=some b->bH (aI aa)=some b->o=aa)
  (ajP:∀o b,cg bU o->bH (aI o)=some b->¬X b/\(b∈Y\/O.heap.size<=b))
  (hlt:∀o b,cg bU o->bH (aI o)=some b->b<w'.heap.size)
  (aiz:Fr Y O w') (hs:w.heap.size<=w'.heap.size):
  am O Y X aI {st with sites:=bU} M w':=by
 have G:h6 D aI st.sites bU w w' (ay X D st.sites) (ay X aI bU):=⟨qv,iH,b9⟩;have vE:∀b,ay X aI bU b->b<w'.heap.size:=by
  rintro b (hx|⟨o,h1,h2⟩)
  ·exact Nat.lt_of_lt_of_le (S.old b hx) hs
  ·exact hlt o b h1 h2
 refine⟨S.nt,fun t=>(S.cF t).goes G hs vE,fun o bV bo=>?_,ajS,ajP,aiz,fun b h=>Nat.lt_of_lt_of_le (S.old b h) hs,S.eY⟩
 rcases alQ (fun h=>h.goes G hs vE) o bV bo with⟨h1,h2,h3⟩|h
 ·exact(S.sites o bV h1).goes G hs vE h2 h3
 ·exact h
def cv(M:Array Value)(dst:Option Nat)(v:Value):Array Value:=
 match dst with
 |some d=>M.setIfInBounds d v
 |none=>M
section
variable {P:Program}{K:Act->World->Prop}{Q:Exit->Act->World->Prop}{B:Oper}{M:Array Value}{w w':World}{vv:Value}
theorem oE(h:(execOp (Act.eval ⟨M,[]⟩) B).run P w=.ok (.value vv) w')(hk:K ⟨cv M B.dst vv,[]⟩ w'):B.wp P ⟨M,[]⟩ w K Q:=by
 unfold Oper.wp;rw[h,Oper.upon_value];cases Z:B.dst with
 |none=>simp only[Z,cv] at hk;simpa[Act.put] using hk
 |some d=>simp only[Z,cv] at hk;simpa[Act.put] using hk
theorem ahF(h:(execOp (Act.eval ⟨M,[]⟩) B).run P w=.ok .skip w')(hk:K ⟨cv M B.dst undef,[]⟩ w'):B.wp P ⟨M,[]⟩ w K Q:=by
 unfold Oper.wp;rw[h,Oper.upon_skip];cases Z:B.dst with
 |none=>simp only[Z,cv] at hk;simpa[Act.put] using hk
 |some d=>simp only[Z,cv] at hk;simpa[Act.put] using hk
end
def bm(sites:List (Nat×Site)):List (Nat×Site)->List (Nat×Site)
 |[]=>sites
 |(o,s)::r=>bm (cl sites o s) r
theorem ah.ut(st:ah)(us:List (Nat×Site)):st.h4 us={st with sites:=bm st.sites us}:=by
 induction us generalizing st with
 |nil=>rfl
 |cons p us ih=>obtain⟨o,s⟩:=p;simp only[ah.h4,bm];rw[ih];rfl
theorem kU(sites:List (Nat×Site))(us vs:List (Nat×Site)):bm sites (us++vs)=bm (bm sites us) vs:=by
 induction us generalizing sites with
 |nil=>rfl
 |cons p us ih=>obtain⟨o,s⟩:=p;simp only[List.cons_append,bm];exact ih _
section
variable {O:World}{Y:List Nat}{X:Nat->Prop}{D:Nat->Value}{st:ah}{M:Array Value}{w:World}
theorem am.put(S:am O Y X D st M w){t:Nat}{v:aJ}{vv:Value}(aq:t<st.nt)(hv:cc D st.sites w (ay X D st.sites) v vv):
  am O Y X D (st.set t v) (M.setIfInBounds t vv) w:=by
 refine⟨by simpa using S.nt,fun u=>?_,S.sites,S.dV,S.ci,S.frame,S.old,S.eY⟩
 rw[ah.Gw];by_cases h:t=u
 ·subst h;simp only[if_true];have:(M.setIfInBounds t vv).getD t undef=vv:=by
   have h1:t<M.size:=by rw[S.nt];exact aq
   simp[Array.getD,h1]
  rw[this];exact hv
 ·simp only[h,if_false];have:(M.setIfInBounds t vv).getD u undef=M.getD u undef:=by
   simp only[Array.getD_eq_getD_getElem?,Array.getElem?_setIfInBounds,h,if_false]
  rw[this];exact S.cF u
theorem am.cT{dst:Option Nat}{v:aJ}{vv:Value}{us:List (Nat×Site)}(S:am O Y X D {st with sites:=bm st.sites us} M w)
  (Z:ch st dst=true) (hv:cc D (bm st.sites us) w (ay X D (bm st.sites us)) v vv):am O Y X D (st.cT dst v us) (cv M dst vv) w:=by
 cases dst with
 |none=>simp only[ah.cT,ah.ut,cv];exact S
 |some t=>
  simp only[ah.cT,ah.ut,cv];have aq:t<st.nt:=by simpa[ch] using Z
  exact am.put (st:={st with sites:=bm st.sites us}) S aq hv
theorem dB(S:am O Y X D st M w)(C:Ctx)(T:TypeId)(x:Operand):cc D st.sites w (ay X D st.sites) (a7 C st T x) (Act.eval ⟨M,[]⟩ x):=by
 cases x with
 |tmp t=>exact S.cF t
 |const v=>
  show cc _ _ _ _ (uL (C.tt T) v) v;unfold uL;split
  ·exact .int _ _
  ·exact .bool _
  ·exact .str _ _ rfl
  ·split<;>exact rfl
  ·split
   ·exact .vu _
   ·exact rfl
  ·trivial
  ·trivial
  ·exact rfl
 |global g=>exact rfl
 |func f=>
  refine⟨[],rfl,rfl,fun i h=>?_⟩
  simp at h
variable {P:Program}{C:Ctx}{B:Oper}{K:Act->World->Prop}{Q:Exit->Act->World->Prop}
def cE(P:Program)(O:World)(Y:List Nat)(X:Nat->Prop)(st:ah)(M:Array Value)(w:World)(B:Oper)(v:aJ)(us:List (Nat×Site)):Prop:=
 ∀(K:Act->World->Prop) (Q:Exit->Act->World->Prop),(∀aI bW w',am O Y X aI (st.cT B.dst v us) bW w'->K ⟨bW,[]⟩ w')->B.wp P ⟨M,[]⟩ w K Q
theorem dH(S:am O Y X D st M w)(Z:ch st B.dst=true){v:aJ}{vv:Value}
  (h:(execOp (Act.eval ⟨M,[]⟩) B).run P w=.ok (.value vv) w) (hv:cc D st.sites w (ay X D st.sites) v vv):cE P O Y X st M w B v []:=
 fun _ _ bM=>oE h (bM _ _ _ (am.cT (us:=[]) S Z hv))
end
section
variable {P:Program}{w:World}
theorem ZB(op:BinOp)(t:TypeId)(x y:Operand)(k k':IntKind)(a b:Int):(eqGuard op t x y (.int k a) (.int k' b)).run P w=.ok () w:=by
 unfold eqGuard;cases op<;>rfl
theorem Zn(op:BinOp)(t:TypeId)(x y:Operand)(a b:ByteArray):(eqGuard op t x y (.string a) (.string b)).run P w=.ok () w:=by
 unfold eqGuard;cases op<;>rfl
theorem LL(op:BinOp)(t:TypeId)(x y:Operand)(a b:Bool):(eqGuard op t x y (.bool a) (.bool b)).run P w=.ok () w:=by
 unfold eqGuard;cases op<;>rfl
def Holds(r:de)(dS:aJ->List (Nat×Site)->Prop):Prop:=∀y,r.comp=some y->r.q3 y=true->dS (r.val y) (r.us y)
theorem Holds.fail{dS:aJ->List (Nat×Site)->Prop}:Holds .fail dS:=fun _ h _=>by cases h
theorem Holds.ok{v:aJ}{dS:aJ->List (Nat×Site)->Prop}(h:dS v []):Holds (.ok v) dS:=fun _ _ _=>h
theorem Holds.fu{v:aJ}{us:List (Nat×Site)}{dS:aJ->List (Nat×Site)->Prop}(h:dS v us):Holds (.fu v us) dS:=fun _ _ _=>h
theorem Holds.eo{J:Type}{c:Option J}{f:J->aJ}{dS:aJ->List (Nat×Site)->Prop}(h:∀y,c=some y->dS (f y) []):Holds (.eo c f) dS:=fun y hy _=>h y hy
theorem Holds.hH{J:Type}{c:Option J}{f:J->aJ}{us:J->List (Nat×Site)}{dS:aJ->List (Nat×Site)->Prop}(h:∀y,c=some y->dS (f y) (us y)):Holds (.hH c f us) dS:=fun y hy _=>h y hy
def Plain(P:Program)(w:World)(s:Sem Value)(v:aJ)(us:List (Nat×Site)):Prop:=
 ∃vv d,s.run P w=.ok vv w/\us=[]/\v=one d/\∀av,bD w av d vv
theorem Plain.mk{s:Sem Value}{vv:Value}{d:aZ}(h:s.run P w=.ok vv w)(hr:∀av,bD w av d vv):Plain P w s (one d) []:=⟨vv,d,h,rfl,rfl,hr⟩
theorem ack(op:BinOp)(T:TypeId)(k:IntKind)(a b:Int)(hs:op≠.shl)(fG:op≠.shr):
  Holds (RU op k a b) (Plain P w (binOp op T (.int k a) (.int k b))):=by
 cases op with
 |shl=>exact absurd rfl hs
 |shr=>exact absurd rfl fG
 |andNot=>exact .fail
 |quo=>
  refine Holds.eo fun y hy=>?_
  unfold nO at hy;split at hy
  ·cases hy
  ·rename_i hb;cases hy;exact .mk (by simp[binOp,Op.intDiv,hb]) fun av=>.int _ _
 |rem=>
  refine Holds.eo fun y hy=>?_
  unfold lU at hy;split at hy
  ·cases hy
  ·rename_i hb;cases hy;exact .mk (by simp[binOp,Op.intDiv,hb]) fun av=>.int _ _
 |add=>exact Holds.ok (.mk (by simp[binOp,Op.intArith]) fun av=>.int _ _)
 |sub=>exact Holds.ok (.mk (by simp[binOp,Op.intArith]) fun av=>.int _ _)
 |mul=>exact Holds.ok (.mk (by simp[binOp,Op.intArith]) fun av=>.int _ _)
 |and=>exact Holds.ok (.mk (by simp[binOp,Op.intBits,ew]) fun av=>.int _ _)
 |or=>exact Holds.ok (.mk (by simp[binOp,Op.intBits,hN]) fun av=>.int _ _)
 |xor=>exact Holds.ok (.mk (by simp[binOp,Op.intBits,dl]) fun av=>.int _ _)
 |eql=>exact Holds.ok (.mk (by simp[binOp,Op.intCmp]) fun av=>.bool _)
 |neq=>exact Holds.ok (.mk (by simp[binOp,Op.intCmp]) fun av=>.bool _)
 |lss=>exact Holds.ok (.mk (by simp[binOp,Op.intCmp]) fun av=>.bool _)
 |leq=>exact Holds.ok (.mk (by simp[binOp,Op.intCmp]) fun av=>.bool _)
 |gtr=>exact Holds.ok (.mk (by simp[binOp,Op.intCmp]) fun av=>.bool _)
 |geq=>exact Holds.ok (.mk (by simp[binOp,Op.intCmp]) fun av=>.bool _)
theorem aci(op:BinOp)(T:TypeId)(a b:ByteArray):
  Holds (RF op a.data.toList b.data.toList) (Plain P w (binOp op T (.string a) (.string b))):=by
 have e1:a.toList=a.data.toList:=ByteArray.toList_eq a;have e2:b.toList=b.data.toList:=ByteArray.toList_eq b;have ee:a.data.toList.length=a.size:=rfl;have gB:b.data.toList.length=b.size:=rfl;cases op with
 |add=>
  refine Holds.eo fun y hy=>?_
  simp only[bY,ee,gB] at hy;split at hy
  ·cases hy
  ·rename_i hc;cases hy;refine .mk (vv:=.string (a++b)) ?_ fun av=>.str _ _ (by simp[ByteArray.data_append])
   simp only[binOp,Op.stringOp,hc,if_false,Sem.run_pure]
 |eql=>exact Holds.ok (.mk (by rw[<-e1,<-e2];rfl) fun av=>.bool _)
 |neq=>exact Holds.ok (.mk (by rw[<-e1,<-e2];rfl) fun av=>.bool _)
 |lss=>exact Holds.ok (.mk (by rw[<-e1,<-e2];rfl) fun av=>.bool _)
 |leq=>exact Holds.ok (.mk (by rw[<-e1,<-e2];rfl) fun av=>.bool _)
 |gtr=>exact Holds.ok (.mk (by rw[<-e1,<-e2];rfl) fun av=>.bool _)
 |geq=>exact Holds.ok (.mk (by rw[<-e1,<-e2];rfl) fun av=>.bool _)
 |_=>exact .fail
end
def pY:aF->Option Value
 |.d (.int k n)=>some (.int k n)
 |.d (.bool b)=>some (.bool b)
 |.d (.str [])=>some (.string ⟨#[]⟩)
 |.nil _=>some (.slice none 0 0)
 |.cP (.pointer none)=>some (.pointer none)
 |.cP .nilFunc=>some .nilFunc
 |.cP (.map none)=>some (.map none)
 |.cP .nilIface=>some .nilIface
 |_=>none
def k0:List aF->Option (List Value)
 |[]=>some []
 |l::ad=>match pY l,k0 ad with
  |some v,some vs=>some (v::vs)
  |_,_=>none
theorem MB{l:aF}{v:Value}(h:pY l=some v)(D:Nat->Value)(sites:List (Nat×Site))(w:World)(av:Nat->Prop):dQ D sites w av l v/\v.oneCell'=true:=by
 unfold pY at h;split at h<;>first|cases h|skip
 ·exact⟨.int _ _,rfl⟩
 ·exact⟨.bool _,rfl⟩
 ·exact⟨.str _ _ rfl,rfl⟩
 ·exact⟨rfl,rfl⟩
 ·exact⟨rfl,rfl⟩
 ·exact⟨rfl,rfl⟩
 ·exact⟨rfl,rfl⟩
 ·exact⟨rfl,rfl⟩
theorem tW:∀{ad:List aF} {vs:List Value},k0 ad=some vs->vs.length=ad.length/\(∀u∈vs,u.oneCell'=true)/\
  ∀(D:Nat->Value) (sites:List (Nat×Site)) (w:World) (av:Nat->Prop) j (h:j<ad.length) (af:j<vs.length),dQ D sites w av (ad[j]) (vs[j]):=by
 intro ad;induction ad with
 |nil=>intro vs h;simp[k0] at h;subst h;exact⟨rfl,fun u hu=>by simp at hu,fun _ _ _ _ j h=>by simp at h⟩
 |cons l ad ih=>
  intro vs h;simp only[k0] at h;split at h
  ·rename_i v ck h1 h2;cases h;obtain⟨g1,g2,g3⟩:=ih h2;refine⟨by simp[g1],fun u hu=>?_,fun D sites w av j hj jH=>?_⟩
   ·rcases List.mem_cons.1 hu with rfl|hu
    ·exact(MB h1 (fun _=>undef) [] default (fun _=>False)).2
    ·exact g2 u hu
   ·cases j with
    |zero=>exact(MB h1 _ _ _ _).1
    |succ j=>exact g3 D sites w av j (by simpa using hj) (by simpa using jH)
  ·cases h
def nw:Value->Value->Option Bool
 |.int k a,.int k' b=>if k=k' then some (a==b) else none
 |.bool a,.bool b=>some (a==b)
 |.string a,.string b=>some (a==b)
 |_,_=>none
def jq:List Value->List Value->Option Bool
 |[a],[b]=>nw a b
 |a::as,b::bs=>match nw a b,jq as bs with
  |some x,some y=>some (x&&y)
  |_,_=>none
 |_,_=>none
def o7:List aF->List Value->Bool
 |[],[]=>true
 |.d (.int _ _)::z,.int _ _::l=>o7 z l
 |.d (.bool _)::z,.bool _::l=>o7 z l
 |.d (.str _)::z,.string _::l=>o7 z l
 |_,_=>false
def jc(P:Program)(T:TypeId)(d:TypeDesc)(z:Value):Prop:=
 P.underlying T=some d/\(∀bK,d≠.struct bK)/\(∀n e,d≠.array n e)/\(P.info? T).map (fun i=>(i.size,i.zero))=some (1,some z)
def mapElem(P:Program)(e:TypeId):a6->Prop
 |.i64=>jc P e (.int .i64) (.int .i64 0)
 |.bool=>jc P e .bool (.bool false)
 |_=>False
def GU(P:Program)(e:TypeId):a6->Prop
 |.i64=>jc P e (.int .i64) (.int .i64 0)
 |.u32=>jc P e (.int .u32) (.int .u32 0)
 |.bool=>jc P e .bool (.bool false)
 |.str=>jc P e .string (.string ⟨#[]⟩)
 |_=>False
def b_.ok(P:Program)(T:TypeId):b_->Prop
 |.none=>True
 |.int k=>jc P T (.int k) (.int k 0)
 |.bool=>jc P T .bool (.bool false)
 |.str=>jc P T .string (.string ⟨#[]⟩)
 |.ptr=>∃e,jc P T (.pointer e) (.pointer Option.none)
 |.func=>∃ps kK v,jc P T (.func ps kK v) .nilFunc
 |.slice e t bytes=>jc P T (.slice e) (.slice Option.none 0 0)/\∃z,(P.info? e).map (fun i=>(i.size,i.bytes,i.zero))=some (aT t,bytes,some z)/\z.cells.size=aT t/\(t.jF=true->e=mc)
 |.struct bK n z eq=>∃fields:Array Field,P.underlying T=some (.struct fields)/\
   (fields.toList.mapM (fun f=>(P.info? f.type).map fun i=>(f.offset,i.size))=some bK/\∀p∈bK,p.2≠0)/\
   (∃fV,(P.info? T).map (fun i=>(i.size,i.zero))=some (n,some (.agg fV))/\k0 z=some fV.toList/\z.length=n)/\
   (eq=true->P.eqGuardType P.depth T=false/\∀(vs us:List Value) (b:Bool) (w:World),jq vs us=some b->o7 z vs=true->(Op.equal T (.agg vs.toArray) (.agg us.toArray)).run P w=.ok b w)
 |.map k e t=>jc P T (.map k e) (.map Option.none)/\P.underlying k=some .string/\mapElem P e t
 |.iface=>∃iQ,jc P T (.interface iQ) .nilIface
 |.arr e t n=>P.underlying T=some (.array n e)/\(∃fV z,(P.info? T).map (fun i=>(i.size,i.zero))=some (n,some (.agg fV))/\ta t=some z/\k0 (List.replicate n z)=some fV.toList)/\GU P e t
section
variable {P:Program}{T:TypeId}{w:World}
theorem kT{i:TypeInfo}(h:P.info? T=some i):(typeInfo T).run P w=.ok i w:=by
 simp[typeInfo,h]
theorem b_.OK{ti:b_}(h:ti.ok P T)(hn:ti≠.none):(sizeOf T).run P w=.ok ti.size w:=by
 have key:∀{z:Option Value} {n:Nat},(P.info? T).map (fun i=>(i.size,i.zero))=some (n,z)->(sizeOf T).run P w=.ok n w:=by
  intro z n h;cases hi:P.info? T with
  |none=>simp[hi] at h
  |some i=>
   simp only[hi,Option.map_some,Option.some.injEq,Prod.mk.injEq] at h;simp[sizeOf,kT hi,h.1]
 cases ti with
 |none=>exact absurd rfl hn
 |int k=>exact key h.2.2.2
 |bool=>exact key h.2.2.2
 |str=>exact key h.2.2.2
 |ptr=>obtain⟨e,h⟩:=h;exact key h.2.2.2
 |func=>obtain⟨_,_,_,h⟩:=h;exact key h.2.2.2
 |iface=>obtain⟨_,h⟩:=h;exact key h.2.2.2
 |slice e t b=>exact key h.1.2.2.2
 |map k e t=>exact key h.1.2.2.2
 |struct bK n z eq=>obtain⟨fields,_,_,⟨fV,h,_⟩,_⟩:=h;exact key h
 |arr e t n=>obtain⟨_,⟨fV,z,h,_⟩,_⟩:=h;exact key h
theorem b_.Ez{ti:b_}(h:ti.ok P T){z:List aF}(hz:ti.zero=some z):∃v,(zeroValue T).run P w=.ok v w/\k0 z=some v.cells.toList:=by
 have key:∀{z:Value} {n:Nat},(P.info? T).map (fun i=>(i.size,i.zero))=some (n,some z)->(zeroValue T).run P w=.ok z w:=by
  intro z n h;cases hi:P.info? T with
  |none=>simp[hi] at h
  |some i=>
   simp only[hi,Option.map_some,Option.some.injEq,Prod.mk.injEq] at h;simp[zeroValue,kT hi,h.2]
 cases ti with
 |none=>cases hz
 |int k=>cases hz;exact⟨_,key h.2.2.2,rfl⟩
 |bool=>cases hz;exact⟨_,key h.2.2.2,rfl⟩
 |str=>cases hz;exact⟨_,key h.2.2.2,rfl⟩
 |ptr=>cases hz;obtain⟨e,h⟩:=h;exact⟨_,key h.2.2.2,rfl⟩
 |func=>cases hz;obtain⟨_,_,_,h⟩:=h;exact⟨_,key h.2.2.2,rfl⟩
 |iface=>cases hz;obtain⟨_,h⟩:=h;exact⟨_,key h.2.2.2,rfl⟩
 |slice e t b=>cases hz;exact⟨_,key h.1.2.2.2,rfl⟩
 |map k e t=>cases hz;exact⟨_,key h.1.2.2.2,rfl⟩
 |struct bK n eQ eq=>cases hz;obtain⟨fields,_,_,⟨fV,h,h2,_⟩,_⟩:=h;exact⟨_,key h,h2⟩
 |arr e t n=>
  obtain⟨_,⟨fV,z0,h,h1,h2⟩,_⟩:=h;simp only[b_.zero,h1,Option.map_some,Option.some.injEq] at hz;subst hz;exact⟨_,key h,h2⟩
theorem b_.NE{ti:b_}(h:ti.ok P T)(hn:ti≠.none):(isAgg T).run P w=.ok ti.agg w:=by
 have key:∀{d:TypeDesc},P.underlying T=some d->(∀bK,d≠.struct bK)->(∀n e,d≠.array n e)->(isAgg T).run P w=.ok false w:=by
  intro d h h1 h2;simp only[isAgg,Sem.run_bind,run_underlying h,Result.andThen_ok];cases d<;>first|rfl|exact absurd rfl (h1 _)|exact absurd rfl (h2 _ _)
 cases ti with
 |none=>exact absurd rfl hn
 |int k=>exact key h.1 h.2.1 h.2.2.1
 |bool=>exact key h.1 h.2.1 h.2.2.1
 |str=>exact key h.1 h.2.1 h.2.2.1
 |ptr=>obtain⟨e,h⟩:=h;exact key h.1 h.2.1 h.2.2.1
 |func=>obtain⟨_,_,_,h⟩:=h;exact key h.1 h.2.1 h.2.2.1
 |iface=>obtain⟨_,h⟩:=h;exact key h.1 h.2.1 h.2.2.1
 |slice e t b=>exact key h.1.1 h.1.2.1 h.1.2.2.1
 |map k e t=>exact key h.1.1 h.1.2.1 h.1.2.2.1
 |struct bK n z eq=>
  obtain⟨fields,h,_⟩:=h;simp only[isAgg,Sem.run_bind,run_underlying h,Result.andThen_ok];rfl
 |arr e t n=>
  obtain⟨h,_⟩:=h;simp only[isAgg,Sem.run_bind,run_underlying h,Result.andThen_ok];rfl
def sD(agg:Bool)(cs:List Value):Value:=bif agg then .agg cs.toArray else cs.headD undef
theorem tU{ti:b_}(h:ti.ok P T)(hn:ti≠.none)(a:Addr)(cs:List Value)(hl:cs.length=ti.size)(hc:∀j u,cs[j]? =some u->w.cell? (a.add j)=some u):
  (loadVar T a).run P w=.ok (sD ti.agg cs) w:=by
 simp only[loadVar,Sem.run_bind,b_.NE h hn,Result.andThen_ok];cases IL:ti.agg with
 |true=>
  simp only[if_true,Sem.run_bind,b_.OK h hn,Result.andThen_ok,sD,cond_true];rw[<-hl,run_loadCells_list w a cs hc];rfl
 |false=>
  have h1:ti.size=1:=by cases ti<;>first|rfl|cases IL
  rw[h1] at hl;match cs,hl with
  |[c],_=>
   have h0:=hc 0 c rfl;have ha:a.add 0=a:=by unfold Addr.add;simp
   rw[ha] at h0;simp[sD,h0]
end
section
variable {D:Nat->Value}{sites:List (Nat×Site)}{w:World}{av:Nat->Prop}
def cr(D:Nat->Value)(sites:List (Nat×Site))(w:World)(av:Nat->Prop)(ad:List aF)(vs:List Value):Prop:=
 vs.length=ad.length/\∀j (h:j<ad.length) (af:j<vs.length),dQ D sites w av (ad[j]) (vs[j])
theorem cr.nil:cr D sites w av [] []:=⟨rfl,fun j h=>by simp at h⟩
theorem cr.cons{l:aF}{ad:List aF}{v:Value}{vs:List Value}(h:dQ D sites w av l v)(hs:cr D sites w av ad vs):cr D sites w av (l::ad) (v::vs):=
 ⟨by simp[hs.1],fun j h1 h2=>by
  cases j with
  |zero=>exact h
  |succ j=>exact hs.2 j (by simpa using h1) (by simpa using h2)⟩
theorem cr.inv{l:aF}{ad:List aF}{vs:List Value}(h:cr D sites w av (l::ad) vs):∃v ck,vs=v::ck/\dQ D sites w av l v/\cr D sites w av ad ck:=by
 obtain⟨h1,h2⟩:=h;match vs,h1 with
 |v::ck,h1=>
  exact⟨v,ck,rfl,h2 0 (by simp) (by simp),by simpa using h1,fun j g1 g2=>h2 (j+1) (by simpa using g1) (by simpa using g2)⟩
theorem cr.ny{vs:List Value}(h:cr D sites w av [] vs):vs=[]:=List.eq_nil_of_length_eq_zero h.1
theorem cr.drop{ad:List aF}{vs:List Value}(n:Nat)(h:cr D sites w av ad vs):cr D sites w av (ad.drop n) (vs.drop n):=
 ⟨by simp[h.1],fun j h1 h2=>by simp only[List.getElem_drop];exact h.2 _ (by simp at h1;omega) (by simp at h2;omega)⟩
theorem cr.take{ad:List aF}{vs:List Value}(n:Nat)(h:cr D sites w av ad vs):cr D sites w av (ad.take n) (vs.take n):=
 ⟨by simp[h.1],fun j h1 h2=>by simp only[List.getElem_take];exact h.2 _ (by simp at h1;omega) (by simp at h2;omega)⟩
theorem cr.append{ad gi:List aF}{vs ck:List Value}(h:cr D sites w av ad vs)(af:cr D sites w av gi ck):cr D sites w av (ad++gi) (vs++ck):=by
 induction ad generalizing vs with
 |nil=>rw[h.ny];exact af
 |cons l ad ih=>
  obtain⟨v,vS,rfl,h1,h2⟩:=h.inv;exact .cons h1 (ih h2)
theorem cr.bG{ad gi:List aF}{vs ck:List Value}(off:Nat)(h:cr D sites w av ad vs)(af:cr D sites w av gi ck):cr D sites w av (Jk.bG ad off gi) (Jk.bG vs off ck):=by
 unfold Jk.bG;rw[af.1];exact((h.take off).append af).append (h.drop _)
theorem dQ.jr{l:aF}{u:Value}(h:dQ D sites w av l u)(dJ:l.storable=true):u.oneCell'=true:=by
 cases l with
 |d x=>exact bD.jr h
 |nil t=>rw[show u=_ from h];rfl
 |own o s=>exact h.1
 |ptr o s off=>obtain⟨b,rfl,_⟩:=h;rfl
 |ev c B=>cases dJ
 |eT _ _ _ _ _=>cases dJ
 |clo g bz=>obtain⟨vs,rfl,_⟩:=h;rfl
 |cP x=>rw[show u=x from h];cases x<;>first|rfl|cases dJ
 |fresh t xs=>cases dJ
 |dn=>cases dJ
 |any=>cases dJ
theorem cr.jr{ad:List aF}{vs:List Value}(h:cr D sites w av ad vs)(dJ:hh ad=true):∀u∈vs,u.oneCell'=true:=by
 induction ad generalizing vs with
 |nil=>rw[h.ny];intro u hu;simp at hu
 |cons l ad ih=>
  obtain⟨v,ck,rfl,h1,h2⟩:=h.inv;simp only[hh,Bool.and_eq_true] at dJ;intro u hu;rcases List.mem_cons.1 hu with rfl|hu
  ·exact h1.jr dJ.1
  ·exact ih h2 dJ.2 u hu
theorem gU.cells{a:bL}{v:Value}(h:gU D sites w av a v)(dJ:hh a.cells=true):cr D sites w av a.cells v.cells.toList:=by
 cases a with
 |ak l=>
  have h1:v.oneCell'=true:=dQ.jr h (by simpa[bL.cells,hh] using dJ)
  have:v.cells=#[v]:=by cases v<;>first|rfl|cases h1
  rw[this];exact .cons h .nil
 |agg ad=>
  obtain⟨vs,rfl,h1,h2⟩:=h;exact⟨h1,h2⟩
theorem Ri{agg:Bool}{off n:Nat}{ad:List aF}{vs:List Value}{v:aJ}(hc:cut agg off n ad=some v)(h1:agg=false->n=1)(h:cr D sites w av ad vs):
  off+n<=vs.length/\cc D sites w av v (sD agg ((vs.drop off).take n)):=by
 unfold cut at hc;cases agg with
 |true=>
  simp only[cond_true] at hc;cases hb:Nat.ble (off+n) ad.length with
  |false=>simp[hb] at hc
  |true=>
   simp only[hb,cond_true,Option.some.injEq] at hc;subst hc;have hle:off+n<=ad.length:=Nat.le_of_ble_eq_true hb;have:=(h.drop off).take n;exact⟨by rw[h.1];exact hle,_,rfl,this.1,this.2⟩
 |false=>
  simp only[cond_false] at hc;have hn:=h1 rfl;subst hn;cases Z:ad.drop off with
  |nil=>simp[Z] at hc
  |cons l r=>
   simp only[Z,Option.some.injEq] at hc;subst hc;have XG:=h.drop off;rw[Z] at XG;obtain⟨u,us,hu,hl,_⟩:=XG.inv;have hlen:off<ad.length:=by
    rcases Nat.lt_or_ge off ad.length with h|h
    ·exact h
    ·rw[List.drop_eq_nil_of_le h] at Z;cases Z
   refine⟨by rw[h.1];omega,?_⟩
   rw[hu];exact hl
theorem hA{ds:List aZ}{vs:List Value}(hl:vs.length=ds.length)(h:∀j (h:j<ds.length) (af:j<vs.length),bD w av (ds[j]) (vs[j])):cr D sites w av (cx ds) vs:=
 ⟨by simp[cx,hl],fun j h1 h2=>by simp only[cx,List.getElem_map];exact h j (by simpa[cx] using h1) h2⟩
end
theorem gM(b B j:Nat):(⟨b,B,none⟩:Addr).add j=⟨b,B+j,none⟩:=by
 unfold Addr.add;split<;>simp_all
def hV(w:World)(b B:Nat)(cs:List Value):Prop:=∀j u,cs[j]? =some u->w.cell? ⟨b,B+j,none⟩=some u
theorem hV.drop{w:World}{b B:Nat}{cs:List Value}(h:hV w b B cs)(m:Nat):hV w b (B+m) (cs.drop m):=by
 intro j u hu;rw[List.getElem?_drop] at hu;have:=h _ _ hu;rwa[Nat.add_assoc]
theorem hV.take{w:World}{b B:Nat}{cs:List Value}(h:hV w b B cs)(m:Nat):hV w b B (cs.take m):=by
 intro j u hu;rw[List.getElem?_take] at hu;split at hu
 ·exact h _ _ hu
 ·cases hu
theorem hV.row{w:World}{b:Nat}{cur:List Value}{T:TypeId}{cD:Nat×Nat}(h:w.heap[b]? =some (.cells cur.toArray T cD)):hV w b 0 cur:=by
 intro j u hu;rw[Nat.zero_add,cell_of_row w b j _ T cD h];simpa using hu
theorem ua(t:a6)(xs:List (den t))(k:Nat)(x:den t)(hx:xs[k]? =some x):((flat t xs).drop (k*aT t)).take (aT t)=enc t x:=by
 apply List.ext_getElem?;intro j;rw[List.getElem?_take,List.getElem?_drop];split
 ·rename_i hj;exact flat_get t xs k j x hx hj
 ·rename_i hj;rw[List.getElem?_eq_none (by rw[iU];omega)]
section
variable {P:Program}{C:hJ}{O:World}{Y:List Nat}{X:Nat->Prop}{D:Nat->Value}{st:ah}{M:Array Value}{w:World}
theorem gF{o s:Nat}{cells:List aF}(h:fD st o s=some cells):look st.sites o=some (.box s cells):=by
 unfold fD ah.ab at h;split at h
 ·rename_i aC ju hl;cases hb:aC.beq s with
  |false=>simp[hb] at h
  |true=>
   simp only[hb,cond_true,Option.some.injEq] at h;have:=Nat.eq_of_beq_eq_true hb;subst this h;exact hl
 ·cases h
theorem jO{o s:Nat}{t:a6}{xs:List (den t)}(h:rowOf st o s=some ⟨t,xs⟩):look st.sites o=some (.row s t xs)\/look st.sites o=some (.di s t xs):=by
 unfold rowOf ah.ab at h;split at h
 ·rename_i aC bj iI hl;cases hb:aC.beq s with
  |false=>simp[hb] at h
  |true=>
   simp only[hb,cond_true,Option.some.injEq] at h;have:=Nat.eq_of_beq_eq_true hb;subst this;cases h;exact .inl hl
 ·rename_i aC bj iI hl;cases hb:aC.beq s with
  |false=>simp[hb] at h
  |true=>
   simp only[hb,cond_true,Option.some.injEq] at h;have:=Nat.eq_of_beq_eq_true hb;subst this;cases h;exact .inr hl
 ·cases h
theorem Ref.at{sites:List (Nat×Site)}{o s:Nat}{p:Prop}{ab:Site}(h:Ref sites o s p)(hl:look sites o=some ab)(hs:ab.cq=s):p:=by
 obtain⟨bV,h1,_,h3⟩:=h;rw[hl] at h1;cases h1;exact h3 hs
theorem Ref.mk{sites:List (Nat×Site)}{o s:Nat}{p:Prop}{ab:Site}(hl:look sites o=some ab)(hs:ab.cq=s)(hp:p):Ref sites o s p:=
 ⟨ab,hl,by omega,fun _=>hp⟩
theorem am.box(S:am O Y X D st M w){o s off:Nat}{cells:List aF}(h:look st.sites o=some (.box s cells)){v:Value}(hv:dQ D st.sites w (ay X D st.sites) (.ptr o s off) v):
  ∃b T cur,D o=.pointer (some ⟨b,0,none⟩)/\v=.pointer (some ⟨b,off,none⟩)/\w.heap[b]? =some (.cells (List.toArray cur) T (0,0))/\(∀u∈cur,u.oneCell'=true)/\cr D st.sites w (ay X D st.sites) cells cur:=by
 obtain⟨b,T,cur,h1,h2,h3,aw,_,bk⟩:=S.sites o _ h;obtain⟨bI,g2,g3⟩:=hv;have g1:=Ref.at g3 h rfl;rw[h1] at g1;cases g1;exact⟨b,T,cur,h1,g2,h2,aw,h3,bk⟩
theorem am.row(S:am O Y X D st M w){o s:Nat}{t:a6}{xs:List (den t)}(h:rowOf st o s=some ⟨t,xs⟩):
  ∃cs:List Value,cr D st.sites w (ay X D st.sites) (cx (flat t xs)) cs/\
   ((D o=.slice none 0 0/\xs=[])\/∃b c,D o=.slice (some ⟨b,0,none⟩) xs.length c/\hV w b 0 cs/\xs.length<=c):=by
 rcases jO h with h|h
 ·obtain⟨e,cs,h1,h2⟩:=S.sites o _ h;have hl:cs.length=(flat t xs).length:=by rw[eW];exact h1.1
  refine⟨cs,hA hl h2,?_⟩;rcases h1.2 with⟨hn,h0⟩|⟨g,cap,cur,fz,hv,_,hg,hnc,_,_,htk⟩
  ·exact .inl ⟨hn,List.eq_nil_of_length_eq_zero h0⟩
  ·refine .inr ⟨_,_,hv,fun j u hu=>?_,hnc⟩
   rw[Nat.zero_add,cell_of_row w g j cur e fz hg];rw[<-htk,List.getElem?_take] at hu;split at hu
   ·simpa using hu
   ·cases hu
 ·obtain⟨h1,bP⟩:bD w (ay X D st.sites) (.sl t xs) (D o)/\BH (D o):=S.sites o _ h;generalize hv:D o=v at h1 bP;cases h1 with
  |nil t=>exact⟨[],⟨rfl,fun j h=>by simp[cx,flat] at h⟩,.inl ⟨rfl,rfl⟩⟩
  |sl t xs a cap cs n hn hcap hb hl hc hr=>
   subst hn;rcases bP with bP|⟨b,n,c,bP⟩
   ·cases bP
   ·cases bP;exact⟨cs,hA hl hr,.inr ⟨b,cap,rfl,fun j u hu=>by have:=hc j u hu;rwa[gM] at this,hcap⟩⟩
def BI(g:Nat)(t:a6)(xs:List (den t)):Prop:=g∈kF/\∀w (av:Nat->Prop),mW w->∃T fz,∃cs:List Value,w.heap[g]? =some (.cells cs.toArray T fz)/\cs.length=(flat t xs).length/\∀j (h:j<(flat t xs).length) (af:j<cs.length),bD w av ((flat t xs)[j]) (cs[j])
structure CtxOk(P:Program)(C:Ctx):Prop where
 tt:∀T,(C.tt T).ok P T
 gt:∀g t xs,C.gt g=some ⟨t,xs⟩->BI g t xs
theorem EW{ti:b_}(h:ti.known=true):ti≠.none:=by rintro rfl;cases h
theorem Fc{ti:b_}(h:ti.agg=false):ti.size=1:=by cases ti<;>first|rfl|cases h
theorem afn{agg:Bool}{off n:Nat}{ad:List aF}(h:off+n<=ad.length)(h1:agg=false->n=1):cut agg off n ad≠none:=by
 unfold cut;cases agg with
 |true=>
  have:Nat.ble (off+n) ad.length=true:=Nat.ble_eq_true_of_le h;simp[this]
 |false=>
  have:=h1 rfl;simp only[cond_false];cases Z:ad.drop off with
  |nil=>have:=congrArg List.length Z;simp at this;omega
  |cons l r=>simp
theorem agU(S:am O Y X D st M w){C:Ctx}(H:CtxOk P C){B:Oper}{T:TypeId}{x:Operand}(aE:B.op=.load T x)(Z:ch st B.dst=true)(hk:(C.tt T).known=true):
  Holds (sH (C.tt T).agg (C.tt T).size st (a7 C st T x)) (cE P O Y X st M w B):=by
 have hn:=EW hk;have bu:=dB S C T x;have fin:∀{b p:Nat} {ad:List aF} {vs:List Value} {off:Nat} {v:aJ},Act.eval ⟨M,[]⟩ x=.pointer (some ⟨b,p+off,none⟩)->hV w b p vs->cr D st.sites w (ay X D st.sites) ad vs->
   cut (C.tt T).agg off (C.tt T).size ad=some v->cE P O Y X st M w B v []:=by
  intro b p ad vs off v hx hc hl fF;obtain⟨hle,apP⟩:=Ri fF Fc hl;refine dH S Z (vv:=sD (C.tt T).agg ((vs.drop off).take (C.tt T).size)) ?_ apP;have dm:=tU (P:=P) (w:=w) (H.tt T) hn ⟨b,p+off,none⟩ ((vs.drop off).take (C.tt T).size) (by simp;omega) (fun j u hu=>by rw[gM];exact(hc.drop off).take _ j u hu)
  unfold execOp;simp only[aE,Instr.loadAt,Instr.sureAddr,hx,Sem.run_bind,Sem.run_pure,Result.andThen_ok,dm]
 unfold sH;split
 ·rename_i o s off b4;rw[b4] at bu;split
  ·rename_i cells hb;split
   ·rename_i v fF;obtain⟨b,gr,cur,_,hv,hg,_,hl⟩:=S.box (gF hb) bu;exact Holds.ok (fin (p:=0) (by rw[Nat.zero_add];exact hv) (hV.row hg) hl fF)
   ·exact .fail
  ·exact .fail
 ·rename_i cells off b4;rw[b4] at bu;split
  ·rename_i v fF;obtain⟨b,p,hv,_,_,cs,hl,hc,hr⟩:=bu;exact Holds.ok (fin hv hc (hA hl hr) fF)
  ·exact .fail
 ·rename_i o s u k off b4;rw[b4] at bu;split
  ·rename_i t xs hrow;split
   ·rename_i n3;obtain⟨rfl,hle⟩:=n3;refine Holds.eo fun y hy=>?_
    have dW:xs[k]? =some y:=hy;obtain⟨cs,hl,hcell⟩:=S.row hrow;have dJ:∃ab,look st.sites o=some ab/\ab.cq=s:=by
     rcases jO hrow with h|h<;>exact⟨_,h,rfl⟩
    obtain⟨ab,iN,lp⟩:=dJ;obtain⟨b,hv,vC⟩:=bu;obtain⟨n,c,cO⟩:=Ref.at vC iN lp;cases fF:cut (C.tt T).agg off (C.tt T).size (cx (enc t y)) with
    |none=>exact absurd fF (afn (by simpa[cx,iU] using hle) Fc)
    |some v=>
     rcases hcell with⟨qy,_⟩|⟨bI,fi,j1,hcs,_⟩
     ·rw[cO] at qy;cases qy
     ·rw[cO] at j1;cases j1;have e1:cx (enc t y)=((cx (flat t xs)).drop (k*aT t)).take (aT t):=by
       rw[<-ua t xs k y dW];simp[cx,List.map_drop,List.map_take]
      rw[e1] at fF;refine fin (p:=k*aT t) hv ?_ ((hl.drop (k*aT t)).take (aT t)) fF;have:=(hcs.drop (k*aT t)).take (aT t);rwa[Nat.zero_add] at this
   ·exact .fail
  ·exact .fail
 ·exact .fail
end
section
variable {P:Program}{O:World}{Y:List Nat}{X:Nat->Prop}{D:Nat->Value}{st:ah}{M:Array Value}{w:World}
theorem am.fy(S:am O Y X D st M w){o b:Nat}(hl:cg st.sites o)(hb:bH (D o)=some b):b<w.heap.size:=by
 obtain⟨ab,h1,h2⟩:=hl;have:=S.sites o ab h1;cases ab with
 |box s cells=>
  obtain⟨bI,T,cur,g1,g2,_⟩:=this;rw[g1] at hb;cases hb;exact(Array.getElem?_eq_some_iff.1 g2).1
 |row s t xs=>
  obtain⟨e,cs,g1,_⟩:=this;rcases g1.2 with⟨hn,_⟩|⟨g,cap,cur,fz,hv,_,hg,_⟩
  ·rw[hn] at hb;cases hb
  ·rw[hv] at hb;cases hb;exact(Array.getElem?_eq_some_iff.1 hg).1
 |map s t es=>
  obtain⟨bI,g1,g2⟩:=this;rw[g1] at hb;cases hb;exact g2.lt
 |di=>cases h2
 |dead=>cases h2
theorem Am{D aI:Nat->Value}{sites bU:List (Nat×Site)}{w w':World}{av cd:Nat->Prop}(go:∀{a:aJ} {v:Value},cc D sites w av a v->cc aI bU w' cd a v){ad:List aF}{vs:List Value}
  (h:cr D sites w av ad vs):cr aI bU w' cd ad vs:=by
 obtain⟨ck,h1,h2,h3⟩:=go (a:=.av (.agg ad)) (v:=.agg vs.toArray) ⟨vs,rfl,h.1,h.2⟩;have:vs=ck:=by simpa using h1
 subst this;exact⟨h2,h3⟩
theorem oP{D aI:Nat->Value}{sites bU:List (Nat×Site)}{w w':World}{av cd:Nat->Prop}(go:∀{a:aJ} {v:Value},cc D sites w av a v->cc aI bU w' cd a v){d:aZ}{v:Value}
  (h:bD w av d v):bD w' cd d v:=go (a:=one d) (v:=v) h
theorem MU{sites:List (Nat×Site)}{o:Nat}{ab bV:Site}(hl:look sites o=some ab)(h:bV.live=ab.live)(aa:Nat):cg (cl sites o bV) aa <-> cg sites aa:=by
 unfold cg;rw[cZ];by_cases e:o=aa
 ·subst e;simp only[if_true,hl,Option.some.injEq];constructor
  ·rintro⟨s,rfl,h2⟩;exact⟨ab,rfl,h▸h2⟩
  ·rintro⟨s,rfl,h2⟩;exact⟨bV,rfl,h▸h2⟩
 ·simp only[e,if_false]
theorem am.write(S:am O Y X D st M w){o b:Nat}{ab bV:Site}{cur cur':Array Value}{T:TypeId}{cD:Nat×Nat}(hl:look st.sites o=some ab)(lQ:ab.live=true)(aiy:bV.live=true)(hs:bV.cq=ab.cq)
  (cO:bH (D o)=some b) (hg:w.heap[b]? =some (.cells cur T cD))
  (fv:∀{bU:List (Nat×Site)} {w':World},bU=cl st.sites o bV->w'=w.setRow b cur'->w'.heap[b]? =some (.cells cur' T cD)->
   (∀{a v},cc D st.sites w (ay X D st.sites) a v->cc D bU w' (ay X D bU) a v)->jU D bU w' (ay X D bU) o bV):
  am O Y X D {st with sites:=cl st.sites o bV} M (w.setRow b cur'):=by
 have cJ:cg st.sites o:=⟨ab,hl,lQ⟩;have lX:∀aa,cg (cl st.sites o bV) aa <-> cg st.sites aa:=MU hl (aiy.trans lQ.symm);have b9:∀bI,ay X D (cl st.sites o bV) bI <-> ay X D st.sites bI:=by
  intro bI;unfold ay;simp only[lX]
 have hne:∀bI,¬ay X D st.sites bI->bI≠b:=by
  rintro bI h rfl;exact h (.inr ⟨o,cJ,cO⟩)
 refine S.qn (fun aa s bN=>?_) (fun bI h _=>setRow_other w b bI _ (hne bI h)) (fun bI h _=>by rw[b9];exact h) (fun go aa s bN=>?_) (fun aa ρ bI h1 h2=>S.dV aa ρ bI ((lX aa).1 h1) ((lX ρ).1 h2))
  (fun aa bI h=>S.ci aa bI ((lX aa).1 h)) (fun aa bI h hb=>by rw[setRow_size];exact S.fy ((lX aa).1 h) hb) ?_ (by rw[setRow_size];exact Nat.le_refl _)
 ·rw[cZ];by_cases e:o=aa
  ·subst e;rw[hl] at bN;cases bN;exact⟨bV,by simp,by omega,fun _=>rfl⟩
  ·exact⟨s,by simp[e,bN],Nat.le_refl _,fun _=>rfl⟩
 ·rw[cZ] at bN;by_cases e:o=aa
  ·subst e;simp only[if_true,Option.some.injEq] at bN;subst bN;exact .inr (fv rfl rfl (setRow_heap w b cur cur' T cD hg) go)
  ·simp only[e,if_false] at bN;refine .inl ⟨bN,rfl,fun s0 bI dR=>setRow_other w b bI _ ?_⟩
   rintro rfl;exact e (S.dV o aa _ cJ ⟨s,bN,s0⟩ cO dR)
 ·have aX:=S.frame;refine⟨aX.os,aX.tape,aX.output,by rw[setRow_size];exact aX.size,fun bI h1 h2=>?_⟩
  rw[setRow_other w b bI _ ?_]
  ·exact aX.block bI h1 h2
  ·rintro rfl;rcases(S.ci o _ cJ cO).2 with h|h
   ·exact h2 h
   ·omega
theorem am.freeze(S:am O Y X D st M w){o s:Nat}{t:a6}{xs:List (den t)}(hl:look st.sites o=some (.row s t xs)):
  am O Y X D {st with sites:=cl st.sites o (.di s t xs)} M w:=by
 have cJ:cg st.sites o:=⟨_,hl,rfl⟩;have eb:∀aa,cg (cl st.sites o (.di s t xs)) aa->cg st.sites aa/\aa≠o:=by
  rintro aa ⟨ab,h1,h2⟩;rw[cZ] at h1;by_cases e:o=aa
  ·subst e;simp at h1;subst h1;cases h2
  ·simp only[e,if_false] at h1;exact⟨⟨ab,h1,h2⟩,fun h=>e h.symm⟩
 have b9:∀bI,ay X D (cl st.sites o (.di s t xs)) bI->ay X D st.sites bI:=by
  rintro bI (h|⟨aa,h1,h2⟩)
  ·exact .inl h
  ·exact .inr ⟨aa,(eb aa h1).1,h2⟩
 refine S.qn (fun aa ab bN=>?_) (fun _ _ _=>rfl) (fun bI h _ af=>h (b9 bI af)) (fun go aa ab bN=>?_) (fun aa ρ bI h1 h2=>S.dV aa ρ bI (eb aa h1).1 (eb ρ h2).1)
  (fun aa bI h=>S.ci aa bI (eb aa h).1) (fun aa bI h hb=>S.fy (eb aa h).1 hb) S.frame (Nat.le_refl _)
 ·rw[cZ];by_cases e:o=aa
  ·subst e;rw[hl] at bN;cases bN;exact⟨.di s t xs,by simp,Nat.le_refl _,fun _=>rfl⟩
  ·exact⟨ab,by simp[e,bN],Nat.le_refl _,fun _=>rfl⟩
 ·rw[cZ] at bN;by_cases e:o=aa
  ·subst e;simp only[if_true,Option.some.injEq] at bN;subst bN;refine .inr ?_
   show bD _ _ (.sl t xs) (D o)/\BH (D o);obtain⟨cz,cs,h1,h2⟩:=S.sites o _ hl;rcases h1.2 with⟨hn,h0⟩|⟨g,cap,cur,fz,hv,_,hg,hnc,_,_,htk⟩
   ·have:xs=[]:=List.eq_nil_of_length_eq_zero h0;subst this;rw[hn];exact⟨.nil t,.inl rfl⟩
   ·rw[hv];refine⟨?_,.inr ⟨_,_,_,rfl⟩⟩;have hlen:cs.length=(flat t xs).length:=by rw[eW];exact h1.1
    refine .sl t xs _ cap cs xs.length rfl hnc (fun _=>?_) hlen (fun j u hu=>?_) (fun j g1 g2=>oP go (h2 j g1 g2))
    ·rintro(hx|⟨aa,g1,g2⟩)
     ·exact(S.ci o g cJ (by rw[hv];rfl)).1 hx
     ·obtain⟨g3,g4⟩:=eb aa g1;exact g4 (S.dV aa o g g3 cJ g2 (by rw[hv];rfl))
    ·rw[gM,Nat.zero_add,cell_of_row w g j cur cz fz hg];rw[<-htk,List.getElem?_take] at hu;split at hu
     ·simpa using hu
     ·cases hu
  ·simp only[e,if_false] at bN;exact .inl ⟨bN,rfl,fun _ _ _=>rfl⟩
theorem Og{ax:Type}(l:List (Nat×ax))(n:Nat)(v:ax)(h:look l n=some v):cl l n v=l:=by
 induction l with
 |nil=>simp[look] at h
 |cons p l ih=>
  obtain⟨k,u⟩:=p;simp only[look] at h;simp only[cl];cases hb:k.beq n with
  |true=>simp only[hb,cond_true,Option.some.injEq] at h;subst h;simp
  |false=>simp only[hb,cond_false] at h;simp[ih h]
def dI(sites:List (Nat×Site))(us:List (Nat×Site)):Prop:=
 ∀o ab,(o,ab)∈us->∃s t,∃xs:List (den t),ab=.di s t xs/\(look sites o=some (.row s t xs)\/look sites o=some (.di s t xs))
theorem dI.nil{sites:List (Nat×Site)}:dI sites []:=fun _ _ h=>by simp at h
theorem dI.append{sites us vs:List (Nat×Site)}(h:dI sites us)(af:dI sites vs):dI sites (us++vs):=by
 intro o ab hm;rcases List.mem_append.1 hm with hm|hm
 ·exact h o ab hm
 ·exact af o ab hm
theorem dI.step{sites us:List (Nat×Site)}{o:Nat}{ab:Site}(h:dI sites ((o,ab)::us)):dI (cl sites o ab) us:=by
 obtain⟨s,t,xs,rfl,hl⟩:=h o ab (by simp)
 intro aa bV hm;obtain⟨aC,bj,iI,rfl,gj⟩:=h aa bV (by simp[hm])
 refine⟨aC,bj,iI,rfl,?_⟩;rw[cZ];by_cases e:o=aa
 ·subst e;simp only[if_true];right;rcases hl with hl|hl<;>rcases gj with gj|gj<;>rw[hl] at gj<;>cases gj<;>rfl
 ·simp only[e,if_false];exact gj
theorem am.zL{us:List (Nat×Site)}:∀{st:ah},am O Y X D st M w->dI st.sites us->am O Y X D {st with sites:=bm st.sites us} M w:=by
 induction us with
 |nil=>intro st S _;exact S
 |cons p us ih=>
  obtain⟨o,ab⟩:=p;intro st S h;have af:=h.step;obtain⟨s,t,xs,rfl,hl⟩:=h o ab (by simp)
  simp only[bm];rcases hl with hl|hl
  ·exact ih (S.freeze hl) af
  ·rw[Og _ _ _ hl] at af ⊢;exact ih S af
theorem lz{us:List (Nat×Site)}:∀{sites:List (Nat×Site)},dI sites us->∀o,(look (bm sites us) o=look sites o)\/(∃s t,∃xs:List (den t),(look sites o=some (.row s t xs)\/look sites o=some (.di s t xs))/\look (bm sites us) o=some (.di s t xs)):=by
 induction us with
 |nil=>intro sites _ o;exact .inl rfl
 |cons p us ih=>
  obtain⟨aa,ab⟩:=p;intro sites h o;obtain⟨s,t,xs,rfl,hl⟩:=h aa ab (by simp)
  simp only[bm];have hc:=cZ sites aa o (.di s t xs);rcases ih h.step o with h1|⟨aC,bj,iI,h1,h2⟩
  ·by_cases e:aa=o
   ·subst e;simp only[if_true] at hc;exact .inr ⟨s,t,xs,hl,h1.trans hc⟩
   ·simp only[e,if_false] at hc;exact .inl (h1.trans hc)
  ·by_cases e:aa=o
   ·subst e;simp only[if_true] at hc;rw[hc] at h1;rcases h1 with h1|h1
    ·cases h1
    ·cases h1;exact .inr ⟨s,t,xs,hl,h2⟩
   ·simp only[e,if_false] at hc;rw[hc] at h1;exact .inr ⟨aC,bj,iI,h1,h2⟩
theorem CR{us:List (Nat×Site)}:∀{sites:List (Nat×Site)},dI sites us->∀{o s:Nat} {t:a6} {xs:List (den t)},(o,Site.di s t xs)∈us->look (bm sites us) o=some (.di s t xs):=by
 intro sites h o s t xs hm;obtain⟨fJ,t0,BQ,he,hl⟩:=h o _ hm;cases he;rcases lz h o with h1|⟨aC,bj,iI,h1,h2⟩
 ·-- named,and auE atv
  induction us generalizing sites with
  |nil=>simp at hm
  |cons p us ih=>
   obtain⟨aa,ab⟩:=p;simp only[bm] at h1 ⊢;rcases List.mem_cons.1 hm with hm|hm
   ·cases hm;rcases lz h.step o with h2|⟨aC,bj,iI,h2,h3⟩
    ·rw[h2,cZ];simp
    ·rw[cZ] at h2;simp at h2;obtain⟨rfl,rfl,h2⟩:=h2;rw[h3];cases h2;rfl
   ·have hc:=cZ sites aa o ab;by_cases e:aa=o
    ·subst e;obtain⟨s1,t1,aoF,rfl,gX⟩:=h aa ab (by simp)
     have:Site.di s1 t1 aoF=Site.di s t xs:=by
      rcases hl with hl|hl<;>rcases gX with gX|gX<;>rw[hl] at gX<;>cases gX<;>rfl
     cases this;simp only[if_true] at hc;rcases lz h.step aa with h2|⟨aC,bj,iI,h2,h3⟩
     ·rw[h2,hc]
     ·rw[hc] at h2;rcases h2 with h2|h2
      ·cases h2
      ·cases h2;exact h3
    ·simp only[e,if_false] at hc;refine ih h.step hm (by rw[hc];exact hl) ?_
     rw[h1,hc]
 ·rcases hl with hl|hl<;>rcases h1 with h1|h1<;>rw[hl] at h1<;>cases h1<;>exact h2
end
section
variable {P:Program}{O:World}{Y:List Nat}{X:Nat->Prop}{D:Nat->Value}{st:ah}{M:Array Value}{w:World}
structure kS(O:World)(Y:List Nat)(X:Nat->Prop)(D:Nat->Value)(st:ah)(M:Array Value)(w:World)(vs:List (Nat×Site)):Prop where
 old:am O Y X D st M w
 fz:dI st.sites vs
theorem kS.new{vs:List (Nat×Site)}(aX:kS O Y X D st M w vs):am O Y X D {st with sites:=bm st.sites vs} M w:=aX.old.zL aX.fz
theorem kS.go{vs:List (Nat×Site)}(aX:kS O Y X D st M w vs){a:aJ}{v:Value}(h:cc D st.sites w (ay X D st.sites) a v):cc D (bm st.sites vs) w (ay X D (bm st.sites vs)) a v:=by
 have eb:∀aa,cg (bm st.sites vs) aa->cg st.sites aa:=by
  rintro aa ⟨ab,h1,h2⟩;rcases lz aX.fz aa with h|⟨s,t,xs,_,h⟩
  ·exact⟨ab,h▸h1,h2⟩
  ·rw[h] at h1;cases h1;cases h2
 refine h.goes ⟨fun o ab bo=>?_,fun _ _ _=>rfl,fun b hb _ dR=>hb ?_⟩ (Nat.le_refl _) ?_
 ·rcases lz aX.fz o with h|⟨s,t,xs,h1,h2⟩
  ·exact⟨ab,h.trans bo,Nat.le_refl _,fun _=>rfl⟩
  ·refine⟨_,h2,?_,fun _=>rfl⟩
   rw[bo] at h1;rcases h1 with h1|h1<;>cases h1<;>exact Nat.le_refl _
 ·rcases dR with h|⟨aa,h1,h2⟩
  ·exact .inl h
  ·exact .inr ⟨aa,eb aa h1,h2⟩
 ·rintro b (h|⟨aa,h1,h2⟩)
  ·exact aX.old.old b h
  ·exact aX.old.fy (eb aa h1) h2
theorem ag7{o s:Nat}{t:a6}{xs:List (den t)}(hr:rowOf st o s=some ⟨t,xs⟩):dI st.sites (l0 st o s t xs):=by
 unfold l0;split
 ·exact .nil
 ·intro aa ab hm;simp only[List.mem_singleton,Prod.mk.injEq] at hm;obtain⟨rfl,rfl⟩:=hm;exact⟨s,t,xs,rfl,jO hr⟩
theorem OZ{o s:Nat}{t:a6}{xs:List (den t)}(hr:rowOf st o s=some ⟨t,xs⟩):bm st.sites (l0 st o s t xs)=bm st.sites [(o,.di s t xs)]:=by
 unfold l0;split
 ·rename_i fJ t0 BQ h0;have h0:look st.sites o=some (.di fJ t0 BQ):=h0;simp only[bm];rcases jO hr with h|h
  ·rw[h0] at h;cases h
  ·exact(Og _ _ _ h).symm
 ·rfl
theorem adl{sites us:List (Nat×Site)}(h:dI sites us){o s:Nat}{t:a6}{xs:List (den t)}(hl:look sites o=some (.di s t xs)):look (bm sites us) o=some (.di s t xs):=by
 rcases lz h o with h1|⟨aC,bj,iI,h1,h2⟩
 ·rw[h1];exact hl
 ·rw[hl] at h1;rcases h1 with h1|h1
  ·cases h1
  ·cases h1;exact h2
theorem Rh{l:aF}{d:aZ}{us:List (Nat×Site)}(h:jJ st l=some (d,us)):dI st.sites us:=by
 unfold jJ at h;split at h
 ·cases h;exact .nil
 ·cases h;exact .nil
 ·rename_i o s;split at h
  ·rename_i t xs hr;cases h;exact ag7 hr
  ·cases h
 ·cases h;exact .nil
 ·cases h
theorem Rg{l:aF}{d:aZ}{us vs:List (Nat×Site)}{v:Value}(h:jJ st l=some (d,us))(hv:dQ D st.sites w (ay X D st.sites) l v)
  (aX:kS O Y X D st M w vs) (eb:∀p,p∈us->p∈vs):bD w (ay X D (bm st.sites vs)) d v:=by
 unfold jJ at h;split at h
 ·cases h;exact oP aX.go hv
 ·cases h;rw[show v=_ from hv];exact .nil _
 ·rename_i o s;split at h
  ·rename_i t xs hr;cases h;have hl:look (bm st.sites vs) o=some (.di s t xs):=by
    unfold l0 at eb;split at eb
    ·rename_i fJ t0 BQ h0;have h0:look st.sites o=some (.di fJ t0 BQ):=h0;rcases jO hr with h|h
     ·rw[h0] at h;cases h
     ·exact adl aX.fz h
    ·exact CR aX.fz (eb _ (List.mem_singleton.2 rfl))
   have:=aX.new.sites o _ hl;have mS:v=D o:=by
    rcases jO hr with h1|h1<;>exact Ref.at hv.2 h1 rfl
   rw[mS];exact this.1
  ·cases h
 ·rename_i g;cases h;obtain⟨ad,rfl,hl,_⟩:=hv;have:ad=[]:=List.eq_nil_of_length_eq_zero (by simpa using hl)
  subst this;exact .fn g [] [] (fun _=>[]) _ rfl rfl (fun b hb=>by simp at hb) (fun b hb=>by simp at hb) (fun i hi=>by simp at hi) (fun i hi=>by simp at hi) (fun i hi=>by simp at hi)
 ·cases h
theorem GQ:∀{ad:List aF} {ds:List aZ} {us:List (Nat×Site)},fR st ad=some (ds,us)->dI st.sites us:=by
 intro ad;induction ad with
 |nil=>intro ds us h;simp only[fR] at h;cases h;exact .nil
 |cons l ad ih=>
  intro ds us h;simp only[fR] at h;split at h
  ·rename_i d u1 kG u2 h1 h2;cases h;exact(Rh h1).append (ih h2)
  ·cases h
def cX(w:World)(av:Nat->Prop)(ds:List aZ)(vs:List Value):Prop:=vs.length=ds.length/\∀j (h:j<ds.length) (af:j<vs.length),bD w av (ds[j]) (vs[j])
theorem zQ:∀{ad:List aF} {ds:List aZ} {us vs:List (Nat×Site)} {cs:List Value},fR st ad=some (ds,us)->cr D st.sites w (ay X D st.sites) ad cs->
  kS O Y X D st M w vs->(∀p,p∈us->p∈vs)->cX w (ay X D (bm st.sites vs)) ds cs:=by
 intro ad;induction ad with
 |nil=>intro ds us vs cs h hl _ _;simp only[fR] at h;cases h;rw[hl.ny];exact⟨rfl,fun j h=>by simp at h⟩
 |cons l ad ih=>
  intro ds us vs cs h hl aX eb;simp only[fR] at h;split at h
  ·rename_i d u1 kG u2 h1 h2;cases h;obtain⟨c,n',rfl,hc,hcs⟩:=hl.inv;have r1:=Rg h1 hc aX (fun p hp=>eb p (List.mem_append.2 (.inl hp)))
   obtain⟨r2,is⟩:=ih h2 hcs aX (fun p hp=>eb p (List.mem_append.2 (.inr hp)))
   refine⟨by simp[r2],fun j g1 g2=>?_⟩
   cases j with
   |zero=>exact r1
   |succ j=>exact is j (by simpa using g1) (by simpa using g2)
  ·cases h
theorem mK.run{P:Program}{u:Bool}(g B:Nat)(t:TypeId)(fz:Nat×Nat):∀(vs:List Value) (i:Nat) (cur:Array Value) (w:World),w.heap[g]? =some (.cells cur t fz)->mK u t cur fz->B+i+vs.length<=cur.size->(∀v∈vs,v.oneCell'=true)->
  (storeCells ⟨g,B,none⟩ vs i).run P w=.ok () (w.setRow g (cur.toList.take (B+i)++vs++cur.toList.drop (B+i+vs.length)).toArray)
 |[],i,cur,w,hg,_,_,_=>by
  simp only[storeCells,List.append_nil,List.length_nil,Nat.add_zero,List.take_append_drop,Array.toArray_toList];rw[setRow_self w g cur t fz hg];rfl
 |v::rest,i,cur,w,hg,hz,hl,h1=>by
  have hi:B+i<cur.size:=by simp at hl;omega
  have ama:(⟨g,B,none⟩:Addr).add i=⟨g,B+i,none⟩:=by unfold Addr.add;split<;>simp_all
  have hcell:w.cell? ⟨g,B+i,none⟩=some cur[B+i]:=by simp[World.cell?,hg,hi]
  have al3:w.frozen? ⟨g,B+i,none⟩=false:=by
   rcases hz.2 with rfl|⟨_,hz⟩
   ·simp[World.frozen?,hg]
   ·simp only[World.frozen?,hg];have:¬fz.1<=B+i:=by omega
    simp[this]
  have dJ:(store ((⟨g,B,none⟩:Addr).add i) v).run P w=.ok () (w.setRow g (cur.setIfInBounds (B+i) v)):=by
   rw[ama,run_store P w _ v _ (h1 v (by simp)),hcell]
   simp[al3,setCell_eq_setRow w g (B+i) cur t fz v hg]
  have ih:=mK.run (P:=P) (u:=u) g B t fz rest (i+1) (cur.setIfInBounds (B+i) v) (w.setRow g (cur.setIfInBounds (B+i) v)) (setRow_heap w g cur _ t _ hg)
   ⟨hz.1,hz.2.imp id fun h=>⟨h.1,by simpa using h.2⟩⟩ (by simp at hl ⊢;omega) (fun x hx=>h1 x (by simp[hx]))
  simp only[storeCells,Sem.run_bind,dJ,Result.andThen_ok,ih,setRow_setRow];congr 3
  have e:=list_seg_step cur.toList (B+i) v rest (by simp at hl ⊢;omega)
  simpa[Array.toList_setIfInBounds,Nat.add_assoc] using e
theorem LM{u:Bool}{fz:Nat×Nat}{T:TypeId}{ti:b_}(h:ti.ok P T)(hn:ti≠.none){b off:Nat}{vv:Value}{cur:List Value}{gr:TypeId}(hg:w.heap[b]? =some (.cells cur.toArray gr fz))(hz:mK u gr cur.toArray fz)
  (hsz:vv.cells.toList.length=ti.size) (hle:off+vv.cells.toList.length<=cur.length) (h1:∀u∈vv.cells.toList,u.oneCell'=true):
  (storeVar T ⟨b,off,none⟩ vv).run P w=.ok () (w.setRow b (bG cur off vv.cells.toList).toArray):=by
 have hs:vv.cells.size=ti.size:=by simpa using hsz
 have:=mK.run (P:=P) b off gr fz vv.cells.toList 0 cur.toArray w hg hz (by simpa using hle) h1
 simp only[storeVar,Sem.run_bind,b_.OK h hn,Result.andThen_ok,hs,ne_eq,not_true_eq_false,if_false];rw[this];simp[bG]
variable {B:Oper}
theorem xf{aI:Nat->Value}{w':World}{us:List (Nat×Site)}(S:am O Y X aI {st with sites:=bm st.sites us} M w')(Z:ch st B.dst=true)
  (h:(execOp (Act.eval ⟨M,[]⟩) B).run P w=.ok .skip w'):cE P O Y X st M w B (bZ (.cP undef)) us:=
 fun _ _ bM=>ahF h (bM _ _ _ (am.cT S Z rfl))
theorem kV{aI:Nat->Value}{w':World}{us:List (Nat×Site)}{v:aJ}{vv:Value}(S:am O Y X aI {st with sites:=bm st.sites us} M w')(Z:ch st B.dst=true)
  (h:(execOp (Act.eval ⟨M,[]⟩) B).run P w=.ok (.value vv) w') (hv:cc aI (bm st.sites us) w' (ay X aI (bm st.sites us)) v vv):cE P O Y X st M w B v us:=
 fun _ _ bM=>oE h (bM _ _ _ (am.cT S Z hv))
theorem rr{ax:Type}(a:List ax)(off:Nat)(b:List ax)(h:off+b.length<=a.length):(bG a off b).length=a.length:=by
 unfold bG;simp only[List.length_append,List.length_take,List.length_drop];omega
theorem _W{ax:Type}(a:List ax)(off n:Nat)(b:List ax)(h:off+b.length<=n)(hn:n<=a.length):(bG a off b).take n=bG (a.take n) off b:=by
 unfold bG;apply List.ext_getElem?;intro j;simp only[List.getElem?_take,List.getElem?_append,List.length_append,List.length_take,List.getElem?_drop];have m1:min off a.length=off:=by omega
 have m2:min off (min n a.length)=off:=by omega
 simp only[m1,m2];by_cases c1:j<off
 ·have c2:j<n:=by omega
  have c3:j<off+b.length:=by omega
  simp[c1,c2,c3]
 ·by_cases c3:j<off+b.length
  ·have c2:j<n:=by omega
   simp[c1,c2,c3]
  ·have e:off+b.length+(j-(off+b.length))=j:=by omega
   simp[c1,c3,e]
theorem aaS{cells ad:List aF}{T:TypeId}{cur vs:List Value}{b off:Nat}(h:mE cells T cur b)(hl:vs.length=ad.length)(hns:hh ad=true):mE (bG cells off ad) T (bG cur off vs) b:=by
 intro bP;unfold bG at bP ⊢;cases off with
 |zero=>
  cases ad with
  |nil=>
   cases vs with
   |nil=>simpa using h (by simpa using bP)
   |cons=>cases hl
  |cons l ad=>
   simp only[List.take_zero,List.nil_append,List.cons_append,List.head?_cons,Option.some.injEq] at bP;subst bP;cases hns
 |succ n=>
  cases cells with
  |nil=>
   cases ad with
   |nil=>simp at bP
   |cons l ad=>
    simp only[List.take_nil,List.nil_append,List.cons_append,List.head?_cons,Option.some.injEq] at bP;subst bP;cases hns
  |cons c cells=>
   simp only[List.take_succ_cons,List.cons_append,List.head?_cons,Option.some.injEq] at bP;subst bP;have:=h rfl;cases cur with
   |nil=>simp at this
   |cons v cur=>simpa using this
theorem am.aeb(S:am O Y X D st M w){o s off:Nat}{cells ad:List aF}{v:Value}{vs:List Value}(hb:look st.sites o=some (.box s cells))(hv:dQ D st.sites w (ay X D st.sites) (.ptr o s off) v)
  (hl:cr D st.sites w (ay X D st.sites) ad vs) (hle:off+ad.length<=cells.length) (h1:∀u∈vs,u.oneCell'=true) (hns:hh ad=true):
  ∃b T cur,v=.pointer (some ⟨b,off,none⟩)/\w.heap[b]? =some (.cells (List.toArray cur) T (0,0))/\off+vs.length<=cur.length/\
   am O Y X D {st with sites:=cl st.sites o (.box s (bG cells off ad))} M (w.setRow b (bG cur off vs).toArray):=by
 obtain⟨b,T,cur,cO,we,hg,kt,jG⟩:=S.box hb hv;have o5:off+vs.length<=cur.length:=by rw[hl.1,jG.1];exact hle
 refine⟨b,T,cur,we,hg,o5,?_⟩;have iN:mE cells T cur b:=by
  obtain⟨b2,et,Uz,aB,aA,_,_,bC,_⟩:=S.sites o _ hb;rw[cO] at aB;cases aB;rw[hg] at aA;cases aA;exact bC
 refine S.write hb rfl rfl rfl (by rw[cO];rfl) hg (fun hs hw hg' go=>?_)
 have Uj:=Am go (jG.bG off hl);refine⟨b,T,_,cO,hg',Uj.1,fun u hu=>?_,aaS iN hl.1 hns,Uj.2⟩
 unfold bG at hu;simp only[List.mem_append] at hu;rcases hu with(hu|hu)|hu
 ·exact kt u (List.mem_of_mem_take hu)
 ·exact h1 u hu
 ·exact kt u (List.mem_of_mem_drop hu)
theorem iY{D:Nat->Value}{sites:List (Nat×Site)}{w:World}{av:Nat->Prop}{ds:List aZ}{vs:List Value}(h:cr D sites w av (cx ds) vs):cX w av ds vs:=
 ⟨by simpa[cx] using h.1,fun j g1 g2=>by
  have:=h.2 j (by simpa[cx] using g1) g2
  simp only[cx,List.getElem_map] at this;exact this⟩
theorem _i{w:World}{av:Nat->Prop}{t:a6}{xs:List (den t)}{k:Nat}{h':den t}{cs ns:List Value}(hk:k<xs.length)(h:cX w av (flat t xs) cs)(af:cX w av (enc t h') ns):
  cX w av (flat t (xs.set k h')) (bG cs (k*aT t) ns):=by
 have e:flat t (xs.set k h')=bG (flat t xs) (k*aT t) (enc t h'):=by
  rw[afe,if_pos hk];unfold bG;rw[iU,Nat.add_mul,Nat.one_mul]
 rw[e];have a:=hA (D:=fun _=>undef) (sites:=[]) h.1 h.2
 have b:=hA (D:=fun _=>undef) (sites:=[]) af.1 af.2
 have c:=a.bG (k*aT t) b;have e2:bG (cx (flat t xs)) (k*aT t) (cx (enc t h'))=cx (bG (flat t xs) (k*aT t) (enc t h')):=by
  simp[bG,cx,List.map_append,List.map_take,List.map_drop]
 rw[e2] at c;exact iY c
theorem am.aea(S:am O Y X D st M w){o s k off:Nat}{t:a6}{xs:List (den t)}{x h':den t}{v:Value}{ds:List aZ}{vs:List Value}(hb:look st.sites o=some (.row s t xs))
  (hv:dQ D st.sites w (ay X D st.sites) (.eT o s t k off) v) (hx:xs[k]? =some x) (qF:enc t h'=bG (enc t x) off ds)
  (hl:cX w (ay X D st.sites) ds vs) (hle:off+ds.length<=aT t) (h1:∀u∈vs,u.oneCell'=true):
  ∃b T cur fz,v=.pointer (some ⟨b,k*aT t+off,none⟩)/\w.heap[b]? =some (.cells (List.toArray cur) T fz)/\mK t.jF T cur.toArray fz/\k*aT t+off+vs.length<=cur.length/\
   am O Y X D {st with sites:=cl st.sites o (.row s t (xs.set k h'))} M (w.setRow b (bG cur (k*aT t+off) vs).toArray):=by
 obtain⟨b,we,pc⟩:=hv;obtain⟨n,c,cO⟩:=Ref.at pc hb rfl;obtain⟨e,cs,li,dK⟩:=S.sites o _ hb;have hk:k<xs.length:=by
  rcases Nat.lt_or_ge k xs.length with h|h
  ·exact h
  ·rw[List.getElem?_eq_none h] at hx;cases hx
 obtain⟨J3,h⟩:=li;rcases h with⟨hn,_⟩|⟨g,cap,cur,fz,n7,Kd,hg,hnc,hcm,hcs,htk⟩
 ·rw[cO] at hn;cases hn
 ·rw[cO] at n7;cases n7;have qR:(k+1)*aT t<=xs.length*aT t:=Nat.mul_le_mul_right _ hk;have hk2:xs.length*aT t<=c*aT t:=Nat.mul_le_mul_right _ hnc;rw[Nat.add_mul,Nat.one_mul] at qR;have l6:vs.length=ds.length:=hl.1;have kt:cur.toList.length=c*aT t:=by simpa using hcs
  have o5:k*aT t+off+vs.length<=cur.toList.length:=by omega
  refine⟨b,e,cur.toList,fz,we,by simpa using hg,by simpa using Kd,o5,?_⟩
  refine S.write hb rfl rfl rfl (by rw[cO];rfl) hg (fun hs hw hg' go=>?_)
  have at1:cs.length=xs.length*aT t:=J3;refine⟨e,bG cs (k*aT t+off) vs,⟨?_,.inr ⟨b,c,_,fz,?_,?_,hg',?_,hcm,?_,?_⟩⟩,?_⟩
  ·rw[rr _ _ _ (by omega),List.length_set];exact J3
  ·rw[cO,List.length_set]
  ·refine⟨Kd.1,?_⟩;rcases Kd.2 with h|⟨h,af⟩
   ·exact .inl h
   ·refine .inr ⟨h,?_⟩;rw[List.size_toArray,rr _ _ _ o5];simpa using af
  ·rw[List.length_set];exact hnc
  ·rw[List.size_toArray,rr _ _ _ o5];exact kt
  ·rw[<-htk,List.length_set,List.toList_toArray];exact _W _ _ _ _ (by omega) (by rw[kt];omega)
  ·have r0:cX w (ay X D st.sites) (flat t xs) cs:=⟨by rw[eW];exact J3,dK⟩
   have iN:=ua t xs k x hx;have r1:cX w (ay X D st.sites) (enc t x) ((cs.drop (k*aT t)).take (aT t)):=by
    have a:=hA (D:=fun _=>undef) (sites:=[]) r0.1 r0.2
    have bI:=(a.drop (k*aT t)).take (aT t);have e2:((cx (flat t xs)).drop (k*aT t)).take (aT t)=cx (enc t x):=by
     rw[<-iN];simp[cx,List.map_drop,List.map_take]
    rw[e2] at bI;exact iY bI
   have r2:cX w (ay X D st.sites) (enc t h') (bG ((cs.drop (k*aT t)).take (aT t)) off vs):=by
    rw[qF];have a:=hA (D:=fun _=>undef) (sites:=[]) r1.1 r1.2
    have bI:=hA (D:=fun _=>undef) (sites:=[]) hl.1 hl.2
    have fi:=a.bG off bI;have e2:bG (cx (enc t x)) off (cx ds)=cx (bG (enc t x) off ds):=by
     simp[bG,cx,List.map_append,List.map_take,List.map_drop]
    rw[e2] at fi;exact iY fi
   have is:=_i hk r0 r2;have bp:bG cs (k*aT t) (bG ((cs.drop (k*aT t)).take (aT t)) off vs)=bG cs (k*aT t+off) vs:=by
    unfold bG;apply List.ext_getElem?;intro j;simp only[List.getElem?_append,List.length_append,List.length_take,List.length_drop,List.getElem?_take,List.getElem?_drop];have m1:min (k*aT t) cs.length=k*aT t:=by omega
    have m2:min (k*aT t+off) cs.length=k*aT t+off:=by omega
    have m3:min (aT t) (cs.length-k*aT t)=aT t:=by omega
    have m4:min off (aT t)=off:=by omega
    simp only[m1,m2,m3,m4];by_cases c1:j<k*aT t
    ·have c2:j<k*aT t+off:=by omega
     have c3:j<k*aT t+off+vs.length:=by omega
     have c5:j<k*aT t+(off+vs.length+(aT t-(off+vs.length))):=by omega
     simp[c1,c2,c3,c5]
    ·by_cases c2:j<k*aT t+off
     ·have d1:j-k*aT t<off:=by omega
      have d2:j-k*aT t<off+vs.length:=by omega
      have d3:j-k*aT t<aT t:=by omega
      have c3:j<k*aT t+off+vs.length:=by omega
      have c5:j<k*aT t+(off+vs.length+(aT t-(off+vs.length))):=by omega
      have fp:k*aT t+(j-k*aT t)=j:=by omega
      simp[c1,c2,c3,c5,d1,d2,d3,fp]
     ·by_cases c3:j<k*aT t+off+vs.length
      ·have d1:¬j-k*aT t<off:=by omega
       have d2:j-k*aT t<off+vs.length:=by omega
       have c5:j<k*aT t+(off+vs.length+(aT t-(off+vs.length))):=by omega
       have fp:j-k*aT t-off=j-(k*aT t+off):=by omega
       simp[c1,c2,c3,c5,d1,d2,fp]
      ·by_cases c5:j<k*aT t+(off+vs.length+(aT t-(off+vs.length)))
       ·have d2:¬j-k*aT t<off+vs.length:=by omega
        have d1:¬j-k*aT t<off:=by omega
        have d5:off+vs.length+(j-k*aT t-(off+vs.length))<aT t:=by omega
        have fp:k*aT t+(off+vs.length+(j-k*aT t-(off+vs.length)))=k*aT t+off+vs.length+(j-(k*aT t+off+vs.length)):=by omega
        simp[c1,c2,c3,c5,d1,d2,d5,fp]
       ·have fp:k*aT t+(off+vs.length+(aT t-(off+vs.length)))+(j-(k*aT t+(off+vs.length+(aT t-(off+vs.length)))))=k*aT t+off+vs.length+(j-(k*aT t+off+vs.length)):=by omega
        simp[c1,c2,c3,c5,fp]
   rw[bp] at is;exact fun j g1 g2=>oP go (is.2 j g1 g2)
end
section
variable {P:Program}{O:World}{Y:List Nat}{X:Nat->Prop}{D:Nat->Value}{st:ah}{M:Array Value}{w:World}
theorem lA{o:Nat}{ab:Site}(h:look st.sites o=some ab):ab.cq<bn st o:=by
 unfold bn ah.ab;rw[h];exact Nat.lt_succ_self _
theorem am.make(S:am O Y X D st M w){o:Nat}{bV:Site}{nv:Value}{w':World}
  (hw:∀b,b<w.heap.size->w'.heap[b]? =w.heap[b]?) (hos:w'.os=w.os) (ajK:w'.tape=w.tape) (Iz:w'.output=w.output) (oR:w.heap.size<=w'.heap.size)
  (uW:∀ab,look st.sites o=some ab->ab.cq<bV.cq) (iH:∀b,bH nv=some b->w.heap.size<=b/\b<w'.heap.size)
  (fv:∀{bU:List (Nat×Site)} {aI:Nat->Value},bU=cl st.sites o bV->aI o=nv->(∀{a v},cc D st.sites w (ay X D st.sites) a v->cc aI bU w' (ay X aI bU) a v)->
   (∀b,w.heap.size<=b->bH nv≠some b->¬ay X aI bU b)->(bV.live=false->∀b,bH nv=some b->¬ay X aI bU b)->jU aI bU w' (ay X aI bU) o bV):
  am O Y X (fun aa=>if aa=o then nv else D aa) {st with sites:=cl st.sites o bV} M w':=by
 have cJ:∀aa,cg (cl st.sites o bV) aa->(aa=o/\bV.live=true)\/(aa≠o/\cg st.sites aa):=by
  rintro aa ⟨ab,h1,h2⟩;rw[cZ] at h1;by_cases e:o=aa
  ·subst e;simp at h1;subst h1;exact .inl ⟨rfl,h2⟩
  ·simp only[e,if_false] at h1;exact .inr ⟨fun h=>e h.symm,ab,h1,h2⟩
 have b9:∀b,ay X (fun aa=>if aa=o then nv else D aa) (cl st.sites o bV) b->ay X D st.sites b\/(bH nv=some b/\bV.live=true):=by
  rintro b (h|⟨aa,h1,h2⟩)
  ·exact .inl (.inl h)
  ·rcases cJ aa h1 with⟨rfl,h3⟩|⟨h3,aw⟩
   ·simp at h2;exact .inr ⟨h2,h3⟩
   ·simp only[h3,if_false] at h2;exact .inl (.inr ⟨aa,aw,h2⟩)
 have hlt:∀b,ay X D st.sites b->b<w.heap.size:=by
  rintro b (h|⟨aa,h1,h2⟩)
  ·exact S.old b h
  ·exact S.fy h1 h2
 refine S.qn (fun aa ab bN=>?_) (fun b _ hb=>hw b hb) (fun b h hb af=>?_) (fun go aa ab bN=>?_) (fun aa ρ b h1 h2 g1 g2=>?_) (fun aa b h1 g1=>?_) (fun aa b h1 g1=>?_) ?_ oR
 ·rw[cZ];by_cases e:o=aa
  ·subst e;exact⟨bV,by simp,Nat.le_of_lt (uW ab bN),fun h=>by have:=uW ab bN;omega⟩
  ·have cz:¬aa=o:=fun h=>e h.symm
   exact⟨ab,by simp[e,bN],Nat.le_refl _,fun _=>by simp[cz]⟩
 ·rcases b9 b af with af|⟨af,_⟩
  ·exact h af
  ·have:=(iH b af).1;omega
 ·rw[cZ] at bN;by_cases e:o=aa
  ·subst e;simp only[if_true,Option.some.injEq] at bN;subst bN;refine .inr (fv rfl (by simp) go (fun b hb hne af=>?_) (fun hl b hb af=>?_))
   ·rcases b9 b af with af|⟨af,_⟩
    ·have:=hlt b af;omega
    ·exact hne af
   ·rcases b9 b af with af|⟨_,af⟩
    ·have:=hlt b af;have:=(iH b hb).1;omega
    ·rw[hl] at af;cases af
  ·have cz:¬aa=o:=fun h=>e h.symm
   simp only[e,if_false] at bN;exact .inl ⟨bN,by simp[cz],fun hl b hb=>hw b (S.fy ⟨ab,bN,hl⟩ hb)⟩
 ·rcases cJ aa h1 with⟨rfl,_⟩|⟨n1,ee⟩<;>rcases cJ ρ h2 with⟨rfl,_⟩|⟨n2,gB⟩
  ·rfl
  ·simp only[if_true] at g1;simp only[n2,if_false] at g2;have:=S.fy gB g2;have:=(iH b g1).1;omega
  ·simp only[if_true] at g2;simp only[n1,if_false] at g1;have:=S.fy ee g1;have:=(iH b g2).1;omega
  ·simp only[n1,if_false] at g1;simp only[n2,if_false] at g2;exact S.dV aa ρ b ee gB g1 g2
 ·rcases cJ aa h1 with⟨rfl,_⟩|⟨n1,ee⟩
  ·simp only[if_true] at g1;have hb:=(iH b g1).1;exact⟨fun hx=>by have:=S.old b hx;have:=S.frame.size;omega,.inr (Nat.le_trans S.frame.size hb)⟩
  ·simp only[n1,if_false] at g1;exact S.ci aa b ee g1
 ·rcases cJ aa h1 with⟨rfl,_⟩|⟨n1,ee⟩
  ·simp only[if_true] at g1;exact(iH b g1).2
  ·simp only[n1,if_false] at g1;exact Nat.lt_of_lt_of_le (S.fy ee g1) oR
 ·have aX:=S.frame;exact⟨hos.trans aX.os,ajK.trans aX.tape,Iz.trans aX.output,Nat.le_trans aX.size oR,fun b h1 h2=>(hw b (Nat.lt_of_lt_of_le h1 aX.size)).trans (aX.block b h1 h2)⟩
theorem am.append(S:am O Y X D st M w){o dst s:Nat}{t:a6}{xs r:List (den t)}(hl:look st.sites o=some (.row s t xs)){nv:Value}{w':World}
  (hg:w.grownBy w' (D o).ownBlock) (iH:∀b,bH nv=some b->b<w'.heap.size/\(bH (D o)=some b\/w.heap.size<=b))
  (fv:∀{bU:List (Nat×Site)} {aI:Nat->Value},aI dst=nv->(∀{a v},cc D st.sites w (ay X D st.sites) a v->cc aI bU w' (ay X aI bU) a v)->
   jU aI bU w' (ay X aI bU) dst (.row (bn (st.ib o (.dead s)) dst) t r)):
  am O Y X (fun aa=>if aa=dst then nv else D aa) {st with sites:=bm st.sites [(o,.dead s),(dst,.row (bn (st.ib o (.dead s)) dst) t r)]} M w':=by
 have bo:cg st.sites o:=⟨_,hl,rfl⟩;have jx:∀aa,look (bm st.sites [(o,.dead s),(dst,.row (bn (st.ib o (.dead s)) dst) t r)]) aa=
   if dst=aa then some (.row (bn (st.ib o (.dead s)) dst) t r) else if o=aa then some (.dead s) else look st.sites aa:=by
  intro aa;simp only[bm,cZ]
 have uW:∀ab,look st.sites dst=some ab->ab.cq<bn (st.ib o (.dead s)) dst:=by
  intro ab h;unfold bn;rw[ah.w9];by_cases e:o=dst
  ·subst e;rw[hl] at h;cases h;simp[Site.cq]
  ·simp only[e,if_false,ah.ab,h];exact Nat.lt_succ_self _
 have cJ:∀aa,cg (bm st.sites [(o,.dead s),(dst,.row (bn (st.ib o (.dead s)) dst) t r)]) aa->aa=dst\/(aa≠dst/\aa≠o/\cg st.sites aa):=by
  rintro aa ⟨ab,h1,h2⟩;rw[jx] at h1;by_cases e:dst=aa
  ·exact .inl e.symm
  ·simp only[e,if_false] at h1;by_cases e2:o=aa
   ·simp only[e2,if_true,Option.some.injEq] at h1;subst h1;cases h2
   ·simp only[e2,if_false] at h1;exact .inr ⟨fun h=>e h.symm,fun h=>e2 h.symm,ab,h1,h2⟩
 have aul:∀b,bH (D o)=some b->(D o).ownBlock=some b:=by
  intro b hb;obtain⟨e,cs,g1,_⟩:=S.sites o _ hl;rcases g1.2 with⟨hn,_⟩|⟨g,cap,cur,fz,hv,_⟩
  ·rw[hn] at hb;cases hb
  ·rw[hv] at hb ⊢;exact hb
 have alO:∀b,(D o).ownBlock=some b->bH (D o)=some b:=by
  intro b hb;cases hv:D o<;>rw[hv] at hb<;>first|cases hb|skip
  rename_i a n c;cases a<;>first|exact hb|cases hb
 have HW:∀b,b<w.heap.size->bH (D o)≠some b->w'.heap[b]? =w.heap[b]? :=fun b hb hne=>hg.block b hb (fun e=>hne (alO b e.symm))
 refine S.qn (fun aa ab bN=>?_) (fun b h hb=>HW b hb (fun e=>h (.inr ⟨o,bo,e⟩))) (fun b h hb af=>?_) (fun go aa ab bN=>?_) (fun aa ρ b h1 h2 g1 g2=>?_) (fun aa b h1 g1=>?_) (fun aa b h1 g1=>?_) ?_ hg.size
 ·rw[jx];by_cases e:dst=aa
  ·subst e;refine⟨.row (bn (st.ib o (.dead s)) dst) t r,by simp,?_,fun h=>?_⟩
   ·exact Nat.le_of_lt (uW ab bN)
   ·have:=uW ab bN;simp only[Site.cq] at h this;omega
  ·have cz:¬aa=dst:=fun h=>e h.symm
   by_cases e2:o=aa
   ·subst e2;rw[hl] at bN;cases bN;exact⟨.dead s,by simp[e],Nat.le_refl _,fun _=>by simp[cz]⟩
   ·exact⟨ab,by simp[e,e2,bN],Nat.le_refl _,fun _=>by simp[cz]⟩
 ·rcases af with af|⟨aa,h1,h2⟩
  ·exact h (.inl af)
  ·rcases cJ aa h1 with rfl|⟨n1,_,ee⟩
   ·simp only[if_true] at h2;rcases(iH b h2).2 with h3|h3
    ·exact h (.inr ⟨o,bo,h3⟩)
    ·omega
   ·simp only[n1,if_false] at h2;exact h (.inr ⟨aa,ee,h2⟩)
 ·rw[jx] at bN;by_cases e:dst=aa
  ·subst e;simp only[if_true,Option.some.injEq] at bN;subst bN;exact .inr (fv (by simp) go)
  ·have cz:¬aa=dst:=fun h=>e h.symm
   simp only[e,if_false] at bN;by_cases e2:o=aa
   ·simp only[e2,if_true,Option.some.injEq] at bN;subst bN;exact .inr trivial
   ·simp only[e2,if_false] at bN;refine .inl ⟨bN,by simp[cz],fun gj b hb=>?_⟩
    have Xh:cg st.sites aa:=⟨ab,bN,gj⟩;exact HW b (S.fy Xh hb) (fun h=>e2 (S.dV o aa b bo Xh h hb))
 ·have key:∀aa b,aa≠dst->aa≠o->cg st.sites aa->bH (D aa)=some b->bH nv≠some b:=by
   intro aa b n1 n2 ee hb hn;rcases(iH b hn).2 with h3|h3
   ·exact n2 (S.dV aa o b ee bo hb h3)
   ·have:=S.fy ee hb;omega
  rcases cJ aa h1 with rfl|⟨n1,m1,ee⟩<;>rcases cJ ρ h2 with rfl|⟨n2,m2,gB⟩
  ·rfl
  ·simp only[if_true] at g1;simp only[n2,if_false] at g2;exact absurd g1 (key ρ b n2 m2 gB g2)
  ·simp only[if_true] at g2;simp only[n1,if_false] at g1;exact absurd g2 (key aa b n1 m1 ee g1)
  ·simp only[n1,if_false] at g1;simp only[n2,if_false] at g2;exact S.dV aa ρ b ee gB g1 g2
 ·rcases cJ aa h1 with rfl|⟨n1,_,ee⟩
  ·simp only[if_true] at g1;rcases(iH b g1).2 with h3|h3
   ·exact S.ci o b bo h3
   ·exact⟨fun hx=>by have:=S.old b hx;have:=S.frame.size;omega,.inr (Nat.le_trans S.frame.size h3)⟩
  ·simp only[n1,if_false] at g1;exact S.ci aa b ee g1
 ·rcases cJ aa h1 with rfl|⟨n1,_,ee⟩
  ·simp only[if_true] at g1;exact(iH b g1).1
  ·simp only[n1,if_false] at g1;exact Nat.lt_of_lt_of_le (S.fy ee g1) hg.size
 ·have aX:=S.frame;refine⟨hg.os.trans aX.os,hg.tape.trans aX.tape,hg.output.trans aX.output,Nat.le_trans aX.size hg.size,fun b h1 h2=>?_⟩
  rw[HW b (Nat.lt_of_lt_of_le h1 aX.size) (fun e=>?_)]
  ·exact aX.block b h1 h2
  ·rcases(S.ci o b bo e).2 with h|h
   ·exact h2 h
   ·omega
end
def Src(w:World)(size:Nat)(x:Value)(m:Nat)(news:List Value):Prop:=
 news.length=m*size/\(∀u∈news,u.oneCell'=true)/\((x=.slice none 0 0/\m=0)\/(∃a c,x=.slice (some a) m c/\∀j u,news[j]? =some u->w.cell? (a.add j)=some u)\/∃s:ByteArray,x=.string s/\m=s.size/\size=1/\news=s.data.toList.map fun b=>Value.int .u8 b.toNat)
theorem Src.run{P:Program}{w w2:World}{size m:Nat}{x:Value}{news:List Value}(h:Src w size x m news)(hw:w2.heap=w.heap):(Builtin.firstCells size m x).run P w2=.ok news.toArray w2:=by
 obtain⟨h1,_,h2⟩:=h;rcases h2 with⟨rfl,rfl⟩|⟨a,c,rfl,h3⟩|⟨s,rfl,rfl,rfl,rfl⟩
 ·have:news=[]:=List.eq_nil_of_length_eq_zero (by simpa using h1)
  subst this;exact run_firstCells_none w2 size 0 0 0
 ·refine run_firstCells_some w2 size m a m c news h1 (fun j u hu=>?_)
  have:=h3 j u hu;unfold World.cell? at this ⊢;rw[hw];exact this
 ·have e:s.extract 0 s.size=s:=by simp
  show Result.ok ((s.extract 0 s.size).data.map fun b=>Value.int .u8 b.toNat) w2=_
  rw[e];congr 1
  apply Array.ext';simp
theorem Src.len{P:Program}{w w2:World}{size m:Nat}{x:Value}{news:List Value}(h:Src w size x m news):(Builtin.lenOf x).run P w2=.ok m w2:=by
 obtain⟨_,_,h2⟩:=h;rcases h2 with⟨rfl,rfl⟩|⟨a,c,rfl,_⟩|⟨s,rfl,rfl,_⟩<;>rfl
theorem CT{P:Program}{u:Bool}(w:World)(T K1 ty e:TypeId)(gC:u=true->e=mc)(i:TypeInfo)(z:Value)(size bytes:Nat)(aq:P.underlying T=some (.slice e))(jh:(∃ex,P.underlying K1=some (.slice ex))\/P.underlying K1=some .string)(hi:P.info? e=some i)
  (hz:i.zero=some z) (oR:i.size=size) (jI:i.bytes=bytes) (hzs:z.cells.size=size) (hsz:0<size)
  (v:Value) (n:Nat) (xs:List Value) (li:∃cz,rowAt w u cz size v n xs) (x:Value) (m:Nat) (news:List Value) (e':Src w size x m news)
  (h63:n+m<=maxLen) (Rd:(n+m)*bytes<=140737488355328):
  ∃v' w',(Builtin.append_ #[T,K1] ty #[v,x]).run P w=.ok v' w'/\(∃cz,rowAt w' u cz size v' (n+m) (xs++news))/\w.grownBy w' v.ownBlock/\
   ∀b,bH v'=some b->b<w'.heap.size/\(bH v=some b\/w.heap.size<=b):=by
 subst oR jI;obtain⟨cz,hl0,li⟩:=li;have aiv:n+m<=9223372036854775807:=by simp only[maxLen] at h63;omega
 have hlen:(xs++news).length=(n+m)*i.size:=by rw[List.length_append,hl0,e'.1,Nat.add_mul]
 have grown:∀(old:Nat),old<n+m->∀(row:Option Nat),
   rowAt (w.drew.alloc (.cells (xs.toArray++news.toArray++Builtin.zeroCells z.cells (grownCap w (n+m) old e-(n+m))) e)) u e i.size
    (.slice (some ⟨w.heap.size,0,none⟩) (n+m) (grownCap w (n+m) old e)) (n+m) (xs++news)/\
   w.grownBy (w.drew.alloc (.cells (xs.toArray++news.toArray++Builtin.zeroCells z.cells (grownCap w (n+m) old e-(n+m))) e)) row:=by
  intro old aE row;have hge:=grownCap_ge w (n+m) old e;have hcm:grownCap w (n+m) old e<=maxLen:=grownCap_le_maxLen w (n+m) old e h63;refine⟨⟨hlen,.inr ⟨w.heap.size,_,_,(0,0),rfl,⟨gC,.inl rfl⟩,heap_alloc_new w.drew _,hge,hcm,?_,?_⟩⟩,⟨rfl,rfl,rfl,by simp,fun k hk _=>RowKit.Below.heap_alloc w.drew _ k hk⟩⟩
  ·simp only[Array.size_append,List.size_toArray,size_zeroCells,hzs,hl0,e'.1,<-Nat.add_mul];congr 1
   omega
  ·simp only[Array.toList_append,List.append_assoc];rw[<-List.append_assoc,<-hlen];exact List.take_left
 have QY:∀{c:Nat} {B:Obj} {v:Value} b,bH (.slice (some ⟨w.heap.size,0,none⟩) (n+m) c)=some b->b<(w.drew.alloc B).heap.size/\(bH v=some b\/w.heap.size<=b):=by
  intro c B v b hb;cases hb;exact⟨by simp,.inr (Nat.le_refl _)⟩
 rcases li with⟨rfl,rfl⟩|⟨g,cap,cur,fz,rfl,hfz,hg,hnc,hcm,hcs,lP⟩
 ·have hx:xs=[]:=List.eq_nil_of_length_eq_zero (by simpa using hl0)
  subst hx;by_cases hm:m=0
  ·subst hm;have hn:news=[]:=List.eq_nil_of_length_eq_zero (by simpa using e'.1)
   subst hn;refine⟨.slice none 0 0,w,?_,⟨e,DH w u e i.size⟩,⟨rfl,rfl,rfl,Nat.le_refl _,fun _ _ _=>rfl⟩,fun b hb=>by cases hb⟩
   rcases jh with⟨ex,jh⟩|jh<;>simp[Builtin.append_,run_underlying aq,run_underlying jh,sizeOf,typeInfo,hi,e'.len,e'.run (w2:=w) rfl]
  ·have wu:=grown 0 (by omega) (Value.ownBlock (.slice none 0 0))
   refine⟨_,_,?_,⟨e,wu.1⟩,wu.2,QY⟩;have h63':¬(9223372036854775807<(m:Int)):=by omega
   have hb:=Rd;simp only[Nat.zero_add] at hb;have IM:¬(281474976710656<Builtin.nextslicecap m 0*i.bytes):=by rw[nextslicecap_zero (by omega)];omega
   rcases jh with⟨ex,jh⟩|jh<;>simp[Builtin.append_,run_underlying aq,run_underlying jh,sizeOf,typeInfo,zeroValue,hi,hz,e'.len,hm,h63',IM,Question.forced,run_firstCells_none,e'.run (w2:=w.drew) rfl,newRow,grownCap]
 ·by_cases hroom:n+m<=cap
  ·have lj:n*i.size+news.length<=cur.size:=by rw[e'.1,hcs,<-Nat.add_mul];exact Nat.mul_le_mul_right _ hroom
   have dJ:=mK.run (P:=P) g (n*i.size) cz fz news 0 cur w hg hfz (by simpa using lj) e'.2.1
   simp only[Nat.add_zero] at dJ;refine⟨.slice (some ⟨g,0,none⟩) (n+m) cap,w.setRow g (cur.toList.take (n*i.size)++news++cur.toList.drop (n*i.size+news.length)).toArray,?_,
    ⟨cz,hlen,.inr ⟨g,cap,_,fz,rfl,⟨hfz.1,hfz.2.imp id (fun h=>⟨h.1,?_⟩)⟩,setRow_heap w g cur _ cz _ hg,hroom,hcm,?_,?_⟩⟩,⟨rfl,rfl,rfl,by simp,fun k _ hk=>setRow_other w g k _ (fun e=>hk (by simp[Value.ownBlock,e]))⟩,fun b hb=>?_⟩
   ·rcases jh with⟨ex,jh⟩|jh<;>simp[Builtin.append_,run_underlying aq,run_underlying jh,sizeOf,typeInfo,hi,e'.len,hroom,e'.run (w2:=w) rfl,Addr.add_lit,dJ]
   ·have:=h.2;simp only[List.size_toArray,List.length_append,List.length_take,List.length_drop,Array.length_toList];omega
   ·simp only[List.size_toArray,List.length_append,List.length_take,List.length_drop,Array.length_toList];omega
   ·rw[lP,<-hlen];exact List.take_left
   ·cases hb;exact⟨by rw[setRow_size];exact(Array.getElem?_eq_some_iff.1 hg).1,.inl rfl⟩
  ·have wu:=grown cap (by omega) (Value.ownBlock (.slice (some ⟨g,0,none⟩) n cap))
   refine⟨_,_,?_,⟨e,wu.1⟩,wu.2,QY⟩;have holds:∀j u,xs[j]? =some u->w.drew.cell? ((⟨g,0,none⟩:Addr).add j)=some u:=by
    intro j u hu;rw[gM,Nat.zero_add,World.cell?_drew,cell_of_row w g j cur cz fz hg];rw[<-lP,List.getElem?_take] at hu;split at hu
    ·simpa using hu
    ·cases hu
   have h63':¬(9223372036854775807<((n:Int)+(m:Int))):=by omega
   have lj:=growslice_fits (need:=n+m) (old:=cap) (bytes:=i.bytes) (by omega) Rd
   have IM:¬(281474976710656<Builtin.nextslicecap (n+m) cap*i.bytes):=by omega
   have Cj:=run_firstCells_some (P:=P) w.drew i.size n ⟨g,0,none⟩ n cap xs hl0 holds;rcases jh with⟨ex,jh⟩|jh<;>simp[Builtin.append_,run_underlying aq,run_underlying jh,sizeOf,typeInfo,zeroValue,hi,hz,e'.len,hroom,h63',IM,Question.forced,e'.run (w2:=w.drew) rfl,Cj,newRow,grownCap]
   all_goals
    congr 2
    apply Array.ext';simp[List.append_assoc]
section
variable {P:Program}{O:World}{Y:List Nat}{X:Nat->Prop}{D:Nat->Value}{st:ah}{M:Array Value}{w:World}{B:Oper}
theorem aec(S:am O Y X D st M w){x:aJ}{v:Value}{t:a6}{bd:List (den t)}(hx:cc D st.sites w (ay X D st.sites) x v)(h:sB st x=some (.sl t bd)):
  ∃news,Src w (aT t) v bd.length news/\cX w (ay X D st.sites) (flat t bd) news:=by
 have one:∀{news:List Value},cr D st.sites w (ay X D st.sites) (cx (flat t bd)) news->(∀u∈news,u.oneCell'=true):=by
  intro news h;refine h.jr ?_
  unfold cx;generalize flat t bd=l;induction l with
  |nil=>rfl
  |cons d l ih=>simpa[hh,aF.storable] using ih
 unfold sB at h;split at h
 ·rename_i bj iI;cases h;have hx:bD w (ay X D st.sites) (.sl t bd) v:=hx;cases hx with
  |nil t=>exact⟨[],⟨by simp,fun u hu=>by simp at hu,.inl ⟨rfl,rfl⟩⟩,rfl,fun j h=>by simp[flat] at h⟩
  |sl t xs a cap cs n hn hcap hb hl hc hr=>
   subst hn;have jG:=hA (D:=D) (sites:=st.sites) hl hr;exact⟨cs,⟨by rw[hl,eW],one jG,.inr (.inl ⟨a,cap,rfl,hc⟩)⟩,hl,hr⟩
 ·cases h
 ·rename_i bj;cases h;rw[show v=_ from hx]
  exact⟨[],⟨by simp,fun u hu=>by simp at hu,.inl ⟨rfl,rfl⟩⟩,rfl,fun j h=>by simp[flat] at h⟩
 ·rename_i o s;split at h
  ·rename_i bj iI hr;cases h;obtain⟨cs,hl,hc⟩:=S.row hr;have hv:v=D o:=by
    rcases jO hr with h1|h1<;>exact Ref.at hx.2 h1 rfl
   have dp:=iY hl;refine⟨cs,⟨by rw[dp.1,eW],one hl,?_⟩,dp⟩
   rw[hv];rcases hc with⟨h1,h2⟩|⟨b,c,h1,h2,_⟩
   ·subst h2;exact .inl ⟨h1,rfl⟩
   ·exact .inr (.inl ⟨⟨b,0,none⟩,c,h1,fun j u hu=>by rw[gM];exact h2 j u hu⟩)
  ·cases h
 ·cases h
theorem M1(S:am O Y X D st M w){C:Ctx}(H:CtxOk P C){T dO:TypeId}{s x:Operand}{e:TypeId}{t:a6}{bytes:Nat}{dst:Nat}(be:C.tt T=.slice e t bytes)(RX:(∃ex,P.underlying dO=some (.slice ex))\/P.underlying dO=some .string)
  (aE:B.op=.call {callee:=.builtin .append,args:=#[s,x],argTypes:=#[T,dO]}) (dC:B.dst=some dst) (Z:ch st B.dst=true) {bd:List (den t)} {news:List Value} (e':Src w (aT t) (Act.eval ⟨M,[]⟩ x) bd.length news)
  (dK:cX w (ay X D st.sites) (flat t bd) news):Holds (qb bytes t dst st (a7 C st T s) bd) (cE P O Y X st M w B):=by
 have bF:=H.tt T;rw[be] at bF;obtain⟨⟨ft,_⟩,z,hinfo,hzs,gC⟩:=bF;obtain⟨i,hi,wq⟩:∃i,P.info? e=some i/\(i.size,i.bytes,i.zero)=(aT t,bytes,some z):=by
  cases ar:P.info? e with
  |none=>simp[ar] at hinfo
  |some i=>exact⟨i,rfl,by simpa[ar] using hinfo⟩
 simp only[Prod.mk.injEq] at wq;obtain⟨wq,XB,Kb⟩:=wq;have Bt:=dB S C T s;have runs:∀{v':Value} {w':World},(Builtin.append_ #[T,dO] B.type #[Act.eval ⟨M,[]⟩ s,Act.eval ⟨M,[]⟩ x]).run P w=.ok v' w'->
   (execOp (Act.eval ⟨M,[]⟩) B).run P w=.ok (.value v') w':=by
  intro v' w' h;unfold execOp;simp only[aE,resolve,invoke,builtin,Sem.run_bind,Sem.run_pure,Result.andThen_ok,List.map_toArray,List.map_cons,List.map_nil,h]
 have one:∀{u:Bool} {cz:TypeId} {v':Value} {n m:Nat} {l:List Value} {w':World},rowAt w' u cz n v' m l->v'.oneCell'=true:=by
  intro u cz v' n m l w' h;rcases h.2 with⟨rfl,_⟩|⟨g,cap,cur,fz,rfl,_⟩<;>rfl
 unfold qb;split
 ·-- a nil slice
  rename_i t2 b4;rw[b4] at Bt;have qy:Act.eval ⟨M,[]⟩ s=.slice none 0 0:=Bt;refine Holds.hH fun r hr=>?_
  have dp:cy bytes [] bd=some r:=hr;unfold cy at dp;split at dp
  ·rename_i hb;cases dp;simp only[List.length_nil,Nat.zero_add,room] at hb;obtain⟨v',w',h1,⟨cz,h2⟩,h3,aw⟩:=CT (P:=P) (u:=t.jF) w T dO B.type e gC i z (aT t) bytes ft RX hi Kb wq XB hzs (lK _) (.slice none 0 0) 0 [] ⟨e,DH w _ e _⟩ _ _ news e'
    (by rw[Nat.zero_add];exact hb.2) (by rw[Nat.zero_add];exact hb.1)
   rw[Nat.zero_add,List.nil_append] at h2;have ce:=S.make (o:=dst) (bV:=.row (bn st dst) t ([]++bd)) (nv:=v') (w':=w') (fun b hb=>h3.block b hb (by simp[Value.ownBlock])) h3.os h3.tape h3.output h3.size
    (fun ab hs=>lA hs) (fun b hb=>by
     obtain⟨g1,g2⟩:=aw b hb;rcases g2 with g2|g2
     ·cases g2
     ·exact⟨g2,g1⟩) (fun hs cO go _ _=>by
     refine⟨cz,news,by rw[cO];simpa using h2,?_⟩
     intro j g1 g2;have aqM:j<(flat t bd).length:=by simpa using g1
     simpa using oP go (dK.2 j aqM g2))
   refine kV (us:=[(dst,.row (bn st dst) t ([]++bd))]) ce Z (runs (by rw[qy];exact h1)) ?_
   refine⟨one h2,Ref.mk (ab:=.row (bn st dst) t ([]++bd)) ?_ rfl (by simp)⟩
   simp only[bm,cZ];simp
  ·cases dp
 ·-- a row of AX own
  rename_i o s2 b4;rw[b4] at Bt;split
  ·rename_i g_ t2 xs gx;have sr:look st.sites o=some (.row g_ t2 xs):=gx;cases aqk:g_.beq s2 with
   |false=>simp only[cond_false];exact .fail
   |true=>
    have lp:=Nat.eq_of_beq_eq_true aqk;subst lp;simp only[cond_true];split
    ·rename_i ji;subst ji;refine Holds.hH fun r hr=>?_
     have dp:cy bytes xs bd=some r:=hr;unfold cy at dp;split at dp
     ·rename_i hb;cases dp;simp only[room] at hb;have hv:Act.eval ⟨M,[]⟩ s=D o:=Ref.at Bt.2 sr rfl;obtain⟨eI,cs,li,hcs⟩:=S.sites o _ sr;obtain⟨v',w',h1,⟨cz,h2⟩,h3,aw⟩:=CT (P:=P) w T dO B.type e gC i z (aT t2) bytes ft RX hi Kb wq XB hzs (lK _) (D o) xs.length cs ⟨eI,li⟩ _ _ news e' hb.2 hb.1;have ce:=S.append (dst:=dst) (r:=xs++bd) sr (nv:=v') (w':=w') h3 aw (fun cO go=>by
       refine⟨cz,cs++news,by rw[cO,List.length_append];exact h2,?_⟩
       have tf:cX w (ay X D st.sites) (flat t2 xs) cs:=⟨by rw[eW];exact li.1,hcs⟩
       have mJ:=iY ((hA (D:=D) (sites:=st.sites) tf.1 tf.2).append (hA (D:=D) (sites:=st.sites) dK.1 dK.2)|>fun h=>by
        rw[show cx (flat t2 xs)++cx (flat t2 bd)=cx (flat t2 (xs++bd)) from by simp[cx,ru]] at h
        exact h)
       intro j g1 g2;exact oP go (mJ.2 j g1 g2))
      refine kV (us:=[(o,.dead g_),(dst,.row (bn (st.ib o (.dead g_)) dst) t2 (xs++bd))]) ce Z (runs (by rw[hv];exact h1)) ?_
      refine⟨one h2,Ref.mk (ab:=.row (bn (st.ib o (.dead g_)) dst) t2 (xs++bd)) ?_ rfl (by simp)⟩
      simp only[bm,cZ];simp
     ·cases dp
    ·exact .fail
  ·exact .fail
 ·exact .fail
theorem ady(S:am O Y X D st M w){C:Ctx}(H:CtxOk P C){T dO:TypeId}{s x:Operand}{e ex:TypeId}{t u:a6}{bytes b2:Nat}{dst:Nat}(be:C.tt T=.slice e t bytes)(gC:C.tt dO=.slice ex u b2)
  (aE:B.op=.call {callee:=.builtin .append,args:=#[s,x],argTypes:=#[T,dO]}) (dC:B.dst=some dst) (Z:ch st B.dst=true):
  Holds (se bytes t dst st (a7 C st T s) (a7 C st dO x)) (cE P O Y X st M w B):=by
 have wy:=H.tt dO;rw[gC] at wy;unfold se;split
 ·exact .fail
 ·rename_i d qU;split
  ·rename_i bj bd;split
   ·rename_i ji;subst ji;obtain⟨news,e',dK⟩:=aec S (dB S C dO x) qU;exact M1 S H be (.inl ⟨_,wy.1.1⟩) aE dC Z e' dK
   ·exact .fail
  ·exact .fail
theorem abB(S:am O Y X D st M w){C:Ctx}(H:CtxOk P C){T dO:TypeId}{s x:Operand}{e:TypeId}{t:a6}{bytes:Nat}{dst:Nat}(be:C.tt T=.slice e t bytes)(gC:C.tt dO=.str)
  (aE:B.op=.call {callee:=.builtin .append,args:=#[s,x],argTypes:=#[T,dO]}) (dC:B.dst=some dst) (Z:ch st B.dst=true):
  Holds (sf bytes t dst st (a7 C st T s) (a7 C st dO x)) (cE P O Y X st M w B):=by
 have wy:=H.tt dO;rw[gC] at wy;have bu:=dB S C dO x;unfold sf;split
 ·rename_i y hx;rw[hx] at bu;split
  ·rename_i ji;subst ji;have bu:bD w (ay X D st.sites) (.str y) (Act.eval ⟨M,[]⟩ x):=bu;generalize hv:Act.eval ⟨M,[]⟩ x=v at bu;cases bu with
   |str _ b hb=>
    subst hb;refine M1 S H be (.inr wy.1) aE dC Z (news:=b.data.toList.map fun b=>Value.int .u8 b.toNat) ?_ ?_
    ·rw[hv];refine⟨by simp[bytesOf,aT],fun u hu=>?_,.inr (.inr ⟨b,rfl,?_,rfl,rfl⟩)⟩
     ·obtain⟨c,_,rfl⟩:=List.mem_map.1 hu;rfl
     ·simp only[bytesOf,List.length_map,Array.length_toList];rfl
    ·have e1:flat .u8 (bytesOf b.data.toList)=(b.data.toList.map fun b=>aZ.int .u8 b.toNat):=by
      unfold flat bytesOf;rw[List.flatMap_map];generalize b.data.toList=l;induction l with
      |nil=>rfl
      |cons a l ih=>simp only[List.flatMap_cons,List.map_cons,ih];rfl
     rw[e1];refine⟨by simp,fun j g1 g2=>?_⟩
     simp only[List.getElem_map];exact .int _ _
  ·exact .fail
 ·exact .fail
end
theorem foldl_set:∀(vs:List Value) (off k:Nat) (arr:Array Value),off+k+vs.length<=arr.size->
  (vs.zipIdx k).foldl (fun cs (x:Value×Nat)=>cs.setIfInBounds (off+x.2) x.1) arr=(bG arr.toList (off+k) vs).toArray:=by
 intro vs;induction vs with
 |nil=>intro off k arr h;simp[bG]
 |cons v vs ih=>
  intro off k arr h;simp only[List.zipIdx_cons,List.foldl_cons];rw[ih off (k+1) _ (by simp at h ⊢;omega)]
  congr 1
  simp only[List.length_cons] at h;unfold bG;rw[Array.toList_setIfInBounds];apply List.ext_getElem?;intro j;simp only[List.getElem?_append,List.length_append,List.length_take,List.length_set,List.getElem?_take,List.getElem?_drop,List.getElem?_set,List.length_cons,Array.length_toList];have m1:min (off+k) arr.size=off+k:=by omega
  have m2:min (off+(k+1)) arr.size=off+(k+1):=by omega
  simp only[m1,m2];by_cases c1:j<off+k
  ·have c2:j<off+(k+1):=by omega
   have c3:j<off+(k+1)+vs.length:=by omega
   have c5:j<off+k+(vs.length+1):=by omega
   have gD:¬off+k=j:=by omega
   simp[c1,c2,c3,c5,gD]
  ·by_cases c0:j=off+k
   ·subst c0;have c2:off+k<off+(k+1):=by omega
    have c3:off+k<off+(k+1)+vs.length:=by omega
    have c5:off+k<off+k+(vs.length+1):=by omega
    have gD:off+k<arr.size:=by omega
    simp[c2,c3,c5,gD]
   ·by_cases c5:j<off+k+(vs.length+1)
    ·have c2:¬j<off+(k+1):=by omega
     have c3:j<off+(k+1)+vs.length:=by omega
     have e:j-(off+k)=(j-(off+(k+1)))+1:=by omega
     simp[c1,c2,c3,c5,e]
    ·have c3:¬j<off+(k+1)+vs.length:=by omega
     have gD:¬off+k=off+(k+1)+vs.length+(j-(off+(k+1)+vs.length)):=by omega
     have e:off+(k+1)+vs.length+(j-(off+(k+1)+vs.length))=off+k+(vs.length+1)+(j-(off+k+(vs.length+1))):=by omega
     simp[c3,c5,gD,e];try(intro bk;exfalso;omega)
theorem Mw(v:Value)(off:Nat)(arr:Array Value)(h:off+v.cells.size<=arr.size):
  v.cells.zipIdx.foldl (fun cs (x:Value×Nat)=>cs.setIfInBounds (off+x.2) x.1) arr=(bG arr.toList off v.cells.toList).toArray:=by
 rw[<-Array.foldl_toList,Array.toList_zipIdx];exact foldl_set v.cells.toList off 0 arr (by simpa using h)
theorem MW(s:Nat):∀(vs:List (Nat×Value)) (n:Nat) (cells:Array Value),(∀j (h:j<vs.length),(vs[j]).1=n+j)->(∀p,p∈vs->p.2.cells.size=s)->(n+vs.length)*s<=cells.size->
  Instr.fill (fun i=>some (i*s,s)) cells vs=some (bG cells.toList (n*s) (vs.flatMap fun p=>p.2.cells.toList)).toArray:=by
 intro vs;induction vs with
 |nil=>intro n cells _ _ _;simp[Instr.fill,bG]
 |cons p vs ih=>
  obtain⟨i,v⟩:=p;intro n cells hi hs hle;have h0:i=n:=hi 0 (Nat.zero_lt_succ _);subst h0;have hv:v.cells.size=s:=hs (i,v) (by simp)
  have o5:i*s+s<=cells.size:=by
   have:(i+1)*s<=(i+(vs.length+1))*s:=Nat.mul_le_mul_right _ (by omega)
   simp only[List.length_cons] at hle;rw[Nat.add_mul,Nat.one_mul] at this;omega
  simp only[Instr.fill,hv];rw[if_neg (by simp;omega)]
  have oT:=Mw v (i*s) cells (by omega)
  rw[oT];have hlen:v.cells.toList.length=s:=by simpa using hv
  have alL:(bG cells.toList (i*s) v.cells.toList).length=cells.toList.length:=rr _ _ _ (by simp;omega)
  rw[ih (i+1) _ (fun j h=>by have:=hi (j+1) (by simpa using h);simp at this;omega) (fun p hp=>hs p (by simp[hp])) (by
   simp only[List.length_cons] at hle;simp only[List.size_toArray,alL,Array.length_toList];have e:i+1+vs.length=i+(vs.length+1):=by omega
   rw[e];exact hle)]
  congr 2
  simp only[List.flatMap_cons,List.toList_toArray];have pj:(vs.flatMap fun p=>p.2.cells.toList).length=vs.length*s:=by
   clear ih hi hle;induction vs with
   |nil=>simp
   |cons q vs apy=>
    have:q.2.cells.toList.length=s:=by simpa using hs q (by simp)
    rw[List.flatMap_cons,List.length_append,this,apy (fun p hp=>hs p (by rcases List.mem_cons.1 hp with h|h<;>simp[h])),List.length_cons,Nat.add_mul];omega
  have alX:(i+(vs.length+1))*s<=cells.size:=by simpa using hle
  rw[Nat.add_mul,Nat.add_mul] at alX;unfold bG;apply List.ext_getElem?;intro j;have e1:(i+1)*s=i*s+s:=by rw[Nat.add_mul,Nat.one_mul]
  simp only[List.getElem?_append,List.length_append,List.length_take,List.getElem?_take,List.getElem?_drop,List.length_drop,Array.length_toList,hlen,pj,e1];have m1:min (i*s) cells.size=i*s:=by omega
  have m2:min (i*s+s) (i*s+s+(cells.size-(i*s+s)))=i*s+s:=by omega
  simp only[m1,m2];by_cases c1:j<i*s
  ·have c2:j<i*s+s:=by omega
   have c3:j<i*s+s+vs.length*s:=by omega
   have c5:j<i*s+(s+vs.length*s):=by omega
   simp[c1,c2,c3,c5]
  ·by_cases c2:j<i*s+s
   ·have c3:j<i*s+s+vs.length*s:=by omega
    have c5:j<i*s+(s+vs.length*s):=by omega
    have gD:j-i*s<s:=by omega
    simp[c1,c2,c3,c5,gD]
   ·by_cases c3:j<i*s+s+vs.length*s
    ·have c5:j<i*s+(s+vs.length*s):=by omega
     have gD:¬j-i*s<s:=by omega
     have e:j-i*s-s=j-(i*s+s):=by omega
     simp[c1,c2,c3,c5,gD,e]
    ·have c5:¬j<i*s+(s+vs.length*s):=by omega
     have gD:¬i*s+s+vs.length*s+(j-(i*s+s+vs.length*s))<i*s:=by omega
     have c6:¬i*s+s+vs.length*s+(j-(i*s+s+vs.length*s))<i*s+s:=by omega
     have e:i*s+s+(i*s+s+vs.length*s+(j-(i*s+s+vs.length*s))-(i*s+s))=i*s+(s+vs.length*s)+(j-(i*s+(s+vs.length*s))):=by omega
     simp[c3,c5,gD,c6,e]
theorem abj:∀(l:List (Nat×Operand)) (n:Nat),r3 n l=true->∀j (h:j<l.length),(l[j]).1=n+j:=by
 intro l;induction l with
 |nil=>intro n _ j h;simp at h
 |cons p l ih=>
  obtain⟨i,x⟩:=p;intro n h j hj;simp only[r3,Bool.and_eq_true] at h;cases j with
  |zero=>simpa using Nat.eq_of_beq_eq_true h.1
  |succ j=>have:=ih (n+1) h.2 j (by simpa using hj);simp;omega
section
variable {P:Program}{O:World}{Y:List Nat}{X:Nat->Prop}{D:Nat->Value}{st:ah}{M:Array Value}{w:World}{B:Oper}
theorem ZS{ad:List aF}(h:hh ad=true):ad.head?≠some .dn:=by
 intro bP;cases ad with
 |nil=>cases bP
 |cons l r=>
  simp only[List.head?_cons,Option.some.injEq] at bP;subst bP;cases h
theorem am.P0(S:am O Y X D st M w){o:Nat}{cells:List aF}{vs:List Value}{T:TypeId}(hl:cr D st.sites w (ay X D st.sites) cells vs)(h1:∀u∈vs,u.oneCell'=true)(hns:mE cells T vs w.heap.size):
  am O Y X (fun aa=>if aa=o then .pointer (some ⟨w.heap.size,0,none⟩) else D aa) {st with sites:=cl st.sites o (.box (bn st o) cells)} M (w.alloc (.cells vs.toArray T (0,0))):=
 S.make (fun b hb=>RowKit.Below.heap_alloc w _ b hb) rfl rfl rfl (by simp) (fun ab hs=>lA hs) (fun b hb=>by cases hb;exact⟨Nat.le_refl _,by simp⟩)
  (fun hs cO go _ _=>⟨w.heap.size,T,vs,cO,heap_alloc_new w _,hl.1,h1,hns,fun j g1 g2=>(Am go hl).2 j g1 g2⟩)
theorem aeg{D:Nat->Value}{sites:List (Nat×Site)}{av:Nat->Prop}{cells:List aF}{T:TypeId}{cur:List Value}{b:Nat}(be:T=qZ)(h:cr D sites w av cells cur)(hs:cells.head?≠some .dn):cr D sites w av (u5 cells) cur/\mE (u5 cells) T cur b:=by
 unfold u5;split
 ·obtain⟨v,vs,rfl,h1,h2⟩:=h.inv;exact⟨.cons (show dQ D sites w av .dn v from trivial) h2,fun _=>⟨be,.inl (by rw[show v=_ from h1];rfl)⟩⟩
 ·exact⟨h,fun af=>absurd af hs⟩
theorem afA(S:am O Y X D st M w){C:Ctx}(H:CtxOk P C){elem:TypeId}{z:List aF}{o:Nat}(aE:B.op=.alloc elem)(dC:B.dst=some o)(hz:(C.tt elem).zero=some z)(Z:ch st B.dst=true):
  cE P O Y X st M w B (bZ (.ptr o (bn st o) 0)) [(o,.box (bn st o) (bif elem.beq qZ then u5 z else z))]:=by
 obtain⟨v,hv,nX⟩:=b_.Ez (w:=w) (H.tt elem) hz;obtain⟨h1,h2,h3⟩:=tW nX;have hns:z.head?≠some .dn:=by
  intro bP;cases z with
  |nil=>cases bP
  |cons l r=>
   simp only[List.head?_cons,Option.some.injEq] at bP;subst bP;simp[k0,pY] at nX
 have dm:(execOp (Act.eval ⟨M,[]⟩) B).run P w=.ok (.value (.pointer (some ⟨w.heap.size,0,none⟩))) (w.alloc (.cells v.cells.toList.toArray elem (0,0))):=by
  unfold execOp;simp[aE,Instr.alloc,hv,newVar,newRow]
 have key:∀cells,cr D st.sites w (ay X D st.sites) cells v.cells.toList->mE cells elem v.cells.toList w.heap.size->
   cE P O Y X st M w B (bZ (.ptr o (bn st o) 0)) [(o,.box (bn st o) cells)]:=by
  intro cells hl hs;have ce:=S.P0 (o:=o) (T:=elem) hl h2 hs;refine kV (us:=[(o,.box (bn st o) cells)]) ce Z (vv:=.pointer (some ⟨w.heap.size,0,none⟩)) dm ?_
  refine⟨_,rfl,Ref.mk (ab:=.box (bn st o) cells) ?_ rfl (by simp)⟩
  simp only[bm,cZ];simp
 cases be:elem.beq qZ with
 |false=>exact key z ⟨h1,h3 _ _ _ _⟩ fun h=>absurd h hns
 |true=>
  obtain⟨aB,aA⟩:=aeg (b:=w.heap.size) (Nat.eq_of_beq_eq_true be) (⟨h1,h3 D st.sites w (ay X D st.sites)⟩:cr D st.sites w (ay X D st.sites) z v.cells.toList) hns;exact key _ aB aA
theorem aiK(S:am O Y X D st M w){elem:TypeId}{x:Operand}{a:bL}{o:Nat}(aE:B.op=.box elem x)(dC:B.dst=some o)(ha:gU D st.sites w (ay X D st.sites) a (Act.eval ⟨M,[]⟩ x))
  (dJ:hh a.cells=true) (Z:ch st B.dst=true):cE P O Y X st M w B (bZ (.ptr o (bn st o) 0)) [(o,.box (bn st o) a.cells)]:=by
 have hl:=ha.cells dJ;have ce:=S.P0 (o:=o) (T:=elem) hl (hl.jr dJ) (fun h=>absurd h (ZS dJ))
 refine kV (us:=[(o,.box (bn st o) a.cells)]) ce Z (vv:=.pointer (some ⟨w.heap.size,0,none⟩)) ?_ ?_
 ·unfold execOp;simp[aE,Instr.box,newVar,newRow]
 ·refine⟨_,rfl,Ref.mk (ab:=.box (bn st o) a.cells) ?_ rfl (by simp)⟩
  simp only[bm,cZ];simp
theorem am.FY(S:am O Y X D st M w){o:Nat}{t:a6}{xs:List (den t)}{cs rest:List Value}{T:TypeId}{cap:Nat}(hl:cX w (ay X D st.sites) (flat t xs) cs)(hcap:cs.length+rest.length=cap*aT t)(hm:cap<=maxLen)(gC:t.jF=true->T=mc):
  am O Y X (fun aa=>if aa=o then .slice (some ⟨w.heap.size,0,none⟩) xs.length cap else D aa) {st with sites:=cl st.sites o (.row (bn st o) t xs)} M (w.alloc (.cells (cs++rest).toArray T (0,0))):=by
 have hcl:cs.length=xs.length*aT t:=by rw[hl.1,eW]
 have hle:xs.length<=cap:=by
  have:xs.length*aT t<=cap*aT t:=by omega
  exact Nat.le_of_mul_le_mul_right this (lK t)
 refine S.make (fun b hb=>RowKit.Below.heap_alloc w _ b hb) rfl rfl rfl (by simp) (fun ab hs=>lA hs) (fun b hb=>by cases hb;exact⟨Nat.le_refl _,by simp⟩)
  (fun hs cO go _ _=>⟨T,cs,⟨hcl,.inr ⟨w.heap.size,cap,_,(0,0),cO,⟨gC,.inl rfl⟩,heap_alloc_new w _,hle,hm,?_,?_⟩⟩,fun j g1 g2=>oP go (hl.2 j g1 g2)⟩)
 ·simp[hcap]
 ·rw[<-hcl];simp
theorem aha:∀{as:List bL} {t:a6} {xs:List (den t)} {us vs:List (Nat×Site)} {ws:List Value},ll t st as=some (xs,us)->ws.length=as.length->
  (∀j (h:j<as.length) (af:j<ws.length),gU D st.sites w (ay X D st.sites) (as[j]) (ws[j]))->kS O Y X D st M w vs->(∀p,p∈us->p∈vs)->
  xs.length=as.length/\cX w (ay X D (bm st.sites vs)) (flat t xs) (ws.flatMap fun v=>v.cells.toList)/\∀v,v∈ws->v.cells.size=aT t:=by
 intro as;induction as with
 |nil=>
  intro t xs us vs ws h hl _ _ _;simp only[ll] at h;cases h;have:ws=[]:=List.eq_nil_of_length_eq_zero hl;subst this;exact⟨rfl,⟨rfl,fun j h=>by simp[flat] at h⟩,fun v hv=>by simp at hv⟩
 |cons a as ih=>
  intro t xs us vs ws h hl fv aX eb;match ws,hl with
  |v::ws,hl=>
  simp only[ll] at h;split at h
  ·rename_i ds u1 o6;split at h
   ·rename_i x iI u2 j3 oS;cases h;have b9:=fv 0 (by simp) (by simp)
    simp only[List.getElem_cons_zero] at b9;have dJ:hh a.cells=true:=by
     clear oS ih fv b9 hl j3;generalize a.cells=ad at o6;induction ad generalizing ds u1 with
     |nil=>rfl
     |cons l ad ih=>
      simp only[fR] at o6;split at o6
      ·rename_i d YS kG q_ h1 h2;simp only[hh,Bool.and_eq_true];refine⟨?_,ih _ _ (fun p hp=>eb p (by cases o6;rcases List.mem_append.1 hp with h|h<;>simp[h])) h2⟩
       unfold jJ at h1;split at h1<;>first|rfl|cases h1
      ·cases o6
    have gX:=b9.cells dJ;have JZ:=zQ o6 gX aX (fun p hp=>eb p (List.mem_append.2 (.inl hp)))
    obtain⟨g1,g2,g3⟩:=ih oS (by simpa using hl) (fun j h1 h2=>fv (j+1) (by simpa using h1) (by simpa using h2)) aX (fun p hp=>eb p (List.mem_append.2 (.inr hp)))
    have Up:=zP _ _ _ j3;refine⟨by simp[g1],?_,fun u hu=>?_⟩
    ·simp only[flat,List.flatMap_cons];rw[Up];have:=iY ((hA (D:=D) (sites:=st.sites) JZ.1 JZ.2).append (hA (D:=D) (sites:=st.sites) g2.1 g2.2)|>fun h=>by
      rw[show cx ds++cx (flat t iI)=cx (ds++flat t iI) from by simp[cx]] at h
      exact h)
     exact this
    ·rcases List.mem_cons.1 hu with rfl|hu
     ·have:u.cells.toList.length=ds.length:=JZ.1;rw[<-Up,iU] at this;simpa using this
     ·exact g3 u hu
   ·cases h
  ·cases h
theorem ahb:∀{as:List bL} {t:a6} {xs:List (den t)} {us:List (Nat×Site)},ll t st as=some (xs,us)->dI st.sites us:=by
 intro as;induction as with
 |nil=>intro t xs us h;simp only[ll] at h;cases h;exact .nil
 |cons a as ih=>
  intro t xs us h;simp only[ll] at h;split at h
  ·rename_i ds u1 o6;split at h
   ·rename_i x iI u2 j3 oS;cases h;exact(GQ o6).append (ih oS)
   ·cases h
  ·cases h
theorem Zs{us:List (Nat×Site)}(h:dI st.sites us)(o:Nat):bn {st with sites:=bm st.sites us} o=bn st o:=by
 unfold bn ah.ab;simp only;rcases lz h o with h1|⟨s,t,xs,h1,h2⟩
 ·rw[h1]
 ·rw[h2];rcases h1 with h1|h1<;>rw[h1]<;>rfl
end
section
variable {P:Program}{O:World}{Y:List Nat}{X:Nat->Prop}{D:Nat->Value}{st:ah}{M:Array Value}{w:World}{B:Oper}
theorem pI{v:aJ}{a:bL}(h:l1 v=some a):v=.av a:=by
 cases v with
 |av b=>cases h;rfl
 |jD _=>cases h
theorem abz:∀{vs:List aJ} {as:List bL},nM vs=some as->vs.length=as.length/\∀j (h:j<vs.length) (af:j<as.length),vs[j]=.av (as[j]):=by
 intro vs;induction vs with
 |nil=>intro as h;simp only[nM] at h;cases h;exact⟨rfl,fun j h=>by simp at h⟩
 |cons v vs ih=>
  intro as h;simp only[nM] at h;split at h
  ·rename_i a ob h1 h2;cases h;obtain⟨g1,g2⟩:=ih h2;refine⟨by simp[g1],fun j aB aA=>?_⟩
   cases j with
   |zero=>exact pI h1
   |succ j=>exact g2 j (by simpa using aB) (by simpa using aA)
  ·cases h
theorem xj{C:Ctx}(H:CtxOk P C){T e:TypeId}{t:a6}{bytes:Nat}(be:C.tt T=.slice e t bytes):
  P.underlying T=some (.slice e)/\∃i z,P.info? e=some i/\i.size=aT t/\i.bytes=bytes/\i.zero=some z/\z.cells.size=aT t/\(t.jF=true->e=mc):=by
 have bF:=H.tt T;rw[be] at bF;obtain⟨⟨ft,_⟩,z,hinfo,hzs⟩:=bF;refine⟨ft,?_⟩;cases ar:P.info? e with
 |none=>simp[ar] at hinfo
 |some i=>
  simp only[ar,Option.map_some,Option.some.injEq,Prod.mk.injEq] at hinfo;exact⟨i,z,rfl,hinfo.1,hinfo.2.1,hinfo.2.2,hzs⟩
theorem Z2(S:am O Y X D st M w){C:Ctx}(H:CtxOk P C){T e:TypeId}{t:a6}{bytes len o:Nat}{parts:Array (Nat×Operand)}(be:C.tt T=.slice e t bytes)(aE:B.op=.buildSlice T len parts)
  (dC:B.dst=some o) (Z:ch st B.dst=true) (hlen:parts.toList.length=len) (qw:r3 0 parts.toList=true) (aiv:len*aT t<=1000) {as:List bL} {xs:List (den t)} {us:List (Nat×Site)}
  (has:nM (parts.toList.map fun p=>a7 C st e p.2)=some as) (j3:ll t st as=some (xs,us)):
  cE P O Y X st M w B (bZ (.own o (bn st o))) (us++[(o,.row (bn st o) t xs)]):=by
 obtain⟨ft,i,z,hi,jz,Ka,tu,hzs,gC⟩:=xj H be;have hfz:=ahb j3;have aX:kS O Y X D st M w us:=⟨S,hfz⟩;obtain⟨tz,ma⟩:=abz has;let ws:List Value:=parts.toList.map fun p=>Act.eval ⟨M,[]⟩ p.2
 have Xp:ws.length=as.length:=by rw[<-tz];simp[ws]
 have alH:∀j (h:j<as.length) (af:j<ws.length),gU D st.sites w (ay X D st.sites) (as[j]) (ws[j]):=by
  intro j h1 h2;have hj:j<(parts.toList.map fun p=>a7 C st e p.2).length:=by rw[tz];exact h1
  have:=ma j hj h1;simp only[List.getElem_map] at this;have bu:=dB S C e (parts.toList[j]'(by simpa using hj)).2
  rw[this] at bu;have h3:cc D st.sites w (ay X D st.sites) (.av (as[j])) (ws[j]):=by simpa[ws] using bu
  exact h3
 obtain⟨hxl,dK,hcs⟩:=aha j3 Xp alH aX (fun p hp=>hp)
 have A6:xs.length=len:=by rw[hxl,<-Xp];simpa[ws] using hlen
 have aiw:(parts.map fun(x:Nat×Operand)=>(x.1,Act.eval ⟨M,[]⟩ x.2)).toList=parts.toList.map fun p=>(p.1,Act.eval ⟨M,[]⟩ p.2):=by simp
 have ajR:((parts.toList.map fun p=>(p.1,Act.eval ⟨M,[]⟩ p.2)).flatMap fun p:Nat×Value=>p.2.cells.toList)=ws.flatMap fun v=>v.cells.toList:=by
  simp[ws,List.flatMap_map]
 have hcl:(ws.flatMap fun v=>v.cells.toList).length=len*aT t:=by rw[dK.1,eW,A6]
 have hm:len<=maxLen:=by
  have:len*1<=len*aT t:=Nat.mul_le_mul_left _ (lK t);unfold maxLen;omega
 have ce:=aX.new.FY (o:=o) (xs:=xs) (cs:=ws.flatMap fun v=>v.cells.toList) (rest:=[]) (T:=e) (cap:=len) (by exact dK) (by simp[hcl]) hm gC
 rw[Zs hfz,A6,List.append_nil] at ce;have uX:bm st.sites (us++[(o,.row (bn st o) t xs)])=cl (bm st.sites us) o (.row (bn st o) t xs):=by rw[kU];rfl
 have dm:(Instr.buildSlice T len (parts.map fun(x:Nat×Operand)=>(x.1,Act.eval ⟨M,[]⟩ x.2))).run P w=
   .ok (.slice (some ⟨w.heap.size,0,none⟩) len len) (w.alloc (.cells (ws.flatMap fun v=>v.cells.toList).toArray e)):=by
  by_cases h0:len*i.size=0
  ·have hl0:len=0:=by
    rcases Nat.mul_eq_zero.1 h0 with h|h
    ·exact h
    ·have:=lK t;omega
   subst hl0;have qM:parts.toList=[]:=List.eq_nil_of_length_eq_zero hlen;have B9:ws=[]:=by simp[ws,qM]
   have apY:parts=#[]:=by simpa using qM
   rw[B9];have lq:∀f:Nat->Value,Array.map f (Array.range 0)=#[]:=fun f=>by apply Array.ext';simp
   simp[Instr.buildSlice,run_underlying ft,sizeOf,typeInfo,hi,apY,Instr.fill,newRow,lq]
  ·refine run_buildSlice w T e len _ _ i z ft hi tu (by rw[jz];omega) h0 ?_
   rw[aiw];have ajG:(((Array.range (len*i.size)).map fun x=>z.cells[x%z.cells.size]!)).size=len*i.size:=by simp
   have:=MW (aT t) (parts.toList.map fun p=>(p.1,Act.eval ⟨M,[]⟩ p.2)) 0 ((Array.range (len*i.size)).map fun x=>z.cells[x%z.cells.size]!)
    (fun j h=>by have:=abj _ 0 qw j (by simpa using h);simpa using this)
    (fun p hp=>by
     obtain⟨q,ar,rfl⟩:=List.mem_map.1 hp;exact hcs _ (List.mem_map.2 ⟨q,ar,rfl⟩))
    (by rw[ajG,jz];simp[hlen])
   rw[jz] at this ⊢;rw[this,ajR];congr 2
   unfold bG;rw[Nat.zero_mul,List.take_zero,List.nil_append,Nat.zero_add,hcl,List.drop_eq_nil_of_le (by simp),List.append_nil]
 refine kV (us:=us++[(o,.row (bn st o) t xs)]) (by rw[uX];exact ce) Z (vv:=.slice (some ⟨w.heap.size,0,none⟩) len len) ?_ ?_
 ·unfold execOp;simp only[aE,Sem.run_bind];have ajL:=dm;simp only[ajL,Result.andThen_ok,Sem.run_pure]
 ·rw[uX];refine⟨rfl,Ref.mk (ab:=.row (bn st o) t xs) ?_ rfl (by simp)⟩
  simp only[cZ];simp
theorem ZT{w:World}{av:Nat->Prop}{t:a6}{z:den t}{zs:List Value}(h:cX w av (enc t z) zs)(n:Nat):cX w av (flat t (List.replicate n z)) ((List.replicate n zs).flatten):=by
 induction n with
 |zero=>exact⟨rfl,fun j h=>by simp[flat] at h⟩
 |succ n ih=>
  have:=iY ((hA (D:=fun _=>undef) (sites:=[]) h.1 h.2).append (hA (D:=fun _=>undef) (sites:=[]) ih.1 ih.2)|>fun h=>by
   rw[show cx (enc t z)++cx (flat t (List.replicate n z))=cx (enc t z++flat t (List.replicate n z)) from by simp[cx]] at h
   exact h)
  simpa[List.replicate_succ,flat,List.flatMap_cons] using this
theorem acs(z:Array Value)(n:Nat)(hz:0<z.size):((Array.range (n*z.size)).map fun x=>z[x%z.size]!).toList=(List.replicate n z.toList).flatten:=by
 induction n with
 |zero=>simp
 |succ n ih=>
  rw[List.replicate_succ',List.flatten_append];rw[<-ih];apply List.ext_getElem?;intro j;have e:(n+1)*z.size=n*z.size+z.size:=by rw[Nat.add_mul,Nat.one_mul]
  simp only[Array.toList_map,Array.toList_range,List.getElem?_map,List.getElem?_append,List.length_map,List.length_range,List.flatten_cons,List.flatten_nil,List.append_nil,e];by_cases h1:j<n*z.size
  ·rw[List.getElem?_range (by omega)];simp[h1]
  ·by_cases h2:j<n*z.size+z.size
   ·rw[List.getElem?_range h2];have h3:j-n*z.size<z.size:=by omega
    have aw:j%z.size=j-n*z.size:=by
     have:j=z.size*n+(j-n*z.size):=by rw[Nat.mul_comm];omega
     conv=>lhs;rw[this]
     rw[Nat.mul_add_mod,Nat.mod_eq_of_lt h3]
    simp[h1,aw,h3]
   ·rw[List.getElem?_eq_none (by simp;omega)]
    have h3:¬j-n*z.size<z.size:=by omega
    simp[h1,h3]
theorem _D{l:aF}{v:Value}{d:aZ}{us:List (Nat×Site)}(h:pY l=some v)(k:jJ st l=some (d,us)):us=[]:=by
 cases l with
 |d x=>simp[jJ] at k;exact k.2
 |nil t=>simp[jJ] at k;exact k.2
 |own o s=>simp[pY] at h
 |clo g bz=>simp[pY] at h
 |_=>simp[jJ] at k
theorem _n(S:am O Y X D st M w){C:Ctx}(H:CtxOk P C){T e:TypeId}{t:a6}{bytes o:Nat}{l c:Operand}{wS wT:IntKind}{n m:Int}{z:List aF}{ds:List aZ}{us:List (Nat×Site)}{eQ:den t}(be:C.tt T=.slice e t bytes)(aE:B.op=.makeSlice T l c)
  (dC:B.dst=some o) (Z:ch st B.dst=true) (hl:a7 C st 0 l=.av (.ak (.d (.int wS n)))) (hc:a7 C st 0 c=.av (.ak (.d (.int wT m)))) (hz:(C.tt e).zero=some z) (gA:fR st z=some (ds,us)) (j3:dec t ds=some eQ):
  ∀r,jE bytes n m eQ=some r->cE P O Y X st M w B (bZ (.own o (bn st o))) [(o,.row (bn st o) t r)]:=by
 intro r hr;obtain⟨ft,i,fV,hi,jz,Ka,tu,hzs,gC⟩:=xj H be;obtain⟨v,hv,nX⟩:=b_.Ez (w:=w) (H.tt e) hz;have apH:v=fV:=by
  simp[zeroValue,typeInfo,hi,tu] at hv;exact hv.symm
 subst apH;obtain⟨h1,h2,h3⟩:=tW nX;have gV:us=[]:=by
  clear j3 hz h3 h2 h1;have key:∀{ad:List aF} {vs:List Value} {ds:List aZ} {us:List (Nat×Site)},k0 ad=some vs->fR st ad=some (ds,us)->us=[]:=by
   intro ad;induction ad with
   |nil=>intro vs ds us _ h;simp only[fR] at h;cases h;rfl
   |cons l ad ih=>
    intro vs ds us h1 h2;simp only[k0] at h1;split at h1
    ·rename_i v ck g1 g2;simp only[fR] at h2;split at h2
     ·rename_i d YS kG q_ aB aA;cases h2;rw[ih g2 aA,List.append_nil];exact _D g1 aB
     ·cases h2
    ·cases h1
  exact key nX gA
 subst gV;have aX:kS O Y X D st M w []:=⟨S,.nil⟩;have hrz:cX w (ay X D st.sites) ds v.cells.toList:=zQ gA ⟨h1,h3 _ _ _ _⟩ aX (fun p hp=>hp)
 rw[<-zP _ _ _ j3] at hrz;unfold jE at hr;split at hr
 ·rename_i hb;obtain⟨b1,b2,b3,rf⟩:=hb;cases hr;have e1:Act.eval ⟨M,[]⟩ l=.int wS n:=by
   have:=dB S C 0 l;rw[hl] at this;have this:bD _ _ (.int wS n) _:=this;generalize Act.eval ⟨M,[]⟩ l=u at this;cases this;rfl
  have e2:Act.eval ⟨M,[]⟩ c=.int wT m:=by
   have:=dB S C 0 c;rw[hc] at this;have this:bD _ _ (.int wT m) _:=this;generalize Act.eval ⟨M,[]⟩ c=u at this;cases this;rfl
  have Ue:=ZT hrz n.toNat;have hlen:((List.replicate n.toNat v.cells.toList).flatten).length=n.toNat*aT t:=by
   rw[Ue.1,eW,List.length_replicate]
  have Rb:(List.replicate m.toNat v.cells.toList).flatten=(List.replicate n.toNat v.cells.toList).flatten++(List.replicate (m.toNat-n.toNat) v.cells.toList).flatten:=by
   rw[<-List.flatten_append,List.replicate_append_replicate];congr 2;omega
  have hcap:((List.replicate n.toNat v.cells.toList).flatten).length+((List.replicate (m.toNat-n.toNat) v.cells.toList).flatten).length=m.toNat*aT t:=by
   rw[<-List.length_append,<-Rb];simp[hzs]
  have hmax:m.toNat<=maxLen:=by omega
  have ce:=S.FY (o:=o) (T:=e) Ue hcap hmax gC;rw[List.length_replicate,<-Rb] at ce;refine kV (us:=[(o,.row (bn st o) t (List.replicate n.toNat eQ))]) ce Z (vv:=.slice (some ⟨w.heap.size,0,none⟩) n.toNat m.toNat) ?_ ?_
  ·unfold maxLen at rf;have aN:IntKind.i64.wrap n=n:=IntWalk.i64_in n (by omega)
   have w2:IntKind.i64.wrap m=m:=IntWalk.i64_in m (by omega)
   have ID:(decide (m<0)||decide (((i.bytes:Nat):Int)*m>2^48))=false:=by
    unfold room at b3;rw[Ka];have:(bytes:Int)*m<=140737488355328:=by rw[Int.mul_comm];exact b3
    simp;omega
   have Ar:((Array.range (m.toNat*i.size)).map fun x=>v.cells[x%v.cells.size]!)=((List.replicate m.toNat v.cells.toList).flatten).toArray:=by
    rw[<-acs v.cells m.toNat (by rw[hzs];exact lK t),hzs,jz]
   unfold execOp;simp only[aE,e1,e2,Sem.run_bind];have dm:(Instr.makeSlice T (.int wS n) (.int wT m)).run P w=.ok (.slice (some ⟨w.heap.size,0,none⟩) n.toNat m.toNat) (w.alloc (.cells ((List.replicate m.toNat v.cells.toList).flatten).toArray e)):=by
    have qO:¬n<0:=by omega
    have kC:¬n>m:=by omega
    unfold Instr.makeSlice;simp only[Sem.run_bind,run_underlying ft,Result.andThen_ok,asInt,asIntOf,Sem.run_pure,kT hi,aN,w2,ID,Bool.false_eq_true,qO,kC,decide_false,Bool.or_false,Bool.or_self,if_false,
     run_askRoom,sizeOf]
    by_cases hz0:m.toNat*i.size=0
    ·have to:m.toNat=0:=by
      rcases Nat.mul_eq_zero.1 hz0 with h|h
      ·exact h
      ·have:=lK t;omega
     have lq:∀f:Nat->Value,Array.map f (Array.range 0)=#[]:=fun f=>by apply Array.ext';simp
     simp[to,newRow,lq]
    ·simp[hz0,tu,zeroValue,kT hi,newRow,Ar]
   simp only[dm,Result.andThen_ok,Sem.run_pure]
  ·refine⟨rfl,Ref.mk (ab:=.row (bn st o) t (List.replicate n.toNat eQ)) ?_ rfl (by simp)⟩
   simp only[bm,cZ];simp
 ·cases hr
end
theorem ac0{ax mg:Type}(g:ax->Option mg):∀{l:List ax} {r:List mg},l.mapM g=some r->∀{i:Nat} {y:mg},r[i]? =some y->∃x,l[i]? =some x/\g x=some y:=by
 intro l;induction l with
 |nil=>intro r h i y hy;simp at h;subst h;simp at hy
 |cons x l ih=>
  intro r h i y hy;simp only[List.mapM_cons,Option.bind_eq_bind,Option.pure_def] at h;cases hx:g x with
  |none=>simp[hx] at h
  |some z=>
   cases hl:l.mapM g with
   |none=>simp[hx,hl] at h
   |some ez=>
    simp only[hx,hl,Option.bind_some,Option.some.injEq] at h;subst h;cases i with
    |zero=>simp at hy;subst hy;exact⟨x,by simp,hx⟩
    |succ i=>simp at hy;simpa using ih hl hy
section
variable {P:Program}{O:World}{Y:List Nat}{X:Nat->Prop}{D:Nat->Value}{st:ah}{M:Array Value}{w:World}{B:Oper}
theorem ic{k:IntKind}{n:Int}{v:Value}{av:Nat->Prop}(h:bD w av (.int k n) v):v=.int k n:=by cases h;rfl
theorem jt{b:Bool}{v:Value}{av:Nat->Prop}(h:bD w av (.bool b) v):v=.bool b:=by cases h;rfl
theorem gv{s:F}{v:Value}{av:Nat->Prop}(h:bD w av (.str s) v):∃b:ByteArray,v=.string b/\b.data.toList=s:=by
 cases h with
 |str l s h=>exact⟨s,rfl,h⟩
theorem jT(S:am O Y X D st M w){C:Ctx}{T:TypeId}{x:Operand}{k:IntKind}{n:Int}(h:a7 C st T x=.av (.ak (.d (.int k n)))):Act.eval ⟨M,[]⟩ x=.int k n:=by
 have:=dB S C T x;rw[h] at this;exact ic this
theorem GM(S:am O Y X D st M w){C:Ctx}{T:TypeId}{x:Operand}{b:Bool}(h:a7 C st T x=.av (.ak (.d (.bool b)))):Act.eval ⟨M,[]⟩ x=.bool b:=by
 have:=dB S C T x;rw[h] at this;exact jt this
theorem aiF(S:am O Y X D st M w){C:Ctx}{T:TypeId}{x:Operand}{s:F}(h:a7 C st T x=.av (.ak (.d (.str s)))):∃b:ByteArray,Act.eval ⟨M,[]⟩ x=.string b/\b.data.toList=s:=by
 have:=dB S C T x;rw[h] at this;exact gv this
theorem _R{C:Ctx}(H:CtxOk P C){T:TypeId}{bK:List (Nat×Nat)}{n:Nat}{z:List aF}{eq:Bool}(be:C.tt T=.struct bK n z eq):(b_.struct bK n z eq).ok P T:=by
 have:=H.tt T;rwa[be] at this
theorem _z(S:am O Y X D st M w){C:Ctx}(H:CtxOk P C){T:TypeId}{x:Operand}{f off K3:Nat}{bK:List (Nat×Nat)}{n:Nat}{z:List aF}{eq:Bool}(be:C.tt T=.struct bK n z eq)(aE:B.op=.fieldAddr T x f)
  (Z:ch st B.dst=true) (hf:bK[f]? =some (off,K3)):Holds (Dm off (a7 C st 0 x)) (cE P O Y X st M w B):=by
 obtain⟨fields,ft,⟨alS,ap1⟩,_⟩:=_R H be;obtain⟨Y7,h1,h2⟩:=ac0 _ alS hf;have h1':fields[f]? =some Y7:=by simpa using h1
 cases hi:P.info? Y7.type with
 |none=>simp[hi] at h2
 |some i=>
  simp only[hi,Option.map_some,Option.some.injEq,Prod.mk.injEq] at h2;have hsz:i.size≠0:=by rw[h2.2];exact ap1 (off,K3) (List.mem_of_getElem? hf)
  have bu:=dB S C 0 x;have run:∀{b p:Nat},Act.eval ⟨M,[]⟩ x=.pointer (some ⟨b,p,none⟩)->(execOp (Act.eval ⟨M,[]⟩) B).run P w=.ok (.value (.pointer (some ⟨b,p+off,none⟩))) w:=by
   intro b p hx;unfold execOp;simp only[aE,hx,Instr.fieldAt,Instr.sureAddr,Sem.run_bind,run_underlying ft,Result.andThen_ok,h1',Sem.run_pure,fieldPlace,sizeOf,kT hi,hsz,if_false,h2.1,gM]
  unfold Dm;split
  ·rename_i o s p b4;rw[b4] at bu;obtain⟨b,aB,aA⟩:=bu;exact Holds.ok (dH S Z (run aB) ⟨b,rfl,aA⟩)
  ·rename_i cells p b4;rw[b4] at bu;obtain⟨b,q,aB,aA⟩:=bu;refine Holds.ok (dH S Z (run aB) ⟨b,q,by rw[Nat.add_assoc],aA⟩)
  ·rename_i o s t k p b4;rw[b4] at bu;obtain⟨b,aB,aA⟩:=bu;exact Holds.ok (dH S Z (run aB) ⟨b,by rw[Nat.add_assoc],aA⟩)
  ·exact .fail
end
section
variable {P:Program}{O:World}{Y:List Nat}{X:Nat->Prop}{D:Nat->Value}{st:ah}{M:Array Value}{w:World}{B:Oper}
theorem ad9(S:am O Y X D st M w){C:Ctx}(H:CtxOk P C){T:TypeId}{a x:Operand}{v:bL}(aE:B.op=.store T a x)(Z:ch st B.dst=true)(hk:(C.tt T).known=true)(hv:l1 (a7 C st T x)=some v):
  Holds (sg (C.tt T).size st (a7 C st T a) v) (cE P O Y X st M w B):=by
 have hn:=EW hk;have qT:=dB S C T a;have hex:=dB S C T x;rw[pI hv] at hex;have hex:gU D st.sites w (ay X D st.sites) v (Act.eval ⟨M,[]⟩ x):=hex;have run:∀{b p:Nat} {cur:List Value} {gr:TypeId} {u:Bool} {fz:Nat×Nat},Act.eval ⟨M,[]⟩ a=.pointer (some ⟨b,p,none⟩)->w.heap[b]? =some (.cells cur.toArray gr fz)->mK u gr cur.toArray fz->(Act.eval ⟨M,[]⟩ x).cells.toList.length=(C.tt T).size->
   p+(Act.eval ⟨M,[]⟩ x).cells.toList.length<=cur.length->(∀u∈(Act.eval ⟨M,[]⟩ x).cells.toList,u.oneCell'=true)->
   (execOp (Act.eval ⟨M,[]⟩) B).run P w=.ok .skip (w.setRow b (bG cur p (Act.eval ⟨M,[]⟩ x).cells.toList).toArray):=by
  intro b p cur gr u fz h1 h2 hz h3 aw bk;unfold execOp;simp only[aE,h1,Instr.storeAt,Instr.sureAddr,Sem.run_bind,Sem.run_pure,Result.andThen_ok,LM (H.tt T) hn h2 hz h3 aw bk]
 unfold sg;cases hlen:v.cells.length.beq (C.tt T).size with
 |false=>simp only[cond_false];exact .fail
 |true=>
  have vg:=Nat.eq_of_beq_eq_true hlen;simp only[cond_true];split
  ·rename_i o s off b4;rw[b4] at qT;split
   ·rename_i cells hb;cases hc:(Nat.ble (off+(C.tt T).size) cells.length&&hh v.cells) with
    |false=>simp only[cond_false];exact .fail
    |true=>
     simp only[cond_true];simp only[Bool.and_eq_true] at hc;have hle:=Nat.le_of_ble_eq_true hc.1;have hl:=hex.cells hc.2;obtain⟨b,gr,cur,h1,h2,h3,ce⟩:=S.aeb (gF hb) qT hl (by rw[vg];exact hle) (hl.jr hc.2) hc.2
     exact Holds.fu (xf (us:=[(o,.box s (bG cells off v.cells))]) ce Z (run (u:=false) h1 h2 ⟨(fun h=>by cases h),.inl rfl⟩ (by rw[hl.1];exact vg) h3 (hl.jr hc.2)))
   ·exact .fail
  ·rename_i o s u k off b4;rw[b4] at qT;split
   ·rename_i aC t xs gx;have sr:look st.sites o=some (.row aC t xs):=gx;cases hc:(aC.beq s&&Nat.ble (off+(C.tt T).size) (aT t)&&decide (t=u)) with
    |false=>simp only[cond_false];exact .fail
    |true=>
     simp only[cond_true];simp only[Bool.and_eq_true,decide_eq_true_eq] at hc;obtain⟨⟨hc1,qV⟩,rfl⟩:=hc;have:=Nat.eq_of_beq_eq_true hc1;subst this;have hle:=Nat.le_of_ble_eq_true qV;split
     ·rename_i ds us gA;cases kC:(look us o).isNone with
      |false=>simp only[cond_false];exact .fail
      |true=>
       simp only[cond_true];refine Holds.hH fun h' qF=>?_
       have vx:((xs[k]?).bind fun x=>dec t (bG (enc t x) off ds))=some h':=qF
       cases JM:xs[k]? with
       |none=>rw[JM] at vx;cases vx
       |some wN=>
        rw[JM] at vx;have j3:dec t (bG (enc t wN) off ds)=some h':=vx;have hfz:=GQ gA;have aX:kS O Y X D st M w us:=⟨S,hfz⟩;have dJ:hh v.cells=true:=by
         clear hlen vg qF vx j3 kC hfz aX;revert gA
         generalize v.cells=ad;intro gA;induction ad generalizing ds us with
         |nil=>rfl
         |cons l ad ih=>
          simp only[fR] at gA;split at gA
          ·rename_i d YS kG q_ h1 h2;simp only[hh,Bool.and_eq_true];refine⟨?_,ih _ _ h2⟩;unfold jJ at h1;split at h1<;>first|rfl|cases h1
          ·cases gA
        have hl:=hex.cells dJ;have hr:=zQ gA hl aX (fun p hp=>hp)
        have hdl:ds.length=(C.tt T).size:=by
         have:=hr.1;rw[hl.1] at this;omega
        have ID:look (bm st.sites us) o=some (.row aC t xs):=by
         rcases lz hfz o with h|⟨s2,t2,aua,h,af⟩
         ·rw[h];exact sr
         ·exfalso
          have:∀(us:List (Nat×Site)) (sites:List (Nat×Site)),look us o=none->look (bm sites us) o=look sites o:=by
           intro us;induction us with
           |nil=>intro sites _;rfl
           |cons p us ih=>
            obtain⟨aa,ab⟩:=p;intro sites A4;simp only[look] at A4;cases hb:aa.beq o with
            |true=>simp[hb] at A4
            |false=>
             simp only[hb,cond_false] at A4;simp only[bm];rw[ih _ A4,cZ,if_neg];rintro rfl;simp at hb
          have h3:=this us st.sites (by simpa using kC)
          rw[af,sr] at h3;cases h3
        have al5:=aX.go (a:=.av (.ak (.eT o aC t k off))) qT;obtain⟨b,gr,cur,fz,h1,h2,hz,h3,ce⟩:=aX.new.aea ID al5 JM (zP _ _ _ j3) hr (by rw[hdl];exact hle) (hl.jr dJ)
        refine xf (aI:=D) (us:=us++[(o,.row aC t (xs.set k h'))]) ?_ Z (run h1 h2 hz (by rw[hl.1];exact vg) h3 (hl.jr dJ))
        rw[kU];exact ce
     ·exact .fail
   ·exact .fail
  ·exact .fail
theorem _v(S:am O Y X D st M w){C:Ctx}(H:CtxOk P C){T e:TypeId}{t:a6}{bytes:Nat}{x i:Operand}{k:IntKind}{n:Int}(be:C.tt T=.slice e t bytes)(hi:a7 C st 0 i=.av (.ak (.d (.int k n))))(aE:B.op=.indexAddr T x i)
  (Z:ch st B.dst=true):
  Holds (rB t st (a7 C st T x) n) (cE P O Y X st M w B):=by
 obtain⟨ft,inf,z,ks,jz,Ka,tu,hzs,_⟩:=xj H be;have vB:=jT S hi;have bu:=dB S C T x;have run:∀{a:Addr} {len cap:Nat},Act.eval ⟨M,[]⟩ x=.slice (some a) len cap->0<=n->n<len->(execOp (Act.eval ⟨M,[]⟩) B).run P w=.ok (.value (.pointer (some (a.add (n.toNat*aT t))))) w:=by
  intro a len cap hx h0 h1;unfold execOp;simp[aE,hx,vB,Instr.indexAt,asIntOf,run_underlying ft,h0,h1,sizeOf,kT ks,jz]
 unfold rB;split
 ·rename_i u xs b4;split;case isFalse=>exact .fail
  rename_i n3;subst n3;rw[b4] at bu;have bu:bD w (ay X D st.sites) (.sl u xs) (Act.eval ⟨M,[]⟩ x):=bu;refine Holds.eo fun y hy=>?_
  have dW:aU xs n=some y:=hy;unfold aU at dW;split at dW
  ·rename_i h0;have hlt:n.toNat<xs.length:=by
    rcases Nat.lt_or_ge n.toNat xs.length with h|h
    ·exact h
    ·rw[List.getElem?_eq_none h] at dW;cases dW
   generalize hx:Act.eval ⟨M,[]⟩ x=v at bu;cases bu with
   |nil=>simp at hlt
   |sl _ _ a cap cs m hm hcap hb hl hc hr=>
    subst hm;have hne:xs≠[]:=by rintro rfl;simp at hlt
    have hrow:cX w (ay X D st.sites) (flat u xs) cs:=⟨hl,hr⟩;have kA:a.spot=none:=by
     have mI:0<cs.length:=by rw[hl,eW];exact Nat.mul_pos (List.length_pos_iff.mpr hne) (lK u)
     have h1:=hc 0 cs[0] (List.getElem?_eq_getElem mI);have h2:a.add 0=a:=by unfold Addr.add;simp
     rw[h2] at h1;unfold World.cell? at h1;split at h1
     ·cases hs:a.spot with
      |none=>rfl
      |some _=>simp[hs] at h1
     ·cases h1
    obtain⟨og,CM,aq2⟩:=a;simp only at kA;subst kA;have hcs:hV w og CM cs:=fun j v hv=>by have:=hc j v hv;rwa[gM] at this
    refine dH S Z (run hx h0 (by omega)) ?_
    rw[gM];have iN:=ua u xs n.toNat y dW;have ajN:=(hcs.drop (n.toNat*aT u)).take (aT u);have jG:=((hA (D:=D) (sites:=st.sites) hl hr).drop (n.toNat*aT u)).take (aT u);have e2:((cx (flat u xs)).drop (n.toNat*aT u)).take (aT u)=cx (enc u y):=by
     rw[<-iN];simp[cx,List.map_drop,List.map_take]
    rw[e2] at jG;have dK:=iY jG;have hlt2:og<w.heap.size:=by
     have mI:0<cs.length:=by rw[hl,eW];exact Nat.mul_pos (List.length_pos_iff.mpr hne) (lK u)
     exact World.block_lt_of_cell? w _ (hcs 0 cs[0] (List.getElem?_eq_getElem mI))
    exact⟨og,CM+n.toNat*aT u,by rw[Nat.add_zero],hb hne,hlt2,_,dK.1,ajN,dK.2⟩
  ·cases dW
 ·rename_i o s b4;rw[b4] at bu;split
  ·rename_i u xs hrow;split;case isFalse=>exact .fail
   rename_i n3;subst n3;refine Holds.eo fun y hy=>?_
   have dW:a8 xs.length n=some y:=hy;unfold a8 at dW;split at dW
   ·rename_i hb;cases dW;obtain⟨cs,hl,hcell⟩:=S.row hrow;have dJ:∃ab,look st.sites o=some ab/\ab.cq=s:=by
     rcases jO hrow with h|h<;>exact⟨_,h,rfl⟩
    obtain⟨ab,iN,lp⟩:=dJ;have hv:Act.eval ⟨M,[]⟩ x=D o:=Ref.at bu.2 iN lp;rcases hcell with⟨hn,nY⟩|⟨b,c,cO,XJ,_⟩
    ·subst nY;simp at hb;omega
    ·refine dH S Z (run (by rw[hv];exact cO) hb.1 hb.2) ?_
     rw[gM,Nat.zero_add];exact⟨b,by rw[Nat.add_zero],Ref.mk iN lp ⟨_,_,cO⟩⟩
   ·cases dW
  ·exact .fail
 ·exact .fail
end
section
variable {P:Program}{O:World}{Y:List Nat}{X:Nat->Prop}{D:Nat->Value}{st:ah}{M:Array Value}{w:World}{B:Oper}
theorem O7(S:am O Y X D st M w){C:Ctx}{cQ:Option Operand}{lk l:Int}(h:iD lk (cQ.map (a7 C st 0))=some l):
  (cQ=none/\l=lk)\/∃x k,cQ=some x/\Act.eval ⟨M,[]⟩ x=.int k l:=by
 cases cQ with
 |none=>simp only[Option.map_none,iD,Option.some.injEq] at h;exact .inl ⟨rfl,h.symm⟩
 |some x=>
  simp only[Option.map_some] at h;generalize hx:a7 C st 0 x=v at h;unfold iD at h;split at h
  ·rename_i b4;cases b4
  ·rename_i k n b4;cases h;cases b4;exact .inr ⟨x,k,rfl,jT S hx⟩
  ·cases h
theorem mo(t:a6)(xs:List (den t))(n:Nat):flat t (xs.take n)=(flat t xs).take (n*aT t):=by
 rcases Nat.lt_or_ge xs.length n with h|h
 ·rw[List.take_of_length_le (Nat.le_of_lt h),List.take_of_length_le (by rw[eW];exact Nat.mul_le_mul_right _ (Nat.le_of_lt h))]
 ·have:=ru t (xs.take n) (xs.drop n);rw[List.take_append_drop] at this;rw[this,List.take_left' (by rw[eW,List.length_take,Nat.min_eq_left h])]
theorem NY(t:a6)(xs:List (den t))(n:Nat):flat t (xs.drop n)=(flat t xs).drop (n*aT t):=by
 rcases Nat.lt_or_ge xs.length n with h|h
 ·rw[List.drop_eq_nil_of_le (Nat.le_of_lt h),List.drop_eq_nil_of_le (by rw[eW];exact Nat.mul_le_mul_right _ (Nat.le_of_lt h))]
  rfl
 ·have:=ru t (xs.take n) (xs.drop n);rw[List.take_append_drop] at this;rw[this,List.drop_left' (by rw[eW,List.length_take,Nat.min_eq_left h])]
theorem De{P:Program}{w:World}(isSlice:Bool)(len cap:Nat)(cQ hi:Option Value)(l h:Int)(fU:(cQ=none/\l=0)\/∃k,cQ=some (.int k l))(hhi:(hi=none/\h=len)\/∃k,hi=some (.int k h))
  (h0:0<=l) (h1:l<=h) (h2:h<=len) (hc:len<=cap):(Instr.sliceBounds isSlice len cap cQ hi none).run P w=.ok (l.toNat,h.toNat,cap) w:=by
 have bP:0<=h:=by omega
 have XC:h<=cap:=by omega
 have apN:((h.toNat:Nat):Int)=h:=Int.toNat_of_nonneg bP;rcases fU with⟨rfl,rfl⟩|⟨k,rfl⟩<;>rcases hhi with⟨rfl,rfl⟩|⟨k',rfl⟩
 ·simp[Instr.sliceBounds]
 ·simp[Instr.sliceBounds,Instr.sliceBound,asIntOf,bP,XC]
 ·simp[Instr.sliceBounds,Instr.sliceBound,asIntOf,h0,h1]
 ·simp[Instr.sliceBounds,Instr.sliceBound,asIntOf,bP,XC,h0,apN,h1]
theorem ad8(s:ByteArray)(l h:Nat)(h2:h<=s.size):(s.extract l h).data.toList=(s.data.toList.take h).drop l:=by
 rw[ByteArray.data_extract,Array.toList_extract];simp[List.extract_eq_take_drop,List.drop_take]
theorem QK{w:World}{av:Nat->Prop}{t:a6}{xs:List (den t)}{b B:Nat}{cs:List Value}(hb:xs≠[]->¬av b)(hr:cX w av (flat t xs) cs)(hc:hV w b B cs)(l h:Nat)(h1:l<=h)(h2:h<=xs.length)(a:Addr)(fi:Nat)(XL:h-l<=fi)
  (ha:a=⟨b,B+l*aT t,none⟩\/l=h) (XM:a.block=b):bD w av (.sl t ((xs.take h).drop l)) (.slice (some a) (h-l) fi):=by
 have hlen:((xs.take h).drop l).length=h-l:=by simp;omega
 by_cases Xw:l=h
 ·subst Xw;have:(xs.take l).drop l=[]:=List.eq_nil_of_length_eq_zero (by rw[hlen];omega)
  rw[this];exact .sl t [] a fi [] _ (by simp) XL (fun hx=>absurd rfl hx) rfl (fun j u hu=>by simp at hu) (fun j h=>by simp[flat] at h)
 ·rcases ha with ha|ha
  ·subst ha;have hf:flat t ((xs.take h).drop l)=((flat t xs).take (h*aT t)).drop (l*aT t):=by
    rw[NY,mo]
   have jG:=((hA (D:=fun _=>undef) (sites:=[]) hr.1 hr.2).take (h*aT t)).drop (l*aT t)
   have e2:((cx (flat t xs)).take (h*aT t)).drop (l*aT t)=cx (flat t ((xs.take h).drop l)):=by
    rw[hf];simp[cx,List.map_drop,List.map_take]
   rw[e2] at jG;have dp:=iY jG;refine .sl t _ _ fi _ _ hlen.symm XL (fun hx=>hb ?_) dp.1 (fun j u hu=>?_) dp.2
   ·rintro rfl;simp at hx
   ·rw[gM];exact((hc.take (h*aT t)).drop (l*aT t)) j u hu
  ·exact absurd ha Xw
theorem FW{w:World}{av:Nat->Prop}{t:a6}{xs:List (den t)}{a:Addr}{cs:List Value}(hb:xs≠[]->¬av a.block)(hr:cX w av (flat t xs) cs)(hc:∀j u,cs[j]? =some u->w.cell? (a.add j)=some u)
  (l h cap:Nat) (h1:l<=h) (h2:h<=xs.length) (hcap:xs.length<=cap):
  bD w av (.sl t ((xs.take h).drop l)) (.slice (if cap=l then some a else(some a).map (·.add (l*aT t))) (h-l) (cap-l)):=by
 by_cases hx:xs=[]
 ·subst hx;have:h=0:=by simpa using h2
  subst this;have hl0:l=0:=by omega
  subst hl0;have:((if cap=0 then some a else(some a).map (·.add (0*aT t))):Option Addr)=some a:=by
   split
   ·rfl
   ·simp[Addr.add]
  rw[this];exact .sl t [] a (cap-0) [] 0 rfl (by omega) (fun hx=>absurd rfl hx) rfl (fun j u hu=>by simp at hu) (fun j h=>by simp[flat] at h)
 ·have kA:a.spot=none:=by
   have mI:0<cs.length:=by rw[hr.1,eW];exact Nat.mul_pos (List.length_pos_iff.mpr hx) (lK t)
   have h1:=hc 0 cs[0] (List.getElem?_eq_getElem mI);have h2:a.add 0=a:=by unfold Addr.add;simp
   rw[h2] at h1;unfold World.cell? at h1;split at h1
   ·cases hs:a.spot with
    |none=>rfl
    |some _=>simp[hs] at h1
   ·cases h1
  obtain⟨og,CM,aq2⟩:=a;simp only at kA;subst kA;have hcs:hV w og CM cs:=fun j v hv=>by have:=hc j v hv;rwa[gM] at this
  split
  ·rename_i e;exact QK hb hr hcs l h h1 h2 _ _ (by omega) (.inr (by omega)) rfl
  ·simp only[Option.map_some,gM];exact QK hb hr hcs l h h1 h2 _ _ (by omega) (.inl rfl) rfl
theorem Nl{v:aJ}{us mM:List (Nat×Site)}(e:bm st.sites us=bm st.sites mM)(h:cE P O Y X st M w B v us):cE P O Y X st M w B v mM:=by
 have:st.cT B.dst v mM=st.cT B.dst v us:=by cases B.dst<;>simp only[ah.cT,ah.ut,e]
 intro K Q bM;rw[this] at bM;exact h K Q bM
theorem aee(S:am O Y X D st M w){C:Ctx}(H:CtxOk P C){T:TypeId}{x:Operand}{cQ hi:Option Operand}(aE:B.op=.slice T x cQ hi none)(Z:ch st B.dst=true):
  Holds (sj (C.tt T) st (a7 C st T x) (cQ.map (a7 C st 0)) (hi.map (a7 C st 0))) (cE P O Y X st M w B):=by
 have bu:=dB S C T x;have qx:∀{cQ:Option Operand} {lk l:Int},iD lk (cQ.map (a7 C st 0))=some l->(cQ.map (Act.eval ⟨M,[]⟩)=none/\l=lk)\/∃k,cQ.map (Act.eval ⟨M,[]⟩)=some (.int k l):=by
  intro cQ lk l h;rcases O7 S h with⟨rfl,af⟩|⟨x,k,rfl,af⟩
  ·exact .inl ⟨rfl,af⟩
  ·exact .inr ⟨k,by simp[af]⟩
 have runs:∀{vv:Value},(Instr.sliceAt T (Act.eval ⟨M,[]⟩ x) (cQ.map (Act.eval ⟨M,[]⟩)) (hi.map (Act.eval ⟨M,[]⟩)) none).run P w=.ok vv w->(execOp (Act.eval ⟨M,[]⟩) B).run P w=.ok (.value vv) w:=by
  intro vv h;unfold execOp;simp only[aE,Option.map_none,Sem.run_bind,h,Result.andThen_ok,Sem.run_pure]
 have u6:∀{e:TypeId} {t:a6} {bytes:Nat} {a:Option Addr} {len cap:Nat} {l h:Int},C.tt T=.slice e t bytes->Act.eval ⟨M,[]⟩ x=.slice a len cap->iD 0 (cQ.map (a7 C st 0))=some l->iD len (hi.map (a7 C st 0))=some h->
   0<=l->l<=h->h<=len->len<=cap->(execOp (Act.eval ⟨M,[]⟩) B).run P w=.ok (.value (.slice (if cap=l.toNat then a else a.map (·.add (l.toNat*aT t))) (h.toNat-l.toNat) (cap-l.toNat))) w:=by
  intro e t bytes a len cap l h be hx fU hhi h0 h1 h2 hc;obtain⟨ft,inf,z,ks,jz,_⟩:=xj H be;refine runs ?_
  have hb:=De (P:=P) (w:=w) true len cap (cQ.map (Act.eval ⟨M,[]⟩)) (hi.map (Act.eval ⟨M,[]⟩)) l h (qx fU) (qx hhi) h0 h1 h2 hc;simp only[Instr.sliceAt,Instr.slice,Sem.run_bind,run_underlying ft,Result.andThen_ok,hx,hb,sizeOf,kT ks,jz,Sem.run_pure]
 unfold sj;split
 ·rename_i s b4;rw[b4] at bu;obtain⟨b,hx,hs⟩:=gv bu;split
  ·rename_i l h be fU hhi;have bF:=H.tt T;rw[be] at bF;refine Holds.eo fun r hr=>?_
   have dp:br s l h=some r:=hr;unfold br at dp;split at dp
   ·rename_i hb;obtain⟨h0,h1,h2⟩:=hb;cases dp;have hsz:s.length=b.size:=by rw[<-hs];rfl
    rw[hsz] at h2 hhi;refine dH S Z (vv:=.string (b.extract l.toNat h.toNat)) (runs ?_) (.str _ _ ?_)
    ·have hb:=De (P:=P) (w:=w) false b.size b.size (cQ.map (Act.eval ⟨M,[]⟩)) (hi.map (Act.eval ⟨M,[]⟩)) l h (qx fU) (qx hhi) h0 h1 h2 (Nat.le_refl _);simp[Instr.sliceAt,Instr.slice,run_underlying bF.1,hx,hb]
    ·rw[ad8 b _ _ (by omega),hs]
   ·cases dp
  ·exact .fail
 ·rename_i t xs b4;rw[b4] at bu;have bu:bD w (ay X D st.sites) (.sl t xs) (Act.eval ⟨M,[]⟩ x):=bu;split
  ·rename_i e u bytes l h be fU hhi;split;case isFalse=>exact .fail
   rename_i n3;subst n3;refine Holds.eo fun r hr=>?_
   have dp:br xs l h=some r:=hr;unfold br at dp;split at dp
   ·rename_i hb;obtain⟨h0,h1,h2⟩:=hb;cases dp;generalize hx:Act.eval ⟨M,[]⟩ x=v at bu;cases bu with
    |nil=>
     have bP:h=0:=by simp at h2;omega
     have hl:l=0:=by omega
     subst bP hl;refine dH S Z (u6 be hx fU hhi h0 h1 h2 (Nat.le_refl _)) ?_
     simp only[List.take_nil,List.drop_nil];exact bD.nil t
    |sl _ _ a cap cs m hm hcap hb hl hc hr=>
     subst hm;refine dH S Z (u6 be hx fU hhi h0 h1 h2 hcap) ?_
     exact FW hb ⟨hl,hr⟩ hc l.toNat h.toNat cap (by omega) (by omega) hcap
   ·cases dp
  ·exact .fail
 ·rename_i t b4;rw[b4] at bu;have hx:Act.eval ⟨M,[]⟩ x=.slice none 0 0:=bu;split
  ·rename_i e u bytes l h be fU hhi;refine Holds.eo fun r hr=>?_
   have dp:br ([]:List (den t)) l h=some r:=hr;unfold br at dp;split at dp
   ·rename_i hb;obtain⟨h0,h1,h2⟩:=hb;cases dp;have bP:h=0:=by simp at h2;omega
    have hl:l=0:=by omega
    subst bP hl;refine dH S Z (u6 be hx fU hhi h0 h1 h2 (Nat.le_refl _)) ?_
    simp only[List.take_nil,List.drop_nil];exact bD.nil t
   ·cases dp
  ·exact .fail
 ·rename_i o s b4;rw[b4] at bu;split
  ·rename_i t xs hrow;split
   ·rename_i e u bytes l h be fU hhi;split;case isFalse=>exact .fail
    rename_i n3;subst n3;refine Holds.hH fun r hr=>?_
    have dp:br xs l h=some r:=hr;unfold br at dp;split at dp
    ·rename_i hb;obtain⟨h0,h1,h2⟩:=hb;cases dp;refine Nl (us:=[(o,.di s t xs)]) (OZ hrow).symm ?_
     have hfz:dI st.sites [(o,.di s t xs)]:=by
      intro aa ab hm;simp only[List.mem_singleton,Prod.mk.injEq] at hm;obtain⟨rfl,rfl⟩:=hm;exact⟨s,t,xs,rfl,jO hrow⟩
     have aX:kS O Y X D st M w [(o,.di s t xs)]:=⟨S,hfz⟩;have J7:=CR hfz (List.mem_singleton.2 rfl);obtain⟨dK,R1⟩:=aX.new.sites o _ J7;have hv:Act.eval ⟨M,[]⟩ x=D o:=by
      rcases jO hrow with h1|h1<;>exact Ref.at bu.2 h1 rfl
     generalize hx:D o=v at dK R1;rw[hx] at hv;cases dK with
     |nil=>
      have bP:h=0:=by simp at h2;omega
      have hl:l=0:=by omega
      subst bP hl;refine kV (us:=[(o,.di s t [])]) aX.new Z (u6 be hv fU hhi h0 h1 h2 (Nat.le_refl _)) ?_
      simp only[List.take_nil,List.drop_nil];exact bD.nil t
     |sl _ _ a cap cs m hm hcap hb hl hc hr=>
      subst hm;refine kV (us:=[(o,.di s t xs)]) aX.new Z (u6 be hv fU hhi h0 h1 h2 hcap) ?_
      exact FW hb ⟨hl,hr⟩ hc l.toNat h.toNat cap (by omega) (by omega) hcap
    ·cases dp
   ·exact .fail
  ·exact .fail
 ·exact .fail
end
section
variable {P:Program}{O:World}{Y:List Nat}{X:Nat->Prop}{D:Nat->Value}{st:ah}{M:Array Value}{w:World}{B:Oper}
theorem PT{av:Nat->Prop}{o s:Nat}{t:a6}{xs:List (den t)}{v:Value}(h:cc D st.sites w av (bZ (.own o s)) v)(hr:rowOf st o s=some ⟨t,xs⟩):v=D o:=by
 rcases jO hr with h1|h1<;>exact Ref.at h.2 h1 rfl
theorem PZ(S:am O Y X D st M w){l:aF}{v:Value}{t:a6}{es:List (F×den t)}(h:dQ D st.sites w (ay X D st.sites) l v)(hm:mapOf st l=some ⟨t,es⟩):
  (v=.map none/\es=[])\/∃b,v=.map (some b)/\lT w b t es:=by
 unfold mapOf at hm;split at hm
 ·cases hm;have h:bD w (ay X D st.sites) (.map t es) v:=h;cases h with
  |vu=>exact .inl ⟨rfl,rfl⟩
  |map _ _ b hb hm=>exact .inr ⟨b,rfl,hm⟩
 ·rename_i o s;split at hm
  ·rename_i aC u tC hl;cases hb:aC.beq s with
   |false=>rw[hb] at hm;cases hm
   |true=>
    rw[hb] at hm;have hs:=Nat.eq_of_beq_eq_true hb;subst hs;cases hm;have hl:look st.sites o=some (.map aC _ es):=hl;have hv:v=D o:=Ref.at h.2 hl rfl;obtain⟨b,h1,h2⟩:=S.sites o _ hl;exact .inr ⟨b,hv.trans h1,h2⟩
  ·cases hm
 ·cases hm
theorem lT.size{b:Nat}{t:a6}{es:List (F×den t)}{arr:Array MapEntry}(h:my arr=jV t es):arr.size=es.length:=by
 have:=congrArg List.length h;simpa[my,jV] using this
theorem air(S:am O Y X D st M w){C:Ctx}(H:CtxOk P C){T:TypeId}{x:Operand}(aE:B.op=.call {callee:=.builtin .len,args:=#[x],argTypes:=#[T]})(Z:ch st B.dst=true):
  Holds (sX (C.tt T) st (a7 C st T x)) (cE P O Y X st M w B):=by
 have bu:=dB S C T x;have bF:=H.tt T;have run:∀{vv:Value},(Builtin.len_ #[T] B.type #[Act.eval ⟨M,[]⟩ x]).run P w=.ok vv w->(execOp (Act.eval ⟨M,[]⟩) B).run P w=.ok (.value vv) w:=by
  intro vv h;unfold execOp;simp only[aE,resolve,invoke,builtin,Sem.run_bind,Sem.run_pure,Result.andThen_ok,List.map_toArray,List.map_cons,List.map_nil,h]
 unfold sX;split
 ·rename_i s be b4;rw[b4] at bu;rw[be] at bF;obtain⟨b,hx,hs⟩:=gv bu;refine Holds.ok (dH S Z (run (vv:=.int .i64 s.length) ?_) (.int _ _));have:s.length=b.size:=by rw[<-hs];rfl
  simp[Builtin.len_,hx,run_underlying bF.1,goInt,this]
 ·rename_i e t b u xs be b4;rw[b4] at bu;rw[be] at bF;have bu:bD w (ay X D st.sites) (.sl u xs) (Act.eval ⟨M,[]⟩ x):=bu;refine Holds.ok (dH S Z (run (vv:=.int .i64 xs.length) ?_) (.int _ _));generalize Act.eval ⟨M,[]⟩ x=v at bu;cases bu with
  |nil=>simp[Builtin.len_,run_underlying bF.1.1,goInt]
  |sl _ _ a cap cs n hn hcap hb hl hc hr=>simp[Builtin.len_,run_underlying bF.1.1,goInt,hn]
 ·rename_i e t b u be b4;rw[b4] at bu;rw[be] at bF;have hx:Act.eval ⟨M,[]⟩ x=.slice none 0 0:=bu;exact Holds.ok (dH S Z (run (vv:=.int .i64 0) (by simp[Builtin.len_,hx,run_underlying bF.1.1,goInt])) (.int _ _))
 ·rename_i e t b o s be b4;rw[b4] at bu;rw[be] at bF;split
  ·rename_i u xs hrow;have hv:=PT bu hrow;refine Holds.ok (dH S Z (run (vv:=.int .i64 xs.length) ?_) (.int _ _));obtain⟨cs,_,hc⟩:=S.row hrow;rcases hc with⟨h1,h2⟩|⟨bI,c,h1,_⟩
   ·subst h2;simp[Builtin.len_,hv,h1,run_underlying bF.1.1,goInt]
   ·simp[Builtin.len_,hv,h1,run_underlying bF.1.1,goInt]
  ·exact .fail
 ·rename_i hP kO u l be b4;rw[b4] at bu;rw[be] at bF;split
  ·rename_i b5 es hm;refine Holds.ok (dH S Z (run (vv:=.int .i64 es.length) ?_) (.int _ _));rcases PZ S bu hm with⟨h1,rfl⟩|⟨b,h1,arr,c,h2,h3⟩
   ·simp[Builtin.len_,h1,run_underlying bF.1.1,goInt]
   ·have hsz:=lT.size (b:=b) h3;simp[Builtin.len_,h1,run_underlying bF.1.1,goInt,MapKept.run_getObj_map h2,hsz,Result.andThen]
  ·exact .fail
 ·exact .fail
theorem ae7(S:am O Y X D st M w){C:Ctx}(H:CtxOk P C){T:TypeId}{x i:Operand}{s:F}{k:IntKind}{n:Int}(aE:B.op=.index T x i)(Z:ch st B.dst=true)(be:C.tt T=.str)
  (hx:a7 C st T x=.av (.ak (.d (.str s)))) (hi:a7 C st 0 i=.av (.ak (.d (.int k n)))):Holds (.eo (aU s n) fun b=>one (.int .u8 b.toNat)) (cE P O Y X st M w B):=by
 have bF:=H.tt T;rw[be] at bF;obtain⟨b,hb,hs⟩:=aiF S hx;have hn:=jT S hi;refine Holds.eo fun y hy=>?_
 have dW:aU s n=some y:=hy;unfold aU at dW;split at dW
 ·rename_i h0;refine dH S Z (vv:=.int .u8 y.toNat) ?_ (.int _ _);have s3:b[n.toNat]? =some y:=by
   have:n.toNat<s.length:=by
    rcases Nat.lt_or_ge n.toNat s.length with h|h
    ·exact h
    ·rw[List.getElem?_eq_none h] at dW;cases dW
   rw[<-hs] at dW this;have hsz:n.toNat<b.size:=this;rw[getElem?_pos b n.toNat hsz];rw[List.getElem?_eq_getElem this] at dW;have h3:b.data[n.toNat]=y:=by simpa using dW
   rw[<-h3];rfl
  unfold execOp;simp[aE,hb,hn,Instr.index,asIntOf,run_underlying bF.1,h0,s3]
 ·cases dW
theorem bytes_beq(x y:ByteArray):(x==y)=(x.data.toList==y.data.toList):=by
 obtain⟨a⟩:=x;obtain⟨b⟩:=y;have h:((⟨a⟩:ByteArray)==⟨b⟩)=(a==b):=rfl;rw[h,Bool.eq_iff_iff];simp
theorem aff:∀{z ad:List aF} {vs:List Value},qz z ad=true->cr D st.sites w (ay X D st.sites) ad vs->o7 z vs=true:=by
 intro z;induction z with
 |nil=>
  intro ad vs h h1;cases ad with
  |nil=>rw[h1.ny];rfl
  |cons l ad=>cases h
 |cons c z ih=>
  intro ad vs h h1;unfold qz at h;split at h
  ·rename_i hz;cases hz
  ·rename_i b4;cases b4;obtain⟨v,ck,rfl,a1,a2⟩:=h1.inv;rw[ic a1];exact ih h a2
  ·rename_i b4;cases b4;obtain⟨v,ck,rfl,a1,a2⟩:=h1.inv;rw[jt a1];exact ih h a2
  ·rename_i b4;cases b4;obtain⟨v,ck,rfl,a1,a2⟩:=h1.inv;obtain⟨x,rfl,hx⟩:=gv a1;exact ih h a2
  ·cases h
theorem aaq:∀{ad iQ:List aF} {vs us:List Value} {b:Bool},uM ad iQ=some b->cr D st.sites w (ay X D st.sites) ad vs->cr D st.sites w (ay X D st.sites) iQ us->jq vs us=some b:=by
 have leaf:∀{d e:aZ} {v u:Value} {b:Bool} {av:Nat->Prop},An d e=some b->bD w av d v->bD w av e u->nw v u=some b:=by
  intro d e v u b av h h1 h2;unfold An at h;split at h
  ·rw[ic h1,ic h2];exact h
  ·rw[jt h1,jt h2];exact h
  ·obtain⟨x,rfl,hx⟩:=gv h1;obtain⟨y,rfl,hy⟩:=gv h2;subst hx hy;cases h;show some (x==y)=some (x.data.toList==y.data.toList);rw[bytes_beq]
  ·cases h
 intro ad;induction ad with
 |nil=>intro iQ vs us b h _ _;cases iQ<;>simp[uM] at h
 |cons l ad ih=>
  intro iQ vs us b h h1 h2;obtain⟨v,ck,rfl,a1,a2⟩:=h1.inv;unfold uM at h;split at h
  ·rename_i d e b4;cases b4;obtain⟨u,mM,rfl,b1,b2⟩:=h2.inv;rw[a2.ny,b2.ny];exact leaf h a1 b1
  ·rename_i d ds e es hne b4;cases b4;obtain⟨u,mM,rfl,b1,b2⟩:=h2.inv;split at h
   ·rename_i x y hx hy;cases h;have e1:=leaf hx a1 b1;have e2:=ih hy a2 b2;match ck,mM,e2 with
    |[],[],e2=>simp[jq] at e2
    |[],_::_,e2=>simp[jq] at e2
    |_::_,[],e2=>simp[jq] at e2
    |v2::aub,u2::auc,e2=>rw[jq,e1,e2];simp
   ·cases h
  ·cases h
theorem run_equal_bool{T:TypeId}(h:P.underlying T=some .bool)(a b:Bool):(Op.equal T (.bool a) (.bool b)).run P w=.ok (a==b) w:=by
 have e:Op.maxDepth=9999+1:=rfl;unfold Op.equal;rw[e];unfold Op.equalIn;simp only[Sem.run_bind,run_underlying h,Result.andThen_ok,Sem.run_pure]
theorem run_eql_bool{T:TypeId}(h:P.underlying T=some .bool)(a b:Bool):(binOp .eql T (.bool a) (.bool b)).run P w=.ok (.bool (a==b)) w:=by
 show((do pure (.bool (<-Op.equal T (.bool a) (.bool b)))):Sem Value).run P w=_
 simp only[Sem.run_bind,run_equal_bool h,Result.andThen_ok,Sem.run_pure]
theorem run_neq_bool{T:TypeId}(h:P.underlying T=some .bool)(a b:Bool):(binOp .neq T (.bool a) (.bool b)).run P w=.ok (.bool (!(a==b))) w:=by
 show((do pure (.bool (!(<-Op.equal T (.bool a) (.bool b))))):Sem Value).run P w=_
 simp only[Sem.run_bind,run_equal_bool h,Result.andThen_ok,Sem.run_pure]
theorem ahi(S:am O Y X D st M w){C:Ctx}(H:CtxOk P C){op:BinOp}{T mZ:TypeId}{x y:Operand}(aE:B.op=.binOp op T x y mZ)(Z:ch st B.dst=true):
  Holds (IT op (C.tt T) (a7 C st T x) (a7 C st T y)) (cE P O Y X st M w B):=by
 have hx:=dB S C T x;have hy:=dB S C T y;have bF:=H.tt T;have run:∀{vv:Value},(eqGuard op T x y (Act.eval ⟨M,[]⟩ x) (Act.eval ⟨M,[]⟩ y)).run P w=.ok () w->(binOp op T (Act.eval ⟨M,[]⟩ x) (Act.eval ⟨M,[]⟩ y)).run P w=.ok vv w->
   (execOp (Act.eval ⟨M,[]⟩) B).run P w=.ok (.value vv) w:=by
  intro vv h1 h2;unfold execOp;simp only[aE,Sem.run_bind,h1,h2,Result.andThen_ok,Sem.run_pure]
 have plain:∀{r:de},(eqGuard op T x y (Act.eval ⟨M,[]⟩ x) (Act.eval ⟨M,[]⟩ y)).run P w=.ok () w->Holds r (Plain P w (binOp op T (Act.eval ⟨M,[]⟩ x) (Act.eval ⟨M,[]⟩ y)))->Holds r (cE P O Y X st M w B):=by
  intro r h1 h2 z hz hc;obtain⟨vv,d,g1,g2,g3,g4⟩:=h2 z hz hc;rw[g2,g3];exact dH S Z (run h1 g1) (g4 _)
 unfold IT;split
 ·rename_i k a k' b hxe hye;rw[hxe] at hx;rw[hye] at hy;refine plain (by rw[ic hx,ic hy];exact ZB _ _ _ _ _ _ _ _) ?_
  rw[ic hx,ic hy];unfold Q1;split
  ·refine Holds.eo fun n hn=>?_
   have iq:lh k a b=some n:=hn;unfold lh at iq;split at iq
   ·cases iq
   ·rename_i hb;cases iq;exact .mk (by simp[binOp,Op.shift,hb]) fun av=>.int _ _
  ·refine Holds.eo fun n hn=>?_
   have iq:e7 k a b=some n:=hn;unfold e7 at iq;split at iq
   ·cases iq
   ·rename_i hb;cases iq;exact .mk (by simp[binOp,Op.shift,hb]) fun av=>.int _ _
  ·rename_i h1 h2;split
   ·rename_i hk;subst hk;exact ack _ T k a b h1 h2
   ·exact .fail
 ·rename_i s t hxe hye;rw[hxe] at hx;rw[hye] at hy;obtain⟨a,ha,hs⟩:=gv hx;obtain⟨b,hb,aq⟩:=gv hy;subst hs aq;refine plain (by rw[ha,hb];exact Zn _ _ _ _ _ _) ?_
  rw[ha,hb];exact aci op T a b
 ·rename_i a b hxe hye;rw[hxe] at hx;rw[hye] at hy;unfold Rj;split
  ·rename_i be;rw[be] at bF;split
   ·refine plain (by rw[jt hx,jt hy];exact LL _ _ _ _ _ _) (Holds.ok ?_)
    rw[jt hx,jt hy];exact .mk (run_eql_bool bF.1 _ _) fun av=>.bool _
   ·refine plain (by rw[jt hx,jt hy];exact LL _ _ _ _ _ _) (Holds.ok ?_)
    rw[jt hx,jt hy];exact .mk (run_neq_bool bF.1 _ _) fun av=>.bool _
   ·exact .fail
  ·exact .fail
 ·rename_i xs bd hxe hye;rw[hxe] at hx;rw[hye] at hy;unfold R7;split
  ·rename_i bK n z be;rw[be] at bF;cases hl:xs.length.beq n&&qz z xs with
   |false=>exact .fail
   |true=>
    simp only[cond_true];simp only[Bool.and_eq_true] at hl;have gj:=Nat.eq_of_beq_eq_true hl.1;split
    ·rename_i b hb;obtain⟨vs,hv,pd,pc⟩:=hx;obtain⟨us,hu,JR,JQ⟩:=hy;have tw:=aaq hb ⟨pd,pc⟩ ⟨JR,JQ⟩;obtain⟨fields,ft,_,⟨fV,hz,_,_⟩,b4⟩:=bF;obtain⟨hg,IE⟩:=b4 rfl;have:=IE vs us b w tw (aff hl.2 ⟨pd,pc⟩);split
     ·refine plain ?_ (Holds.ok ?_)
      ·rw[hv,hu];simp[eqGuard,hg]
      ·rw[hv,hu];refine .mk (vv:=.bool b) ?_ fun av=>.bool _
       show((do pure (.bool (<-Op.equal T (.agg vs.toArray) (.agg us.toArray)))):Sem Value).run P w=_
       simp only[Sem.run_bind,this,Result.andThen_ok,Sem.run_pure]
     ·refine plain ?_ (Holds.ok ?_)
      ·rw[hv,hu];simp[eqGuard,hg]
      ·rw[hv,hu];refine .mk (vv:=.bool (!b)) ?_ fun av=>.bool _
       show((do pure (.bool (!(<-Op.equal T (.agg vs.toArray) (.agg us.toArray))))):Sem Value).run P w=_
       simp only[Sem.run_bind,this,Result.andThen_ok,Sem.run_pure]
     ·exact .fail
    ·exact .fail
  ·exact .fail
 ·exact .fail
theorem _h{T:TypeId}{iQ:Array (String×TypeId)}(aq:P.underlying T=some (.interface iQ))(gr:TypeId)(cY:Option Int)(v:Value)(hv:v=match cY with|none=>.nilIface|some n=>.iface gr (.agg #[.int .i64 n])):
  (Op.equal T v .nilIface).run P w=.ok cY.isNone w:=by
 have h:∀d:Nat,(Op.equalIn (d+1) T v .nilIface).run P w=.ok cY.isNone w:=fun d=>by
  subst hv;cases cY<;>simp[Op.equalIn,run_underlying aq]
 exact h 9999
theorem adn(S:am O Y X D st M w){C:Ctx}(H:CtxOk P C){op:BinOp}{T mZ:TypeId}{x y:Operand}(aE:B.op=.binOp op T x y mZ)(Z:ch st B.dst=true)(hn:Ap y=true):
  Holds (HJ op (C.tt T) (a7 C st T x)) (cE P O Y X st M w B):=by
 have hy:y=.const .nilIface:=by
  unfold Ap at hn;split at hn
  ·rfl
  ·cases hn
 subst hy;have hx:=dB S C T x;have bF:=H.tt T;have key:∀(gr:TypeId) (cY:Option Int),(Act.eval ⟨M,[]⟩ x=match cY with|none=>.nilIface|some n=>.iface gr (.agg #[.int .i64 n]))->Holds (A_ op (C.tt T) cY) (cE P O Y X st M w B):=by
  intro gr cY hv;unfold A_;split
  ·rename_i be;rw[be] at bF;obtain⟨iQ,bF⟩:=bF;have he:=_h (P:=P) (w:=w) bF.1 gr cY _ hv;have hg:(eqGuard op T x (.const .nilIface) (Act.eval ⟨M,[]⟩ x) .nilIface).run P w=.ok () w:=by
    rw[hv];cases cY<;>cases op<;>simp[eqGuard]
   split
   ·refine Holds.ok (dH S Z (vv:=.bool cY.isNone) ?_ (.bool _));unfold execOp;simp only[aE,Act.eval,Sem.run_bind,Result.andThen_ok,Sem.run_pure] at hg ⊢;rw[hg];simp only[Result.andThen_ok];have:(binOp .eql T (Act.eval ⟨M,[]⟩ x) .nilIface).run P w=.ok (.bool cY.isNone) w:=by
     have e:binOp .eql T (Act.eval ⟨M,[]⟩ x) .nilIface=(do pure (.bool (<-Op.equal T (Act.eval ⟨M,[]⟩ x) .nilIface))):=by rw[hv];cases cY<;>rfl
     rw[e];simp only[Sem.run_bind,he,Result.andThen_ok,Sem.run_pure]
    simp only[Act.eval] at this;rw[this];rfl
   ·refine Holds.ok (dH S Z (vv:=.bool cY.isSome) ?_ (.bool _));unfold execOp;simp only[aE,Act.eval,Sem.run_bind,Result.andThen_ok,Sem.run_pure] at hg ⊢;rw[hg];simp only[Result.andThen_ok];have:(binOp .neq T (Act.eval ⟨M,[]⟩ x) .nilIface).run P w=.ok (.bool cY.isSome) w:=by
     have e:binOp .neq T (Act.eval ⟨M,[]⟩ x) .nilIface=(do pure (.bool (!(<-Op.equal T (Act.eval ⟨M,[]⟩ x) .nilIface)))):=by rw[hv];cases cY<;>rfl
     rw[e];simp only[Sem.run_bind,he,Result.andThen_ok,Sem.run_pure];cases cY<;>rfl
    simp only[Act.eval] at this;rw[this];rfl
   ·exact .fail
  ·exact .fail
 unfold HJ;split
 ·rename_i gr cY hxe;rw[hxe] at hx;have hx:bD w (ay X D st.sites) (.err gr cY) (Act.eval ⟨M,[]⟩ x):=hx;exact key gr cY (by revert hx;generalize Act.eval ⟨M,[]⟩ x=vv;intro hx;cases hx<;>rfl)
 ·rename_i hxe;rw[hxe] at hx;exact key 0 none hx
 ·exact .fail
theorem Zt(S:am O Y X D st M w){C:Ctx}(H:CtxOk P C){T:TypeId}{x:Operand}{n:Int}{bK z q e}(aE:B.op=.makeInterface T x)(Z:ch st B.dst=true)(be:C.tt T=.struct bK q z e)
  (hx:a7 C st T x=.av (.agg [.d (.int .i64 n)])):cE P O Y X st M w B (one (.err T (some n))) []:=by
 have bF:=H.tt T;rw[be] at bF;obtain⟨fields,hu,_⟩:=bF;have bu:=dB S C T x;rw[hx] at bu;obtain⟨vs,h1,h2,h3⟩:=bu;match vs,h2,h1,h3 with
 |[v],_,h1,h3=>
  have hv:=ic (h3 0 (by simp) (by simp))
  simp only[List.getElem_cons_zero] at hv;subst hv;refine dH S Z (vv:=.iface T (.agg #[.int .i64 n])) ?_ (.err _ _);unfold execOp;simp[aE,Instr.makeInterface,run_underlying hu,h1]
end
section
variable {P:Program}{O:World}{Y:List Nat}{X:Nat->Prop}{D:Nat->Value}{st:ah}{M:Array Value}{w:World}{B:Oper}
theorem sb(xs:List Int):flat .u8 xs=xs.map (aZ.int .u8):=by
 unfold flat;induction xs with
 |nil=>rfl
 |cons x xs ih=>simp only[List.flatMap_cons,List.map_cons,ih];rfl
theorem QJ{w:World}{av:Nat->Prop}{xs:List Int}{cs:List Value}(h:cX w av (flat .u8 xs) cs):cs=xs.map (Value.int .u8):=by
 obtain⟨h1,h2⟩:=h;rw[sb] at h1;apply List.ext_getElem
 ·rw[h1];simp
 ·intro j g1 g2;have g3:j<xs.length:=by simpa using g2
  have:=h2 j (by rw[sb];simpa using g3) g1
  have e:(flat .u8 xs)[j]'(by rw[sb];simpa using g3)=aZ.int .u8 xs[j]:=by simp[sb]
  rw[e] at this;rw[ic this];simp
theorem LY{src dst e:TypeId}{a:Addr}{len cap:Nat}{xs:List Int}(hs:P.underlying src=some (.slice e))(he:P.underlying e=some (.int .u8))(Z:P.underlying dst=some .string)
  (hlen:xs.length=len) (hc:∀j u,(xs.map (Value.int .u8))[j]? =some u->w.cell? (a.add j)=some u):
  ∃b:ByteArray,(convert src dst (.slice (some a) len cap)).run P w=.ok (.string b) w/\b.data.toList=strOf xs:=by
 have hl:(loadCells a len).run P w=.ok (xs.map (Value.int .u8)).toArray w:=by
  have:=run_loadCells_list (P:=P) w a (xs.map (Value.int .u8)) hc;simpa[hlen] using this
 rw[run_convert_bytes_string w src dst e _ len cap hs he Z,run_bytesToString w a len cap xs hl,foldl_push_bytes];exact⟨_,rfl,by simp[strOf]⟩
theorem xp{ti:b_}(h:isByte ti=true):ti=.int .u8:=by
 unfold isByte at h;split at h
 ·rfl
 ·cases h
theorem adv(s:F):(bytesOf s).length=s.length:=by simp[bytesOf]
theorem afq(S:am O Y X D st M w){C:Ctx}(H:CtxOk P C){src dst:TypeId}{x:Operand}{o:Nat}(aE:B.op=.convert src dst x)(dC:B.dst=some o)(Z:ch st B.dst=true):
  Holds (sP C src dst o st (a7 C st src x)) (cE P O Y X st M w B):=by
 have bu:=dB S C src x;have hs:=H.tt src;have aq:=H.tt dst;have run:∀{vv:Value} {w':World},(convert src dst (Act.eval ⟨M,[]⟩ x)).run P w=.ok vv w'->(execOp (Act.eval ⟨M,[]⟩) B).run P w=.ok (.value vv) w':=by
  intro vv w' h;unfold execOp;simp only[aE,Sem.run_bind,h,Result.andThen_ok,Sem.run_pure]
 have qC:∀{ti:b_},ti.ok P src->ti≠.none->∃d,P.underlying src=some d:=by
  intro ti h hn;cases ti with
  |none=>exact absurd rfl hn
  |int k=>exact⟨_,h.1⟩
  |bool=>exact⟨_,h.1⟩
  |str=>exact⟨_,h.1⟩
  |ptr=>obtain⟨_,h⟩:=h;exact⟨_,h.1⟩
  |func=>obtain⟨_,_,_,h⟩:=h;exact⟨_,h.1⟩
  |iface=>obtain⟨_,h⟩:=h;exact⟨_,h.1⟩
  |slice e t b=>exact⟨_,h.1.1⟩
  |map k e t=>exact⟨_,h.1.1⟩
  |struct bK n z eq=>obtain⟨f,h,_⟩:=h;exact⟨_,h⟩
  |arr e t n=>exact⟨_,h.1⟩
 unfold sP;split
 ·exact .fail
 ·rename_i k k' n hk hx hn;rw[hx] at bu;rw[hk] at aq;obtain⟨d,qU⟩:=qC hs (by rintro h;exact absurd h (by simpa using hn))
  refine Holds.ok (dH S Z (run (vv:=.int k (k.wrap n)) ?_) (.int _ _));rw[ic bu];simp[convert,run_underlying qU,run_underlying aq.1,Conv.intToInt]
 ·rename_i s hk hx hn;rw[hx] at bu;rw[hk] at aq;obtain⟨b,hb,ep⟩:=gv bu;obtain⟨d,qU⟩:=qC hs (by rintro h;exact absurd h (by simpa using hn))
  refine Holds.ok (dH S Z (run (vv:=.string b) ?_) (.str _ _ ep));rw[hb];simp[convert,run_underlying qU,run_underlying aq.1]
 ·rename_i e b xs e' qk hx;cases jI:isByte (C.tt e) with
  |false=>exact .fail
  |true=>
   rw[hx] at bu;rw[qk] at aq;rw[e'] at hs;have he:=H.tt e;rw[xp jI] at he;have bu:bD w (ay X D st.sites) (.sl .u8 xs) (Act.eval ⟨M,[]⟩ x):=bu;have:∃b:ByteArray,(convert src dst (Act.eval ⟨M,[]⟩ x)).run P w=.ok (.string b) w/\b.data.toList=strOf xs:=by
    generalize Act.eval ⟨M,[]⟩ x=v at bu;cases bu with
    |nil=>exact⟨_,run_convert_bytes_nil w src e hs.1.1 he.1 _ _ dst aq.1,rfl⟩
    |sl _ _ a cap cs n hn hcap hb hl hc hr=>
     have:=QJ (xs:=xs) ⟨hl,hr⟩;subst this;exact LY hs.1.1 he.1 aq.1 hn.symm hc
   obtain⟨b,h1,h2⟩:=this;exact Holds.ok (dH S Z (run h1) (.str _ _ h2))
 ·rename_i e b u e' qk hx;cases jI:isByte (C.tt e) with
  |false=>exact .fail
  |true=>
   rw[hx] at bu;rw[qk] at aq;rw[e'] at hs;have he:=H.tt e;rw[xp jI] at he;have bu:Act.eval ⟨M,[]⟩ x=.slice none 0 0:=bu;refine Holds.ok (dH S Z (run (vv:=.string ByteArray.empty) ?_) (.str _ _ rfl));rw[bu];exact run_convert_bytes_nil w src e hs.1.1 he.1 _ _ dst aq.1
 ·rename_i e b aa s e' qk hx;split
  ·rename_i xs hrow;cases jI:isByte (C.tt e) with
   |false=>exact .fail
   |true=>
    rw[hx] at bu;rw[qk] at aq;rw[e'] at hs;have he:=H.tt e;rw[xp jI] at he;have hv:=PT bu hrow;have:∃b:ByteArray,(convert src dst (Act.eval ⟨M,[]⟩ x)).run P w=.ok (.string b) w/\b.data.toList=strOf xs:=by
     rw[hv];obtain⟨cs,h1,hc⟩:=S.row hrow;rcases hc with⟨h2,h3⟩|⟨bI,c,h2,h3,aw⟩
     ·subst h3;rw[h2];exact⟨_,run_convert_bytes_nil w src e hs.1.1 he.1 _ _ dst aq.1,rfl⟩
     ·have:=QJ (xs:=xs) (iY h1);subst this;rw[h2];exact LY hs.1.1 he.1 aq.1 rfl (fun j u hu=>by rw[gM];exact h3 j u hu)
    obtain⟨b,h1,h2⟩:=this;exact Holds.ok (dH S Z (run h1) (.str _ _ h2))
  ·exact .fail
 ·rename_i e b s e' qk hx;cases jI:isByte (C.tt e) with
  |false=>exact .fail
  |true=>
   rw[hx] at bu;rw[qk] at aq;rw[e'] at hs;have he:=H.tt e;rw[xp jI] at he;obtain⟨gE,hb,ep⟩:=gv bu;have dm:(convert src dst (Act.eval ⟨M,[]⟩ x)).run P w=.ok (.slice (some ⟨w.heap.size,0,none⟩) gE.size (grownCap w gE.size 0 e)) (Go.Lib.bytesWorld w e gE):=by
    rw[hb];exact Go.Lib.run_convert_string_bytes w src dst e gE hs.1 aq.1.1 he.1
   have hcap:gE.size<=grownCap w gE.size 0 e:=grownCap_ge w gE.size 0 e;refine Holds.hH fun r hr=>?_
   have hmax:gE.size<=maxLen:=by
    have hr:(if s.length<=maxLen then some () else none)=some r:=hr
    split at hr
    ·rename_i h;rw[<-ep] at h;simpa using h
    ·cases hr
   have hsz:(Go.Lib.bytesCells w e gE).size=grownCap w gE.size 0 e:=by
    simp only[Go.Lib.bytesCells,Array.size_append,Array.size_map,Array.size_replicate];have:gE.data.size=gE.size:=rfl;omega
   have hlen:gE.size=(bytesOf s).length:=by rw[adv,<-ep];rfl
   have eA:am O Y X (fun aa=>if aa=o then .slice (some ⟨w.heap.size,0,none⟩) gE.size (grownCap w gE.size 0 e) else D aa) {st with sites:=cl st.sites o (.row (bn st o) .u8 (bytesOf s))} M (Go.Lib.bytesWorld w e gE):=by
    refine S.make (fun b hb=>Go.Lib.bytesWorld_at_old w e gE b hb) rfl rfl rfl (by rw[Go.Lib.bytesWorld_size];omega) (fun ab hs=>lA hs)
     (fun b hb=>by cases hb;exact⟨Nat.le_refl _,by rw[Go.Lib.bytesWorld_size];exact Nat.lt_succ_self _⟩) ?_
    intro bU aI fG j1 go atz atG;refine⟨e,gE.data.toList.map fun b=>Value.int .u8 b.toNat,⟨?_,.inr ⟨_,_,Go.Lib.bytesCells w e gE,_,j1.trans (by rw[hlen]),⟨(fun h=>by obtain⟨_,z,_,_,gC⟩:=aq;exact gC h),.inr ⟨rfl,Nat.le_refl _⟩⟩,Go.Lib.bytesWorld_at_new w e gE,by rw[<-hlen];exact hcap,grownCap_le_maxLen w gE.size 0 e hmax,?_,?_⟩⟩,fun j g1 g2=>?_⟩
    ·rw[List.length_map,<-hlen];exact(Nat.mul_one _).symm
    ·rw[hsz];exact(Nat.mul_one _).symm
    ·have h1:(bytesOf s).length*aT .u8=(gE.data.toList.map fun b=>Value.int .u8 b.toNat).length:=by rw[List.length_map,<-hlen];exact Nat.mul_one _
     rw[h1];simp only[Go.Lib.bytesCells,Array.toList_append,Array.toList_map];exact List.take_left
    ·subst ep;simp only[sb,bytesOf,List.getElem_map];exact .int _ _
   refine kV (us:=[(o,.row (bn st o) .u8 (bytesOf s))]) eA Z (run dm) ?_
   refine⟨rfl,Ref.mk (ab:=.row (bn st o) .u8 (bytesOf s)) ?_ rfl (by simp)⟩
   simp only[bm,cZ];simp
 ·exact .fail
end
section
variable {P:Program}{O:World}{Y:List Nat}{X:Nat->Prop}{D:Nat->Value}{st:ah}{M:Array Value}{w:World}{B:Oper}
theorem PX(S:am O Y X D st M w){C:Ctx}{x:Operand}(aE:B.op=.move x\/B.op=.assign x)(Z:ch st B.dst=true)(T:TypeId):cE P O Y X st M w B (a7 C st T x) []:=by
 refine dH S Z (vv:=Act.eval ⟨M,[]⟩ x) ?_ (dB S C T x);unfold execOp;rcases aE with h|h<;>simp only[h,Sem.run_pure]
theorem PQ(S:am O Y X D st M w){C:Ctx}{c a b:Operand}{t:Bool}{T:TypeId}(aE:B.op=.pick c a b)(Z:ch st B.dst=true)(hc:a7 C st T c=.av (.ak (.d (.bool t)))):
  cE P O Y X st M w B (a7 C st T (if t then a else b)) []:=by
 refine dH S Z (vv:=Act.eval ⟨M,[]⟩ (if t then a else b)) ?_ (dB S C T _)
 unfold execOp;have:=GM S hc;cases t<;>simp[aE,this,asBool]
theorem _N(S:am O Y X D st M w){C:Ctx}{x:Operand}{t:Bool}{T dO:TypeId}(aE:B.op=.unOp .not dO x)(Z:ch st B.dst=true)(hc:a7 C st T x=.av (.ak (.d (.bool t)))):
  cE P O Y X st M w B (one (.bool (!t))) []:=by
 refine dH S Z (vv:=.bool (!t)) ?_ (.bool _);unfold execOp;simp[aE,GM S hc,Op.unary]
theorem _O(S:am O Y X D st M w){C:Ctx}{x:Operand}{k:IntKind}{n:Int}{T dO:TypeId}(aE:B.op=.unOp .neg dO x)(Z:ch st B.dst=true)(hc:a7 C st T x=.av (.ak (.d (.int k n)))):
  cE P O Y X st M w B (one (.int k (k.wrap (0-n)))) []:=by
 refine dH S Z (vv:=.int k (k.wrap (0-n))) ?_ (.int _ _);unfold execOp;simp[aE,jT S hc,Op.unary,Op.intArith]
theorem C7(S:am O Y X D st M w){C:Ctx}{x:Operand}{v:aJ}{T:TypeId}(aE:B.op=.nilCheck x)(Z:ch st B.dst=true)(hc:a7 C st T x=v)
  (hv:∀vv,cc D st.sites w (ay X D st.sites) v vv->∃a,vv=.pointer (some a)):cE P O Y X st M w B v []:=by
 have:=dB S C T x;rw[hc] at this;obtain⟨a,ha⟩:=hv _ this;refine dH S Z (vv:=Act.eval ⟨M,[]⟩ x) ?_ this;unfold execOp;simp[aE,ha]
theorem abl(S:am O Y X D st M w){C:Ctx}{x:Operand}{i:Nat}{as:List bL}{a:bL}{T:TypeId}(aE:B.op=.extract x i)(Z:ch st B.dst=true)(hc:a7 C st T x=.jD as)(ha:as[i]? =some a):
  cE P O Y X st M w B (.av a) []:=by
 have bu:=dB S C T x;rw[hc] at bu;obtain⟨vs,h1,h2,h3⟩:=bu;obtain⟨hi,aqa⟩:=List.getElem?_eq_some_iff.1 ha;have j_:i<vs.length:=by omega
 refine dH S Z (vv:=vs[i]) ?_ (by rw[<-aqa];exact h3 i hi j_)
 unfold execOp;simp[aE,h1,Instr.extract,j_]
theorem NL(S:am O Y X D st M w){C:Ctx}{x y:Operand}{k k':IntKind}{a b:Int}{T:TypeId}{sK:Bool}{cV:Array TypeId}(aE:B.op=.call {callee:=.builtin (if sK then .max else .min),args:=#[x,y],argTypes:=cV})(Z:ch st B.dst=true)
  (hx:a7 C st T x=.av (.ak (.d (.int k a)))) (hy:a7 C st T y=.av (.ak (.d (.int k' b)))):cE P O Y X st M w B (one (.int k (if sK then fQ a b else jZ a b))) []:=by
 refine dH S Z (vv:=.int k (if sK then fQ a b else jZ a b)) ?_ (.int _ _)
 unfold execOp;cases sK<;>simp[aE,resolve,invoke,builtin,jT S hx,jT S hy,Builtin.max_,Builtin.min_,Builtin.max2,Builtin.min2,fQ,jZ]
theorem agS(S:am O Y X D st M w){C:Ctx}{x y z u v:Operand}{k aB aA bC cL:IntKind}{a b c d e:Int}{T:TypeId}{cV:Array TypeId}(aE:B.op=.call {callee:=.builtin .max,args:=#[x,y,z,u,v],argTypes:=cV})(Z:ch st B.dst=true)
  (hx:a7 C st T x=.av (.ak (.d (.int k a)))) (hy:a7 C st T y=.av (.ak (.d (.int aB b)))) (hz:a7 C st T z=.av (.ak (.d (.int aA c)))) (hu:a7 C st T u=.av (.ak (.d (.int bC d)))) (hv:a7 C st T v=.av (.ak (.d (.int cL e)))):
  cE P O Y X st M w B (one (.int k (fQ (fQ (fQ (fQ a b) c) d) e))) []:=by
 refine dH S Z (vv:=.int k (fQ (fQ (fQ (fQ a b) c) d) e)) ?_ (.int _ _);unfold execOp;simp[aE,resolve,invoke,builtin,jT S hx,jT S hy,jT S hz,jT S hu,jT S hv,Builtin.max_,Builtin.max2,fQ]
theorem afr(S:am O Y X D st M w){C:Ctx}:∀{xs:List Operand} {bz:List (Nat×Nat)},step.nL C st xs=some bz->xs.length=bz.length/\
  ∀i (h:i<bz.length) (af:i<xs.length),Ref st.sites (bz[i]).1 (bz[i]).2 (Act.eval ⟨M,[]⟩ (xs[i])=D (bz[i]).1):=by
 intro xs;induction xs with
 |nil=>intro bz h;simp only[step.nL] at h;cases h;exact⟨rfl,fun i h=>by simp at h⟩
 |cons x xs ih=>
  intro bz h;simp only[step.nL] at h;split at h
  ·rename_i o s l hx hl;cases h;obtain⟨h1,h2⟩:=ih hl;refine⟨by simp[h1],fun i g1 g2=>?_⟩
   cases i with
   |zero=>
    have:=dB S C 0 x;rw[hx] at this;obtain⟨b,hb,ab,r1,r2,is⟩:=this;exact⟨ab,r1,r2,fun e=>by simp only[List.getElem_cons_zero];rw[hb,is e]⟩
   |succ i=>simpa using h2 i (by simpa using g1) (by simpa using g2)
  ·cases h
theorem _'(S:am O Y X D st M w){C:Ctx}{g:FuncId}{first captured:Array Operand}{bz:List (Nat×Nat)}(aE:B.op=.makeFunc (.func g) first captured)(Z:ch st B.dst=true)(hf:first.toList.isEmpty=true)
  (hc:step.nL C st captured.toList=some bz):cE P O Y X st M w B (bZ (.clo g bz)) []:=by
 obtain⟨h1,h2⟩:=afr S hc;refine dH S Z (vv:=.func (.func g) #[] (captured.toList.map (Act.eval ⟨M,[]⟩)).toArray) ?_ ⟨captured.toList.map (Act.eval ⟨M,[]⟩),rfl,by simpa using h1,fun i g1 g2=>?_⟩
 ·have:first=#[]:=by simpa using hf
  unfold execOp;simp only[aE,Instr.makeFunc,Sem.run_bind,Sem.run_pure,Result.andThen_ok,this];simp;apply Array.ext';simp
 ·have:=h2 i g1 (by simpa using g2)
  simpa using this
theorem N6(S:am O Y X D st M w){C:Ctx}{bK:List (Nat×Nat)}:∀(parts:List (Nat×Operand)) (z:List aF) (cells:Array Value),cr D st.sites w (ay X D st.sites) z cells.toList->
  Holds (step.mz C st bK z parts) (fun v us=>us=[]/\∃ju,Instr.fill (bK.toArray[·]?) cells (parts.map fun p=>(p.1,Act.eval ⟨M,[]⟩ p.2))=some ju/\cc D st.sites w (ay X D st.sites) v (.agg ju)):=by
 intro parts;induction parts with
 |nil=>intro z cells h;exact Holds.ok ⟨rfl,cells,rfl,cells.toList,by simp,h.1,h.2⟩
 |cons p parts ih=>
  obtain⟨i,x⟩:=p;intro z cells h;simp only[step.mz];split
  ·rename_i off n a hf ha;cases hb:(a.cells.length.beq n&&hh a.cells&&Nat.ble (off+n) z.length) with
   |false=>exact .fail
   |true=>
    simp only[cond_true];simp only[Bool.and_eq_true] at hb;obtain⟨⟨b1,b2⟩,b3⟩:=hb;have b1:=Nat.eq_of_beq_eq_true b1;have b3:=Nat.le_of_ble_eq_true b3;have bu:=dB S C 0 x;rw[pI ha] at bu;have Ar:=gU.cells (bu:gU D st.sites w _ a _) b2;have hsz:(Act.eval ⟨M,[]⟩ x).cells.size=n:=by rw[<-b1,<-Ar.1];simp
    have hle:off+(Act.eval ⟨M,[]⟩ x).cells.size<=cells.size:=by
     have:=h.1;simp at this;omega
    have:=ih (Jk.bG z off a.cells) (Jk.bG cells.toList off (Act.eval ⟨M,[]⟩ x).cells.toList).toArray (by simpa using cr.bG off h Ar)
    intro y hy hc;obtain⟨g1,ju,g2,g3⟩:=this y hy hc;refine⟨g1,ju,?_,g3⟩;simp only[List.map_cons,Instr.fill];have Kg:bK.toArray[i]? =some (off,n):=by simpa using hf
    simp only[Kg];have c1:¬((Act.eval ⟨M,[]⟩ x).cells.size≠n\/off+(Act.eval ⟨M,[]⟩ x).cells.size>cells.size):=by omega
    have c2:(decide ((Act.eval ⟨M,[]⟩ x).cells.size≠n)||decide (off+(Act.eval ⟨M,[]⟩ x).cells.size>cells.size))=false:=by
     simp;omega
    have o5:off+n<=cells.size:=by omega
    rw[Mw _ _ _ hle];simp only[Bool.decide_or,hsz] at*;simpa[c2,o5] using g2
  ·exact .fail
theorem aft(S:am O Y X D st M w){C:Ctx}(H:CtxOk P C){T:TypeId}{parts:Array (Nat×Operand)}{bK:List (Nat×Nat)}{n:Nat}{z:List aF}{eq:Bool}(be:C.tt T=.struct bK n z eq)(aE:B.op=.build T parts)
  (Z:ch st B.dst=true):Holds (step.mz C st bK z parts.toList) (cE P O Y X st M w B):=by
 have bF:=H.tt T;rw[be] at bF;obtain⟨fields,ft,⟨hf,_⟩,⟨fV,hz,hzz,B6⟩,_⟩:=bF;obtain⟨aB,aA,bC⟩:=tW hzz;intro y hy hc;obtain⟨g1,ju,g2,g3⟩:=N6 S parts.toList z fV ⟨aB,fun j h af=>bC _ _ _ _ j h af⟩ y hy hc
 rw[g1];refine dH S Z (vv:=.agg ju) ?_ g3;cases hi:P.info? T with
 |none=>simp[hi] at hz
 |some it=>
  simp only[hi,Option.map_some,Option.some.injEq,Prod.mk.injEq] at hz;have hb:P.built T (parts.toList.map fun p=>(p.1,Act.eval ⟨M,[]⟩ p.2))=some ju:=by
   unfold Program.built;simp only[hi,ft,hz.2,hf];exact g2
  have dR:P.built T (parts.map fun p=>(p.1,Act.eval ⟨M,[]⟩ p.2)).toList=some ju:=by simpa using hb
  unfold execOp;simp only[aE,Sem.run_bind,run_build w T _ ju dR,Result.andThen_ok,Sem.run_pure]
end
def mw(w:World)(b:Nat)(B:Obj):World:={w with heap:=w.heap.setIfInBounds b B}
theorem Pw{b:ByteArray}{l:F}(h:b.data.toList=l):Value.string b=gQ l:=by
 subst h;rfl
def k9{ax:Type}:List (F×ax)->F->Nat->Option (Nat×ax)
 |[],_,_=>none
 |(k,v)::r,n,i=>bif k==n then some (i,v) else k9 r n (i+1)
theorem ac1{ax:Type}(n:F):∀(es:List (F×ax)) (i:Nat),(k9 es n i).map (·.2)=kj es n:=by
 intro es;induction es with
 |nil=>intro i;rfl
 |cons p es ih=>
  intro i;simp only[k9,kj];cases p.1==n with
  |true=>rfl
  |false=>exact ih (i+1)
theorem _9{ax:Type}(n:F)(v:ax):∀(es:List (F×ax)) (i:Nat),k9 es n i=none->oI es n v=es++[(n,v)]:=by
 intro es;induction es with
 |nil=>intro i _;rfl
 |cons p es ih=>
  intro i h;simp only[k9] at h;simp only[oI];cases hp:(p.1==n) with
  |true=>rw[hp] at h;cases h
  |false=>rw[hp] at h;simp only[cond_false,ih (i+1) h,List.cons_append]
theorem abf{ax:Type}(n:F)(v:ax):∀(es:List (F×ax)) (i j:Nat) (v0:ax),k9 es n i=some (j,v0)->i<=j/\(∃p,es[j-i]? =some p/\p.1=n)/\oI es n v=es.modify (j-i) fun p=>(p.1,v):=by
 intro es;induction es with
 |nil=>intro i j v0 h;cases h
 |cons p es ih=>
  intro i j v0 h;simp only[k9] at h;simp only[oI];cases hp:(p.1==n) with
  |true=>
   rw[hp] at h;cases h;refine⟨Nat.le_refl _,⟨p,by simp,eq_of_beq hp⟩,?_⟩
   simp
  |false=>
   rw[hp] at h;obtain⟨h1,⟨q,h2,h3⟩,aw⟩:=ih (i+1) j v0 h;have e:j-i=(j-(i+1))+1:=by omega
   refine⟨by omega,⟨q,by rw[e];simpa using h2,h3⟩,?_⟩
   rw[e,cond_false,aw,List.modify_succ_cons]
theorem Mx{t:a6}(n:F):∀(es:List (F×den t)) (iQ:List MapEntry) (i:Nat),iQ.map (fun e=>(e.key,e.val))=jV t es->
  Instr.findNow .string (gQ n) iQ i=some ((k9 es n i).map fun p=>(p.1,m_ t p.2))
 |[],iQ,i,h=>by
  have:iQ=[]:=by simpa[jV] using h
  subst this;rfl
 |(k,v)::es,[],i,h=>by simp[jV] at h
 |(k,v)::es,m::iQ,i,h=>by
  simp only[jV,List.map_cons,List.cons.injEq,Prod.mk.injEq] at h;obtain⟨⟨h1,h2⟩,h3⟩:=h;have ih:=Mx n es iQ (i+1) h3;have hs:Instr.sameNow .string (gQ n) m.key=some (k==n):=by
   rw[h1];show some ((⟨n.toArray⟩:ByteArray)==⟨k.toArray⟩)=_;rw[bytes_beq];congr 1
   rw[Bool.eq_iff_iff];simp only[beq_iff_eq];exact eq_comm
  unfold Instr.findNow k9;rw[hs];cases k==n with
  |true=>simp only[cond_true,Option.map_some,h2]
  |false=>simp only[cond_false];exact ih
section
variable {P:Program}{w:World}{hP kO T:TypeId}{t:a6}
theorem aaV{hP:TypeId}(hk:P.underlying hP=some .string)(c:Bool)(s:F)(n:Nat):(Instr.checkKey c (n+1) hP (gQ s)).run P w=.ok () w:=by
 simp[Instr.checkKey,run_underlying hk,gQ,Result.andThen]
theorem uc{hP:TypeId}(hk:P.underlying hP=some .string)(c:Bool)(s:F):(Instr.checkKey c 10000 hP (gQ s)).run P w=.ok () w:=aaV hk c s 9999
theorem yg{hP:TypeId}(hk:P.underlying hP=some .string){es:List (F×den t)}{arr:Array MapEntry}(h:my arr=jV t es)(n:F):
  (Instr.findKey hP (gQ n) arr.toList).run P w=.ok ((k9 es n 0).map fun p=>(p.1,m_ t p.2)) w:=by
 simp[Instr.findKey,run_underlying hk,Mx n es arr.toList 0 h,Result.andThen]
theorem acj(s:F):(Instr.keyThatStays (gQ s) (gQ s)).run P w=.ok (gQ s) w:=by
 have:Instr.sameBits 10000 (gQ s) (gQ s)=true:=by
  show((⟨s.toArray⟩:ByteArray)==⟨s.toArray⟩)=true;rw[bytes_beq];simp
 simp[Instr.keyThatStays,this]
theorem ajy{t:a6}{d:aZ}{x:den t}{v:Value}{av:Nat->Prop}(h:H8 t d=some x)(hr:bD w av d v):v=m_ t x:=by
 unfold H8 at h;split at h
 ·cases h;cases hr;rfl
 ·cases h;cases hr;rfl
 ·cases h
theorem aaT(be:P.underlying T=some (.map hP kO))(hk:P.underlying hP=some .string){b:Nat}{arr:Array MapEntry}{clock:Nat}{es:List (F×den t)}(hb:w.heap[b]? =some (.map arr clock))(he:my arr=jV t es)(n:F)(x:den t):
  ∃o9 oL,(Instr.mapUpdate T (.map (some b)) (gQ n) (m_ t x)).run P w=.ok () (mw w b (.map o9 oL))/\my o9=jV t (oI es n x):=by
 cases hm:k9 es n 0 with
 |none=>
  refine⟨arr.push ⟨gQ n,m_ t x,clock⟩,clock+1,?_,?_⟩
  ·have hf:=yg (w:=w) hk he n;rw[hm] at hf;simp[Instr.mapUpdate,run_underlying be,MapKept.run_getObj_map hb,uc hk,hf,MapKept.run_setObj_map _ hb,Result.andThen,mw]
  ·rw[_9 n x es 0 hm];unfold my jV at he ⊢;simp[he]
 |some p=>
  obtain⟨j,v0⟩:=p;obtain⟨_,⟨q,h2,h3⟩,aw⟩:=abf n x es 0 j v0 hm;rw[Nat.sub_zero] at h2 aw;have hlen:arr.size=es.length:=lT.size (b:=b) he;have hj:j<arr.size:=by rw[hlen];exact(List.getElem?_eq_some_iff.1 h2).1
  have al0:((arr[j]?).map (·.key)).getD (gQ n)=gQ n:=by
   have bk:=congrArg (fun l=>l[j]?) he
   simp only[my,jV,List.getElem?_map,h2,Option.map_some,Array.getElem?_toList] at bk;cases ha:arr[j]? with
   |none=>rfl
   |some e=>
    rw[ha] at bk;simp only[Option.map_some,Option.some.injEq,Prod.mk.injEq] at bk;simp[bk.1,h3]
  refine⟨arr.modify j fun e=>{e with key:=gQ n,val:=m_ t x},clock,?_,?_⟩
  ·have hf:=yg (w:=w) hk he n;rw[hm] at hf;simp[Instr.mapUpdate,run_underlying be,MapKept.run_getObj_map hb,uc hk,hf,MapKept.run_setObj_map _ hb,Result.andThen,mw,al0,acj]
  ·rw[aw];unfold my jV at he ⊢;apply List.ext_getElem?;intro i;have bk:=congrArg (fun l=>l[i]?) he
   simp only[List.getElem?_map,Array.getElem?_toList] at bk;simp only[List.getElem?_map,Array.getElem?_toList,Array.getElem?_modify,List.getElem?_modify];by_cases pi:j=i
   ·subst pi;simp only[if_true,h2,Option.map_some,<-h3];cases ha:arr[j]? with
    |none=>rw[ha,h2] at bk;cases bk
    |some e=>rfl
   ·simp only[pi,if_false];cases ha:arr[i]? <;>cases dR:es[i]? <;>rw[ha,dR] at bk<;>simp_all
end
section
variable {P:Program}{O:World}{Y:List Nat}{X:Nat->Prop}{D:Nat->Value}{st:ah}{M:Array Value}{w:World}{B:Oper}
theorem Di(w:World)(b bI:Nat)(B:Obj)(h:bI≠b):(mw w b B).heap[bI]? =w.heap[bI]? :=by
 simp only[mw,Array.getElem?_setIfInBounds];rw[if_neg (fun e=>h e.symm)]
theorem ZD(w:World)(b:Nat)(B cY:Obj)(h:w.heap[b]? =some cY):(mw w b B).heap[b]? =some B:=by
 have:=(Array.getElem?_eq_some_iff.1 h).1;simp[mw,Array.getElem?_setIfInBounds,this]
theorem am.aik(S:am O Y X D st M w){o s b:Nat}{t:a6}{es tC:List (F×den t)}{B:Obj}{o9:Array MapEntry}{oL:Nat}(hl:look st.sites o=some (.map s t es))(cO:D o=.map (some b))(hg:w.heap[b]? =some B)
  (he:my o9=jV t tC):am O Y X D {st with sites:=cl st.sites o (.map s t tC)} M (mw w b (.map o9 oL)):=by
 have hbk:bH (D o)=some b:=by rw[cO];rfl
 have cJ:cg st.sites o:=⟨_,hl,rfl⟩;have lX:∀aa,cg (cl st.sites o (.map s t tC)) aa <-> cg st.sites aa:=MU hl rfl;have b9:∀bI,ay X D (cl st.sites o (.map s t tC)) bI <-> ay X D st.sites bI:=by
  intro bI;unfold ay;simp only[lX]
 have hne:∀bI,¬ay X D st.sites bI->bI≠b:=by
  rintro bI h rfl;exact h (.inr ⟨o,cJ,hbk⟩)
 have hsz:(mw w b (.map o9 oL)).heap.size=w.heap.size:=by simp[mw]
 refine S.qn (fun aa aC bN=>?_) (fun bI h _=>Di w b bI _ (hne bI h)) (fun bI h _=>by rw[b9];exact h) (fun go aa aC bN=>?_) (fun aa ρ bI h1 h2=>S.dV aa ρ bI ((lX aa).1 h1) ((lX ρ).1 h2))
  (fun aa bI h=>S.ci aa bI ((lX aa).1 h)) (fun aa bI h hb=>by rw[hsz];exact S.fy ((lX aa).1 h) hb) ?_ (by rw[hsz];exact Nat.le_refl _)
 ·rw[cZ];by_cases e:o=aa
  ·subst e;rw[hl] at bN;cases bN;exact⟨.map s t tC,by simp,Nat.le_refl _,fun _=>rfl⟩
  ·exact⟨aC,by simp[e,bN],Nat.le_refl _,fun _=>rfl⟩
 ·rw[cZ] at bN;by_cases e:o=aa
  ·subst e;simp only[if_true,Option.some.injEq] at bN;subst bN;exact .inr ⟨b,cO,o9,oL,ZD w b _ _ hg,he⟩
  ·simp only[e,if_false] at bN;refine .inl ⟨bN,rfl,fun s0 bI dR=>Di w b bI _ ?_⟩
   rintro rfl;exact e (S.dV o aa _ cJ ⟨aC,bN,s0⟩ hbk dR)
 ·have aX:=S.frame;refine⟨aX.os,aX.tape,aX.output,by rw[hsz];exact aX.size,fun bI h1 h2=>?_⟩
  rw[Di w b bI _ ?_]
  ·exact aX.block bI h1 h2
  ·rintro rfl;rcases(S.ci o _ cJ hbk).2 with h|h
   ·exact h2 h
   ·omega
theorem am.makeMap(S:am O Y X D st M w){o:Nat}{t:a6}:
  am O Y X (fun aa=>if aa=o then .map (some w.heap.size) else D aa) {st with sites:=cl st.sites o (.map (bn st o) t [])} M (w.alloc (.map #[] 0)):=
 S.make (fun b hb=>RowKit.Below.heap_alloc w _ b hb) rfl rfl rfl (by simp) (fun ab hs=>lA hs) (fun b hb=>by cases hb;exact⟨Nat.le_refl _,by simp⟩)
  (fun hs cO go _ _=>⟨w.heap.size,cO,#[],0,heap_alloc_new w _,rfl⟩)
end
section
variable {P:Program}{O:World}{Y:List Nat}{X:Nat->Prop}{D:Nat->Value}{st:ah}{M:Array Value}{w:World}{B:Oper}
theorem MR(S:am O Y X D st M w){T:TypeId}{hP kO:TypeId}{t:a6}{r:Option Operand}{o:Nat}(aE:B.op=.makeMap T r)(dC:B.dst=some o)(Z:ch st B.dst=true)(be:P.underlying T=some (.map hP kO))
  (hr:∀x,r=some x->∃k n,Act.eval ⟨M,[]⟩ x=.int k n):cE P O Y X st M w B (bZ (.own o (bn st o))) [(o,.map (bn st o) t [])]:=by
 have ce:=S.makeMap (o:=o) (t:=t);refine kV (us:=[(o,.map (bn st o) t [])]) ce Z (vv:=.map (some w.heap.size)) ?_ ?_
 ·unfold execOp;cases r with
  |none=>simp[aE,Instr.makeMap]
  |some x=>
   obtain⟨k,n,hx⟩:=hr x rfl;simp[aE,Instr.makeMap,hx,run_underlying be,asInt,asIntOf,Result.andThen]
 ·refine⟨rfl,Ref.mk (ab:=.map (bn st o) t []) ?_ rfl (by simp)⟩
  simp only[bm,cZ];simp
theorem NM(S:am O Y X D st M w){C:Ctx}(H:CtxOk P C){T:TypeId}{m k x:Operand}(aE:B.op=.mapUpdate T m k x\/B.op=.insert T m k x)(Z:ch st B.dst=true):
  Holds (k3.sq C st T m k x) (cE P O Y X st M w B):=by
 have bF:=H.tt T;unfold k3.sq;split
 ·rename_i hP kO t o s n d be hm hk hx;rw[be] at bF;split
  ·rename_i aC u es hl;cases hb:(aC.beq s&&decide (u=t)) with
   |false=>exact .fail
   |true=>
    simp only[cond_true];simp only[Bool.and_eq_true,decide_eq_true_eq] at hb;have hs:=Nat.eq_of_beq_eq_true hb.1;subst hs;split
    ·rename_i v hv;refine Holds.fu ?_
     have em:=dB S C T m;rw[hm] at em;have re:=dB S C 0 k;rw[hk] at re;have ex:=dB S C 0 x;rw[hx] at ex;have hl:look st.sites o=some (.map aC u es):=hl;have Xu:Act.eval ⟨M,[]⟩ m=D o:=Ref.at em.2 hl rfl;obtain⟨b,h1,arr,clock,h2,h3⟩:=S.sites o _ hl;obtain⟨bs,J9,hkl⟩:=gv (s:=n) re;have Cg:Act.eval ⟨M,[]⟩ k=gQ n:=by rw[J9];exact Pw hkl
     have Xo:Act.eval ⟨M,[]⟩ x=m_ u v:=ajy hv (av:=ay X D st.sites) ex;obtain⟨o9,oL,r1,r2⟩:=aaT (T:=T) bF.1.1 bF.2.1 h2 h3 n v;have ce:=S.aik hl h1 h2 (oL:=oL) r2;refine xf (us:=[(o,.map aC u (oI es n v))]) ce Z ?_
     unfold execOp;rcases aE with aE|aE
     ·simp only[aE,Xu,h1,Cg,Xo,Sem.run_bind,r1,Result.andThen_ok,Sem.run_pure]
     ·simp only[aE,Xu,h1,Cg,Xo,Sem.run_bind,r1,Result.andThen_ok,Sem.run_pure]
    ·exact .fail
  ·exact .fail
 ·exact .fail
theorem ac5(S:am O Y X D st M w){C:Ctx}(H:CtxOk P C){T hP kO:TypeId}{t:a6}{m k:Operand}{c:Bool}{l:aF}{n:F}{es:List (F×den t)}{d:aZ}(aE:B.op=.lookup T m k c)(Z:ch st B.dst=true)
  (be:C.tt T=.map hP kO t) (hm:a7 C st T m=.av (.ak l)) (hk:a7 C st 0 k=.av (.ak (.d (.str n)))) (Kh:mapOf st l=some ⟨t,es⟩) (Ki:vi t (kj es n)=some d):
  cE P O Y X st M w B (bif c then .jD [.ak (.d d),.ak (.d (.bool (kj es n).isSome))] else one d) []:=by
 have bF:=H.tt T;rw[be] at bF;have em:=dB S C T m;rw[hm] at em;have re:=dB S C 0 k;rw[hk] at re;obtain⟨bs,J9,hkl⟩:=gv (s:=n) re;have Cg:Act.eval ⟨M,[]⟩ k=gQ n:=by rw[J9];exact Pw hkl
 have hz:∀cY:Option (den t),vi t cY=some d->(∀x,cY=some x->∀av,bD w av d (m_ t x))/\(cY=none->∃z,(zeroValue kO).run P w=.ok z w/\∀av,bD w av d z):=by
  intro cY h;have he:=bF.2.2;have key:∀{Y8:TypeDesc} {z:Value},jc P kO Y8 z->(zeroValue kO).run P w=.ok z w:=by
   intro Y8 z h;obtain⟨_,_,_,h⟩:=h;cases hi:P.info? kO with
   |none=>simp[hi] at h
   |some i=>
    simp only[hi,Option.map_some,Option.some.injEq,Prod.mk.injEq] at h;simp[zeroValue,kT hi,h.2]
  cases t<;>first|(exact he.elim)|skip
  ·simp only[vi,Option.some.injEq] at h;subst h;refine⟨fun x hx av=>by subst hx;exact .int _ _,fun hn=>?_⟩
   subst hn;exact⟨_,key he,fun av=>.int _ _⟩
  ·simp only[vi,Option.some.injEq] at h;subst h;refine⟨fun x hx av=>by subst hx;exact .bool _,fun hn=>?_⟩
   subst hn;exact⟨_,key he,fun av=>.bool _⟩
 obtain⟨hz1,hz2⟩:=hz _ Ki;have main:∃v,(Instr.lookup T (Act.eval ⟨M,[]⟩ m) (Act.eval ⟨M,[]⟩ k) c).run P w=.ok (if c then .tuple #[v,.bool (kj es n).isSome] else v) w/\∀av,bD w av d v:=by
  rw[Cg];rcases PZ S em Kh with⟨h1,rfl⟩|⟨b,h1,arr,clock,h2,h3⟩
  ·obtain⟨z,fH,z2⟩:=hz2 rfl;refine⟨z,?_,z2⟩;have hf:=yg (w:=w) (t:=t) bF.2.1 (es:=[]) (arr:=#[]) rfl n;have Kg:(Instr.findKey hP (gQ n) []).run P w=.ok none w:=hf;simp[Instr.lookup,run_underlying bF.1.1,h1,uc bF.2.1,Kg,fH,kj,Result.andThen]
  ·have hf:=yg (w:=w) bF.2.1 h3 n;have hg:=ac1 n es 0;cases ha:k9 es n 0 with
   |none=>
    rw[ha] at hf hg;have hg:kj es n=none:=hg.symm;obtain⟨z,fH,z2⟩:=hz2 hg;refine⟨z,?_,z2⟩;simp[Instr.lookup,run_underlying bF.1.1,h1,MapKept.run_getObj_map h2,uc bF.2.1,hf,fH,hg,Result.andThen]
   |some p=>
    rw[ha] at hf hg;have hg:kj es n=some p.2:=hg.symm;refine⟨m_ t p.2,?_,hz1 p.2 hg⟩;simp[Instr.lookup,run_underlying bF.1.1,h1,MapKept.run_getObj_map h2,uc bF.2.1,hf,hg,Result.andThen]
 obtain⟨v,r1,r2⟩:=main;refine dH S Z (vv:=if c then .tuple #[v,.bool (kj es n).isSome] else v) ?_ ?_
 ·unfold execOp;simp only[aE,Sem.run_bind,r1,Result.andThen_ok,Sem.run_pure]
 ·cases c with
  |true=>
   refine⟨[v,.bool (kj es n).isSome],rfl,rfl,fun j g1 g2=>?_⟩
   match j,g1 with
   |0,_=>exact r2 _
   |1,_=>exact bD.bool _
  |false=>exact r2 _
theorem abe(S:am O Y X D st M w){C:Ctx}(H:CtxOk P C)(Z:ch st B.dst=true):Holds (k3 C st B) (cE P O Y X st M w B):=by
 unfold k3;split
 ·rename_i t r aE;split
  ·rename_i o hP kO ty dC be;have bF:=H.tt t;rw[be] at bF;split
   ·exact Holds.fu (MR S aE dC Z bF.1.1 (fun x h=>by cases h))
   ·rename_i x;split
    ·rename_i k n hx;refine Holds.fu (MR S aE dC Z bF.1.1 (fun y h=>?_))
     cases h;have ex:=dB S C 0 x;rw[hx] at ex;exact⟨k,n,ic ex⟩
    ·exact .fail
  ·exact .fail
 ·rename_i t m k x aE;exact NM S H (.inl aE) Z
 ·rename_i t m k x aE;exact NM S H (.inr aE) Z
 ·rename_i t m k c aE;split
  ·rename_i hP kO ty l n be hm hk;split
   ·rename_i u es Kh;cases hu:decide (u=ty) with
    |false=>exact .fail
    |true=>
     have hu:=of_decide_eq_true hu;subst hu;simp only[cond_true];split
     ·rename_i d Ki;exact Holds.ok (ac5 S H aE Z be hm hk Kh Ki)
     ·exact .fail
   ·exact .fail
  ·exact .fail
 ·rename_i t x aE;split
  ·rename_i bK q z e n be hx;exact Holds.ok (Zt S H aE Z be hx)
  ·exact .fail
 ·exact .fail
end
theorem ni{P:Program}{e:TypeId}{t:a6}(h:GU P e t):aT t=1/\(∃d z,jc P e d z)/\∃l eQ,ta t=some l/\wL t=some eQ/\cx (enc t eQ)=[l]:=by
 cases t<;>first|exact h.elim|exact⟨rfl,⟨_,_,h⟩,_,_,rfl,rfl,rfl⟩
theorem M0{P:Program}{e:TypeId}{t:a6}{T:TypeId}(h:GU P e t):t.jF=true->T=mc:=by intro af;cases t<;>first|exact h.elim|cases af
theorem D7(t:a6)(x:den t)(xs:List (den t)):flat t (x::xs)=enc t x++flat t xs:=by simp[flat]
theorem GS(a b:List aZ):cx (a++b)=cx a++cx b:=by simp[cx]
theorem Qi{t:a6}{z:den t}(hz:wL t=some z)(xs:List (den t)):By t xs xs.length=cx (flat t xs):=by
 unfold By;rw[hz];suffices h:∀(bd zs:List (den t)),xs=zs++bd->((List.range' zs.length bd.length).flatMap fun j=>cx (enc t (xs.getD j z)))=cx (flat t bd) by
  have:=h xs [] rfl;rw[List.length_nil,<-List.range_eq_range'] at this;exact this
 intro bd;induction bd with
 |nil=>intro zs _;rfl
 |cons y bd ih=>
  intro zs hx;rw[List.length_cons,List.range'_succ,List.flatMap_cons,D7,GS];have e1:xs.getD zs.length z=y:=by rw[hx];simp[List.getD]
  have e2:=ih (zs++[y]) (by rw[hx];simp)
  rw[List.length_append,List.length_singleton] at e2;rw[e1,e2]
theorem GP{t:a6}:∀{ad:List aF} {xs:List (den t)},s6 t ad=some xs->ad=cx (flat t xs):=by
 intro ad;induction ad with
 |nil=>intro xs h;cases h;rfl
 |cons l ad ih=>
  intro xs h;cases l<;>try(cases h;done)
  rename_i d;simp only[s6] at h;split at h
  ·rename_i x bd h1 h2;cases h;rw[D7,GS,<-ih h2,zP _ _ _ h1];rfl
  ·cases h
theorem ud{ax:Type}{n:Nat}{xs bd:List ax}(h:long n xs=some bd):bd=xs/\xs.length=n:=by
 unfold long at h;split at h
 ·cases h;exact⟨rfl,by assumption⟩
 ·cases h
section
variable {P:Program}{O:World}{Y:List Nat}{X:Nat->Prop}{D:Nat->Value}{st:ah}{M:Array Value}{w:World}{B:Oper}
theorem am.kM(S:am O Y X D st M w):mW w/\∀b,b∈kF->¬ay X D st.sites b/\b<w.heap.size:=by
 have G:=S.eY;refine⟨ajW (fun b hb=>S.frame.block b (G.lt b hb) (G.Y b hb)) G.ok,fun b hb=>⟨?_,Nat.lt_of_lt_of_le (G.lt b hb) S.frame.size⟩⟩
 rintro(h|⟨o,h1,h2⟩)
 ·exact G.X b hb h
 ·rcases(S.ci o b h1 h2).2 with h|h
  ·exact G.Y b hb h
  ·have:=G.lt b hb;omega
theorem ain{ds:List aZ}{vs:List Value}{av:Nat->Prop}(h:cX w av ds vs):∀u∈vs,u.oneCell'=true:=by
 intro u hu;obtain⟨j,hj,rfl⟩:=List.getElem_of_mem hu;exact(h.2 j (by rw[<-h.1];exact hj) hj).jr
theorem PW(S:am O Y X D st M w){T:TypeId}{o n:Nat}{t:a6}{xs:List (den t)}{vs:List Value}(he:aT t=1)(gC:t.jF=true->T=mc)(hv:cX w (ay X D st.sites) (flat t xs) vs)(Z:ch st B.dst=true)
  (dm:(execOp (Act.eval ⟨M,[]⟩) B).run P w=.ok (.value (.pointer (some ⟨w.heap.size,0,none⟩))) (w.alloc (.cells vs.toArray T (0,0)))):Holds (qs o st t n xs) (cE P O Y X st M w B):=by
 unfold qs;cases hc:(xs.length.beq n&&Nat.ble n 1000) with
 |false=>exact .fail
 |true=>
  simp only[Bool.and_eq_true] at hc;have h1:=Nat.eq_of_beq_eq_true hc.1;have h2:=Nat.le_of_ble_eq_true hc.2;simp only[cond_true];have hl:vs.length=xs.length:=by rw[hv.1,eW,he,Nat.mul_one]
  have ce:=S.FY (o:=o) (T:=T) (rest:=[]) (cap:=n) hv (by rw[he,hl,h1];simp) (by unfold maxLen;omega) gC
  rw[List.append_nil] at ce;refine Holds.fu (kV (us:=[(o,.row (bn st o) t xs)]) ce Z dm ?_);refine⟨w.heap.size,by simp,Ref.mk (ab:=.row (bn st o) t xs) ?_ rfl ⟨xs.length,n,by simp⟩⟩
  simp only[bm,cZ];simp
theorem adz(S:am O Y X D st M w){C:Ctx}(H:CtxOk P C){elem e:TypeId}{t:a6}{n o:Nat}(be:C.tt elem=.arr e t n)(aE:B.op=.alloc elem)(Z:ch st B.dst=true):Holds (sy o st t n) (cE P O Y X st M w B):=by
 have bF:=H.tt elem;rw[be] at bF;obtain⟨_,_,l_⟩:=id bF;obtain⟨he,_,l,eQ,B6,mQ,hzz⟩:=ni l_;unfold sy;rw[mQ];obtain⟨v,hv,nX⟩:=b_.Ez (w:=w) bF (z:=List.replicate n l) (by simp only[b_.zero,B6,Option.map_some])
 obtain⟨h1,h2,h3⟩:=tW nX;have hr:cX w (ay X D st.sites) (flat t (List.replicate n eQ)) v.cells.toList:=by
  have:=h3 D st.sites w (ay X D st.sites);have e1:∀n,cx (flat t (List.replicate n eQ))=List.replicate n l:=by
   intro n;induction n with
   |zero=>rfl
   |succ n ih=>rw[List.replicate_succ,D7,GS,hzz,List.replicate_succ,ih];rfl
  refine iY (D:=D) (sites:=st.sites) ?_
  rw[e1];exact⟨h1,this⟩
 refine PW (T:=elem) S he (M0 l_) hr Z ?_
 unfold execOp;simp[aE,Instr.alloc,hv,newVar,newRow]
theorem ahf(S:am O Y X D st M w){C:Ctx}(H:CtxOk P C){elem e:TypeId}{t:a6}{n o:Nat}{x:Operand}(be:C.tt elem=.arr e t n)(aE:B.op=.box elem x)(Z:ch st B.dst=true):Holds (s8 o st t n (a7 C st elem x)) (cE P O Y X st M w B):=by
 have bF:=H.tt elem;rw[be] at bF;have he:=(ni bF.2.2).1;have bu:=dB S C elem x;unfold s8;split
 ·rename_i ad hx;rw[hx] at bu;split
  ·rename_i xs tf;obtain⟨vs,hv,hl,hr⟩:∃vs:List Value,Act.eval ⟨M,[]⟩ x=.agg vs.toArray/\vs.length=ad.length/\∀j (h:j<ad.length) (af:j<vs.length),dQ D st.sites w (ay X D st.sites) (ad[j]) (vs[j]):=bu;have pf:cr D st.sites w (ay X D st.sites) ad vs:=⟨hl,hr⟩;rw[GP tf] at pf;refine PW (T:=elem) S he (M0 bF.2.2) (iY pf) Z ?_
   unfold execOp;simp[aE,Instr.box,newVar,newRow,hv,Value.cells]
  ·exact .fail
 ·exact .fail
theorem am.arr(S:am O Y X D st M w){o s:Nat}{t:a6}{xs:List (den t)}{v:Value}(hr:rowOf st o s=some ⟨t,xs⟩)(hv:dQ D st.sites w (ay X D st.sites) (.eT o s t 0 0) v):
  ∃b c,∃cs:List Value,v=.pointer (some ⟨b,0,none⟩)/\D o=.slice (some ⟨b,0,none⟩) xs.length c/\hV w b 0 cs/\cX w (ay X D st.sites) (flat t xs) cs:=by
 obtain⟨cs,hl,hcell⟩:=S.row hr;obtain⟨ab,iN,lp⟩:∃ab,look st.sites o=some ab/\ab.cq=s:=by
  rcases jO hr with h|h<;>exact⟨_,h,rfl⟩
 obtain⟨b,hv,vC⟩:=hv;obtain⟨n,c,cO⟩:=Ref.at vC iN lp;rcases hcell with⟨qy,_⟩|⟨bI,fi,j1,hcs,_⟩
 ·rw[cO] at qy;cases qy
 ·rw[cO] at j1;cases j1;exact⟨b,c,cs,by simpa using hv,cO,hcs,iY hl⟩
theorem aeY(S:am O Y X D st M w){C:Ctx}(H:CtxOk P C){T e:TypeId}{t:a6}{n:Nat}{x:Operand}(be:C.tt T=.arr e t n)(aE:B.op=.load T x)(Z:ch st B.dst=true):Holds (sI st t n (a7 C st T x)) (cE P O Y X st M w B):=by
 have bF:=H.tt T;rw[be] at bF;obtain⟨he,_,_,eQ,_,mQ,_⟩:=ni bF.2.2;have bu:=dB S C T x;unfold sI;split
 ·rename_i o s u hx;rw[hx] at bu;split
  ·rename_i bj xs hrow;split
   ·rename_i ji;obtain⟨rfl,rfl⟩:=ji;refine Holds.eo fun y hy=>?_
    obtain⟨rfl,hlen⟩:=ud (hy:long n xs=some y);obtain⟨b,c,cs,hv,_,hc,hr⟩:=S.arr hrow bu;have hcl:cs.length=n:=by rw[hr.1,eW,he,hlen,Nat.mul_one]
    refine dH S Z (vv:=.agg cs.toArray) ?_ ?_
    ·have dm:=tU (P:=P) (w:=w) bF (by rintro h;cases h) ⟨b,0,none⟩ cs hcl (fun j u hu=>by rw[gM];exact hc j u hu)
     unfold execOp;simp only[aE,Instr.loadAt,Instr.sureAddr,hv,Sem.run_bind,Sem.run_pure,Result.andThen_ok,dm];rfl
    ·subst hlen;have:=hA (D:=D) (sites:=st.sites) hr.1 hr.2;rw[<-Qi mQ] at this;exact⟨cs,rfl,this.1,this.2⟩
   ·exact .fail
  ·exact .fail
 ·exact .fail
theorem aca(S:am O Y X D st M w){C:Ctx}(H:CtxOk P C){T e:TypeId}{t:a6}{n:Nat}{a x:Operand}{v:bL}(be:C.tt T=.arr e t n)(aE:B.op=.store T a x)(Z:ch st B.dst=true)(hv:l1 (a7 C st T x)=some v):
  Holds (sh st t n (a7 C st T a) v) (cE P O Y X st M w B):=by
 have bF:=H.tt T;rw[be] at bF;have he:=(ni bF.2.2).1;have qT:=dB S C T a;have hex:=dB S C T x;rw[pI hv] at hex;unfold sh;split
 ·rename_i o s u ad hx;rw[hx] at qT;split
  ·rename_i aC bj xs gx;have gx:look st.sites o=some (.row aC bj xs):=gx;split
   ·rename_i ji;obtain⟨rfl,rfl,rfl⟩:=ji;split
    ·rename_i bd apC;cases hc:bd.length.beq n with
     |false=>exact .fail
     |true=>
      have B7:=Nat.eq_of_beq_eq_true hc;refine Holds.hH fun r hr=>?_
      obtain⟨_,hlen⟩:=ud (hr:long n xs=some r);obtain⟨vs,we,hl,dK⟩:∃vs:List Value,Act.eval ⟨M,[]⟩ x=.agg vs.toArray/\vs.length=ad.length/\∀j (h:j<ad.length) (af:j<vs.length),dQ D st.sites w (ay X D st.sites) (ad[j]) (vs[j]):=hex;have pf:cr D st.sites w (ay X D st.sites) ad vs:=⟨hl,dK⟩;rw[GP apC] at pf;have tm:=iY pf;have l6:vs.length=n:=by rw[tm.1,eW,he,B7,Nat.mul_one]
      obtain⟨b,Cb,vC⟩:=qT;obtain⟨m,c,cO⟩:=Ref.at vC gx rfl;obtain⟨cz,cs,li,hcs⟩:=S.sites o _ gx;rcases li.2 with⟨hn,_⟩|⟨g,cap,cur,fz,n7,hz,hg,hnc,hcm,kt,htk⟩
      ·rw[cO] at hn;cases hn
      ·rw[cO] at n7;cases n7;have aqh:cur.size=c:=by rw[kt,he,Nat.mul_one]
       have lj:0+vs.length<=cur.toList.length:=by
        have:cur.toList.length=cur.size:=Array.length_toList;omega
       have ce:am O Y X D {st with sites:=cl st.sites o (.row aC bj bd)} M (w.setRow b (bG cur.toList 0 vs).toArray):=by
        refine S.write gx rfl rfl rfl (by rw[cO];rfl) hg (fun hs hw hg' go=>?_)
        refine⟨cz,vs,⟨by rw[he,B7,Nat.mul_one];exact l6,.inr ⟨b,c,_,fz,by rw[cO,hlen,B7],?_,hg',by omega,hcm,?_,?_⟩⟩,fun j g1 g2=>oP go (tm.2 j g1 g2)⟩
        ·refine⟨hz.1,hz.2.imp id fun h=>⟨h.1,?_⟩⟩
         rw[List.size_toArray,rr _ _ _ lj];simpa using h.2
        ·rw[List.size_toArray,rr _ _ _ lj,Array.length_toList,aqh,he,Nat.mul_one]
        ·rw[he,Nat.mul_one,B7,<-l6];simp[bG]
       refine xf (us:=[(o,.row aC bj bd)]) ce Z ?_
       have dm:=LM (P:=P) (w:=w) bF (by rintro h;cases h) (vv:=.agg vs.toArray) (cur:=cur.toList) (off:=0) (by simpa using hg) (by simpa using hz) (by simpa[Value.cells,b_.size] using l6) (by simpa[Value.cells] using lj) (by simpa[Value.cells] using ain tm)
       unfold execOp;simp only[aE,Cb,we,Instr.storeAt,Instr.sureAddr,Sem.run_bind,Sem.run_pure,Result.andThen_ok,Nat.zero_mul,Nat.zero_add,dm];simp[Value.cells]
    ·exact .fail
   ·exact .fail
  ·exact .fail
 ·exact .fail
theorem ZY(S:am O Y X D st M w){C:Ctx}(H:CtxOk P C){T e:TypeId}{t:a6}{m:Nat}{x i:Operand}{k:IntKind}{n:Int}(be:C.tt T=.arr e t m)(hi:a7 C st 0 i=.av (.ak (.d (.int k n))))(aE:B.op=.indexAddr T x i)(Z:ch st B.dst=true):
  Holds (rC C st t m (a7 C st T x) n) (cE P O Y X st M w B):=by
 have bF:=H.tt T;rw[be] at bF;obtain⟨ft,_,l_⟩:=bF;obtain⟨he,⟨d,z0,mT⟩,_⟩:=ni l_;have vB:=jT S hi;have bu:=dB S C T x;obtain⟨inf,ks,jz⟩:∃inf,P.info? e=some inf/\inf.size=1:=by
  have:=mT.2.2.2;cases ar:P.info? e with
  |none=>simp[ar] at this
  |some i=>simp only[ar,Option.map_some,Option.some.injEq,Prod.mk.injEq] at this;exact⟨i,rfl,this.1⟩
 have run:∀{b:Nat},Act.eval ⟨M,[]⟩ x=.pointer (some ⟨b,0,none⟩)->0<=n->n<m->(execOp (Act.eval ⟨M,[]⟩) B).run P w=.ok (.value (.pointer (some ⟨b,n.toNat,none⟩))) w:=by
  intro b hx h0 h1;unfold execOp;simp[aE,hx,vB,Instr.indexAt,Instr.sureAddr,asIntOf,run_underlying ft,h0,h1,sizeOf,kT ks,jz,gM]
 unfold rC;split
 ·rename_i o s u hx;rw[hx] at bu;split
  ·rename_i bj xs hrow;split
   ·rename_i ji;obtain⟨rfl,rfl⟩:=ji;refine Holds.eo fun y hy=>?_
    obtain⟨zs,hz1,hz2⟩:=Option.bind_eq_some_iff.1 (hy:(long m xs).bind (fun xs=>a8 xs.length n)=some y)
    obtain⟨rfl,hlen⟩:=ud hz1;unfold a8 at hz2;split at hz2
    ·rename_i hb;cases hz2;obtain⟨b,c,cs,hv,cO,_⟩:=S.arr hrow bu;refine dH S Z (run hv hb.1 (by rw[<-hlen];exact hb.2)) ⟨b,?_,?_⟩
     ·rw[he,Nat.mul_one,Nat.add_zero]
     ·rcases jO hrow with h|h<;>exact Ref.mk h rfl ⟨_,_,cO⟩
    ·cases hz2
   ·exact .fail
  ·exact .fail
 ·rename_i g hx;rw[hx] at bu;split
  ·rename_i bj xs qS;cases hc:(decide (bj=t)&&xs.length.beq m) with
   |false=>exact .fail
   |true=>
    simp only[Bool.and_eq_true,decide_eq_true_eq] at hc;obtain⟨rfl,hlen⟩:=hc;have hlen:=Nat.eq_of_beq_eq_true hlen;refine Holds.eo fun y hy=>?_
    have dW:aU xs n=some y:=hy;unfold aU at dW;split at dW
    ·rename_i h0;have hlt:n.toNat<xs.length:=by
      rcases Nat.lt_or_ge n.toNat xs.length with h|h
      ·exact h
      ·rw[List.getElem?_eq_none h] at dW;cases dW
     obtain⟨XD,tv⟩:=H.gt g _ _ qS;obtain⟨fv,b9⟩:=S.kM;obtain⟨gr,fz',cs,hg,dK⟩:=tv w (ay X D st.sites) fv;have hv:Act.eval ⟨M,[]⟩ x=.pointer (some ⟨g,0,none⟩):=bu;refine dH S Z (run hv h0 (by omega)) ⟨g,n.toNat,rfl,(b9 g XD).1,(b9 g XD).2,(cs.drop n.toNat).take 1,?_,fun j u hu=>?_,?_⟩
     ·have:cs.length=xs.length:=by rw[dK.1,eW,he,Nat.mul_one]
      rw[iU,he];simp;omega
     ·exact(((hV.row hg).drop n.toNat).take 1) j u hu|>fun h=>by simpa using h
     ·have hs:=ua bj xs n.toNat y dW;rw[he,Nat.mul_one] at hs;have mJ:cX w (ay X D st.sites) (flat bj xs) cs:=dK;have ajU:=hA (D:=D) (sites:=st.sites) mJ.1 mJ.2;have h2:=iY (ds:=((flat bj xs).drop n.toNat).take 1) (by
       have:=(ajU.drop n.toNat).take 1;simpa[cx,List.map_drop,List.map_take] using this)
      rw[hs] at h2;exact h2.2
    ·cases dW
  ·exact .fail
 ·exact .fail
theorem adf(S:am O Y X D st M w){C:Ctx}(H:CtxOk P C){T e:TypeId}{t:a6}{m:Nat}{x i:Operand}{k:IntKind}{n:Int}(be:C.tt T=.arr e t m)(hi:a7 C st 0 i=.av (.ak (.d (.int k n))))(aE:B.op=.index T x i)(Z:ch st B.dst=true):
  Holds (Hw t m (a7 C st T x) n) (cE P O Y X st M w B):=by
 have bF:=H.tt T;rw[be] at bF;obtain⟨ft,_,l_⟩:=bF;obtain⟨he,⟨d,z0,mT⟩,_⟩:=ni l_;have vB:=jT S hi;have bu:=dB S C T x;obtain⟨inf,ks,jz⟩:∃inf,P.info? e=some inf/\inf.size=1:=by
  have:=mT.2.2.2;cases ar:P.info? e with
  |none=>simp[ar] at this
  |some i=>simp only[ar,Option.map_some,Option.some.injEq,Prod.mk.injEq] at this;exact⟨i,rfl,this.1⟩
 unfold Hw;split
 ·rename_i ad hx;rw[hx] at bu;split
  ·rename_i xs tf;cases hc:xs.length.beq m with
   |false=>exact .fail
   |true=>
    have hlen:=Nat.eq_of_beq_eq_true hc;refine Holds.eo fun y hy=>?_
    have dW:aU xs n=some y:=hy;unfold aU at dW;split at dW
    ·rename_i h0;have hlt:n.toNat<xs.length:=by
      rcases Nat.lt_or_ge n.toNat xs.length with h|h
      ·exact h
      ·rw[List.getElem?_eq_none h] at dW;cases dW
     obtain⟨vs,hv,hl,hr⟩:∃vs:List Value,Act.eval ⟨M,[]⟩ x=.agg vs.toArray/\vs.length=ad.length/\∀j (h:j<ad.length) (af:j<vs.length),dQ D st.sites w (ay X D st.sites) (ad[j]) (vs[j]):=bu;have pf:cr D st.sites w (ay X D st.sites) ad vs:=⟨hl,hr⟩;rw[GP tf] at pf;have tm:=iY pf;have l6:vs.length=xs.length:=by rw[tm.1,eW,he,Nat.mul_one]
     obtain⟨d1,hd1⟩:∃d1,enc t y=[d1]:=by
      have:=iU t y;rw[he] at this;match h:enc t y,this with
      |[d1],_=>exact⟨d1,rfl⟩
     simp only[hd1];have cJ:n.toNat<vs.length:=by omega
     refine dH S Z (vv:=vs[n.toNat]) ?_ ?_
     ·have IL:(isAgg e).run P w=.ok false w:=by
       have h1:=mT.1;simp only[isAgg,Sem.run_bind,run_underlying h1,Result.andThen_ok];have g1:=mT.2.1;have g2:=mT.2.2.1;cases d<;>first|rfl|exact absurd rfl (g1 _)|exact absurd rfl (g2 _ _)
      have h1:n<(m:Int):=by omega
      unfold execOp;simp[aE,hv,vB,Instr.index,asIntOf,run_underlying ft,h0,h1,sizeOf,kT ks,jz,part,IL,cJ]
     ·have hs:=ua t xs n.toNat y dW;rw[he,Nat.mul_one,hd1] at hs;have pj:n.toNat<(flat t xs).length:=by rw[eW,he,Nat.mul_one];exact hlt
      have e1:(flat t xs)[n.toNat]=d1:=by
       have:=congrArg (fun l=>l[0]?) hs
       simp only[List.getElem?_take,List.getElem?_drop] at this;rw[if_pos (by decide),Nat.add_zero,List.getElem?_eq_getElem pj] at this
       simpa using this
      have:=tm.2 n.toNat pj cJ;rw[e1] at this;exact this
    ·cases dW
  ·exact .fail
 ·exact .fail
theorem acf(S:am O Y X D st M w){C:Ctx}(H:CtxOk P C){T e:TypeId}{t:a6}{m:Nat}{x:Operand}{cQ hi:Option Operand}(be:C.tt T=.arr e t m)(aE:B.op=.slice T x cQ hi none)(Z:ch st B.dst=true):
  Holds (sk st t m (a7 C st T x) (cQ.map (a7 C st 0)) (hi.map (a7 C st 0))) (cE P O Y X st M w B):=by
 have bF:=H.tt T;rw[be] at bF;obtain⟨ft,_,l_⟩:=bF;obtain⟨he,⟨d,z0,mT⟩,_⟩:=ni l_;have bu:=dB S C T x;obtain⟨inf,ks,jz⟩:∃inf,P.info? e=some inf/\inf.size=1:=by
  have:=mT.2.2.2;cases ar:P.info? e with
  |none=>simp[ar] at this
  |some i=>simp only[ar,Option.map_some,Option.some.injEq,Prod.mk.injEq] at this;exact⟨i,rfl,this.1⟩
 have qx:∀{cQ:Option Operand} {lk l:Int},iD lk (cQ.map (a7 C st 0))=some l->(cQ.map (Act.eval ⟨M,[]⟩)=none/\l=lk)\/∃k,cQ.map (Act.eval ⟨M,[]⟩)=some (.int k l):=by
  intro cQ lk l h;rcases O7 S h with⟨rfl,af⟩|⟨x,k,rfl,af⟩
  ·exact .inl ⟨rfl,af⟩
  ·exact .inr ⟨k,by simp[af]⟩
 unfold sk;split
 ·rename_i o s u hx;rw[hx] at bu;split
  ·rename_i bj xs l h hrow fU hhi;split
   ·rename_i ji;obtain⟨rfl,rfl⟩:=ji;refine Holds.hH fun r hr=>?_
    obtain⟨zs,hz1,hz2⟩:=Option.bind_eq_some_iff.1 (hr:(long m xs).bind (fun xs=>br xs l h)=some r)
    obtain⟨rfl,hlen⟩:=ud hz1;unfold br at hz2;split at hz2
    ·rename_i hb;obtain⟨h0,h1,h2⟩:=hb;cases hz2;obtain⟨b,c,cs,hv,cO,_⟩:=S.arr hrow bu;refine Nl (us:=[(o,.di s bj zs)]) (OZ hrow).symm ?_
     have hfz:dI st.sites [(o,.di s bj zs)]:=by
      intro aa ab hm;simp only[List.mem_singleton,Prod.mk.injEq] at hm;obtain⟨rfl,rfl⟩:=hm;exact⟨s,bj,zs,rfl,jO hrow⟩
     have aX:kS O Y X D st M w [(o,.di s bj zs)]:=⟨S,hfz⟩;have J7:=CR hfz (List.mem_singleton.2 rfl);obtain⟨dK,R1⟩:=aX.new.sites o _ J7;rw[cO] at dK;generalize Xn:Value.slice (some ⟨b,0,none⟩) zs.length c=v at dK;cases dK with
     |nil=>cases Xn
     |sl _ _ a cap n' k hk hcap dR hl hc hr=>
      cases Xn;have aqm:=De (P:=P) (w:=w) false m m (cQ.map (Act.eval ⟨M,[]⟩)) (hi.map (Act.eval ⟨M,[]⟩)) l h (qx fU) (qx hhi) h0 h1 (by omega) (Nat.le_refl _)
      refine kV (us:=[(o,.di s bj zs)]) aX.new Z (vv:=.slice (if m=l.toNat then some ⟨b,0,none⟩ else(some (⟨b,0,none⟩:Addr)).map (·.add (l.toNat*aT bj))) (h.toNat-l.toNat) (m-l.toNat)) ?_ ?_
      ·unfold execOp;simp only[aE,Option.map_none,Sem.run_bind,Instr.sliceAt,run_underlying ft,Result.andThen_ok,hv,Instr.sureAddr,Sem.run_pure,aqm,sizeOf,kT ks,jz,he];split<;>simp
      ·exact FW dR ⟨hl,hr⟩ hc l.toNat h.toNat m (by omega) (by omega) (by omega)
    ·cases hz2
   ·exact .fail
  ·exact .fail
 ·exact .fail
theorem adm{f g:Nat->Option (Nat×Nat)}(h:∀i p,f i=some p->g i=some p):∀(l:List (Nat×Value)) (cs n':Array Value),Instr.fill f cs l=some n'->Instr.fill g cs l=some n':=by
 intro l;induction l with
 |nil=>intro cs n' k;exact k
 |cons p l ih=>
  obtain⟨i,v⟩:=p;intro cs n' k;simp only[Instr.fill] at k ⊢;cases hf:f i with
  |none=>simp[hf] at k
  |some q=>
   obtain⟨off,size⟩:=q;rw[h i _ hf];rw[hf] at k;simp only at k ⊢;split at k
   ·cases k
   ·rename_i hn;rw[if_neg hn];exact ih _ _ k
theorem adw(S:am O Y X D st M w){C:Ctx}(H:CtxOk P C){T e:TypeId}{t:a6}{n:Nat}{z:aF}{parts:Array (Nat×Operand)}(be:C.tt T=.arr e t n)(hz:ta t=some z)(aE:B.op=.build T parts)(Z:ch st B.dst=true):
  Holds (step.mz C st ((List.range n).map fun j=>(j,1)) (List.replicate n z) parts.toList) (cE P O Y X st M w B):=by
 have bF:=H.tt T;rw[be] at bF;obtain⟨ft,⟨fV,fH,ks,hz1,hzz⟩,l_⟩:=bF;rw[hz] at hz1;cases hz1;obtain⟨he,⟨d,z0,mT⟩,_⟩:=ni l_;obtain⟨auI,ap9,al1⟩:∃inf,P.info? e=some inf/\inf.size=1:=by
  have:=mT.2.2.2;cases ar:P.info? e with
  |none=>simp[ar] at this
  |some i=>simp only[ar,Option.map_some,Option.some.injEq,Prod.mk.injEq] at this;exact⟨i,rfl,this.1⟩
 obtain⟨aB,aA,bC⟩:=tW hzz;intro y hy hc;obtain⟨g1,ju,g2,g3⟩:=N6 S parts.toList (List.replicate n z) fV ⟨aB,fun j h af=>bC _ _ _ _ j h af⟩ y hy hc
 rw[g1];refine dH S Z (vv:=.agg ju) ?_ g3;cases hi:P.info? T with
 |none=>simp[hi] at ks
 |some it=>
  simp only[hi,Option.map_some,Option.some.injEq,Prod.mk.injEq] at ks;have hb:P.built T (parts.toList.map fun p=>(p.1,Act.eval ⟨M,[]⟩ p.2))=some ju:=by
   unfold Program.built;simp only[hi,ft,ks.2,ap9,al1];refine adm (fun i p hp=>?_) _ _ _ g2
   simp only[List.getElem?_toArray,List.getElem?_map,Option.map_eq_some_iff] at hp;obtain⟨a,ha,rfl⟩:=hp;have:=List.getElem?_eq_some_iff.1 ha;obtain⟨h1,h2⟩:=this;simp at h2;subst h2;simp
  have dR:P.built T (parts.map fun p=>(p.1,Act.eval ⟨M,[]⟩ p.2)).toList=some ju:=by simpa using hb
  unfold execOp;simp only[aE,Sem.run_bind,run_build w T _ ju dR,Result.andThen_ok,Sem.run_pure]
theorem _M(S:am O Y X D st M w){C:Ctx}{x:Operand}{k:IntKind}{n:Int}{T dO:TypeId}(aE:B.op=.unOp .xor dO x)(Z:ch st B.dst=true)(hc:a7 C st T x=.av (.ak (.d (.int k n)))):
  cE P O Y X st M w B (one (.int k (dl k (if k.signed then-1 else k.max) n))) []:=by
 refine dH S Z (vv:=.int k (dl k (if k.signed then-1 else k.max) n)) ?_ (.int _ _)
 unfold execOp;simp[aE,jT S hc,Op.unary,Op.intBits,dl]
end
def lV:Nat->Value:=fun _=>undef
def mF(w:World)(av:Nat->Prop)(l:aF)(v:Value)(bs:List Nat):Prop:=
 match l with
 |.fresh t xs=>bs=(bH v).toList/\∃e,∃cs:List Value,rowAt w t.jF e (aT t) v xs.length cs/\cX w av (flat t xs) cs
 |l=>bs=[]/\dQ lV [] w av l v
def lf(w:World)(av:Nat->Prop):List aF->List Value->List Nat->Prop
 |[],[],bs=>bs=[]
 |l::ad,v::vs,bs=>∃b1 b2,bs=b1++b2/\mF w av l v b1/\lf w av ad vs b2
 |_,_,_=>False
def Be(w:World)(av:Nat->Prop):bL->Value->List Nat->Prop
 |.ak l,v,bs=>mF w av l v bs
 |.agg ad,v,bs=>∃vs:List Value,v=.agg vs.toArray/\lf w av ad vs bs
def k6(w:World)(av:Nat->Prop):List bL->List Value->List Nat->Prop
 |[],[],bs=>bs=[]
 |l::ad,v::vs,bs=>∃b1 b2,bs=b1++b2/\Be w av l v b1/\k6 w av ad vs b2
 |_,_,_=>False
def GV(w:World)(av:Nat->Prop)(b:Nat)(cells:List aF)(bs:List Nat):Prop:=
 ∃T,∃cur:List Value,∃oa,bs=b::oa/\w.heap[b]? =some (.cells cur.toArray T (0,0))/\(∀u∈cur,u.oneCell'=true)/\mE cells T cur b/\lf w av cells cur oa
def Qk(w:World)(av:Nat->Prop):Arg->Value->List Nat->Prop
 |.av a,v,bs=>Be w av a v bs
 |.fj cells,v,bs=>∃b,v=.pointer (some ⟨b,0,none⟩)/\GV w av b cells bs
def iW(w:World)(av:Nat->Prop):List Arg->List Value->List Nat->Prop
 |[],[],bs=>bs=[]
 |l::ad,v::vs,bs=>∃b1 b2,bs=b1++b2/\Qk w av l v b1/\iW w av ad vs b2
 |_,_,_=>False
def dN:List Arg->List Value->List Nat
 |.fj _::as,.pointer (some a)::vs=>a.block::dN as vs
 |_::as,_::vs=>dN as vs
 |_,_=>[]
def i_(w:World)(av:Nat->Prop):List Nat->List (List aF)->List Nat->Prop
 |[],[],bs=>bs=[]
 |b::dx,cs::cK,bs=>∃b1 b2,bs=b1++b2/\GV w av b cs b1/\i_ w av dx cK b2
 |_,_,_=>False
def nD:List Value->Value
 |[v]=>v
 |vs=>.tuple vs.toArray
def Enters(P:Program)(g:FuncId)(vs:Array Value)(w:World)(R:Value->World->Prop):Prop:=
 ((callFunc g vs).run P w=.ok (.enter g vs) w/\Calls P g vs w fun|.returned v,w'=>R v w'|_,_=>False)\/(∃v w',(callFunc g vs).run P w=.ok (.value v) w'/\R v w')
def aG(P:Program)(g:FuncId)(S:aH):Prop:=
 ∀as y,(S as).comp=some y->∀(w:World) (X:Nat->Prop) (vs:List Value) (dt:List Nat),iW w (fun b=>X b\/b∈dt) as vs dt->dt.Nodup->(∀b,b∈dt->¬X b)->(∀b,X b->b<w.heap.size)->iz w dt X->
  Enters P g vs.toArray w fun v w'=>∃ek ej rv,Fr dt w w'/\i_ w' (fun b=>X b\/b∈ek++ej) (dN as vs) ((S as).fj y) ek/\k6 w' (fun b=>X b\/b∈ek++ej) ((S as).fa y) rv ej/\
   v=nD rv/\(ek++ej).Nodup/\∀b,b∈ek++ej->¬X b/\(b∈dt\/w.heap.size<=b)
section
variable {O:World}{Y:List Nat}{X:Nat->Prop}{D:Nat->Value}{st:ah}{M:Array Value}{w:World}
theorem cc.gT{sites:List (Nat×Site)}{av cd:Nat->Prop}(h:∀b,cd b->av b)(hlt:∀b,cd b->b<w.heap.size){a:aJ}{v:Value}(k:cc D sites w av a v):cc D sites w cd a v:=by
 have G:h6 D D sites sites w w av cd:=⟨fun o ab hs=>⟨ab,hs,Nat.le_refl _,fun _=>rfl⟩,fun _ _ _=>rfl,fun b hb _ af=>hb (h b af)⟩
 exact k.goes G (Nat.le_refl _) hlt
theorem jU.gT{sites:List (Nat×Site)}{av cd:Nat->Prop}(h:∀b,cd b->av b)(hlt:∀b,cd b->b<w.heap.size){o:Nat}{ab:Site}(k:jU D sites w av o ab):jU D sites w cd o ab:=by
 have G:h6 D D sites sites w w av cd:=⟨fun o ab hs=>⟨ab,hs,Nat.le_refl _,fun _=>rfl⟩,fun _ _ _=>rfl,fun b hb _ af=>hb (h b af)⟩
 exact k.goes G (Nat.le_refl _) hlt rfl (fun _ _ _=>rfl)
theorem am.lt(S:am O Y X D st M w){b:Nat}(h:ay X D st.sites b):b<w.heap.size:=by
 rcases h with h|⟨o,h1,h2⟩
 ·exact S.old b h
 ·exact S.fy h1 h2
theorem am.shrink(S:am O Y X D st M w){X':Nat->Prop}(h:∀b,X' b->X b):am O Y X' D st M w:=by
 have b9:∀b,ay X' D st.sites b->ay X D st.sites b:=by
  rintro b (hb|hb)
  ·exact .inl (h b hb)
  ·exact .inr hb
 have hlt:=fun b hb=>S.lt (b9 b hb)
 exact⟨S.nt,fun t=>(S.cF t).gT b9 hlt,fun o ab hs=>(S.sites o ab hs).gT b9 hlt,S.dV,fun o b h1 h2=>⟨fun hx=>(S.ci o b h1 h2).1 (h b hx),(S.ci o b h1 h2).2⟩,S.frame,fun b hb=>S.old b (h b hb),S.eY.less fun b _=>h b⟩
theorem am.kill(S:am O Y X D st M w){o:Nat}{ab:Site}(hl:look st.sites o=some ab)(lQ:ab.live=true):
  am O Y (fun b=>X b\/bH (D o)=some b) D {st with sites:=cl st.sites o (.dead ab.cq)} M w:=by
 have cJ:∀aa,cg (cl st.sites o (.dead ab.cq)) aa->aa≠o/\cg st.sites aa:=by
  rintro aa ⟨s,h1,h2⟩;rw[cZ] at h1;by_cases e:o=aa
  ·subst e;simp at h1;subst h1;cases h2
  ·simp only[e,if_false] at h1;exact⟨fun h=>e h.symm,s,h1,h2⟩
 have b9:∀b,ay (fun b=>X b\/bH (D o)=some b) D (cl st.sites o (.dead ab.cq)) b->ay X D st.sites b:=by
  rintro b ((h|h)|⟨aa,h1,h2⟩)
  ·exact .inl h
  ·exact .inr ⟨o,⟨ab,hl,lQ⟩,h⟩
  ·exact .inr ⟨aa,(cJ aa h1).2,h2⟩
 have hlt:=fun b hb=>S.lt (b9 b hb)
 have ce:am O Y X D {st with sites:=cl st.sites o (.dead ab.cq)} M w:=by
  have vE:∀b,ay X D (cl st.sites o (.dead ab.cq)) b->ay X D st.sites b:=by
   rintro b (h|⟨aa,h1,h2⟩)
   ·exact .inl h
   ·exact .inr ⟨aa,(cJ aa h1).2,h2⟩
  refine S.qn (fun aa s hs=>?_) (fun _ _ _=>rfl) (fun b hb _ af=>hb (vE b af)) (fun go aa s hs=>?_) (fun aa ρ b h1 h2 g1 g2=>S.dV aa ρ b (cJ aa h1).2 (cJ ρ h2).2 g1 g2) (fun aa b h1 h2=>S.ci aa b (cJ aa h1).2 h2)
   (fun aa b h1 h2=>S.fy (cJ aa h1).2 h2) S.frame (Nat.le_refl _)
  ·rw[cZ];by_cases e:o=aa
   ·subst e;rw[hl] at hs;cases hs;exact⟨.dead ab.cq,by simp,Nat.le_refl _,fun _=>rfl⟩
   ·exact⟨s,by simp[e,hs],Nat.le_refl _,fun _=>rfl⟩
  ·rw[cZ] at hs;by_cases e:o=aa
   ·simp only[e,if_true,Option.some.injEq] at hs;subst hs;exact .inr trivial
   ·simp only[e,if_false] at hs;exact .inl ⟨hs,rfl,fun _ _ _=>rfl⟩
 refine⟨ce.nt,fun t=>?_,fun aa s hs=>?_,ce.dV,fun aa b h1 h2=>⟨?_,(ce.ci aa b h1 h2).2⟩,ce.frame,?_,S.eY.less fun b hb hx=>hx.elim id fun e=>absurd (.inr ⟨o,⟨ab,hl,lQ⟩,e⟩) (S.kM.2 b hb).1⟩
 ·have G:h6 D D st.sites (cl st.sites o (.dead ab.cq)) w w (ay X D st.sites) (ay (fun b=>X b\/bH (D o)=some b) D (cl st.sites o (.dead ab.cq))):=
   ⟨fun aa s hs=>by
    rw[cZ];by_cases e:o=aa
    ·subst e;rw[hl] at hs;cases hs;exact⟨.dead ab.cq,by simp,Nat.le_refl _,fun _=>rfl⟩
    ·exact⟨s,by simp[e,hs],Nat.le_refl _,fun _=>rfl⟩,fun _ _ _=>rfl,fun b hb _ af=>hb (b9 b af)⟩
  exact(S.cF t).goes G (Nat.le_refl _) hlt
 ·have fG:look (cl st.sites o (.dead ab.cq)) aa=some s:=hs;rw[cZ] at fG;by_cases e:o=aa
  ·simp only[e,if_true,Option.some.injEq] at fG;subst fG;trivial
  ·simp only[e,if_false] at fG;have G:h6 D D st.sites (cl st.sites o (.dead ab.cq)) w w (ay X D st.sites) (ay (fun b=>X b\/bH (D o)=some b) D (cl st.sites o (.dead ab.cq))):=
    ⟨fun aa s hs=>by
     rw[cZ];by_cases e:o=aa
     ·subst e;rw[hl] at hs;cases hs;exact⟨.dead ab.cq,by simp,Nat.le_refl _,fun _=>rfl⟩
     ·exact⟨s,by simp[e,hs],Nat.le_refl _,fun _=>rfl⟩,fun _ _ _=>rfl,fun b hb _ af=>hb (b9 b af)⟩
   exact(S.sites aa s fG).goes G (Nat.le_refl _) hlt rfl (fun _ _ _=>rfl)
 ·rintro(hx|hx)
  ·exact(ce.ci aa b h1 h2).1 hx
  ·exact(cJ aa h1).1 (S.dV aa o b (cJ aa h1).2 ⟨ab,hl,lQ⟩ h2 hx)
 ·rintro b (hb|hb)
  ·exact S.old b hb
  ·exact S.fy ⟨ab,hl,lQ⟩ hb
theorem am.jump(S:am O Y X D st M w){w':World}(h:∀b,¬X b->b<w.heap.size->w'.heap[b]? =w.heap[b]?)(hs:w.heap.size<=w'.heap.size)(hf:Fr Y O w'):
  am O Y (fun b=>X b\/(w.heap.size<=b/\b<w'.heap.size)) D st M w':=by
 have hlt:∀b,ay (fun b=>X b\/(w.heap.size<=b/\b<w'.heap.size)) D st.sites b->b<w'.heap.size:=by
  rintro b ((hb|hb)|⟨aa,h1,h2⟩)
  ·exact Nat.lt_of_lt_of_le (S.old b hb) hs
  ·exact hb.2
  ·exact Nat.lt_of_lt_of_le (S.fy h1 h2) hs
 have G:h6 D D st.sites st.sites w w' (ay X D st.sites) (ay (fun b=>X b\/(w.heap.size<=b/\b<w'.heap.size)) D st.sites):=
  ⟨fun aa s h=>⟨s,h,Nat.le_refl _,fun _=>rfl⟩,fun b hb dR=>h b (fun hx=>hb (.inl hx)) dR,fun b hb dR af=>by
   rcases af with(af|af)|af
   ·exact hb (.inl af)
   ·omega
   ·exact hb (.inr af)⟩
 refine⟨S.nt,fun t=>(S.cF t).goes G hs hlt,fun o s h1=>(S.sites o s h1).goes G hs hlt rfl (fun hl b hb=>?_),S.dV,fun o b h1 h2=>⟨?_,(S.ci o b h1 h2).2⟩,hf,?_,S.eY.less fun b hb hx=>hx.elim id fun e=>absurd (S.kM.2 b hb).2 (by omega)⟩
 ·exact h b (S.ci o b ⟨s,h1,hl⟩ hb).1 (S.fy ⟨s,h1,hl⟩ hb)
 ·rintro(hx|hx)
  ·exact(S.ci o b h1 h2).1 hx
  ·have:=S.fy h1 h2;omega
 ·rintro b (hb|hb)
  ·exact Nat.lt_of_lt_of_le (S.old b hb) hs
  ·exact hb.2
theorem am.vk(S:am O Y X D st M w){X':Nat->Prop}{n:Nat}{bV:Site}{nv:Value}(gq:∀b,X' b->X b)
  (dJ:(∀ab,look st.sites n=some ab->ab.cq<bV.cq)\/(D n=nv/\∀ab,look st.sites n=some ab->ab.cq=bV.cq/\ab.live=false))
  (hb:∀b,bH nv=some b->X b/\¬X' b/\(b∈Y\/O.heap.size<=b))
  (fv:∀{bU:List (Nat×Site)} {aI:Nat->Value},bU=cl st.sites n bV->aI n=nv->(∀{a v},cc D st.sites w (ay X D st.sites) a v->cc aI bU w (ay X' aI bU) a v)->
   (∀b,ay X' aI bU b->ay X D st.sites b)->jU aI bU w (ay X' aI bU) n bV):
  am O Y X' (fun aa=>if aa=n then nv else D aa) {st with sites:=cl st.sites n bV} M w/\
   (∀b,ay X' (fun aa=>if aa=n then nv else D aa) (cl st.sites n bV) b->ay X D st.sites b)/\
   (∀{a v},cc D st.sites w (ay X D st.sites) a v->cc (fun aa=>if aa=n then nv else D aa) (cl st.sites n bV) w (ay X' (fun aa=>if aa=n then nv else D aa) (cl st.sites n bV)) a v):=by
 have cJ:∀aa,cg (cl st.sites n bV) aa->aa=n\/(aa≠n/\cg st.sites aa):=by
  rintro aa ⟨s,h1,h2⟩;rw[cZ] at h1;by_cases e:n=aa
  ·exact .inl e.symm
  ·simp only[e,if_false] at h1;exact .inr ⟨fun h=>e h.symm,s,h1,h2⟩
 have b9:∀b,ay X' (fun aa=>if aa=n then nv else D aa) (cl st.sites n bV) b->ay X D st.sites b:=by
  rintro b (h|⟨aa,h1,h2⟩)
  ·exact .inl (gq b h)
  ·rcases cJ aa h1 with rfl|⟨h3,aw⟩
   ·simp at h2;exact .inl (hb b h2).1
   ·simp only[h3,if_false] at h2;exact .inr ⟨aa,aw,h2⟩
 have qv:∀o ab,look st.sites o=some ab->∃aC,look (cl st.sites n bV) o=some aC/\ab.cq<=aC.cq/\(aC.cq=ab.cq->(fun aa=>if aa=n then nv else D aa) o=D o):=by
  intro aa s hs;rw[cZ];by_cases e:n=aa
  ·subst e;refine⟨bV,by simp,?_,fun h=>?_⟩
   ·rcases dJ with h|⟨_,h⟩
    ·exact Nat.le_of_lt (h s hs)
    ·exact Nat.le_of_eq (h s hs).1
   ·rcases dJ with af|⟨af,_⟩
    ·have:=af s hs;omega
    ·simp[af]
  ·have cz:¬aa=n:=fun h=>e h.symm
   exact⟨s,by simp[e,hs],Nat.le_refl _,fun _=>by simp[cz]⟩
 have G:h6 D (fun aa=>if aa=n then nv else D aa) st.sites (cl st.sites n bV) w w (ay X D st.sites) (ay X' (fun aa=>if aa=n then nv else D aa) (cl st.sites n bV)):=
  ⟨qv,fun _ _ _=>rfl,fun b hb _ af=>hb (b9 b af)⟩
 have hlt:=fun b hb=>S.lt (b9 b hb)
 refine⟨⟨S.nt,fun t=>(S.cF t).goes G (Nat.le_refl _) hlt,fun aa s hs=>?_,fun aa ρ b h1 h2 g1 g2=>?_,fun aa b h1 h2=>?_,S.frame,fun b h=>S.old b (gq b h),S.eY.less fun b _=>gq b⟩,b9,fun h=>h.goes G (Nat.le_refl _) hlt⟩
 ·have fG:look (cl st.sites n bV) aa=some s:=hs;rw[cZ] at fG;by_cases e:n=aa
  ·subst e;simp only[if_true,Option.some.injEq] at fG;subst fG;exact fv rfl (by simp) (fun h=>h.goes G (Nat.le_refl _) hlt) b9
  ·have cz:¬aa=n:=fun h=>e h.symm
   simp only[e,if_false] at fG;exact(S.sites aa s fG).goes G (Nat.le_refl _) hlt (by simp[cz]) (fun _ _ _=>rfl)
 ·rcases cJ aa h1 with rfl|⟨n1,ee⟩<;>rcases cJ ρ h2 with rfl|⟨n2,gB⟩
  ·rfl
  ·simp only[if_true] at g1;simp only[n2,if_false] at g2;exact absurd (hb b g1).1 (S.ci ρ b gB g2).1
  ·simp only[if_true] at g2;simp only[n1,if_false] at g1;exact absurd (hb b g2).1 (S.ci aa b ee g1).1
  ·simp only[n1,if_false] at g1;simp only[n2,if_false] at g2;exact S.dV aa ρ b ee gB g1 g2
 ·rcases cJ aa h1 with rfl|⟨n1,ee⟩
  ·simp only[if_true] at h2;exact⟨(hb b h2).2.1,(hb b h2).2.2⟩
  ·simp only[n1,if_false] at h2;exact⟨fun hx=>(S.ci aa b ee h2).1 (gq b hx),(S.ci aa b ee h2).2⟩
end
def kl(w:World)(av:Nat->Prop):List (List aZ)->List Value->Prop
 |[],[]=>True
 |ds::r,v::vs=>(∃b,∃cs:List Value,v=.pointer (some ⟨b,0,none⟩)/\¬av b/\b<w.heap.size/\hV w b 0 cs/\cX w av ds cs)/\kl w av r vs
 |_,_=>False
theorem kl.fn{w:World}{av:Nat->Prop}{g:FuncId}:∀{bz:List (List aZ)} {vs:List Value},kl w av bz vs->bD w av (.fn g bz) (.func (.func g) #[] vs.toArray):=by
 intro bz vs h;have key:∀{bz:List (List aZ)} {vs:List Value},kl w av bz vs->∃nb:List Nat,∃eZ:List (List Value),vs=nb.map (fun b=>Value.pointer (some ⟨b,0,none⟩))/\nb.length=bz.length/\eZ.length=bz.length/\
   (∀b,b∈nb->¬av b/\b<w.heap.size)/\(∀i (h:i<nb.length) (af:i<eZ.length),hV w nb[i] 0 eZ[i])/\(∀i (h:i<bz.length) (af:i<eZ.length),cX w av bz[i] eZ[i]):=by
  intro bz;induction bz with
  |nil=>
   intro vs h;match vs,h with
   |[],_=>exact⟨[],[],rfl,rfl,rfl,fun b h=>by simp at h,fun i h=>by simp at h,fun i h=>by simp at h⟩
  |cons ds bz ih=>
   intro vs h;match vs,h with
   |v::vs,⟨⟨b,cs,h1,h2,h3,aw,bk⟩,cp⟩=>
    obtain⟨nb,eZ,aB,aA,bC,cL,fK,ia⟩:=ih cp;refine⟨b::nb,cs::eZ,by simp[h1,aB],by simp[aA],by simp[bC],fun c hc=>?_,fun i g1 g2=>?_,fun i g1 g2=>?_⟩
    ·rcases List.mem_cons.1 hc with rfl|hc
     ·exact⟨h2,h3⟩
     ·exact cL c hc
    ·cases i with
     |zero=>exact aw
     |succ i=>exact fK i (by simpa using g1) (by simpa using g2)
    ·cases i with
     |zero=>exact bk
     |succ i=>exact ia i (by simpa using g1) (by simpa using g2)
 obtain⟨nb,eZ,aB,aA,bC,cL,fK,ia⟩:=key h;refine .fn g bz nb (fun i=>eZ.getD i []) _ (by rw[aB]) aA (fun b hb=>(cL b hb).1) (fun b hb=>(cL b hb).2) (fun i hi=>?_) (fun i hi j u hu=>?_) (fun i hi j h1 h2=>?_)
 ·have af:i<eZ.length:=by omega
  have:=(ia i hi af).1;simpa[List.getD,af] using this
 ·have af:i<eZ.length:=by omega
  have:=fK i hi af j u (by simpa[List.getD,af] using hu)
  simpa using this
 ·have af:i<eZ.length:=by omega
  have h2':j<eZ[i].length:=by simpa[List.getD,af] using h2
  have:=(ia i hi af).2 j h1 h2';simpa[List.getD,af] using this
theorem kl.RL{w:World}{av:Nat->Prop}{g:FuncId}{bz:List (List aZ)}{v:Value}(h:bD w av (.fn g bz) v):∃vs:List Value,v=.func (.func g) #[] vs.toArray/\kl w av bz vs:=by
 cases h with
 |fn _ _ bs iR lb hlb tx hb hlt hl hc hr=>
  refine⟨bs.map fun b=>Value.pointer (some ⟨b,0,none⟩),by rw[hlb],?_⟩
  have key:∀(bz:List (List aZ)) (bs:List Nat) (iR:Nat->List Value),bs.length=bz.length->(∀b,b∈bs->¬av b/\b<w.heap.size)->(∀i (h:i<bz.length),(iR i).length=(bz[i]).length)->
    (∀i (h:i<bs.length) j u,(iR i)[j]? =some u->w.cell? ⟨bs[i],j,none⟩=some u)->(∀i (h:i<bz.length) j (h1:j<(bz[i]).length) (h2:j<(iR i).length),bD w av ((bz[i])[j]) ((iR i)[j]))->
    kl w av bz (bs.map fun b=>Value.pointer (some ⟨b,0,none⟩)):=by
   intro bz;induction bz with
   |nil=>intro bs iR h _ _ _ _;rw[List.eq_nil_of_length_eq_zero h];trivial
   |cons ds bz ih=>
    intro bs iR h h1 h2 h3 aw;match bs,h with
    |b::bs,h=>
     refine⟨⟨b,iR 0,rfl,(h1 b List.mem_cons_self).1,(h1 b List.mem_cons_self).2,fun j u hu=>?_,h2 0 (by simp),fun j g1 g2=>aw 0 (by simp) j g1 g2⟩,?_⟩
     ·have:=h3 0 (by simp) j u hu
      simpa using this
     ·exact ih bs (fun i=>iR (i+1)) (by simpa using h) (fun c hc=>h1 c (List.mem_cons_of_mem _ hc)) (fun i hi=>h2 (i+1) (by simpa using hi)) (fun i hi j u hu=>h3 (i+1) (by simpa using hi) j u hu)
       (fun i hi j g1 g2=>aw (i+1) (by simpa using hi) j g1 g2)
  exact key bz bs iR tx (fun b h=>⟨hb b h,hlt b h⟩) hl hc hr
section
variable {O:World}{Y:List Nat}{X:Nat->Prop}{D:Nat->Value}{st:ah}{M:Array Value}{w:World}
structure fs(O:World)(Y:List Nat)(X:Nat->Prop)(D:Nat->Value)(st:ah)(M:Array Value)(w:World)(df:List (Nat×Site))(eU:List Nat)(av:Nat->Prop):Prop where
 fz:kS O Y X D st M w df
 le:∀b,av b->ay X D (bm st.sites df) b
 asJ:∀o,o∈eU->∀b,bH (D o)=some b->¬av b
variable {df:List (Nat×Site)}{eU:List Nat}{av:Nat->Prop}
theorem fs.lt(L:fs O Y X D st M w df eU av){b:Nat}(h:av b):b<w.heap.size:=L.fz.new.lt (L.le b h)
theorem fs.sub(L:fs O Y X D st M w df eU av){b:Nat}(h:av b):ay X D st.sites b:=by
 rcases L.le b h with h|⟨o,⟨ab,h1,h2⟩,h3⟩
 ·exact .inl h
 ·refine .inr ⟨o,?_,h3⟩;rcases lz L.fz.fz o with h|⟨s,t,xs,aw,bk⟩
  ·exact⟨ab,h▸h1,h2⟩
  ·rw[bk] at h1;cases h1;cases h2
theorem fs.rd(L:fs O Y X D st M w df eU av){d:aZ}{v:Value}(h:bD w (ay X D (bm st.sites df)) d v):bD w av d v:=
 cc.gT (D:=D) (sites:=[]) (a:=one d) (v:=v) L.le (fun b hb=>L.lt hb) h
theorem fs.vV(L:fs O Y X D st M w df eU av){d:aZ}{v:Value}(h:bD w (ay X D st.sites) d v):bD w av d v:=
 cc.gT (D:=D) (sites:=[]) (a:=one d) (v:=v) (fun b hb=>L.sub hb) (fun b hb=>L.lt hb) h
theorem N4(L:fs O Y X D st M w df eU av):∀{bz:List (Nat×Nat)} {cs:List (List aZ)} {us:List (Nat×Site)} {bs:List Nat} {vs:List Value},k5 st bz=some (cs,us,bs)->
  (∀p,p∈us->p∈df)->(∀o,o∈bs->o∈eU)->vs.length=bz.length->(∀i (h:i<bz.length) (af:i<vs.length),Ref st.sites (bz[i]).1 (bz[i]).2 (vs[i]=D (bz[i]).1))->kl w av cs vs:=by
 intro bz;induction bz with
 |nil=>
  intro cs us bs vs h _ _ hl _;simp only[k5] at h;cases h;rw[List.eq_nil_of_length_eq_zero hl];trivial
 |cons c bz ih=>
  obtain⟨o,s⟩:=c;intro cs us bs vs h gV ep hl hr;simp only[k5] at h;split at h
  ·rename_i cells lY;split at h
   ·rename_i ds u1 rest u2 b2 gA oS;cases h;match vs,hl with
    |v::vs,hl=>
     have jx:=gF lY;obtain⟨b,T,cur,h1,h2,h3,aw,_,bk⟩:=L.fz.old.sites o _ jx;have hv:v=D o:=Ref.at (hr 0 (by simp) (by simp)) jx rfl
     have dK:=zQ gA ⟨h3,bk⟩ L.fz (fun p hp=>gV p (List.mem_append.2 (.inl hp)))
     refine⟨⟨b,cur,by rw[hv,h1],L.asJ o (ep o List.mem_cons_self) b (by rw[h1];rfl),L.fz.old.fy ⟨_,jx,rfl⟩ (by rw[h1];rfl),.row h2,dK.1,fun j g1 g2=>L.rd (dK.2 j g1 g2)⟩,?_⟩
     exact ih oS (fun p hp=>gV p (List.mem_append.2 (.inr hp))) (fun aa bN=>ep aa (List.mem_cons_of_mem _ bN)) (by simpa using hl) (fun i g1 g2=>hr (i+1) (by simpa using g1) (by simpa using g2))
   ·cases h
  ·cases h
theorem FZ(L:fs O Y X D st M w df eU av){l gp:aF}{us:List (Nat×Site)}{bs:List Nat}{v:Value}(h:mG st l=some (gp,us,bs))(gV:∀p,p∈us->p∈df)(ep:∀o,o∈bs->o∈eU)
  (hv:dQ D st.sites w (ay X D st.sites) l v):mF w av gp v []:=by
 unfold mG at h;split at h
 ·rename_i cells;cases h;obtain⟨b,B,h1,h2,h3,cs,aw,bk,cp⟩:=hv;exact⟨rfl,b,B,h1,fun hx=>h2 (L.sub hx),h3,cs,aw,bk,fun j g1 g2=>L.vV (cp j g1 g2)⟩
 ·rename_i g c cs;split at h
  ·rename_i ds u b hc;cases h;obtain⟨vs,h1,h2,h3⟩:=hv;rw[h1];exact⟨rfl,(N4 L hc gV ep h2 h3).fn⟩
  ·cases h
 ·split at h
  ·rename_i d u Z;cases h;exact⟨rfl,L.rd (Rg Z hv L.fz gV)⟩
  ·cases h
theorem ae1(L:fs O Y X D st M w df eU av):∀{ad gi:List aF} {us:List (Nat×Site)} {bs:List Nat} {vs:List Value},lO st ad=some (gi,us,bs)->(∀p,p∈us->p∈df)->(∀o,o∈bs->o∈eU)->
  cr D st.sites w (ay X D st.sites) ad vs->lf w av gi vs []:=by
 intro ad;induction ad with
 |nil=>intro gi us bs vs h _ _ hv;simp only[lO] at h;cases h;rw[hv.ny];rfl
 |cons l ad ih=>
  intro gi us bs vs h gV ep hv;simp only[lO] at h;split at h
  ·rename_i a u1 b1 as u2 b2 h1 h2;cases h;obtain⟨v,ck,rfl,pd,pc⟩:=hv.inv;exact⟨[],[],rfl,FZ L h1 (fun p hp=>gV p (List.mem_append.2 (.inl hp))) (fun p hp=>ep p (List.mem_append.2 (.inl hp))) pd,
    ih h2 (fun p hp=>gV p (List.mem_append.2 (.inr hp))) (fun p hp=>ep p (List.mem_append.2 (.inr hp))) pc⟩
  ·cases h
def db(D:Nat->Value)(fX:List Nat):List Nat:=fX.filterMap fun o=>bH (D o)
theorem jN{ax:Type}(a b:List (Nat×ax)):keys (a++b)=keys a++keys b:=by
 induction a with
 |nil=>rfl
 |cons p a ih=>simp[keys,ih]
theorem om(a b:List Nat):db D (a++b)=db D a++db D b:=by simp[db]
def gP(sites:List (Nat×Site))(us:List (Nat×Site)):Prop:=∀o aC,(o,aC)∈us->∃ab,look sites o=some ab/\ab.live=true/\aC=.dead ab.cq
theorem gP.nil{sites:List (Nat×Site)}:gP sites []:=fun _ _ h=>by simp at h
theorem gP.append{sites us vs:List (Nat×Site)}(h:gP sites us)(af:gP sites vs):gP sites (us++vs):=by
 intro o s hm;rcases List.mem_append.1 hm with hm|hm
 ·exact h o s hm
 ·exact af o s hm
theorem agO(L:fs O Y X D st M w df eU av){o s:Nat}{t:a6}{xs:List (den t)}(hl:look st.sites o=some (.row s t xs)):
  ∃e,∃cs:List Value,rowAt w t.jF e (aT t) (D o) xs.length cs/\cX w av (flat t xs) cs:=by
 obtain⟨e,cs,h1,h2⟩:=L.fz.old.sites o _ hl;refine⟨e,cs,h1,by rw[eW];exact h1.1,fun j g1 g2=>L.vV (h2 j g1 g2)⟩
theorem yn(L:fs O Y X D st M w df eU av){l gp:aF}{us:List (Nat×Site)}{v:Value}(h:nK st l=some (gp,us))(hv:dQ D st.sites w (ay X D st.sites) l v):
  mF w av gp v (db D (keys us))/\gP st.sites us:=by
 unfold nK at h;split at h
 ·cases h;exact⟨⟨rfl,L.vV hv⟩,.nil⟩
 ·rename_i t;cases h;have hv:v=.slice none 0 0:=hv;subst hv;exact⟨⟨rfl,0,[],⟨by simp,.inl ⟨rfl,rfl⟩⟩,rfl,fun j g=>by simp[flat] at g⟩,.nil⟩
 ·rename_i o s;split at h
  ·rename_i aC t xs hl;cases hb:aC.beq s with
   |false=>simp[hb] at h
   |true=>
    simp only[hb,cond_true,Option.some.injEq,Prod.mk.injEq] at h;obtain⟨rfl,rfl⟩:=h;have hs:=Nat.eq_of_beq_eq_true hb;subst hs;have hl:look st.sites o=some (.row aC t xs):=hl;have mS:v=D o:=Ref.at hv.2 hl rfl;obtain⟨e,cs,h1,h2⟩:=agO L hl;refine⟨⟨?_,e,cs,by rw[mS];exact h1,h2⟩,fun aa aug hm=>?_⟩
    ·simp only[keys,db,List.filterMap_cons,List.filterMap_nil,mS];cases bH (D o)<;>rfl
    ·simp only[List.mem_singleton,Prod.mk.injEq] at hm;obtain⟨rfl,rfl⟩:=hm;exact⟨_,hl,rfl,rfl⟩
  ·rename_i aC t xs hl;cases hb:aC.beq s with
   |false=>simp[hb] at h
   |true=>
    simp only[hb,cond_true,Option.some.injEq,Prod.mk.injEq] at h;obtain⟨rfl,rfl⟩:=h;have hs:=Nat.eq_of_beq_eq_true hb;subst hs;have hl:look st.sites o=some (.di aC t xs):=hl;have mS:v=D o:=Ref.at hv.2 hl rfl;refine⟨⟨rfl,?_⟩,.nil⟩;rw[mS];exact L.vV (L.fz.old.sites o _ hl).1
  ·cases h
 ·cases h;exact⟨⟨rfl,trivial⟩,.nil⟩
 ·cases h;exact⟨⟨rfl,hv⟩,.nil⟩
 ·cases h
theorem NV{ad gi:List aF}{us:List (Nat×Site)}(h:ku st ad=some (gi,us))(bP:gi.head?=some .dn):ad.head?=some .dn:=by
 cases ad with
 |nil=>simp only[ku] at h;cases h;cases bP
 |cons l ad=>
  simp only[ku] at h;split at h
  ·rename_i a u1 as u2 h1 h2;cases h;simp only[List.head?_cons,Option.some.injEq] at bP ⊢;subst bP;unfold nK at h1;split at h1<;>try(cases h1;done)
   ·split at h1;all_goals first|cases h1;done|skip
    all_goals
     rename_i aC t xs _;revert h1
     generalize aC.beq _=q;intro h1;cases q<;>cases h1
   ·rfl
  ·cases h
theorem Gv(L:fs O Y X D st M w df eU av):∀{ad gi:List aF} {us:List (Nat×Site)} {vs:List Value},ku st ad=some (gi,us)->cr D st.sites w (ay X D st.sites) ad vs->
  lf w av gi vs (db D (keys us))/\gP st.sites us:=by
 intro ad;induction ad with
 |nil=>intro gi us vs h hv;simp only[ku] at h;cases h;rw[hv.ny];exact⟨rfl,.nil⟩
 |cons l ad ih=>
  intro gi us vs h hv;simp only[ku] at h;split at h
  ·rename_i a u1 as u2 h1 h2;cases h;obtain⟨v,ck,rfl,pd,pc⟩:=hv.inv;obtain⟨aB,aA⟩:=yn L h1 pd;obtain⟨bC,cL⟩:=ih h2 pc;exact⟨⟨_,_,by rw[jN,om],aB,bC⟩,aA.append cL⟩
  ·cases h
theorem iW.append{as ob:List Arg}{vs ck:List Value}{bs oa:List Nat}(h:iW w av as vs bs)(af:iW w av ob ck oa):iW w av (as++ob) (vs++ck) (bs++oa):=by
 induction as generalizing vs bs with
 |nil=>
  match vs,h with
  |[],h=>have h:bs=[]:=h;subst h;exact af
 |cons a as ih=>
  match vs,h with
  |v::vs,⟨b1,b2,h1,h2,h3⟩=>exact⟨b1,b2++oa,by rw[h1,List.append_assoc],h2,ih h3⟩
theorem abv{cs:List (List aZ)}{vs:List Value}(h:kl w av cs vs):iW w av (nA cs) vs []:=by
 induction cs generalizing vs with
 |nil=>
  match vs,h with
  |[],_=>rfl
 |cons ds cs ih=>
  match vs,h with
  |v::vs,⟨⟨b,cur,h1,h2,h3,aw,bk⟩,cp⟩=>
   refine⟨[],[],rfl,⟨rfl,b,0,by rw[h1],h2,h3,cur,by rw[bk.1],fun j u hu=>aw j u hu,bk.2⟩,ih cp⟩
theorem L4{as ob:List Arg}{vs ck:List Value}(hl:as.length=vs.length):dN (as++ob) (vs++ck)=dN as vs++dN ob ck:=by
 induction as generalizing vs with
 |nil=>rw[List.eq_nil_of_length_eq_zero hl.symm];rfl
 |cons a as ih=>
  match vs,hl with
  |v::vs,hl=>
   have:=ih (vs:=vs) (by simpa using hl)
   cases a with
   |av a=>cases v<;>simp[dN,this]
   |fj c=>
    cases v<;>try(simp[dN,this];done)
    rename_i p;cases p<;>simp[dN,this]
theorem abx(cs:List (List aZ))(vs:List Value):dN (nA cs) vs=[]:=by
 induction cs generalizing vs with
 |nil=>cases vs<;>rfl
 |cons c cs ih=>cases vs<;>simp[nA,dN,ih]
theorem iW.length{as:List Arg}{vs:List Value}{bs:List Nat}(h:iW w av as vs bs):as.length=vs.length:=by
 induction as generalizing vs bs with
 |nil=>
  match vs,h with
  |[],_=>rfl
 |cons a as ih=>
  match vs,h with
  |v::vs,⟨_,_,_,_,h⟩=>simp[ih h]
theorem acX(L:fs O Y X D st M w df eU av):∀{cw:List aJ} {a:j5} {vs:List Value},iZ st cw=some a->cw.length=vs.length->
  (∀i (h:i<cw.length) (af:i<vs.length),cc D st.sites w (ay X D st.sites) (cw[i]) (vs[i]))->(∀p,p∈a.eM->p∈df)->(∀o,o∈a.fN->o∈eU)->
  iW w av a.as vs (db D (keys a.gone))/\gP st.sites a.gone/\dN a.as vs=db D (keys a.boxes)/\(∀o s,(o,s)∈a.boxes->(o,.dead s)∈a.gone/\∃b,D o=.pointer (some ⟨b,0,none⟩)):=by
 intro cw;induction cw with
 |nil=>
  intro a vs h hl _ _ _;simp only[iZ] at h;cases h;rw[List.eq_nil_of_length_eq_zero hl.symm];exact⟨rfl,.nil,rfl,fun o s hm=>by simp at hm⟩
 |cons q' cw ih=>
  intro a vs h hl hv gV ep;match vs,hl with
  |v::vs,hl=>
   have mR:=hv 0 (by simp) (by simp)
   have hvs:∀i (h:i<cw.length) (af:i<vs.length),cc D st.sites w (ay X D st.sites) (cw[i]) (vs[i]):=fun i g1 g2=>hv (i+1) (by simpa using g1) (by simpa using g2)
   have gj:cw.length=vs.length:=by simpa using hl
   simp only[List.getElem_cons_zero] at mR;unfold iZ at h;split at h
   ·cases ‹q'::cw=[]›
   ·rename_i o s ck b4;cases b4;split at h
    ·rename_i cells r lY hr;split at h
     ·rename_i cs gone hg;cases h;obtain⟨aB,aA,bC,cL⟩:=ih hr gj hvs gV ep;have jx:=gF lY;obtain⟨b,T,cur,e1,e2,bp,c_,fp⟩:=L.fz.old.box jx mR;have Ix:mE cells T cur b:=by
       obtain⟨b2,et,Uz,q1,q2,_,_,cU,_⟩:=L.fz.old.sites o _ jx;rw[e1] at q1;cases q1;rw[bp] at q2;cases q2;exact cU
      obtain⟨g1,g2⟩:=Gv L hg fp;subst e2;refine⟨⟨b::db D (keys gone),_,?_,⟨b,rfl,T,cur,_,rfl,bp,c_,fun bP=>Ix (NV hg bP),g1⟩,aB⟩,?_,?_,?_⟩
      ·show db D (keys (((o,Site.dead s)::gone)++r.gone))=_;rw[jN,om];congr 1
       simp[keys,db,e1,bH]
      ·refine gP.append ?_ aA;intro aa aC hm;rcases List.mem_cons.1 hm with hm|hm
       ·cases hm;exact⟨_,jx,rfl,rfl⟩
       ·exact g2 aa aC hm
      ·simp[dN,bC,keys,db,e1,bH]
      ·intro aa aC hm;rcases List.mem_cons.1 hm with hm|hm
       ·cases hm;exact⟨by simp,b,e1⟩
       ·obtain⟨q1,q2⟩:=cL aa aC hm;exact⟨List.mem_append.2 (.inr q1),q2⟩
     ·cases h
    ·cases h
   ·rename_i l ck _ b4;cases b4;split at h
    ·rename_i gp us bs r h1 hr;cases h;obtain⟨aB,aA,bC,cL⟩:=ih hr gj hvs (fun p hp=>gV p (List.mem_append.2 (.inr hp))) (fun p hp=>ep p (List.mem_append.2 (.inr hp)))
     have:=FZ L h1 (fun p hp=>gV p (List.mem_append.2 (.inl hp))) (fun p hp=>ep p (List.mem_append.2 (.inl hp))) mR
     refine⟨⟨[],_,rfl,this,aB⟩,aA,?_,cL⟩;cases v<;>simp[dN,bC]
    ·cases h
   ·rename_i ad ck b4;cases b4;split at h
    ·rename_i gi us bs r h1 hr;cases h;obtain⟨aB,aA,bC,cL⟩:=ih hr gj hvs (fun p hp=>gV p (List.mem_append.2 (.inr hp))) (fun p hp=>ep p (List.mem_append.2 (.inr hp)))
     obtain⟨mM,e1,e2,bp⟩:=mR;have:=ae1 L h1 (fun p hp=>gV p (List.mem_append.2 (.inl hp))) (fun p hp=>ep p (List.mem_append.2 (.inl hp))) ⟨e2,bp⟩
     refine⟨⟨[],_,rfl,⟨mM,e1,this⟩,aB⟩,aA,?_,cL⟩;cases v<;>simp[dN,bC]
    ·cases h
   ·cases h
theorem adi(L:fs O Y X D st M w df eU av){l gp:aF}{gs us:List (Nat×Site)}{bs:List Nat}{v:Value}(h:oJ st l=some (gp,gs,us,bs))(gV:∀p,p∈us->p∈df)(ep:∀o,o∈bs->o∈eU)
  (hv:dQ D st.sites w (ay X D st.sites) l v):mF w av gp v (db D (keys gs))/\gP st.sites gs:=by
 unfold oJ at h;split at h
 ·split at h
  ·rename_i hg;cases h;exact yn L hg hv
  ·cases h
 ·cases h;exact yn (l:=.nil _) (us:=[]) L rfl hv
 ·split at h
  ·rename_i hl;cases h;exact⟨FZ L hl gV ep hv,.nil⟩
  ·cases h
theorem abc(L:fs O Y X D st M w df eU av):∀{cw:List aJ} {a:j5} {vs:List Value},lI st cw=some a->cw.length=vs.length->
  (∀i (h:i<cw.length) (af:i<vs.length),cc D st.sites w (ay X D st.sites) (cw[i]) (vs[i]))->(∀p,p∈a.eM->p∈df)->(∀o,o∈a.fN->o∈eU)->
  iW w av a.as vs (db D (keys a.gone))/\gP st.sites a.gone/\dN a.as vs=db D (keys a.boxes)/\(∀o s,(o,s)∈a.boxes->(o,.dead s)∈a.gone/\∃b,D o=.pointer (some ⟨b,0,none⟩)):=by
 intro cw;induction cw with
 |nil=>
  intro a vs h hl _ _ _;simp only[lI] at h;cases h;rw[List.eq_nil_of_length_eq_zero hl.symm];exact⟨rfl,.nil,rfl,fun o s hm=>by simp at hm⟩
 |cons q' cw ih=>
  intro a vs h hl hv gV ep;match vs,hl with
  |v::vs,hl=>
   have mR:=hv 0 (by simp) (by simp)
   have hvs:∀i (h:i<cw.length) (af:i<vs.length),cc D st.sites w (ay X D st.sites) (cw[i]) (vs[i]):=fun i g1 g2=>hv (i+1) (by simpa using g1) (by simpa using g2)
   have gj:cw.length=vs.length:=by simpa using hl
   simp only[List.getElem_cons_zero] at mR;unfold lI at h;split at h
   ·cases ‹q'::cw=[]›
   ·rename_i l ck b4;cases b4;split at h
    ·rename_i gp gs us bs r h1 hr;cases h;obtain⟨aB,aA,bC,cL⟩:=ih hr gj hvs (fun p hp=>gV p (List.mem_append.2 (.inr hp))) (fun p hp=>ep p (List.mem_append.2 (.inr hp)))
     obtain⟨g1,g2⟩:=adi L h1 (fun p hp=>gV p (List.mem_append.2 (.inl hp))) (fun p hp=>ep p (List.mem_append.2 (.inl hp))) mR
     refine⟨⟨_,_,by rw[jN,om],g1,aB⟩,g2.append aA,?_,fun aa aC hm=>?_⟩
     ·cases v<;>simp[dN,bC]
     ·obtain⟨q1,q2⟩:=cL aa aC hm;exact⟨List.mem_append.2 (.inr q1),q2⟩
    ·cases h
   ·cases h
theorem MQ{b:Bool}(L:fs O Y X D st M w df eU av){cw:List aJ}{a:j5}{vs:List Value}(h:rY b st cw=some a)(hl:cw.length=vs.length)
  (hv:∀i (h:i<cw.length) (af:i<vs.length),cc D st.sites w (ay X D st.sites) (cw[i]) (vs[i])) (h1:∀p,p∈a.eM->p∈df) (h2:∀o,o∈a.fN->o∈eU):
  iW w av a.as vs (db D (keys a.gone))/\gP st.sites a.gone/\dN a.as vs=db D (keys a.boxes)/\(∀o s,(o,s)∈a.boxes->(o,.dead s)∈a.gone/\∃b,D o=.pointer (some ⟨b,0,none⟩)):=by
 cases b
 ·exact acX L h hl hv h1 h2
 ·exact abc L h hl hv h1 h2
end
end Go.Jk
