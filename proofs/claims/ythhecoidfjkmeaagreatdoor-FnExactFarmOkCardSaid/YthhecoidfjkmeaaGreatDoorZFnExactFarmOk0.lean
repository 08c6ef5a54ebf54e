/- FnExactFarmOk: the program's FarmOk returns what the reference's returns, for all arguments. (part 1 of 7: JkCore, JkGlob, JkState, JkExec, JkFoot, JkCode, JkTurn, JkOps1, JkOps2, JkOps3, JkOps4, JkOps5, JkOps6, JkOps7, JkOps8, JkOps9, JkOps10, JkOps11, JkOps12, JkOps13, JkOps14, JkOps15, JkOps16, JkOps17,) Conditions: none beyond the statement. -/
import Derived.Calls
import Derived.Below
import Derived.WalkKit
import Derived.Laws.AppendOwn
import Derived.Great.BuildSlice
import Derived.IntWalk
import Derived.Laws.Tables
import Derived.MapKept
import Derived.Laws.BytesArg
import Derived.Lib.ConvBytes
set_option linter.unusedSimpArgs false
set_option linter.unusedVariables false
namespace Go.Jk
abbrev F:=List UInt8
structure aC where
 path:F
 kind:Int
 mode:Int
 text:F
structure bB where
 name:F
 kind:Int
 aU:F
structure ba where
 name:F
 aU:F
 bj:List bB
 bL:List aC
structure ea where
 name:F
 text:F
structure _T where
 name:F
 text:F
structure Source where
 name:F
 sum:F
structure Piece where
 name:F
 eZ:F
structure akJ where
 name:F
 aU:F
 lets:List _T
 builds:List bB
 runs:List bB
 sources:List Source
 pieces:List Piece
 steps:List F
structure apy where
 at_:Int
 lines:List F
inductive a7 where
 |i64|u8|u32|bool|str|entry|need|pack|file|lt|source|piece|recipe|hunk|sU
 deriving DecidableEq
@[reducible] def den:a7->Type
 |.i64|.u8|.u32=>Int
 |.bool=>Bool
 |.str=>F
 |.entry=>aC
 |.need=>bB
 |.pack=>ba
 |.file=>ea
 |.lt=>_T
 |.source=>Source
 |.piece=>Piece
 |.recipe=>akJ
 |.hunk=>apy
 |.sU=>List Bool
inductive a':Type where
 |int (k:IntKind) (n:Int)
 |bool (b:Bool)
 |str (s:F)
 |sl (t:a7) (xs:List (den t))
 |fn (g:FuncId) (bA:List (List a'))
 |map (t:a7) (es:List (F×den t))
 |err (T:Nat) (B:Option Int)
def enc:(t:a7)->den t->List a'
 |.i64,n=>[.int .i64 n]
 |.u8,n=>[.int .u8 n]
 |.u32,n=>[.int .u32 n]
 |.bool,b=>[.bool b]
 |.str,s=>[.str s]
 |.entry,e=>[.str e.path,.int .i64 e.kind,.int .i64 e.mode,.str e.text]
 |.need,n=>[.str n.name,.int .i64 n.kind,.str n.aU]
 |.pack,p=>[.str p.name,.str p.aU,.sl .need p.bj,.sl .entry p.bL]
 |.file,f=>[.str f.name,.str f.text]
 |.lt,f=>[.str f.name,.str f.text]
 |.source,f=>[.str f.name,.str f.sum]
 |.piece,f=>[.str f.name,.str f.eZ]
 |.recipe,r=>[.str r.name,.str r.aU,.sl .lt r.lets,.sl .need r.builds,.sl .need r.runs,.sl .source r.sources,.sl .piece r.pieces,.sl .str r.steps]
 |.hunk,h=>[.int .i64 h.at_,.sl .str h.lines]
 |.sU,b=>[.sl .bool b]
def aY:a7->Nat
 |.i64|.u8|.u32|.bool|.str|.sU=>1
 |.entry=>4
 |.need=>3
 |.pack=>4
 |.file|.lt|.source|.piece|.hunk=>2
 |.recipe=>8
def dec:(t:a7)->List a'->Option (den t)
 |.i64,[.int .i64 n]=>some n
 |.u8,[.int .u8 n]=>some n
 |.u32,[.int .u32 n]=>some n
 |.bool,[.bool b]=>some b
 |.str,[.str s]=>some s
 |.entry,[.str a,.int .i64 k,.int .i64 m,.str b]=>some ⟨a,k,m,b⟩
 |.need,[.str a,.int .i64 k,.str b]=>some ⟨a,k,b⟩
 |.pack,[.str a,.str b,.sl .need ns,.sl .entry es]=>some ⟨a,b,ns,es⟩
 |.file,[.str a,.str b]=>some ⟨a,b⟩
 |.lt,[.str a,.str b]=>some ⟨a,b⟩
 |.source,[.str a,.str b]=>some ⟨a,b⟩
 |.piece,[.str a,.str b]=>some ⟨a,b⟩
 |.recipe,[.str a,.str b,.sl .lt ag,.sl .need bs,.sl .need kK,.sl .source aX,.sl .piece ps,.sl .str ce]=>some ⟨a,b,ag,bs,kK,aX,ps,ce⟩
 |.hunk,[.int .i64 n,.sl .str ag]=>some ⟨n,ag⟩
 |.sU,[.sl .bool b]=>some b
 |_,_=>none
theorem iV:∀(t:a7) (x:den t),(enc t x).length=aY t:=by
 intro t x;cases t<;>rfl
theorem lM(t:a7):0<aY t:=by cases t<;>decide
theorem Ac:∀(t:a7) (ds:List a') (x:den t),dec t ds=some x->enc t x=ds:=by
 intro t ds x h;unfold dec at h;split at h<;>first|(cases h;rfl)|cases h
def flat(t:a7)(xs:List (den t)):List a':=xs.flatMap (enc t)
theorem eW(t:a7)(xs:List (den t)):(flat t xs).length=xs.length*aY t:=by
 unfold flat;induction xs with
 |nil=>simp
 |cons x xs ih=>simp[List.flatMap_cons,iV,ih,Nat.add_mul,Nat.add_comm]
theorem rs(t:a7)(xs bh:List (den t)):flat t (xs++bh)=flat t xs++flat t bh:=by
 simp[flat,List.flatMap_append]
theorem flat_get(t:a7)(xs:List (den t))(i j:Nat)(x:den t)(hx:xs[i]? =some x)(hj:j<aY t):
  (flat t xs)[i*aY t+j]? =(enc t x)[j]? :=by
 induction xs generalizing i with
 |nil=>simp at hx
 |cons y bh ih=>
  cases i with
  |zero=>
   simp only[List.getElem?_cons_zero,Option.some.injEq] at hx;subst hx;simp only[Nat.zero_mul,Nat.zero_add,flat,List.flatMap_cons];rw[List.getElem?_append_left (by rw[iV];exact hj)]
  |succ i=>
   simp only[List.getElem?_cons_succ] at hx;have:=ih i hx;simp only[flat,List.flatMap_cons] at this ⊢;rw[List.getElem?_append_right (by rw[iV,Nat.add_mul];omega),iV]
   rw[<-this];congr 1
   rw[Nat.add_mul];omega
theorem agY(t:a7)(xs:List (den t))(i:Nat)(x:den t):
  flat t (xs.set i x)=(flat t xs).take (i*aY t)++(if i<xs.length then enc t x else [])++(flat t xs).drop ((i+1)*aY t):=by
 induction xs generalizing i with
 |nil=>simp[flat]
 |cons y bh ih=>
  cases i with
  |zero=>
   simp only[List.set_cons_zero,flat,List.flatMap_cons,Nat.zero_mul,List.take_zero,List.nil_append,List.length_cons,Nat.zero_lt_succ,if_true,Nat.zero_add,Nat.one_mul];rw[List.drop_append_of_le_length (by rw[iV];omega)]
   rw[show List.drop (aY t) (enc t y)=[] from List.drop_eq_nil_of_le (by rw[iV];exact Nat.le_refl _)]
   rfl
  |succ i=>
   have h:=ih i;simp only[flat] at h;simp only[List.set_cons_succ,flat,List.flatMap_cons,List.length_cons];rw[h];have e1:List.take ((i+1)*aY t) (enc t y++bh.flatMap (enc t))=enc t y++(bh.flatMap (enc t)).take (i*aY t):=by
    rw[List.take_append,List.take_of_length_le (by rw[iV,Nat.add_mul];omega),iV]
    congr 2
    rw[Nat.add_mul];omega
   have e2:List.drop ((i+1+1)*aY t) (enc t y++bh.flatMap (enc t))=(bh.flatMap (enc t)).drop ((i+1)*aY t):=by
    rw[List.drop_append,List.drop_eq_nil_of_le (by rw[iV,Nat.add_mul,Nat.add_mul];omega),iV,List.nil_append]
    congr 1
    rw[Nat.add_mul (i+1) 1];omega
   rw[e1,e2];simp only[Nat.add_lt_add_iff_right,List.append_assoc]
def iq:List Int:=[1116352408,1899447441,3049323471,3921009573,961987163,1508970993,2453635748,2870763221,3624381080,310598401,607225278,1426881987,1925078388,2162078206,2614888103,3248222580,3835390401,4022224774,264347078,604807628,770255983,1249150122,1555081692,1996064986,2554220882,2821834349,2952996808,3210313671,3336571891,3584528711,113926993,338241895,666307205,773529912,1294757372,1396182291,1695183700,1986661051,2177026350,2456956037,2730485921,2820302411,3259730800,3345764771,3516065817,3600352804,4094571909,275423344,430227734,506948616,659060556,883997877,958139571,1322822218,1537002063,1747873779,1955562222,2024104815,2227730452,2361852424,2428436474,2756734187,3204031479,3329325298]
def TO:List Int:=(List.range 20).map fun i=>((10^i:Nat):Int)
def nK(w:World)(g:Nat)(k:IntKind)(zs:List Int):Prop:=∃T fz,w.heap[g]? =some (.cells (zs.map fun z=>Value.int k z).toArray T fz)
def qW:TypeId:=91
def me:TypeId:=5
def kF:List Nat:=[0,1]
def mW(w:World):Prop:=nK w 0 .u32 iq/\nK w 1 .u64 TO
theorem alQ{w w':World}(h:∀b,b∈kF->w'.heap[b]? =w.heap[b]?)(k:mW w):mW w':=by
 obtain⟨⟨Mc,f0,h0⟩,⟨c',f1,h1⟩⟩:=k;exact⟨⟨Mc,f0,(h 0 (by simp[kF])).trans h0⟩,⟨c',f1,(h 1 (by simp[kF])).trans h1⟩⟩
theorem nK.lt{w:World}{g:Nat}{k:IntKind}{zs:List Int}(h:nK w g k zs):g<w.heap.size:=by
 obtain⟨T,f,h⟩:=h;exact(Array.getElem?_eq_some_iff.1 h).1
theorem asJ{w:World}(k:mW w)(b:Nat)(h:b∈kF):b<w.heap.size:=by
 simp only[kF,List.mem_cons,List.not_mem_nil,or_false] at h;rcases h with rfl|rfl
 ·exact k.1.lt
 ·exact k.2.lt
inductive aI:Type where
 |d (v:a')
 |nil (t:a7) -- tj nil slice
 |own (o s:Nat) -- tj whole of a row of Bo own
 |ptr (o s off:Nat) -- a pointer av7 a box of Bo own
 |en (cells:List a') (off:Nat) -- a pointer _z cells BQ Zq only read
 |eS (o s:Nat) (t:a7) (k off:Nat) -- a pointer _z avH k of a row of Bo own,ars cell 'oS
 |clo (g:FuncId) (bA:List (Nat×Nat)) -- a closure over boxes of Bo own
 |cS (v:Value) -- av6 this value
 |fresh (t:a7) (xs:List (den t)) -- a row BQ avN else holds (ai5 caller and callee alone)
 |dn -- in a alX first cell:nil,or tj alX own address (strings.avJ)
 |any
inductive bP:Type where
 |ak (l:aI)
 |agg (ag:List aI)
inductive aR:Type where
 |av (a:bP)
 |jF (as:List bP)
inductive Site:Type where
 |box (s:Nat) (cells:List aI)
 |row (s:Nat) (t:a7) (xs:List (den t))
 |dh (s:Nat) (t:a7) (xs:List (den t))
 |map (s:Nat) (t:a7) (es:List (F×den t))
 |dead (s:Nat)
def Site.cw:Site->Nat
 |.box s _|.row s _ _|.dh s _ _|.map s _ _|.dead s=>s
def Site.live:Site->Bool
 |.box _ _|.row _ _ _|.map _ _ _=>true
 |_=>false
def look{ax:Type}:List (Nat×ax)->Nat->Option ax
 |[],_=>none
 |(k,v)::r,n=>bif k.beq n then some v else look r n
def cp{ax:Type}:List (Nat×ax)->Nat->ax->List (Nat×ax)
 |[],n,v=>[(n,v)]
 |(k,w)::r,n,v=>bif k.beq n then(k,v)::r else(k,w)::cp r n v
theorem jD{a b:Nat}(h:¬a=b):a.beq b=false:=by
 cases e:a.beq b
 ·rfl
 ·exact absurd (Nat.eq_of_beq_eq_true e) h
theorem c4{ax:Type}(l:List (Nat×ax))(n m:Nat)(v:ax):look (cp l n v) m=if n=m then some v else look l m:=by
 induction l with
 |nil=>
  simp only[cp,look];by_cases h:n=m
  ·subst h;simp
  ·have:n.beq m=false:=jD h;simp[this,h]
 |cons p l ih=>
  obtain⟨k,w⟩:=p;simp only[cp];by_cases h:k=n
  ·subst h;simp only[Nat.beq_refl,cond_true,look];by_cases hm:k=m
   ·subst hm;simp
   ·have:k.beq m=false:=jD hm;simp[this,hm]
  ·have hb:k.beq n=false:=jD h;simp only[hb,cond_false,look];by_cases hm:k=m
   ·subst hm;have:¬n=k:=fun e=>h e.symm
    simp[this]
   ·have:k.beq m=false:=jD hm;simp[this,ih]
structure aj where
 cI:List (Nat×aR)
 sites:List (Nat×Site)
 nt:Nat
def aj.get(st:aj)(t:Nat):aR:=match look st.cI t with|some v=>v|none=>.av (.ak .any)
def aj.ab(st:aj)(o:Nat):Option Site:=look st.sites o
def aj.set(st:aj)(t:Nat)(v:aR):aj:={st with cI:=cp st.cI t v}
def aj.ig(st:aj)(o:Nat)(s:Site):aj:={st with sites:=cp st.sites o s}
@[simp] theorem aj.GX(st:aj)(t u:Nat)(v:aR):(st.set t v).get u=if t=u then v else st.get u:=by
 unfold aj.set aj.get;rw[c4];by_cases h:t=u<;>simp[h]
@[simp] theorem aj.afW(st:aj)(t o:Nat)(v:aR):(st.set t v).ab o=st.ab o:=rfl
@[simp] theorem aj.akf(st:aj)(t:Nat)(v:aR):(st.set t v).nt=st.nt:=rfl
@[simp] theorem aj.abZ(st:aj)(o u:Nat)(s:Site):(st.ig o s).get u=st.get u:=rfl
@[simp] theorem aj.xh(st:aj)(o aa:Nat)(s:Site):(st.ig o s).ab aa=if o=aa then some s else st.ab aa:=by
 unfold aj.ig aj.ab;simp only[c4]
@[simp] theorem aj.acO(st:aj)(o:Nat)(s:Site):(st.ig o s).nt=st.nt:=rfl
def m_:(t:a7)->den t->Value
 |.i64,n=>.int .i64 n
 |.bool,b=>.bool b
 |_,_=>undef
def gP(l:F):Value:=.string ⟨l.toArray⟩
def my(arr:Array MapEntry):List (Value×Value):=arr.toList.map fun e=>(e.key,e.val)
def jY(t:a7)(es:List (F×den t)):List (Value×Value):=es.map fun p=>(gP p.1,m_ t p.2)
def lV(w:World)(b:Nat)(t:a7)(es:List (F×den t)):Prop:=∃arr clock,w.heap[b]? =some (.map arr clock)/\my arr=jY t es
theorem lV.of{w w':World}{b:Nat}{t:a7}{es:List (F×den t)}(h:w'.heap[b]? =w.heap[b]?)(m:lV w b t es):lV w' b t es:=by
 obtain⟨arr,c,h1,h2⟩:=m;exact⟨arr,c,h.trans h1,h2⟩
theorem lV.lt{w:World}{b:Nat}{t:a7}{es:List (F×den t)}(m:lV w b t es):b<w.heap.size:=by
 obtain⟨arr,c,h1,h2⟩:=m;rcases Nat.lt_or_ge b w.heap.size with h|h
 ·exact h
 ·rw[Array.getElem?_eq_none h] at h1;cases h1
inductive bD(w:World)(av:Nat->Prop):a'->Value->Prop where
 |int (k:IntKind) (n:Int):bD w av (.int k n) (.int k n)
 |bool (b:Bool):bD w av (.bool b) (.bool b)
 |str (l:F) (s:ByteArray) (h:s.data.toList=l):bD w av (.str l) (.string s)
 |nil (t:a7):bD w av (.sl t []) (.slice none 0 0)
 |sl (t:a7) (xs:List (den t)) (a:Addr) (cap:Nat) (cs:List Value) (n:Nat) (hn:n=xs.length) (hcap:n<=cap) (hb:xs≠[]->¬av a.block)
   (hl:cs.length=(flat t xs).length)
   (hc:∀j u,cs[j]? =some u->w.cell? (a.add j)=some u)
   (hr:∀j (h:j<(flat t xs).length) (ai:j<cs.length),bD w av ((flat t xs)[j]) (cs[j])):bD w av (.sl t xs) (.slice (some a) n cap)
 |fn (g:FuncId) (bA:List (List a')) (bs:List Nat) (iT:Nat->List Value) (lb:Array Value) (hlb:lb=(bs.map fun b=>Value.pointer (some ⟨b,0,none⟩)).toArray) (tD:bs.length=bA.length)
   (hb:∀b,b∈bs->¬av b) (hlt:∀b,b∈bs->b<w.heap.size)
   (hl:∀i (h:i<bA.length),(iT i).length=(bA[i]).length)
   (hc:∀i (h:i<bs.length) j u,(iT i)[j]? =some u->w.cell? ⟨bs[i],j,none⟩=some u)
   (hr:∀i (h:i<bA.length) j (h1:j<(bA[i]).length) (h2:j<(iT i).length),bD w av ((bA[i])[j]) ((iT i)[j])):
   bD w av (.fn g bA) (.func (.func g) #[] lb)
 |vF (t:a7):bD w av (.map t []) (.map none)
 |map (t:a7) (es:List (F×den t)) (b:Nat) (hb:¬av b) (hm:lV w b t es):bD w av (.map t es) (.map (some b))
 |vQ (T:TypeId):bD w av (.err T none) .nilIface
 |err (T:TypeId) (n:Int):bD w av (.err T (some n)) (.iface T (.agg #[.int .i64 n]))
theorem bD.jv{w:World}{av:Nat->Prop}{d:a'}{v:Value}(r:bD w av d v):v.oneCell'=true:=by
 cases r<;>rfl
def B'(v:Value):Prop:=v=.slice none 0 0\/∃b n c,v=.slice (some ⟨b,0,none⟩) n c
def bH:Value->Option Nat
 |.slice (some a) _ _=>some a.block
 |.pointer (some a)=>some a.block
 |.map (some b)=>some b
 |_=>none
section
variable (D:Nat->Value)(sites:List (Nat×Site))(w:World)(av:Nat->Prop)
def Ref(o s:Nat)(p:Prop):Prop:=∃ab,look sites o=some ab/\s<=ab.cw/\(ab.cw=s->p)
def dO:aI->Value->Prop
 |.d x,v=>bD w av x v
 |.nil _,v=>v=.slice none 0 0
 |.own o s,v=>v.oneCell'=true/\Ref sites o s (v=D o)
 |.ptr o s off,v=>∃b,v=.pointer (some ⟨b,off,none⟩)/\Ref sites o s (D o=.pointer (some ⟨b,0,none⟩))
 |.en cells off,v=>∃b B,v=.pointer (some ⟨b,B+off,none⟩)/\¬av b/\b<w.heap.size/\∃cs:List Value,cs.length=cells.length/\(∀j u,cs[j]? =some u->w.cell? ⟨b,B+j,none⟩=some u)/\
   ∀j (h:j<cells.length) (ai:j<cs.length),bD w av (cells[j]) (cs[j])
 |.eS o s t k off,v=>∃b,v=.pointer (some ⟨b,k*aY t+off,none⟩)/\Ref sites o s (∃n c,D o=.slice (some ⟨b,0,none⟩) n c)
 |.clo g bA,v=>∃vs:List Value,v=.func (.func g) #[] vs.toArray/\vs.length=bA.length/\∀i (h:i<bA.length) (ai:i<vs.length),Ref sites (bA[i]).1 (bA[i]).2 (vs[i]=D (bA[i]).1)
 |.cS u,v=>v=u
 |.fresh _ _,_=>False
 |.dn,_=>True
 |.any,_=>True
def a7.jG:a7->Bool
 |.u8=>true
 |_=>false
def mK(u:Bool)(e:TypeId)(cur:Array Value)(fz:Nat×Nat):Prop:=(u=true->e=me)/\(fz=(0,0)\/u=true/\cur.size<=fz.1)
def rowAt(w:World)(u:Bool)(e:TypeId)(size:Nat)(v:Value)(n:Nat)(xs:List Value):Prop:=
 xs.length=n*size/\((v=.slice none 0 0/\n=0)\/
  ∃g cap cur fz,v=.slice (some ⟨g,0,none⟩) n cap/\mK u e cur fz/\w.heap[g]? =some (.cells cur e fz)/\n<=cap/\cap<=maxLen/\cur.size=cap*size/\cur.toList.take (n*size)=xs)
theorem D_(w:World)(u:Bool)(e:TypeId)(size:Nat):rowAt w u e size (.slice none 0 0) 0 []:=⟨by simp,.inl ⟨rfl,rfl⟩⟩
def mE(cells:List aI)(T:TypeId)(cur:List Value)(b:Nat):Prop:=cells.head?=some .dn->T=qW/\(cur.head?=some (.pointer none)\/cur.head?=some (.pointer (some ⟨b,0,none⟩)))
def gU:bP->Value->Prop
 |.ak l,v=>dO D sites w av l v
 |.agg ag,v=>∃vs:List Value,v=.agg vs.toArray/\vs.length=ag.length/\∀j (h:j<ag.length) (ai:j<vs.length),dO D sites w av (ag[j]) (vs[j])
def cf:aR->Value->Prop
 |.av a,v=>gU D sites w av a v
 |.jF as,v=>∃vs:List Value,v=.tuple vs.toArray/\vs.length=as.length/\∀j (h:j<as.length) (ai:j<vs.length),gU D sites w av (as[j]) (vs[j])
def jX(o:Nat):Site->Prop
 |.box _ cells=>∃b T,∃cur:List Value,D o=.pointer (some ⟨b,0,none⟩)/\w.heap[b]? =some (.cells cur.toArray T (0,0))/\cur.length=cells.length/\
   (∀u∈cur,u.oneCell'=true)/\mE cells T cur b/\∀j (h:j<cells.length) (ai:j<cur.length),dO D sites w av (cells[j]) (cur[j])
 |.row _ t xs=>∃e,∃cs:List Value,rowAt w t.jG e (aY t) (D o) xs.length cs/\∀j (h:j<(flat t xs).length) (ai:j<cs.length),bD w av ((flat t xs)[j]) (cs[j])
 |.dh _ t xs=>bD w av (.sl t xs) (D o)/\B' (D o)
 |.map _ t es=>∃b,D o=.map (some b)/\lV w b t es
 |.dead _=>True
end
def cj(sites:List (Nat×Site))(o:Nat):Prop:=∃ab,look sites o=some ab/\ab.live=true
def az(X:Nat->Prop)(D:Nat->Value)(sites:List (Nat×Site))(b:Nat):Prop:=X b\/∃o,cj sites o/\bH (D o)=some b
structure Fr(Y:List Nat)(O w:World):Prop where
 os:w.os=O.os
 tape:w.tape=O.tape
 output:w.output=O.output
 size:O.heap.size<=w.heap.size
 block:∀b,b<O.heap.size->b∉Y->w.heap[b]? =O.heap[b]?
theorem Fr.refl(Y:List Nat)(w:World):Fr Y w w:=⟨rfl,rfl,rfl,Nat.le_refl _,fun _ _ _=>rfl⟩
structure iB(w:World)(Y:List Nat)(X:Nat->Prop):Prop where
 ok:mW w
 Y:∀b,b∈kF->b∉Y
 X:∀b,b∈kF->¬X b
 lt:∀b,b∈kF->b<w.heap.size
theorem iB.less{w:World}{Y:List Nat}{X X':Nat->Prop}(G:iB w Y X)(h:∀b,b∈kF->X' b->X b):iB w Y X':=⟨G.ok,G.Y,fun b hb hx=>G.X b hb (h b hb hx),G.lt⟩
theorem iB.alv{w:World}{Y:List Nat}{X X':Nat->Prop}(G:iB w Y X)(h:∀b,X' b->X b\/b∈Y):iB w Y X':=⟨G.ok,G.Y,fun b hb hx=>(h b hx).elim (G.X b hb) (G.Y b hb),G.lt⟩
structure ao(O:World)(Y:List Nat)(X:Nat->Prop)(D:Nat->Value)(st:aj)(M:Array Value)(w:World):Prop where
 nt:M.size=st.nt
 cI:∀t,cf D st.sites w (az X D st.sites) (st.get t) (M.getD t undef)
 sites:∀o ab,look st.sites o=some ab->jX D st.sites w (az X D st.sites) o ab
 dV:∀o aa b,cj st.sites o->cj st.sites aa->bH (D o)=some b->bH (D aa)=some b->o=aa
 cl:∀o b,cj st.sites o->bH (D o)=some b->¬X b/\(b∈Y\/O.heap.size<=b)
 frame:Fr Y O w
 old:∀b,X b->b<w.heap.size
 eZ:iB O Y X
inductive cd:Type where
 |none
 |int (k:IntKind)
 |bool
 |str
 |ptr
 |func
 |slice (e:TypeId) (t:a7) (bytes:Nat)
 |struct (aJ:List (Nat×Nat)) (n:Nat) (z:List aI) (eq:Bool)
 |map (k e:TypeId) (t:a7)
 |arr (e:TypeId) (t:a7) (n:Nat)
 |iface
def wT:(t:a7)->Option (den t)
 |.i64|.u8|.u32=>some (0:Int)
 |.bool=>some false
 |.str=>some ([]:F)
 |_=>none
def tf:a7->Option aI
 |.i64=>some (.d (.int .i64 0))
 |.u8=>some (.d (.int .u8 0))
 |.u32=>some (.d (.int .u32 0))
 |.bool=>some (.d (.bool false))
 |.str=>some (.d (.str []))
 |_=>none
def cd.agg:cd->Bool
 |.struct _ _ _ _|.arr _ _ _=>true
 |_=>false
def cd.known:cd->Bool
 |.none=>false
 |_=>true
def cd.size:cd->Nat
 |.struct _ n _ _=>n
 |.arr _ _ n=>n
 |_=>1
def cd.zero:cd->Option (List aI)
 |.none=>Option.none
 |.int k=>some [.d (.int k 0)]
 |.bool=>some [.d (.bool false)]
 |.str=>some [.d (.str [])]
 |.ptr=>some [.cS (.pointer Option.none)]
 |.func=>some [.cS .nilFunc]
 |.slice _ t _=>some [.nil t]
 |.struct _ _ z _=>some z
 |.map _ _ _=>some [.cS (.map Option.none)]
 |.arr _ t n=>(tf t).map (List.replicate n)
 |.iface=>some [.cS .nilIface]
inductive Arg:Type where
 |av (a:bP)
 |fk (cells:List aI)
structure vT:Type 1 where
 J:Type
 comp:Option J
 fk:J->List (List aI)
 fb:J->List bP
abbrev aF:=List Arg->vT
def vT.fail:vT:=⟨Unit,Option.none,fun _=>[],fun _=>[]⟩
structure Ctx:Type 1 where
 tt:TypeId->cd
 aJ:FuncId->Option aF
 lx:FuncId->Option FuncId:=fun _=>none
 m':FuncId->Bool:=fun _=>false
 op:FuncId->Bool:=fun _=>false
 kc:FuncId->Bool:=fun _=>false -- a afk copy check
 bs:FuncId->Bool:=fun _=>false -- a afk String
 gt:Nat->Option ((t:a7)×List (den t)):=fun _=>none -- tj avE tables
structure de:Type 1 where
 J:Type
 comp:Option J
 val:J->aR
 us:J->List (Nat×Site)
 qX:J->Bool
def de.fail:de:=⟨Unit,Option.none,fun _=>.av (.ak .any),fun _=>[],fun _=>false⟩
def de.ok(v:aR):de:=⟨Unit,some (),fun _=>v,fun _=>[],fun _=>true⟩
def de.fx(v:aR)(us:List (Nat×Site)):de:=⟨Unit,some (),fun _=>v,fun _=>us,fun _=>true⟩
def de.eo{J:Type}(c:Option J)(f:J->aR):de:=⟨J,c,f,fun _=>[],fun _=>true⟩
def de.hF{J:Type}(c:Option J)(f:J->aR)(us:J->List (Nat×Site)):de:=⟨J,c,f,us,fun _=>true⟩
def aP{ax:Type}(xs:List ax)(i:Int):Option ax:=if 0<=i then xs[i.toNat]? else none
def a_(n:Nat)(i:Int):Option Nat:=if 0<=i/\i<n then some i.toNat else none
def bw{ax:Type}(xs:List ax)(cT hi:Int):Option (List ax):=if 0<=cT/\cT<=hi/\hi<=xs.length then some ((xs.take hi.toNat).drop cT.toNat) else none
def room:Nat:=140737488355328
def cy{ax:Type}(bytes:Nat)(xs bh:List ax):Option (List ax):=if(xs.length+bh.length)*bytes<=room/\xs.length+bh.length<=maxLen then some (xs++bh) else none
def bY(s t:F):Option F:=if((s.length+t.length:Nat):Int)>IntKind.i64.max then none else some (s++t)
def nL(k:IntKind)(x y:Int):Option Int:=if y=0 then none else some (k.wrap (x.tdiv y))
def lW(x y:Int):Option Int:=if y=0 then none else some (x.tmod y)
def lh(k:IntKind)(x y:Int):Option Int:=if y<0 then none else some (k.wrap (x*2^(min y.toNat k.bits)))
def e9(k:IntKind)(x y:Int):Option Int:=if y<0 then none else some (x.fdiv (2^(min y.toNat k.bits)))
def jj{ax:Type}(bytes:Nat)(n c:Int)(z:ax):Option (List ax):=if 0<=n/\n<=c/\c*bytes<=room/\c<=maxLen then some (List.replicate n.toNat z) else none
def gz(x y:Int):Int:=if y>x then y else x
def li(x y:Int):Int:=if y<x then y else x
def ev(k:IntKind)(x y:Int):Int:=k.wrap (BitVec.ofInt k.bits x &&& BitVec.ofInt k.bits y).toNat
def hM(k:IntKind)(x y:Int):Int:=k.wrap (BitVec.ofInt k.bits x ||| BitVec.ofInt k.bits y).toNat
def dl(k:IntKind)(x y:Int):Int:=k.wrap (BitVec.ofInt k.bits x ^^^ BitVec.ofInt k.bits y).toNat
def bytesOf(s:F):List Int:=s.map fun b=>(b.toNat:Int)
def strOf(xs:List Int):F:=xs.map fun n=>UInt8.ofNat n.toNat
abbrev one(d:a'):aR:=.av (.ak (.d d))
abbrev b0(l:aI):aR:=.av (.ak l)
def uU(ti:cd):Value->aR
 |.int k n=>one (.int k n)
 |.bool b=>one (.bool b)
 |.string s=>one (.str s.data.toList)
 |.slice none 0 0=>match ti with|.slice _ t _=>b0 (.nil t)|_=>b0 (.cS (.slice none 0 0))
 |.map none=>match ti with|.map _ _ t=>one (.map t [])|_=>b0 (.cS (.map none))
 |.agg _|.tuple _=>b0 .any
 |v=>b0 (.cS v)
def a8(C:Ctx)(st:aj)(T:TypeId):Operand->aR
 |.tmp t=>st.get t
 |.const v=>uU (C.tt T) v
 |.global g=>b0 (.cS (.pointer (some ⟨g,0,none⟩)))
 |.func f=>b0 (.clo f [])
def rowOf(st:aj)(o s:Nat):Option ((t:a7)×List (den t)):=
 match st.ab o with
 |some (.row aD t xs)=>bif aD.beq s then some ⟨t,xs⟩ else none
 |some (.dh aD t xs)=>bif aD.beq s then some ⟨t,xs⟩ else none
 |_=>none
def fE(st:aj)(o s:Nat):Option (List aI):=
 match st.ab o with
 |some (.box aD cells)=>bif aD.beq s then some cells else none
 |_=>none
def mapOf(st:aj):aI->Option ((t:a7)×List (F×den t))
 |.d (.map t es)=>some ⟨t,es⟩
 |.own o s=>match st.ab o with
  |some (.map aD t es)=>bif aD.beq s then some ⟨t,es⟩ else none
  |_=>none
 |_=>none
def ki{ax:Type}:List (F×ax)->F->Option ax
 |[],_=>none
 |(k,v)::r,n=>bif k==n then some v else ki r n
def oD{ax:Type}:List (F×ax)->F->ax->List (F×ax)
 |[],n,v=>[(n,v)]
 |(k,w)::r,n,v=>bif k==n then(k,v)::r else(k,w)::oD r n v
def ID:(t:a7)->a'->Option (den t)
 |.i64,.int .i64 n=>some n
 |.bool,.bool b=>some b
 |_,_=>none
def vt:(t:a7)->Option (den t)->Option a'
 |.i64,B=>some (.int .i64 (B.getD 0))
 |.bool,B=>some (.bool (B.getD false))
 |_,_=>none
def bp(st:aj)(o:Nat):Nat:=match st.ab o with|some x=>x.cw+1|none=>0
def l2(st:aj)(o s:Nat)(t:a7)(xs:List (den t)):List (Nat×Site):=match st.ab o with
 |some (.dh _ _ _)=>[]
 |_=>[(o,.dh s t xs)]
def jK(st:aj):aI->Option (a'×List (Nat×Site))
 |.d v=>some (v,[])
 |.nil t=>some (.sl t [],[])
 |.own o s=>match rowOf st o s with|some ⟨t,xs⟩=>some (.sl t xs,l2 st o s t xs)|none=>none
 |.clo g []=>some (.fn g [],[])
 |_=>none
def fQ(st:aj):List aI->Option (List a'×List (Nat×Site))
 |[]=>some ([],[])
 |l::ag=>match jK st l,fQ st ag with
  |some (d,us),some (ds,vs)=>some (d::ds,us++vs)
  |_,_=>none
def bP.cells:bP->List aI
 |.ak l=>[l]
 |.agg ag=>ag
def aI.storable:aI->Bool
 |.any|.dn|.fresh _ _|.en _ _|.eS _ _ _ _ _=>false
 |.cS (.agg _)|.cS (.tuple _)=>false
 |_=>true
def hd:List aI->Bool
 |[]=>true
 |l::ag=>l.storable&&hd ag
def cut(agg:Bool)(off n:Nat)(ag:List aI):Option aR:=
 bif agg then(bif Nat.ble (off+n) ag.length then some (.av (.agg ((ag.drop off).take n))) else none)
 else match ag.drop off with|l::_=>some (b0 l)|[]=>none
def cD(ds:List a'):List aI:=ds.map .d
def bG{ax:Type}(old:List ax)(off:Nat)(new:List ax):List ax:=old.take off++new++old.drop (off+new.length)
def AM:a'->a'->Option Bool
 |.int k a,.int k' b=>if k=k' then some (a==b) else none
 |.bool a,.bool b=>some (a==b)
 |.str a,.str b=>some (a==b)
 |_,_=>none
def uV:List aI->List aI->Option Bool
 |[.d a],[.d b]=>AM a b
 |.d a::as,.d b::bs=>match AM a b,uV as bs with
  |some x,some y=>some (x&&y)
  |_,_=>none
 |_,_=>none
def S7(op:BinOp)(k:IntKind)(x y:Int):de:=
 match op with
 |.add=>.ok (one (.int k (k.wrap (x+y))))
 |.sub=>.ok (one (.int k (k.wrap (x-y))))
 |.mul=>.ok (one (.int k (k.wrap (x*y))))
 |.quo=>.eo (nL k x y) fun n=>one (.int k n)
 |.rem=>.eo (lW x y) fun n=>one (.int k n)
 |.and=>.ok (one (.int k (ev k x y)))
 |.or=>.ok (one (.int k (hM k x y)))
 |.xor=>.ok (one (.int k (dl k x y)))
 |.eql=>.ok (one (.bool (x==y)))
 |.neq=>.ok (one (.bool (x !=y)))
 |.lss=>.ok (one (.bool (decide (x<y))))
 |.leq=>.ok (one (.bool (decide (x<=y))))
 |.gtr=>.ok (one (.bool (decide (x>y))))
 |.geq=>.ok (one (.bool (decide (x>=y))))
 |_=>.fail
def SQ(op:BinOp)(s t:F):de:=
 match op with
 |.add=>.eo (bY s t) fun r=>one (.str r)
 |.eql=>.ok (one (.bool (s==t)))
 |.neq=>.ok (one (.bool (!(s==t))))
 |.lss=>.ok (one (.bool (Op.bytesLess s t)))
 |.leq=>.ok (one (.bool (Op.bytesLess s t||s==t)))
 |.gtr=>.ok (one (.bool (!(Op.bytesLess s t||s==t))))
 |.geq=>.ok (one (.bool (!(Op.bytesLess s t))))
 |_=>.fail
def R6(op:BinOp)(k:IntKind)(a:Int)(k':IntKind)(b:Int):de:=
 match op with
 |.shl=>.eo (lh k a b) fun n=>one (.int k n)
 |.shr=>.eo (e9 k a b) fun n=>one (.int k n)
 |op=>if k=k' then S7 op k a b else .fail
def St(op:BinOp)(ti:cd)(a b:Bool):de:=
 match ti with
 |.bool=>match op with
  |.eql=>.ok (one (.bool (a==b)))
  |.neq=>.ok (one (.bool (!(a==b))))
  |_=>.fail
 |_=>.fail
def qw:List aI->List aI->Bool
 |[],[]=>true
 |.d (.int _ _)::z,.d (.int _ _)::l=>qw z l
 |.d (.bool _)::z,.d (.bool _)::l=>qw z l
 |.d (.str _)::z,.d (.str _)::l=>qw z l
 |_,_=>false
def Tj(op:BinOp)(ti:cd)(xs bh:List aI):de:=
 match ti with
 |.struct _ n z true=>bif xs.length.beq n&&qw z xs then
   match uV xs bh with
   |some b=>match op with
    |.eql=>.ok (one (.bool b))
    |.neq=>.ok (one (.bool (!b)))
    |_=>.fail
   |none=>.fail
  else .fail
 |_=>.fail
def BD(op:BinOp)(ti:cd)(B:Option Int):de:=
 match ti with
 |.iface=>match op with
  |.eql=>.ok (one (.bool B.isNone))
  |.neq=>.ok (one (.bool B.isSome))
  |_=>.fail
 |_=>.fail
def AO:Operand->Bool
 |.const .nilIface=>true
 |_=>false
def Ic(op:BinOp)(ti:cd):aR->de
 |.av (.ak (.d (.err _ B)))=>BD op ti B
 |.av (.ak (.cS .nilIface))=>BD op ti none
 |_=>.fail
def Jm(op:BinOp)(ti:cd)(x y:aR):de:=
 match x,y with
 |.av (.ak (.d (.int k a))),.av (.ak (.d (.int k' b)))=>R6 op k a k' b
 |.av (.ak (.d (.str s))),.av (.ak (.d (.str t)))=>SQ op s t
 |.av (.ak (.d (.bool a))),.av (.ak (.d (.bool b)))=>St op ti a b
 |.av (.agg xs),.av (.agg bh)=>Tj op ti xs bh
 |_,_=>.fail
def sK(agg:Bool)(n:Nat)(st:aj)(a:aR):de:=
 match a with
 |.av (.ak (.ptr o s off))=>match fE st o s with
  |some cells=>match cut agg off n cells with|some v=>.ok v|none=>.fail
  |none=>.fail
 |.av (.ak (.en cells off))=>match cut agg off n (cD cells) with|some v=>.ok v|none=>.fail
 |.av (.ak (.eS o s u k off))=>match rowOf st o s with
  |some ⟨t,xs⟩=>if t=u/\off+n<=aY t then .eo (xs[k]?) fun x=>match cut agg off n (cD (enc t x)) with|some v=>v|none=>b0 .any else .fail
  |none=>.fail
 |_=>.fail
def sh(n:Nat)(st:aj)(a:aR)(v:bP):de:=
 bif v.cells.length.beq n then
 match a with
 |.av (.ak (.ptr o s off))=>match fE st o s with
  |some cells=>bif Nat.ble (off+n) cells.length&&hd v.cells then .fx (b0 (.cS undef)) [(o,.box s (bG cells off v.cells))] else .fail
  |none=>.fail
 |.av (.ak (.eS o s u k off))=>match st.ab o with
  |some (.row aD t xs)=>bif aD.beq s&&Nat.ble (off+n) (aY t)&&decide (t=u) then
    match fQ st v.cells with
    |some (ds,us)=>bif(look us o).isNone then .hF ((xs[k]?).bind fun x=>dec t (bG (enc t x) off ds)) (fun _=>b0 (.cS undef)) fun x=>us++[(o,.row s t (xs.set k x))] else .fail
    |none=>.fail
   else .fail
  |_=>.fail
 |_=>.fail
 else .fail
def rA(u:a7)(st:aj)(x:aR)(i:Int):de:=
 match x with
 |.av (.ak (.d (.sl t xs)))=>if t=u then .eo (aP xs i) fun x=>b0 (.en (enc t x) 0) else .fail
 |.av (.ak (.own o s))=>match rowOf st o s with
  |some ⟨t,xs⟩=>if t=u then .eo (a_ xs.length i) fun k=>b0 (.eS o s t k 0) else .fail
  |none=>.fail
 |_=>.fail
def DQ(off:Nat):aR->de
 |.av (.ak (.ptr o s B))=>.ok (b0 (.ptr o s (B+off)))
 |.av (.ak (.en cells B))=>.ok (b0 (.en cells (B+off)))
 |.av (.ak (.eS o s t k B))=>.ok (b0 (.eS o s t k (B+off)))
 |_=>.fail
def iF(ll:Int):Option aR->Option Int
 |none=>some ll
 |some (.av (.ak (.d (.int _ n))))=>some n
 |some _=>none
def sk(ti:cd)(st:aj)(x:aR)(cT hi:Option aR):de:=
 match x with
 |.av (.ak (.d (.str s)))=>match ti,iF 0 cT,iF s.length hi with
  |.str,some l,some h=>.eo (bw s l h) fun r=>one (.str r)
  |_,_,_=>.fail
 |.av (.ak (.d (.sl t xs)))=>match ti,iF 0 cT,iF xs.length hi with
  |.slice _ u _,some l,some h=>if t=u then .eo (bw xs l h) fun r=>one (.sl t r) else .fail
  |_,_,_=>.fail
 |.av (.ak (.nil t))=>match ti,iF 0 cT,iF 0 hi with
  |.slice _ _ _,some l,some h=>.eo (bw ([]:List (den t)) l h) fun r=>one (.sl t r)
  |_,_,_=>.fail
 |.av (.ak (.own o s))=>match rowOf st o s with
  |some ⟨t,xs⟩=>match ti,iF 0 cT,iF xs.length hi with
   |.slice _ u _,some l,some h=>if t=u then .hF (bw xs l h) (fun r=>one (.sl t r)) fun _=>l2 st o s t xs else .fail
   |_,_,_=>.fail
  |none=>.fail
 |_=>.fail
def s3(ti:cd)(st:aj)(x:aR):de:=
 match ti,x with
 |.str,.av (.ak (.d (.str s)))=>.ok (one (.int .i64 s.length))
 |.slice _ _ _,.av (.ak (.d (.sl _ xs)))=>.ok (one (.int .i64 xs.length))
 |.slice _ _ _,.av (.ak (.nil _))=>.ok (one (.int .i64 0))
 |.slice _ _ _,.av (.ak (.own o s))=>match rowOf st o s with
  |some ⟨_,xs⟩=>.ok (one (.int .i64 xs.length))
  |none=>.fail
 |.map _ _ _,.av (.ak l)=>match mapOf st l with
  |some ⟨_,es⟩=>.ok (one (.int .i64 es.length))
  |none=>.fail
 |_,_=>.fail
def sE(st:aj):aR->Option a'
 |.av (.ak (.d (.sl t xs)))=>some (.sl t xs)
 |.av (.ak (.d (.str s)))=>some (.str s)
 |.av (.ak (.nil t))=>some (.sl t [])
 |.av (.ak (.own o s))=>match rowOf st o s with|some ⟨t,xs⟩=>some (.sl t xs)|none=>none
 |_=>none
def p1(bytes:Nat)(t:a7)(dst:Nat)(st:aj)(s:aR)(bh:List (den t)):de:=
 match s with
 |.av (.ak (.nil _))=>.hF (cy bytes [] bh) (fun _=>b0 (.own dst (bp st dst))) fun r=>[(dst,.row (bp st dst) t r)]
 |.av (.ak (.own o s))=>match st.ab o with
  |some (.row aD bk xs)=>bif aD.beq s then
    if ai:bk=t then .hF (cy bytes (ai▸xs:List (den t)) bh) (fun _=>b0 (.own dst (bp (st.ig o (.dead s)) dst)))
     fun r=>[(o,.dead s),(dst,.row (bp (st.ig o (.dead s)) dst) t r)]
    else .fail
   else .fail
  |_=>.fail
 |_=>.fail
def sf(bytes:Nat)(t:a7)(dst:Nat)(st:aj)(s x:aR):de:=
 match sE st x with
 |none=>.fail
 |some d=>match d with
  |.sl u bh=>if h:u=t then p1 bytes t dst st s (h▸bh:List (den t)) else .fail
  |_=>.fail
def sg(bytes:Nat)(t:a7)(dst:Nat)(st:aj)(s x:aR):de:=
 match x with
 |.av (.ak (.d (.str y)))=>if h:t=.u8 then p1 bytes t dst st s (h▸(bytesOf y:List (den .u8))) else .fail
 |_=>.fail
def lm(t:a7)(st:aj):List bP->Option (List (den t)×List (Nat×Site))
 |[]=>some ([],[])
 |a::as=>match fQ st a.cells with
  |some (ds,us)=>match dec t ds,lm t st as with
   |some x,some (xs,vs)=>some (x::xs,us++vs)
   |_,_=>none
  |none=>none
def l3:aR->Option bP
 |.av a=>some a
 |.jF _=>none
def nJ:List aR->Option (List bP)
 |[]=>some []
 |v::vs=>match l3 v,nJ vs with|some a,some as=>some (a::as)|_,_=>none
def r4:Nat->List (Nat×Operand)->Bool
 |_,[]=>true
 |n,(i,_)::r=>i.beq n&&r4 (n+1) r
def isByte:cd->Bool
 |.int .u8=>true
 |_=>false
def sT(C:Ctx)(src dst:TypeId)(o:Nat)(st:aj)(x:aR):de:=
 match C.tt src,C.tt dst,x with
 |.none,_,_=>.fail
 |_,.int k,.av (.ak (.d (.int _ n)))=>.ok (one (.int k (k.wrap n)))
 |_,.str,.av (.ak (.d (.str s)))=>.ok (one (.str s))
 |.slice e .u8 _,.str,.av (.ak (.d (.sl .u8 xs)))=>bif isByte (C.tt e) then .ok (one (.str (strOf xs))) else .fail
 |.slice e .u8 _,.str,.av (.ak (.nil _))=>bif isByte (C.tt e) then .ok (one (.str [])) else .fail
 |.slice e .u8 _,.str,.av (.ak (.own aa s))=>match rowOf st aa s with
  |some ⟨.u8,xs⟩=>bif isByte (C.tt e) then .ok (one (.str (strOf xs))) else .fail
  |_=>.fail
 |.str,.slice e .u8 _,.av (.ak (.d (.str s)))=>bif isByte (C.tt e) then .hF (if s.length<=maxLen then some () else none) (fun _=>b0 (.own o (bp st o))) fun _=>[(o,.row (bp st o) .u8 (bytesOf s))] else .fail
 |_,_,_=>.fail
def k5(st:aj):List (Nat×Nat)->Option (List (List a')×List (Nat×Site)×List Nat)
 |[]=>some ([],[],[])
 |(o,s)::r=>match fE st o s with
  |some cells=>match fQ st cells,k5 st r with
   |some (ds,us),some (rest,vs,bs)=>some (ds::rest,us++vs,o::bs)
   |_,_=>none
  |none=>none
def mG(st:aj):aI->Option (aI×List (Nat×Site)×List Nat)
 |.en cells 0=>some (.en cells 0,[],[])
 |.clo g (c::cs)=>match k5 st (c::cs) with|some (ds,us,bs)=>some (.d (.fn g ds),us,bs)|none=>none
 |l=>match jK st l with|some (d,us)=>some (.d d,us,[])|none=>none
def lQ(st:aj):List aI->Option (List aI×List (Nat×Site)×List Nat)
 |[]=>some ([],[],[])
 |l::ag=>match mG st l,lQ st ag with
  |some (a,us,bs),some (as,vs,cs)=>some (a::as,us++vs,bs++cs)
  |_,_=>none
def nH(st:aj):aI->Option (aI×List (Nat×Site))
 |.d v=>some (.d v,[])
 |.nil t=>some (.fresh t [],[])
 |.own o s=>match st.ab o with
  |some (.row aD t xs)=>bif aD.beq s then some (.fresh t xs,[(o,.dead s)]) else none
  |some (.dh aD t xs)=>bif aD.beq s then some (.d (.sl t xs),[]) else none
  |_=>none
 |.dn=>some (.dn,[])
 |.cS v=>some (.cS v,[])
 |_=>none
def vg:List aI->List aI
 |.cS (.pointer none)::r=>.dn::r
 |l=>l
def ku(st:aj):List aI->Option (List aI×List (Nat×Site))
 |[]=>some ([],[])
 |l::ag=>match nH st l,ku st ag with
  |some (a,us),some (as,vs)=>some (a::as,us++vs)
  |_,_=>none
structure j6 where
 as:List Arg
 eL:List (Nat×Site) -- rows BQ Zq eL,as avL awY frozen
 fN:List Nat -- boxes BQ Zq eL
 gone:List (Nat×Site) -- boxes BQ go over,and rows in av0
 boxes:List (Nat×Nat) -- tj boxes:ab,cw
def i_(st:aj):List aR->Option j6
 |[]=>some ⟨[],[],[],[],[]⟩
 |.av (.ak (.ptr o s 0))::vs=>match fE st o s,i_ st vs with
  |some cells,some r=>match ku st cells with
   |some (cs,gone)=>some ⟨.fk cs::r.as,r.eL,r.fN,((o,.dead s)::gone)++r.gone,(o,s)::r.boxes⟩
   |none=>none
  |_,_=>none
 |.av (.ak l)::vs=>match mG st l,i_ st vs with
  |some (a,us,bs),some r=>some ⟨.av (.ak a)::r.as,us++r.eL,bs++r.fN,r.gone,r.boxes⟩
  |_,_=>none
 |.av (.agg ag)::vs=>match lQ st ag,i_ st vs with
  |some (as,us,bs),some r=>some ⟨.av (.agg as)::r.as,us++r.eL,bs++r.fN,r.gone,r.boxes⟩
  |_,_=>none
 |_::_=>none
def oE(st:aj):aI->Option (aI×List (Nat×Site)×List (Nat×Site)×List Nat)
 |.own o s=>match nH st (.own o s) with|some (a,us)=>some (a,us,[],[])|none=>none
 |.nil t=>some (.fresh t [],[],[],[])
 |l=>match mG st l with|some (a,us,bs)=>some (a,[],us,bs)|none=>none
def lK(st:aj):List aR->Option j6
 |[]=>some ⟨[],[],[],[],[]⟩
 |.av (.ak l)::vs=>match oE st l,lK st vs with
  |some (a,us,ag,bs),some r=>some ⟨.av (.ak a)::r.as,ag++r.eL,bs++r.fN,us++r.gone,r.boxes⟩
  |_,_=>none
 |_::_=>none
def rZ(b:Bool)(st:aj)(vs:List aR):Option j6:=bif b then lK st vs else i_ st vs
def a7.oB:a7->Bool
 |.pack|.recipe|.hunk|.sU=>true
 |_=>false
def aI.oB:aI->Bool
 |.d (.sl _ _)|.d (.fn _ _)|.d (.map _ _)=>true
 |.d _=>false
 |.fresh t _=>t.oB
 |.dn|.cS _=>false
 |_=>true
def rM:List aI->Bool
 |[]=>false
 |l::ag=>l.oB||rM ag
def rD:List bP->Bool
 |[]=>false
 |a::as=>rM a.cells||rD as
def rC:List (List aI)->Bool
 |[]=>false
 |a::as=>rM a||rC as
def take(st:aj)(n:Nat):List aI->List aI×List (Nat×Site)
 |[]=>([],[])
 |.fresh t xs::ag=>let r:=take st (n+1) ag;(.own n (bp st n)::r.1,(n,.row (bp st n) t xs)::r.2)
 |l::ag=>let r:=take st (n+1) ag;(l::r.1,r.2)
def dT(st:aj)(n:Nat):List bP->List bP×List (Nat×Site)
 |[]=>([],[])
 |.ak l::as=>let x:=take st n [l];let r:=dT st (n+100) as;((match x.1 with|[gm]=>.ak gm|ag=>.agg ag)::r.1,x.2++r.2)
 |.agg ag::as=>let x:=take st n ag;let r:=dT st (n+100) as;(.agg x.1::r.1,x.2++r.2)
def gM(st:aj):List (Nat×Nat)->List (List aI)->List (Nat×Site)
 |(o,s)::bs,cs::cN=>let x:=take st (1000000+o*100) cs;x.2++(o,.box s x.1)::gM st bs cN
 |_,_=>[]
def SU:List bP->aR
 |[a]=>.av a
 |as=>.jF as
def keys{ax:Type}:List (Nat×ax)->List Nat
 |[]=>[]
 |p::r=>p.1::keys r
def fP(n:Nat):List Nat->Bool
 |[]=>false
 |m::r=>n.beq m||fP n r
def fB:List Nat->Bool
 |[]=>true
 |n::r=>!fP n r&&fB r
def eX:List Nat->List Nat->Bool
 |[],_=>true
 |n::r,l=>!fP n l&&eX r l
def oO(dst:Nat)(st:aj)(S:aF)(a:j6):de:=
 let r:=S a.as
 {J:=r.J,comp:=r.comp
  val:=fun y=>SU (dT st (2000000+dst*10000) (r.fb y)).1
  us:=fun y=>(bif rD (r.fb y)||rC (r.fk y) then a.eL else [])++a.gone++gM st a.boxes (r.fk y)++(dT st (2000000+dst*10000) (r.fb y)).2
  qX:=fun y=>fB (keys a.gone)&&eX (keys a.eL++a.fN) (keys a.gone)&&fB (keys (gM st a.boxes (r.fk y)++(dT st (2000000+dst*10000) (r.fb y)).2))&&
   eX (keys a.eL++a.fN) (keys (gM st a.boxes (r.fk y)++(dT st (2000000+dst*10000) (r.fb y)).2))&&(!(rD (r.fb y)||rC (r.fk y))||a.fN.isEmpty)}
def callee(v:aR):Option (FuncId×List (Nat×Nat)):=
 match v with
 |.av (.ak (.clo g bA))=>some (g,bA)
 |_=>none
def gi(C:Ctx)(st:aj):List Operand->List TypeId->List aR
 |[],_=>[]
 |x::xs,[]=>a8 C st 0 x::gi C st xs []
 |x::xs,T::cW=>a8 C st T x::gi C st xs cW
def nz:List (List a')->List Arg
 |[]=>[]
 |c::cs=>.av (.ak (.en c 0))::nz cs
def sj(g:FuncId)(n:Nat)(st:aj):List aR->de
 |[.av (.ak (.d (.str s))),.av (.ak (.d (.str p)))]=>.fx (b0 (.clo g [(n,bp st n),(n+1,bp st (n+1)),(n+2,bp st (n+2))]))
   [(n,.box (bp st n) [.d (.str p)]),(n+1,.box (bp st (n+1)) [.d (.str s)]),(n+2,.box (bp st (n+2)) [.d (.int .i64 0)])]
 |_=>.fail
def copyV(st:aj):List aR->de
 |[.av (.ak (.ptr o s 0))]=>match st.ab o with
  |some (.box aD [.dn,l])=>bif aD.beq s then .fx (.jF []) [(o,.box s [.dn,l])] else .fail
  |_=>.fail
 |_=>.fail
def rX(st:aj):List aR->de
 |[.av (.ak (.ptr o s 0))]=>match fE st o s with
  |some [_,.nil .u8]=>.ok (one (.str []))
  |some [_,.own aa u]=>match st.ab aa with
   |some (.row b7 .u8 xs)=>bif b7.beq u then .fx (one (.str (strOf xs))) [(aa,.dh u .u8 xs)] else .fail
   |_=>.fail
  |_=>.fail
 |_=>.fail
def sH(n:Nat)(st:aj):List aR->de
 |[.av (.ak (.d (.sl .u8 xs)))]=>.fx (b0 (.ptr n (bp st n) 0)) [(n,.box (bp st n) [.d (.sl .u8 (xs.take 2000)),.d (.int .i64 0)])]
 |_=>.fail
def lJ(C:Ctx)(dst:Nat)(st:aj)(f:aR)(vs:List aR):de:=
  match f with
  |.av (.ak (.clo g bA))=>match C.lx g with
   |some cz=>match bA with
    |[]=>sj cz (3000000+dst*10) st vs
    |_=>.fail
   |none=>bif C.op g then(match bA with
    |[]=>sH (4000000+dst) st vs
    |_=>.fail) else bif C.kc g then(match bA with
    |[]=>copyV st vs
    |_=>.fail) else bif C.bs g then(match bA with
    |[]=>rX st vs
    |_=>.fail) else match C.aJ g,rZ (C.m' g) st vs,k5 st bA with
    |some S,some a,some (cs,us,bs)=>oO dst st S {a with as:=a.as++nz cs,eL:=a.eL++us,fN:=a.fN++bs}
    |_,_,_=>.fail
  |.av (.ak (.d (.fn g bA)))=>match C.aJ g,i_ st vs with
    |some S,some a=>oO dst st S {a with as:=a.as++nz bA}
    |_,_=>.fail
  |_=>.fail
def B4(t:a7)(xs:List (den t))(n:Nat):List aI:=match wT t with
 |some z=>(List.range n).flatMap fun j=>cD (enc t (xs.getD j z))
 |none=>[]
def s_(t:a7):List aI->Option (List (den t))
 |[]=>some []
 |.d d::ag=>match dec t [d],s_ t ag with
  |some x,some xs=>some (x::xs)
  |_,_=>none
 |_=>none
def long{ax:Type}(n:Nat)(xs:List ax):Option (List ax):=if xs.length=n then some xs else none
def qn(o:Nat)(st:aj)(t:a7)(n:Nat)(xs:List (den t)):de:=bif xs.length.beq n&&Nat.ble n 1000 then .fx (b0 (.eS o (bp st o) t 0 0)) [(o,.row (bp st o) t xs)] else .fail
def sB(o:Nat)(st:aj)(t:a7)(n:Nat):de:=match wT t with
 |some z=>qn o st t n (List.replicate n z)
 |none=>.fail
def ta(o:Nat)(st:aj)(t:a7)(n:Nat)(v:aR):de:=match v with
 |.av (.agg ag)=>match s_ t ag with
  |some xs=>qn o st t n xs
  |none=>.fail
 |_=>.fail
def sL(st:aj)(t:a7)(n:Nat)(a:aR):de:=match a with
 |.av (.ak (.eS o s u 0 0))=>match rowOf st o s with
  |some ⟨bk,xs⟩=>if bk=t/\bk=u then .eo (long n xs) fun xs=>.av (.agg (B4 bk xs n)) else .fail
  |none=>.fail
 |_=>.fail
def si(st:aj)(t:a7)(n:Nat)(a:aR)(v:bP):de:=match a,v with
 |.av (.ak (.eS o s u 0 0)),.agg ag=>match st.ab o with
  |some (.row aD bk xs)=>if bk=t/\bk=u/\aD=s then(match s_ bk ag with
   |some bh=>bif bh.length.beq n then .hF (long n xs) (fun _=>b0 (.cS undef)) fun _=>[(o,.row s bk bh)] else .fail
   |none=>.fail) else .fail
  |_=>.fail
 |_,_=>.fail
def rB(C:Ctx)(st:aj)(t:a7)(n:Nat)(x:aR)(i:Int):de:=match x with
 |.av (.ak (.eS o s u 0 0))=>match rowOf st o s with
  |some ⟨bk,xs⟩=>if bk=t/\bk=u then .eo ((long n xs).bind fun xs=>a_ xs.length i) fun k=>b0 (.eS o s bk k 0) else .fail
  |none=>.fail
 |.av (.ak (.cS (.pointer (some ⟨g,0,none⟩))))=>match C.gt g with
  |some ⟨bk,xs⟩=>bif decide (bk=t)&&xs.length.beq n then .eo (aP xs i) fun x=>b0 (.en (enc bk x) 0) else .fail
  |none=>.fail
 |_=>.fail
def H8(t:a7)(n:Nat)(x:aR)(i:Int):de:=match x with
 |.av (.agg ag)=>match s_ t ag with
  |some xs=>bif xs.length.beq n then .eo (aP xs i) fun x=>(match enc t x with|[d]=>b0 (.d d)|_=>b0 .any) else .fail
  |none=>.fail
 |_=>.fail
def sn(st:aj)(t:a7)(n:Nat)(x:aR)(cT hi:Option aR):de:=match x with
 |.av (.ak (.eS o s u 0 0))=>match rowOf st o s,iF 0 cT,iF n hi with
  |some ⟨bk,xs⟩,some l,some h=>if bk=t/\bk=u then .hF ((long n xs).bind fun xs=>bw xs l h) (fun r=>b0 (.d (.sl bk r))) fun _=>l2 st o s bk xs else .fail
  |_,_,_=>.fail
 |_=>.fail
def k3(C:Ctx)(st:aj)(B:Oper):de:=
 match B.op with
 |.makeMap t r=>match B.dst,C.tt t with
  |some o,.map _ _ ty=>match r with
   |none=>.fx (b0 (.own o (bp st o))) [(o,.map (bp st o) ty [])]
   |some x=>match a8 C st 0 x with
    |.av (.ak (.d (.int _ _)))=>.fx (b0 (.own o (bp st o))) [(o,.map (bp st o) ty [])]
    |_=>.fail
  |_,_=>.fail
 |.mapUpdate t m k x=>ss C st t m k x
 |.insert t m k x=>ss C st t m k x
 |.lookup t m k c=>match C.tt t,a8 C st t m,a8 C st 0 k with
  |.map _ _ ty,.av (.ak l),.av (.ak (.d (.str n)))=>match mapOf st l with
   |some ⟨u,es⟩=>bif decide (u=ty) then(match vt u (ki es n) with
    |some d=>.ok (bif c then .jF [.ak (.d d),.ak (.d (.bool (ki es n).isSome))] else one d)
    |none=>.fail) else .fail
   |none=>.fail
  |_,_,_=>.fail
 |.makeInterface t x=>match C.tt t,a8 C st t x with
  |.struct _ _ _ _,.av (.agg [.d (.int .i64 n)])=>.ok (one (.err t (some n)))
  |_,_=>.fail
 |_=>.fail
where
 ss (C:Ctx) (st:aj) (t:TypeId) (m k x:Operand):de:=match C.tt t,a8 C st t m,a8 C st 0 k,a8 C st 0 x with
  |.map _ _ ty,.av (.ak (.own o s)),.av (.ak (.d (.str n))),.av (.ak (.d d))=>match st.ab o with
   |some (.map aD u es)=>bif aD.beq s&&decide (u=ty) then(match ID u d with
    |some v=>.fx (b0 (.cS undef)) [(o,.map s u (oD es n v))]
    |none=>.fail) else .fail
   |_=>.fail
  |_,_,_,_=>.fail
def step(C:Ctx)(st:aj)(B:Oper):de:=
 match B.op with
 |.move x|.assign x=>.ok (a8 C st B.type x)
 |.pick c a b=>match a8 C st B.type c with
  |.av (.ak (.d (.bool true)))=>.ok (a8 C st B.type a)
  |.av (.ak (.d (.bool false)))=>.ok (a8 C st B.type b)
  |_=>.fail
 |.alloc elem=>match B.dst,C.tt elem with
  |some o,.arr _ t n=>sB o st t n
  |some o,ti=>match ti.zero with
   |some z=>.fx (b0 (.ptr o (bp st o) 0)) [(o,.box (bp st o) (bif elem.beq qW then vg z else z))]
   |none=>.fail
  |_,_=>.fail
 |.box elem x=>match B.dst,C.tt elem with
  |some o,.arr _ t n=>ta o st t n (a8 C st elem x)
  |some o,_=>match l3 (a8 C st elem x) with
   |some a=>bif hd a.cells then .fx (b0 (.ptr o (bp st o) 0)) [(o,.box (bp st o) a.cells)] else .fail
   |none=>.fail
  |_,_=>.fail
 |.build t parts=>match C.tt t with
  |.struct aJ _ z _=>mz C st aJ z parts.toList
  |.arr _ ty n=>match tf ty with
   |some z=>mz C st ((List.range n).map fun j=>(j,1)) (List.replicate n z) parts.toList
   |none=>.fail
  |_=>.fail
 |.buildSlice t len parts=>match B.dst,C.tt t with
  |some o,.slice e ty _=>bif parts.toList.length.beq len&&r4 0 parts.toList&&Nat.ble (len*aY ty) 1000 then
    match nJ (parts.toList.map fun p=>a8 C st e p.2) with
    |some as=>match lm ty st as with
     |some (xs,us)=>.fx (b0 (.own o (bp st o))) (us++[(o,.row (bp st o) ty xs)])
     |none=>.fail
    |none=>.fail
   else .fail
  |_,_=>.fail
 |.load t a=>match C.tt t with
  |.arr _ ty n=>sL st ty n (a8 C st t a)
  |ti=>bif ti.known then sK ti.agg ti.size st (a8 C st t a) else .fail
 |.store t a x=>match l3 (a8 C st t x) with
  |some v=>match C.tt t with
   |.arr _ ty n=>si st ty n (a8 C st t a) v
   |ti=>bif ti.known then sh ti.size st (a8 C st t a) v else .fail
  |none=>.fail
 |.nilCheck x=>match a8 C st B.type x with
  |.av (.ak (.ptr o s f))=>.ok (b0 (.ptr o s f))
  |.av (.ak (.en cs f))=>.ok (b0 (.en cs f))
  |.av (.ak (.eS o s t k f))=>.ok (b0 (.eS o s t k f))
  |_=>.fail
 |.binOp op t x y _=>bif AO y then Ic op (C.tt t) (a8 C st t x) else Jm op (C.tt t) (a8 C st t x) (a8 C st t y)
 |.unOp op _ x=>match op,a8 C st B.type x with
  |.not,.av (.ak (.d (.bool b)))=>.ok (one (.bool (!b)))
  |.neg,.av (.ak (.d (.int k n)))=>.ok (one (.int k (k.wrap (0-n))))
  |.xor,.av (.ak (.d (.int k n)))=>.ok (one (.int k (dl k (if k.signed then-1 else k.max) n)))
  |_,_=>.fail
 |.convert src dst x=>(match B.dst with|some o=>sT C src dst o st (a8 C st src x)|none=>.fail)
 |.makeFunc fn first captured=>match fn with
  |.func g=>bif first.toList.isEmpty then(match nI C st captured.toList with|some bA=>.ok (b0 (.clo g bA))|none=>.fail) else .fail
  |_=>.fail
 |.makeSlice t l c=>match B.dst,C.tt t,a8 C st 0 l,a8 C st 0 c with
  |some o,.slice e ty bytes,.av (.ak (.d (.int _ n))),.av (.ak (.d (.int _ m)))=>match(C.tt e).zero with
   |some z=>match fQ st z with
    |some (ds,_)=>match dec ty ds with
     |some eP=>.hF (jj bytes n m eP) (fun _=>b0 (.own o (bp st o))) fun r=>[(o,.row (bp st o) ty r)]
     |none=>.fail
    |none=>.fail
   |none=>.fail
  |_,_,_,_=>.fail
 |.slice t x cT hi C_=>match C_ with
  |none=>match C.tt t with
   |.arr _ ty n=>sn st ty n (a8 C st t x) (cT.map (a8 C st 0)) (hi.map (a8 C st 0))
   |ti=>sk ti st (a8 C st t x) (cT.map (a8 C st 0)) (hi.map (a8 C st 0))
  |some _=>.fail
 |.fieldAddr s x f=>match C.tt s with
  |.struct aJ _ _ _=>match aJ[f]? with
   |some (off,_)=>DQ off (a8 C st 0 x)
   |none=>.fail
  |_=>.fail
 |.indexAddr t x i=>match C.tt t,a8 C st 0 i with
  |.slice _ ty _,.av (.ak (.d (.int _ n)))=>rA ty st (a8 C st t x) n
  |.arr _ ty m,.av (.ak (.d (.int _ n)))=>rB C st ty m (a8 C st t x) n
  |_,_=>.fail
 |.index t x i=>match C.tt t,a8 C st t x,a8 C st 0 i with
  |.str,.av (.ak (.d (.str s))),.av (.ak (.d (.int _ n)))=>.eo (aP s n) fun b=>one (.int .u8 b.toNat)
  |.arr _ ty m,v,.av (.ak (.d (.int _ n)))=>H8 ty m v n
  |_,_,_=>.fail
 |.extract t i=>match a8 C st 0 t with
  |.jF as=>match as[i]? with
   |some a=>.ok (.av a)
   |none=>.fail
  |_=>.fail
 |.call c=>match c.callee with
  |.value f=>match B.dst with
   |some d=>lJ C d st (a8 C st 0 f) (gi C st c.args.toList c.argTypes.toList)
   |none=>lJ C 0 st (a8 C st 0 f) (gi C st c.args.toList c.argTypes.toList)
  |.builtin b=>match b,B.dst,c.args.toList,c.argTypes.toList with
   |.len,_,[x],[t]=>s3 (C.tt t) st (a8 C st t x)
   |.append,some o,[s,x],[t,u]=>match C.tt t,C.tt u with
    |.slice _ ty bytes,.slice _ _ _=>sf bytes ty o st (a8 C st t s) (a8 C st u x)
    |.slice _ ty bytes,.str=>sg bytes ty o st (a8 C st t s) (a8 C st u x)
    |_,_=>.fail
   |.max,_,[x,y],_=>match a8 C st B.type x,a8 C st B.type y with
    |.av (.ak (.d (.int k a))),.av (.ak (.d (.int _ b)))=>.ok (one (.int k (gz a b)))
    |_,_=>.fail
   |.max,_,[x,y,z,u,v],_=>match a8 C st B.type x,a8 C st B.type y,a8 C st B.type z,a8 C st B.type u,a8 C st B.type v with
    |.av (.ak (.d (.int k a))),.av (.ak (.d (.int _ b))),.av (.ak (.d (.int _ c))),.av (.ak (.d (.int _ d))),.av (.ak (.d (.int _ e)))=>.ok (one (.int k (gz (gz (gz (gz a b) c) d) e)))
    |_,_,_,_,_=>.fail
   |.min,_,[x,y],_=>match a8 C st B.type x,a8 C st B.type y with
    |.av (.ak (.d (.int k a))),.av (.ak (.d (.int _ b)))=>.ok (one (.int k (li a b)))
    |_,_=>.fail
   |_,_,_,_=>.fail
  |_=>.fail
 |_=>k3 C st B
where
 mz (C:Ctx) (st:aj) (aJ:List (Nat×Nat)):List aI->List (Nat×Operand)->de
  |z,[]=>.ok (.av (.agg z))
  |z,(i,x)::r=>match aJ[i]?,l3 (a8 C st 0 x) with
   |some (off,n),some a=>bif a.cells.length.beq n&&hd a.cells&&Nat.ble (off+n) z.length then mz C st aJ (bG z off a.cells) r else .fail
   |_,_=>.fail
 nI (C:Ctx) (st:aj):List Operand->Option (List (Nat×Nat))
  |[]=>some []
  |x::r=>match a8 C st 0 x,nI C st r with
   |.av (.ak (.ptr o s 0)),some l=>some ((o,s)::l)
   |_,_=>none
def HM(C:Ctx)(st:aj)(B:Oper):Option (((t:a7)×List (den t))×Bool):=
 match B.op with
 |.binOp op T x (.const (.slice none 0 0)) _=>match C.tt T with
  |.slice _ _ _=>match op with
   |.eql=>match a8 C st T x with
    |.av (.ak (.d (.sl t xs)))=>some (⟨t,xs⟩,false)
    |_=>none
   |.neq=>match a8 C st T x with
    |.av (.ak (.d (.sl t xs)))=>some (⟨t,xs⟩,true)
    |_=>none
   |_=>none
  |_=>none
 |_=>none
def aI.names:aI->List Nat
 |.own o _|.ptr o _ _|.eS o _ _ _ _=>[o]
 |.clo _ bA=>keys bA
 |_=>[]
def dA:List aI->List Nat
 |[]=>[]
 |l::ag=>l.names++dA ag
def rU:List bP->List Nat
 |[]=>[]
 |a::as=>dA a.cells++rU as
def aR.names:aR->List Nat
 |.av a=>dA a.cells
 |.jF as=>rU as
def xK(st:aj)(o:Nat):List Nat:=match st.ab o with
 |some (.box _ cells)=>dA cells
 |_=>[]
def eR(st:aj):List Nat->List Nat
 |[]=>[]
 |o::r=>o::(xK st o++eR st r)
def k8:Op->List Operand
 |.move x|.assign x|.makeInterface _ x|.box _ x|.load _ x|.nilCheck x|.unOp _ _ x|.convert _ _ x|.fieldAddr _ x _|.extract x _=>[x]
 |.pick c a b=>[c,a,b]
 |.build _ ps|.buildSlice _ _ ps=>ps.toList.map (·.2)
 |.store _ a v|.binOp _ _ a v _|.makeSlice _ a v|.indexAddr _ a v|.index _ a v=>[a,v]
 |.makeFunc _ _ captured=>captured.toList
 |.slice _ x l h _=>x::(l.toList++h.toList)
 |.call c=>(match c.callee with|.value f=>[f]|_=>[])++c.args.toList
 |.lookup _ m k _=>[m,k]
 |.mapUpdate _ m k x|.insert _ m k x=>[m,k,x]
 |.makeMap _ r=>r.toList
 |_=>[]
def nr(st:aj):List Operand->List Nat
 |[]=>[]
 |.tmp t::r=>(st.get t).names++nr st r
 |_::r=>nr st r
def ou:List Operand->List Nat
 |[]=>[]
 |.tmp t::r=>t::ou r
 |_::r=>ou r
def AP:Op->Bool
 |.call c=>match c.callee with
  |.value _=>true
  |_=>false
 |_=>false
def Ih(C:Ctx):Op->List Nat
 |.makeSlice t _ _=>match C.tt t with
  |.slice e _ _=>match(C.tt e).zero with
   |some z=>dA z
   |none=>[]
  |_=>[]
 |_=>[]
def looks:Op->Bool
 |.load _ _|.store _ _ _|.slice _ _ _ _ _|.indexAddr _ _ _|.convert _ _ _|.buildSlice _ _ _|.call _|.lookup _ _ _ _|.mapUpdate _ _ _ _|.insert _ _ _ _=>true
 |_=>false
def It(C:Ctx)(st:aj)(B:Oper):List Nat:=(bif looks B.op then eR st (nr st (k8 B.op)) else [])++B.dst.toList++Ih C B.op
def PM(u:Nat):List Oper->List Nat
 |[]=>[]
 |B::r=>(match B.op,B.dst with
  |.move (.tmp t),some d=>bif Nat.beq d u then [t] else []
  |_,_=>[])++PM u r
def EX(all:List Oper):List Oper->List Nat
 |[]=>[]
 |B::r=>(match B.op with
  |.slice _ (.tmp u) _ _ _=>u::PM u all
  |_=>[])++EX all r
def Th(st:aj)(t:Nat):List (Nat×Site):=match st.get t with
 |.av (.ak (.own o s))=>match st.ab o with
  |some (.row aD t xs)=>bif aD.beq s then [(o,.dh aD t xs)] else []
  |_=>[]
 |_=>[]
def A9(st:aj):List Nat->List (Nat×Site)
 |[]=>[]
 |t::r=>Th st t++A9 st r
def aj.h4(st:aj):List (Nat×Site)->aj
 |[]=>st
 |(o,s)::r=>(st.ig o s).h4 r
def aj.cU(st:aj)(dst:Option Nat)(v:aR)(us:List (Nat×Site)):aj:=
 match dst with
 |some t=>(st.h4 us).set t v
 |none=>st.h4 us
def ck(st:aj):Option Nat->Bool
 |some t=>Nat.blt t st.nt
 |none=>true
abbrev Aj:aR:=b0 (.cS undef)
section
variable {R:Type}
open Classical in
noncomputable def pG{t:a7}(xs:List (den t))(a b:Option R):Option R:=if xs=[]->a=b then b else none
def kh(C:Ctx)(st:aj)(B:Oper)(K:aj->Option R):Option R:=
 bif ck st B.dst then(step C st B).comp.bind fun y=>bif(step C st B).qX y then K (st.cU B.dst ((step C st B).val y) ((step C st B).us y)) else none else none
noncomputable def vi(C:Ctx)(st:aj)(B:Oper)(K:aj->Option R):Option R:=
 match HM C st B with
 |some (⟨t,xs⟩,neg)=>bif ck st B.dst then pG xs (K (st.cU B.dst (one (.bool (!neg))) [])) (K (st.cU B.dst (one (.bool neg)) [])) else none
 |none=>kh C st B K
def so(st:aj)(B:Oper)(K:aj->Option R):Option R:=
 bif ck st B.dst then K (st.cU B.dst Aj []) else none
noncomputable def Rc(C:Ctx)(ops:Array Oper)(st:aj)(B:Oper)(K:aj->Option R):Option R:=
 match B.guard with
 |none=>vi C st B K
 |some (j,want)=>match(ops[j]?).bind (·.dst) with
  |some t=>match st.get t with
   |.av (.ak (.d (.bool b)))=>bif(bif want then b else !b) then vi C (st.set t (one (.bool want))) B K else so (st.set t (one (.bool (!want)))) B K
   |.av (.ak (.cS (.tuple _)))=>so st B K
   |_=>none
  |none=>none
noncomputable def u0(C:Ctx)(ops:Array Oper):List Oper->aj->(aj->Option R)->Option R
 |[],st,K=>K st
 |B::r,st,K=>Rc C ops st B fun al=>u0 C ops r al K
structure Rec where
 B:Oper
 go:Bool
 v:aR
 us:List (Nat×Site)
 kK:List Nat
 rn:List Nat
 CS:Bool
def u':List Nat->Bool
 |[]=>false
 |n::r=>Nat.ble 1000000 n||u' r
def s0(d:Option Nat)(l:List Nat):Bool:=match d with|some d=>fP d l|none=>false
def lY(a b:Rec):Bool:=
 s0 a.B.dst b.kK||s0 a.B.dst b.B.dst.toList||s0 b.B.dst a.kK||
 !eX (keys a.us) (b.rn++keys b.us)||!eX (keys b.us) a.rn||(a.CS&&u' (keys b.us))||(b.CS&&u' (keys a.us))
def lU(acc:List (Nat×Rec×List Nat)):List Edge->List Nat
 |[]=>[]
 |e::r=>bif Region.binds .any e then(match look acc e.on with|some x=>e.on::(x.2++lU acc r)|none=>lU acc r) else lU acc r
def se(i:Nat):List Edge->Bool
 |[]=>true
 |e::r=>(!Region.binds .any e||Nat.blt e.on i)&&se i r
def sq(wO:List Nat)(x:Rec):List (Nat×Rec×List Nat)->Bool
 |[]=>true
 |(j,y,_)::r=>(fP j wO||!lY y x)&&sq wO x r
def Q_(i:Nat):List Oper->Bool
 |[]=>false
 |B::r=>(match B.guard with|some (j,_)=>Nat.beq i j|none=>false)||Q_ i r
def IW(g:Bool)(v:aR)(K:aR->Option R):Option R:=
 bif g then(match v with
  |.av (.ak (.d (.bool b)))=>bif b then K (one (.bool true)) else K (one (.bool false))
  |v=>K v) else K v
def Ab(C:Ctx)(g:Bool)(st:aj)(B:Oper)(gs:List Nat)(K:Rec->Option R):Option R:=
 (step C st B).comp.bind fun y=>bif(step C st B).qX y then IW g ((step C st B).val y) fun v=>
  K ⟨B,true,v,(step C st B).us y,gs++ou (k8 B.op),It C st B,AP B.op⟩ else none
def FC(B:Oper)(gs:List Nat)(K:Rec->Option R):Option R:=K ⟨B,false,Aj,[],gs,[],false⟩
def If(C:Ctx)(ops:Array Oper)(g:Bool)(st:aj)(B:Oper)(K:Rec->Option R):Option R:=
 match B.guard with
 |none=>Ab C g st B [] K
 |some (j,want)=>match(ops[j]?).bind (·.dst) with
  |some t=>match st.get t with
   |.av (.ak (.d (.bool b)))=>bif(bif want then b else !b) then Ab C g st B [t] K else FC B [t] K
   |.av (.ak (.cS (.tuple _)))=>FC B [t] K
   |_=>none
  |none=>none
def Be(C:Ctx)(ops:Array Oper):List Oper->Nat->List (Nat×Rec×List Nat)->aj->(aj->Option R)->Option R
 |[],_,_,st,K=>K st
 |B::r,i,acc,st,K=>bif ck st B.dst&&se i B.after.toList then If C ops (Q_ i r) st B fun x=>
   bif sq (lU acc B.after.toList) x acc then Be C ops r (i+1) ((i,x,lU acc B.after.toList)::acc) (st.cU B.dst x.v x.us) K else none
  else none
def Ri(C:Ctx)(ops:Array Oper)(st:aj)(K:aj->Option R):Option R:=Be C ops ops.toList 0 [] (st.h4 (A9 st (EX ops.toList ops.toList))) K
inductive Out:Type where
 |norm (st:aj)
 |exit (id:Nat) (st:aj)
 |ret (st:aj)
structure aol:Type 1 where
 J:Type
 comp:Option J
 out:J->Out
 run:(R:Type)->J->(Out->Option R)->Option R
 run_eq:∀(R:Type) (y:J) (K:Out->Option R),run R y K=K (out y)
abbrev hN:=aj->aol
structure hI:Type 1 extends Ctx where
 nT:Nat->Option hN
def wrap(C:hI)(p:Nat)(st:aj)(K:Out->Option R)(x:Option R):Option R:=
 match C.nT p with
 |some f=>(f st).comp.bind fun y=>(f st).run R y K
 |none=>x
noncomputable def exec(C:hI):Code->Nat->aj->(Out->Option R)->Option R
 |.skip,_,st,K=>K (.norm st)
 |.region _ ops false,p,st,K=>wrap C p st K (u0 C.toCtx ops ops.toList st fun al=>K (.norm al))
 |.region _ ops true,p,st,K=>wrap C p st K (Ri C.toCtx ops st fun al=>K (.norm al))
 |.seq a b,p,st,K=>wrap C p st K (exec C a (2*p) st fun
  |.norm al=>exec C b (2*p+1) al K
  |B=>K B)
 |.cond c a b,p,st,K=>wrap C p st K (match a8 C.toCtx st 0 c with
  |.av (.ak (.d (.bool t)))=>bif t then exec C a (2*p) st K else exec C b (2*p+1) st K
  |_=>none)
 |.block id c,p,st,K=>wrap C p st K (exec C c (2*p) st fun
  |.exit iO al=>bif iO.beq id then K (.norm al) else K (.exit iO al)
  |B=>K B)
 |.loop _,p,st,K=>wrap C p st K none
 |.rangeFunc _ _ _ _,p,st,K=>wrap C p st K none
 |.exit id,_,st,K=>K (.exit id st)
 |.ret,_,st,K=>K (.ret st)
 |_,_,_,_=>none
end
section
variable {D aQ:Nat->Value}{sites bV:List (Nat×Site)}{w w':World}{av cg:Nat->Prop}
structure h7(D aQ:Nat->Value)(sites bV:List (Nat×Site))(w w':World)(av cg:Nat->Prop):Prop where
 ref:∀o ab,look sites o=some ab->∃bW,look bV o=some bW/\ab.cw<=bW.cw/\(bW.cw=ab.cw->aQ o=D o)
 bH:∀b,¬av b->b<w.heap.size->w'.heap[b]? =w.heap[b]?
 av:∀b,¬av b->b<w.heap.size->¬cg b
theorem bD.goes{d:a'}{v:Value}(G:h7 D aQ sites bV w w' av cg)(hs:w.heap.size<=w'.heap.size)(awj:∀b,cg b->b<w'.heap.size)(r:bD w av d v):bD w' cg d v:=by
 induction r with
 |int k n=>exact .int k n
 |bool b=>exact .bool b
 |str l s h=>exact .str l s h
 |nil t=>exact .nil t
 |sl t xs a cap cs n hn hcap hb hl hc _ ih=>
  have key:xs≠[]->a.block<w.heap.size:=by
   intro hne;have mI:0<cs.length:=by
    rw[hl,eW];exact Nat.mul_pos (List.length_pos_iff.mpr hne) (lM t)
   have:=hc 0 (cs[0]) (List.getElem?_eq_getElem mI);have h2:=World.block_lt_of_cell? w _ this;have iJ:(a.add 0).block=a.block:=by unfold Addr.add;split<;>rfl
   rwa[iJ] at h2
  refine .sl t xs a cap cs n hn hcap (fun hx=>G.av _ (hb hx) (key hx)) hl (fun j u hu=>?_) ih
  have hcell:=hc j u hu;have hne:xs≠[]:=by
   rintro rfl;have:cs=[]:=List.eq_nil_of_length_eq_zero (by simpa[flat] using hl)
   subst this;simp at hu
  have iJ:(a.add j).block=a.block:=by unfold Addr.add;split<;>rfl
  rw[World.cell?_of_block (w:=w) (a:=a.add j) (by rw[iJ];exact G.bH _ (hb hne) (key hne))]
  exact hcell
 |fn g bA bs iT lb hlb tD hb hlt hl hc _ ih=>
  refine .fn g bA bs iT lb hlb tD (fun b hm=>G.av b (hb b hm) (hlt b hm)) (fun b hm=>Nat.lt_of_lt_of_le (hlt b hm) hs) hl (fun i hi j u hu=>?_) ih
  have hcell:=hc i hi j u hu;have hm:bs[i]∈bs:=List.getElem_mem hi;rw[World.cell?_of_block (w:=w) (a:=⟨bs[i],j,none⟩) (G.bH _ (hb _ hm) (hlt _ hm))];exact hcell
 |vF t=>exact .vF t
 |vQ T=>exact .vQ T
 |err T n=>exact .err T n
 |map t es b hb hm=>exact .map t es b (G.av b hb hm.lt) (hm.of (G.bH b hb hm.lt))
theorem Ref.goes{o s:Nat}{p kb:Prop}(G:h7 D aQ sites bV w w' av cg)(h:Ref sites o s p)(hp:aQ o=D o->p->kb):Ref bV o s kb:=by
 obtain⟨ab,h1,h2,h3⟩:=h;obtain⟨bW,g1,g2,g3⟩:=G.ref o ab h1;refine⟨bW,g1,Nat.le_trans h2 g2,fun e=>?_⟩
 have:bW.cw=ab.cw:=by omega
 exact hp (g3 this) (h3 (by omega))
theorem dO.goes{l:aI}{v:Value}(G:h7 D aQ sites bV w w' av cg)(hs:w.heap.size<=w'.heap.size)(b':∀b,cg b->b<w'.heap.size)(h:dO D sites w av l v):dO aQ bV w' cg l v:=by
 cases l with
 |d x=>exact bD.goes G hs b' h
 |nil t=>exact h
 |own o s=>exact⟨h.1,Ref.goes G h.2 (fun e p=>p.trans e.symm)⟩
 |ptr o s off=>obtain⟨b,h1,h2⟩:=h;exact⟨b,h1,Ref.goes G h2 (fun e p=>by rw[e];exact p)⟩
 |en cells off=>
  obtain⟨b,B,hv,hb,hlt,cs,hl,hc,hr⟩:=h;refine⟨b,B,hv,G.av b hb hlt,Nat.lt_of_lt_of_le hlt hs,cs,hl,fun j u hu=>?_,fun j h1 h2=>(hr j h1 h2).goes G hs b'⟩
  have hcell:=hc j u hu;rw[World.cell?_of_block (w:=w) (a:=⟨b,B+j,none⟩) (G.bH b hb hlt)];exact hcell
 |eS o s t k off=>obtain⟨b,h1,h2⟩:=h;exact⟨b,h1,Ref.goes G h2 (fun e p=>by rw[e];exact p)⟩
 |clo g bA=>
  obtain⟨vs,hv,hl,hr⟩:=h;exact⟨vs,hv,hl,fun i h1 h2=>Ref.goes G (hr i h1 h2) (fun e p=>p.trans e.symm)⟩
 |cS u=>exact h
 |fresh t xs=>exact h
 |dn=>trivial
 |any=>trivial
theorem gU.goes{a:bP}{v:Value}(G:h7 D aQ sites bV w w' av cg)(hs:w.heap.size<=w'.heap.size)(b':∀b,cg b->b<w'.heap.size)(h:gU D sites w av a v):gU aQ bV w' cg a v:=by
 cases a with
 |ak l=>exact dO.goes G hs b' h
 |agg ag=>
  obtain⟨vs,hv,hl,hr⟩:=h;exact⟨vs,hv,hl,fun j h1 h2=>(hr j h1 h2).goes G hs b'⟩
theorem cf.goes{a:aR}{v:Value}(G:h7 D aQ sites bV w w' av cg)(hs:w.heap.size<=w'.heap.size)(b':∀b,cg b->b<w'.heap.size)(h:cf D sites w av a v):cf aQ bV w' cg a v:=by
 cases a with
 |av a=>exact gU.goes G hs b' h
 |jF as=>
  obtain⟨vs,hv,hl,hr⟩:=h;exact⟨vs,hv,hl,fun j h1 h2=>(hr j h1 h2).goes G hs b'⟩
theorem jX.goes{o:Nat}{ab:Site}(G:h7 D aQ sites bV w w' av cg)(hs:w.heap.size<=w'.heap.size)(b':∀b,cg b->b<w'.heap.size)(cR:aQ o=D o)
  (hb:ab.live=true->∀b,Jk.bH (D o)=some b->w'.heap[b]? =w.heap[b]?) (h:jX D sites w av o ab):jX aQ bV w' cg o ab:=by
 cases ab with
 |box s cells=>
  obtain⟨b,T,cur,h1,h2,h3,ay,n7,bo⟩:=h;have:=hb rfl b (by rw[h1];rfl)
  exact⟨b,T,cur,cR.trans h1,this.trans h2,h3,ay,n7,fun j g1 g2=>(bo j g1 g2).goes G hs b'⟩
 |row s t xs=>
  obtain⟨e,cs,h1,h2⟩:=h;refine⟨e,cs,?_,fun j g1 g2=>(h2 j g1 g2).goes G hs b'⟩
  rw[cR];refine⟨h1.1,?_⟩;rcases h1.2 with hn|⟨g,cap,cur,fz,hv,r1,r2,hO⟩
  ·exact .inl hn
  ·refine .inr ⟨g,cap,cur,fz,hv,r1,?_,hO⟩;rw[hb rfl g (by rw[hv];rfl)];exact r2
 |dh s t xs=>exact⟨by rw[cR];exact bD.goes G hs b' h.1,by rw[cR];exact h.2⟩
 |map s t es=>
  obtain⟨b,h1,h2⟩:=h;exact⟨b,cR.trans h1,h2.of (hb rfl b (by rw[h1];rfl))⟩
 |dead s=>trivial
end
theorem ao.qj{O:World}{Y:List Nat}{X:Nat->Prop}{D aQ:Nat->Value}{st:aj}{bV:List (Nat×Site)}{M:Array Value}{w w':World}
  (S:ao O Y X D st M w)
  (qq:∀o ab,look st.sites o=some ab->∃bW,look bV o=some bW/\ab.cw<=bW.cw/\(bW.cw=ab.cw->aQ o=D o))
  (iJ:∀b,¬az X D st.sites b->b<w.heap.size->w'.heap[b]? =w.heap[b]?)
  (b':∀b,¬az X D st.sites b->b<w.heap.size->¬az X aQ bV b)
  (anL:(∀{a v},cf D st.sites w (az X D st.sites) a v->cf aQ bV w' (az X aQ bV) a v)->∀o bW,look bV o=some bW->
   (look st.sites o=some bW/\aQ o=D o/\(bW.live=true->∀b,bH (D o)=some b->w'.heap[b]? =w.heap[b]?))\/jX aQ bV w' (az X aQ bV) o bW)
  (alM:∀o aa b,cj bV o->cj bV aa->bH (aQ o)=some b->bH (aQ aa)=some b->o=aa)
  (alJ:∀o b,cj bV o->bH (aQ o)=some b->¬X b/\(b∈Y\/O.heap.size<=b))
  (hlt:∀o b,cj bV o->bH (aQ o)=some b->b<w'.heap.size)
  (akq:Fr Y O w') (hs:w.heap.size<=w'.heap.size):
  ao O Y X aQ {st with sites:=bV} M w':=by
 have G:h7 D aQ st.sites bV w w' (az X D st.sites) (az X aQ bV):=⟨qq,iJ,b'⟩;have vO:∀b,az X aQ bV b->b<w'.heap.size:=by
  rintro b (hx|⟨o,h1,h2⟩)
  ·exact Nat.lt_of_lt_of_le (S.old b hx) hs
  ·exact hlt o b h1 h2
 refine⟨S.nt,fun t=>(S.cI t).goes G hs vO,fun o bW bq=>?_,alM,alJ,akq,fun b h=>Nat.lt_of_lt_of_le (S.old b h) hs,S.eZ⟩
 rcases anL (fun h=>h.goes G hs vO) o bW bq with⟨h1,h2,h3⟩|h
 ·exact(S.sites o bW h1).goes G hs vO h2 h3
 ·exact h
def cB(M:Array Value)(dst:Option Nat)(v:Value):Array Value:=
 match dst with
 |some d=>M.setIfInBounds d v
 |none=>M
section
variable {P:Program}{K:Act->World->Prop}{Q:Exit->Act->World->Prop}{B:Oper}{M:Array Value}{w w':World}{vv:Value}
theorem oz(h:(execOp (Act.eval ⟨M,[]⟩) B).run P w=.ok (.value vv) w')(hk:K ⟨cB M B.dst vv,[]⟩ w'):B.wp P ⟨M,[]⟩ w K Q:=by
 unfold Oper.wp;rw[h,Oper.upon_value];cases Z:B.dst with
 |none=>simp only[Z,cB] at hk;simpa[Act.put] using hk
 |some d=>simp only[Z,cB] at hk;simpa[Act.put] using hk
theorem ajr(h:(execOp (Act.eval ⟨M,[]⟩) B).run P w=.ok .skip w')(hk:K ⟨cB M B.dst undef,[]⟩ w'):B.wp P ⟨M,[]⟩ w K Q:=by
 unfold Oper.wp;rw[h,Oper.upon_skip];cases Z:B.dst with
 |none=>simp only[Z,cB] at hk;simpa[Act.put] using hk
 |some d=>simp only[Z,cB] at hk;simpa[Act.put] using hk
end
def bl(sites:List (Nat×Site)):List (Nat×Site)->List (Nat×Site)
 |[]=>sites
 |(o,s)::r=>bl (cp sites o s) r
theorem aj.uD(st:aj)(us:List (Nat×Site)):st.h4 us={st with sites:=bl st.sites us}:=by
 induction us generalizing st with
 |nil=>rfl
 |cons p us ih=>obtain⟨o,s⟩:=p;simp only[aj.h4,bl];rw[ih];rfl
theorem kU(sites:List (Nat×Site))(us vs:List (Nat×Site)):bl sites (us++vs)=bl (bl sites us) vs:=by
 induction us generalizing sites with
 |nil=>rfl
 |cons p us ih=>obtain⟨o,s⟩:=p;simp only[List.cons_append,bl];exact ih _
section
variable {O:World}{Y:List Nat}{X:Nat->Prop}{D:Nat->Value}{st:aj}{M:Array Value}{w:World}
theorem ao.put(S:ao O Y X D st M w){t:Nat}{v:aR}{vv:Value}(aq:t<st.nt)(hv:cf D st.sites w (az X D st.sites) v vv):
  ao O Y X D (st.set t v) (M.setIfInBounds t vv) w:=by
 refine⟨by simpa using S.nt,fun u=>?_,S.sites,S.dV,S.cl,S.frame,S.old,S.eZ⟩
 rw[aj.GX];by_cases h:t=u
 ·subst h;simp only[if_true];have:(M.setIfInBounds t vv).getD t undef=vv:=by
   have h1:t<M.size:=by rw[S.nt];exact aq
   simp[Array.getD,h1]
  rw[this];exact hv
 ·simp only[h,if_false];have:(M.setIfInBounds t vv).getD u undef=M.getD u undef:=by
   simp only[Array.getD_eq_getD_getElem?,Array.getElem?_setIfInBounds,h,if_false]
  rw[this];exact S.cI u
theorem ao.cU{dst:Option Nat}{v:aR}{vv:Value}{us:List (Nat×Site)}(S:ao O Y X D {st with sites:=bl st.sites us} M w)
  (Z:ck st dst=true) (hv:cf D (bl st.sites us) w (az X D (bl st.sites us)) v vv):ao O Y X D (st.cU dst v us) (cB M dst vv) w:=by
 cases dst with
 |none=>simp only[aj.cU,aj.uD,cB];exact S
 |some t=>
  simp only[aj.cU,aj.uD,cB];have aq:t<st.nt:=by simpa[ck] using Z
  exact ao.put (st:={st with sites:=bl st.sites us}) S aq hv
theorem dy(S:ao O Y X D st M w)(C:Ctx)(T:TypeId)(x:Operand):cf D st.sites w (az X D st.sites) (a8 C st T x) (Act.eval ⟨M,[]⟩ x):=by
 cases x with
 |tmp t=>exact S.cI t
 |const v=>
  show cf _ _ _ _ (uU (C.tt T) v) v;unfold uU;split
  ·exact .int _ _
  ·exact .bool _
  ·exact .str _ _ rfl
  ·split<;>exact rfl
  ·split
   ·exact .vF _
   ·exact rfl
  ·trivial
  ·trivial
  ·exact rfl
 |global g=>exact rfl
 |func f=>
  refine⟨[],rfl,rfl,fun i h=>?_⟩
  simp at h
variable {P:Program}{C:Ctx}{B:Oper}{K:Act->World->Prop}{Q:Exit->Act->World->Prop}
def cH(P:Program)(O:World)(Y:List Nat)(X:Nat->Prop)(st:aj)(M:Array Value)(w:World)(B:Oper)(v:aR)(us:List (Nat×Site)):Prop:=
 ∀(K:Act->World->Prop) (Q:Exit->Act->World->Prop),(∀aQ bX w',ao O Y X aQ (st.cU B.dst v us) bX w'->K ⟨bX,[]⟩ w')->B.wp P ⟨M,[]⟩ w K Q
theorem dE(S:ao O Y X D st M w)(Z:ck st B.dst=true){v:aR}{vv:Value}
  (h:(execOp (Act.eval ⟨M,[]⟩) B).run P w=.ok (.value vv) w) (hv:cf D st.sites w (az X D st.sites) v vv):cH P O Y X st M w B v []:=
 fun _ _ bR=>oz h (bR _ _ _ (ao.cU (us:=[]) S Z hv))
end
section
variable {P:Program}{w:World}
theorem aah(op:BinOp)(t:TypeId)(x y:Operand)(k k':IntKind)(a b:Int):(eqGuard op t x y (.int k a) (.int k' b)).run P w=.ok () w:=by
 unfold eqGuard;cases op<;>rfl
theorem _4(op:BinOp)(t:TypeId)(x y:Operand)(a b:ByteArray):(eqGuard op t x y (.string a) (.string b)).run P w=.ok () w:=by
 unfold eqGuard;cases op<;>rfl
theorem My(op:BinOp)(t:TypeId)(x y:Operand)(a b:Bool):(eqGuard op t x y (.bool a) (.bool b)).run P w=.ok () w:=by
 unfold eqGuard;cases op<;>rfl
def Holds(r:de)(dQ:aR->List (Nat×Site)->Prop):Prop:=∀y,r.comp=some y->r.qX y=true->dQ (r.val y) (r.us y)
theorem Holds.fail{dQ:aR->List (Nat×Site)->Prop}:Holds .fail dQ:=fun _ h _=>by cases h
theorem Holds.ok{v:aR}{dQ:aR->List (Nat×Site)->Prop}(h:dQ v []):Holds (.ok v) dQ:=fun _ _ _=>h
theorem Holds.fx{v:aR}{us:List (Nat×Site)}{dQ:aR->List (Nat×Site)->Prop}(h:dQ v us):Holds (.fx v us) dQ:=fun _ _ _=>h
theorem Holds.eo{J:Type}{c:Option J}{f:J->aR}{dQ:aR->List (Nat×Site)->Prop}(h:∀y,c=some y->dQ (f y) []):Holds (.eo c f) dQ:=fun y hy _=>h y hy
theorem Holds.hF{J:Type}{c:Option J}{f:J->aR}{us:J->List (Nat×Site)}{dQ:aR->List (Nat×Site)->Prop}(h:∀y,c=some y->dQ (f y) (us y)):Holds (.hF c f us) dQ:=fun y hy _=>h y hy
def Plain(P:Program)(w:World)(s:Sem Value)(v:aR)(us:List (Nat×Site)):Prop:=
 ∃vv d,s.run P w=.ok vv w/\us=[]/\v=one d/\∀av,bD w av d vv
theorem Plain.mk{s:Sem Value}{vv:Value}{d:a'}(h:s.run P w=.ok vv w)(hr:∀av,bD w av d vv):Plain P w s (one d) []:=⟨vv,d,h,rfl,rfl,hr⟩
theorem ad7(op:BinOp)(T:TypeId)(k:IntKind)(a b:Int)(hs:op≠.shl)(fH:op≠.shr):
  Holds (S7 op k a b) (Plain P w (binOp op T (.int k a) (.int k b))):=by
 cases op with
 |shl=>exact absurd rfl hs
 |shr=>exact absurd rfl fH
 |andNot=>exact .fail
 |quo=>
  refine Holds.eo fun y hy=>?_
  unfold nL at hy;split at hy
  ·cases hy
  ·rename_i hb;cases hy;exact .mk (by simp[binOp,Op.intDiv,hb]) fun av=>.int _ _
 |rem=>
  refine Holds.eo fun y hy=>?_
  unfold lW at hy;split at hy
  ·cases hy
  ·rename_i hb;cases hy;exact .mk (by simp[binOp,Op.intDiv,hb]) fun av=>.int _ _
 |add=>exact Holds.ok (.mk (by simp[binOp,Op.intArith]) fun av=>.int _ _)
 |sub=>exact Holds.ok (.mk (by simp[binOp,Op.intArith]) fun av=>.int _ _)
 |mul=>exact Holds.ok (.mk (by simp[binOp,Op.intArith]) fun av=>.int _ _)
 |and=>exact Holds.ok (.mk (by simp[binOp,Op.intBits,ev]) fun av=>.int _ _)
 |or=>exact Holds.ok (.mk (by simp[binOp,Op.intBits,hM]) fun av=>.int _ _)
 |xor=>exact Holds.ok (.mk (by simp[binOp,Op.intBits,dl]) fun av=>.int _ _)
 |eql=>exact Holds.ok (.mk (by simp[binOp,Op.intCmp]) fun av=>.bool _)
 |neq=>exact Holds.ok (.mk (by simp[binOp,Op.intCmp]) fun av=>.bool _)
 |lss=>exact Holds.ok (.mk (by simp[binOp,Op.intCmp]) fun av=>.bool _)
 |leq=>exact Holds.ok (.mk (by simp[binOp,Op.intCmp]) fun av=>.bool _)
 |gtr=>exact Holds.ok (.mk (by simp[binOp,Op.intCmp]) fun av=>.bool _)
 |geq=>exact Holds.ok (.mk (by simp[binOp,Op.intCmp]) fun av=>.bool _)
theorem ad5(op:BinOp)(T:TypeId)(a b:ByteArray):
  Holds (SQ op a.data.toList b.data.toList) (Plain P w (binOp op T (.string a) (.string b))):=by
 have e1:a.toList=a.data.toList:=ByteArray.toList_eq a;have e2:b.toList=b.data.toList:=ByteArray.toList_eq b;have ec:a.data.toList.length=a.size:=rfl;have gC:b.data.toList.length=b.size:=rfl;cases op with
 |add=>
  refine Holds.eo fun y hy=>?_
  simp only[bY,ec,gC] at hy;split at hy
  ·cases hy
  ·rename_i hc;cases hy;refine .mk (vv:=.string (a++b)) ?_ fun av=>.str _ _ (by simp[ByteArray.data_append])
   simp only[binOp,Op.stringOp,hc,if_false,Sem.run_pure]
 |eql=>exact Holds.ok (.mk (by rw[<-e1,<-e2];rfl) fun av=>.bool _)
 |neq=>exact Holds.ok (.mk (by rw[<-e1,<-e2];rfl) fun av=>.bool _)
 |lss=>exact Holds.ok (.mk (by rw[<-e1,<-e2];rfl) fun av=>.bool _)
 |leq=>exact Holds.ok (.mk (by rw[<-e1,<-e2];rfl) fun av=>.bool _)
 |gtr=>exact Holds.ok (.mk (by rw[<-e1,<-e2];rfl) fun av=>.bool _)
 |geq=>exact Holds.ok (.mk (by rw[<-e1,<-e2];rfl) fun av=>.bool _)
 |_=>exact .fail
end
def pS:aI->Option Value
 |.d (.int k n)=>some (.int k n)
 |.d (.bool b)=>some (.bool b)
 |.d (.str [])=>some (.string ⟨#[]⟩)
 |.nil _=>some (.slice none 0 0)
 |.cS (.pointer none)=>some (.pointer none)
 |.cS .nilFunc=>some .nilFunc
 |.cS (.map none)=>some (.map none)
 |.cS .nilIface=>some .nilIface
 |_=>none
def k0:List aI->Option (List Value)
 |[]=>some []
 |l::ag=>match pS l,k0 ag with
  |some v,some vs=>some (v::vs)
  |_,_=>none
theorem Np{l:aI}{v:Value}(h:pS l=some v)(D:Nat->Value)(sites:List (Nat×Site))(w:World)(av:Nat->Prop):dO D sites w av l v/\v.oneCell'=true:=by
 unfold pS at h;split at h<;>first|cases h|skip
 ·exact⟨.int _ _,rfl⟩
 ·exact⟨.bool _,rfl⟩
 ·exact⟨.str _ _ rfl,rfl⟩
 ·exact⟨rfl,rfl⟩
 ·exact⟨rfl,rfl⟩
 ·exact⟨rfl,rfl⟩
 ·exact⟨rfl,rfl⟩
 ·exact⟨rfl,rfl⟩
theorem ud:∀{ag:List aI} {vs:List Value},k0 ag=some vs->vs.length=ag.length/\(∀u∈vs,u.oneCell'=true)/\
  ∀(D:Nat->Value) (sites:List (Nat×Site)) (w:World) (av:Nat->Prop) j (h:j<ag.length) (ai:j<vs.length),dO D sites w av (ag[j]) (vs[j]):=by
 intro ag;induction ag with
 |nil=>intro vs h;simp[k0] at h;subst h;exact⟨rfl,fun u hu=>by simp at hu,fun _ _ _ _ j h=>by simp at h⟩
 |cons l ag ih=>
  intro vs h;simp only[k0] at h;split at h
  ·rename_i v cn h1 h2;cases h;obtain⟨g1,g2,g3⟩:=ih h2;refine⟨by simp[g1],fun u hu=>?_,fun D sites w av j hj jI=>?_⟩
   ·rcases List.mem_cons.1 hu with rfl|hu
    ·exact(Np h1 (fun _=>undef) [] default (fun _=>False)).2
    ·exact g2 u hu
   ·cases j with
    |zero=>exact(Np h1 _ _ _ _).1
    |succ j=>exact g3 D sites w av j (by simpa using hj) (by simpa using jI)
  ·cases h
def nu:Value->Value->Option Bool
 |.int k a,.int k' b=>if k=k' then some (a==b) else none
 |.bool a,.bool b=>some (a==b)
 |.string a,.string b=>some (a==b)
 |_,_=>none
def ju:List Value->List Value->Option Bool
 |[a],[b]=>nu a b
 |a::as,b::bs=>match nu a b,ju as bs with
  |some x,some y=>some (x&&y)
  |_,_=>none
 |_,_=>none
def oX:List aI->List Value->Bool
 |[],[]=>true
 |.d (.int _ _)::z,.int _ _::l=>oX z l
 |.d (.bool _)::z,.bool _::l=>oX z l
 |.d (.str _)::z,.string _::l=>oX z l
 |_,_=>false
def jf(P:Program)(T:TypeId)(d:TypeDesc)(z:Value):Prop:=
 P.underlying T=some d/\(∀aJ,d≠.struct aJ)/\(∀n e,d≠.array n e)/\(P.info? T).map (fun i=>(i.size,i.zero))=some (1,some z)
def mapElem(P:Program)(e:TypeId):a7->Prop
 |.i64=>jf P e (.int .i64) (.int .i64 0)
 |.bool=>jf P e .bool (.bool false)
 |_=>False
def Hj(P:Program)(e:TypeId):a7->Prop
 |.i64=>jf P e (.int .i64) (.int .i64 0)
 |.u32=>jf P e (.int .u32) (.int .u32 0)
 |.bool=>jf P e .bool (.bool false)
 |.str=>jf P e .string (.string ⟨#[]⟩)
 |_=>False
def cd.ok(P:Program)(T:TypeId):cd->Prop
 |.none=>True
 |.int k=>jf P T (.int k) (.int k 0)
 |.bool=>jf P T .bool (.bool false)
 |.str=>jf P T .string (.string ⟨#[]⟩)
 |.ptr=>∃e,jf P T (.pointer e) (.pointer Option.none)
 |.func=>∃ps kK v,jf P T (.func ps kK v) .nilFunc
 |.slice e t bytes=>jf P T (.slice e) (.slice Option.none 0 0)/\∃z,(P.info? e).map (fun i=>(i.size,i.bytes,i.zero))=some (aY t,bytes,some z)/\z.cells.size=aY t/\(t.jG=true->e=me)
 |.struct aJ n z eq=>∃fields:Array Field,P.underlying T=some (.struct fields)/\
   (fields.toList.mapM (fun f=>(P.info? f.type).map fun i=>(f.offset,i.size))=some aJ/\∀p∈aJ,p.2≠0)/\
   (∃fT,(P.info? T).map (fun i=>(i.size,i.zero))=some (n,some (.agg fT))/\k0 z=some fT.toList/\z.length=n)/\
   (eq=true->P.eqGuardType P.depth T=false/\∀(vs us:List Value) (b:Bool) (w:World),ju vs us=some b->oX z vs=true->(Op.equal T (.agg vs.toArray) (.agg us.toArray)).run P w=.ok b w)
 |.map k e t=>jf P T (.map k e) (.map Option.none)/\P.underlying k=some .string/\mapElem P e t
 |.iface=>∃iS,jf P T (.interface iS) .nilIface
 |.arr e t n=>P.underlying T=some (.array n e)/\(∃fT z,(P.info? T).map (fun i=>(i.size,i.zero))=some (n,some (.agg fT))/\tf t=some z/\k0 (List.replicate n z)=some fT.toList)/\Hj P e t
section
variable {P:Program}{T:TypeId}{w:World}
theorem kT{i:TypeInfo}(h:P.info? T=some i):(typeInfo T).run P w=.ok i w:=by
 simp[typeInfo,h]
theorem cd.PG{ti:cd}(h:ti.ok P T)(hn:ti≠.none):(sizeOf T).run P w=.ok ti.size w:=by
 have key:∀{z:Option Value} {n:Nat},(P.info? T).map (fun i=>(i.size,i.zero))=some (n,z)->(sizeOf T).run P w=.ok n w:=by
  intro z n h;cases hi:P.info? T with
  |none=>simp[hi] at h
  |some i=>
   simp only[hi,Option.map_some,Option.some.injEq,Prod.mk.injEq] at h;simp[sizeOf,kT hi,h.1]
 cases ti with
 |none=>exact absurd rfl hn
 |int k=>exact key h.2.2.2
 |bool=>exact key h.2.2.2
 |str=>exact key h.2.2.2
 |ptr=>obtain⟨e,h⟩:=h;exact key h.2.2.2
 |func=>obtain⟨_,_,_,h⟩:=h;exact key h.2.2.2
 |iface=>obtain⟨_,h⟩:=h;exact key h.2.2.2
 |slice e t b=>exact key h.1.2.2.2
 |map k e t=>exact key h.1.2.2.2
 |struct aJ n z eq=>obtain⟨fields,_,_,⟨fT,h,_⟩,_⟩:=h;exact key h
 |arr e t n=>obtain⟨_,⟨fT,z,h,_⟩,_⟩:=h;exact key h
theorem cd.EZ{ti:cd}(h:ti.ok P T){z:List aI}(hz:ti.zero=some z):∃v,(zeroValue T).run P w=.ok v w/\k0 z=some v.cells.toList:=by
 have key:∀{z:Value} {n:Nat},(P.info? T).map (fun i=>(i.size,i.zero))=some (n,some z)->(zeroValue T).run P w=.ok z w:=by
  intro z n h;cases hi:P.info? T with
  |none=>simp[hi] at h
  |some i=>
   simp only[hi,Option.map_some,Option.some.injEq,Prod.mk.injEq] at h;simp[zeroValue,kT hi,h.2]
 cases ti with
 |none=>cases hz
 |int k=>cases hz;exact⟨_,key h.2.2.2,rfl⟩
 |bool=>cases hz;exact⟨_,key h.2.2.2,rfl⟩
 |str=>cases hz;exact⟨_,key h.2.2.2,rfl⟩
 |ptr=>cases hz;obtain⟨e,h⟩:=h;exact⟨_,key h.2.2.2,rfl⟩
 |func=>cases hz;obtain⟨_,_,_,h⟩:=h;exact⟨_,key h.2.2.2,rfl⟩
 |iface=>cases hz;obtain⟨_,h⟩:=h;exact⟨_,key h.2.2.2,rfl⟩
 |slice e t b=>cases hz;exact⟨_,key h.1.2.2.2,rfl⟩
 |map k e t=>cases hz;exact⟨_,key h.1.2.2.2,rfl⟩
 |struct aJ n eP eq=>cases hz;obtain⟨fields,_,_,⟨fT,h,h2,_⟩,_⟩:=h;exact⟨_,key h,h2⟩
 |arr e t n=>
  obtain⟨_,⟨fT,z0,h,h1,h2⟩,_⟩:=h;simp only[cd.zero,h1,Option.map_some,Option.some.injEq] at hz;subst hz;exact⟨_,key h,h2⟩
theorem cd.Oy{ti:cd}(h:ti.ok P T)(hn:ti≠.none):(isAgg T).run P w=.ok ti.agg w:=by
 have key:∀{d:TypeDesc},P.underlying T=some d->(∀aJ,d≠.struct aJ)->(∀n e,d≠.array n e)->(isAgg T).run P w=.ok false w:=by
  intro d h h1 h2;simp only[isAgg,Sem.run_bind,run_underlying h,Result.andThen_ok];cases d<;>first|rfl|exact absurd rfl (h1 _)|exact absurd rfl (h2 _ _)
 cases ti with
 |none=>exact absurd rfl hn
 |int k=>exact key h.1 h.2.1 h.2.2.1
 |bool=>exact key h.1 h.2.1 h.2.2.1
 |str=>exact key h.1 h.2.1 h.2.2.1
 |ptr=>obtain⟨e,h⟩:=h;exact key h.1 h.2.1 h.2.2.1
 |func=>obtain⟨_,_,_,h⟩:=h;exact key h.1 h.2.1 h.2.2.1
 |iface=>obtain⟨_,h⟩:=h;exact key h.1 h.2.1 h.2.2.1
 |slice e t b=>exact key h.1.1 h.1.2.1 h.1.2.2.1
 |map k e t=>exact key h.1.1 h.1.2.1 h.1.2.2.1
 |struct aJ n z eq=>
  obtain⟨fields,h,_⟩:=h;simp only[isAgg,Sem.run_bind,run_underlying h,Result.andThen_ok];rfl
 |arr e t n=>
  obtain⟨h,_⟩:=h;simp only[isAgg,Sem.run_bind,run_underlying h,Result.andThen_ok];rfl
def sG(agg:Bool)(cs:List Value):Value:=bif agg then .agg cs.toArray else cs.headD undef
theorem ub{ti:cd}(h:ti.ok P T)(hn:ti≠.none)(a:Addr)(cs:List Value)(hl:cs.length=ti.size)(hc:∀j u,cs[j]? =some u->w.cell? (a.add j)=some u):
  (loadVar T a).run P w=.ok (sG ti.agg cs) w:=by
 simp only[loadVar,Sem.run_bind,cd.Oy h hn,Result.andThen_ok];cases Jf:ti.agg with
 |true=>
  simp only[if_true,Sem.run_bind,cd.PG h hn,Result.andThen_ok,sG,cond_true];rw[<-hl,run_loadCells_list w a cs hc];rfl
 |false=>
  have h1:ti.size=1:=by cases ti<;>first|rfl|cases Jf
  rw[h1] at hl;match cs,hl with
  |[c],_=>
   have h0:=hc 0 c rfl;have ha:a.add 0=a:=by unfold Addr.add;simp
   rw[ha] at h0;simp[sG,h0]
end
section
variable {D:Nat->Value}{sites:List (Nat×Site)}{w:World}{av:Nat->Prop}
def cx(D:Nat->Value)(sites:List (Nat×Site))(w:World)(av:Nat->Prop)(ag:List aI)(vs:List Value):Prop:=
 vs.length=ag.length/\∀j (h:j<ag.length) (ai:j<vs.length),dO D sites w av (ag[j]) (vs[j])
theorem cx.nil:cx D sites w av [] []:=⟨rfl,fun j h=>by simp at h⟩
theorem cx.cons{l:aI}{ag:List aI}{v:Value}{vs:List Value}(h:dO D sites w av l v)(hs:cx D sites w av ag vs):cx D sites w av (l::ag) (v::vs):=
 ⟨by simp[hs.1],fun j h1 h2=>by
  cases j with
  |zero=>exact h
  |succ j=>exact hs.2 j (by simpa using h1) (by simpa using h2)⟩
theorem cx.inv{l:aI}{ag:List aI}{vs:List Value}(h:cx D sites w av (l::ag) vs):∃v cn,vs=v::cn/\dO D sites w av l v/\cx D sites w av ag cn:=by
 obtain⟨h1,h2⟩:=h;match vs,h1 with
 |v::cn,h1=>
  exact⟨v,cn,rfl,h2 0 (by simp) (by simp),by simpa using h1,fun j g1 g2=>h2 (j+1) (by simpa using g1) (by simpa using g2)⟩
theorem cx.nx{vs:List Value}(h:cx D sites w av [] vs):vs=[]:=List.eq_nil_of_length_eq_zero h.1
theorem cx.drop{ag:List aI}{vs:List Value}(n:Nat)(h:cx D sites w av ag vs):cx D sites w av (ag.drop n) (vs.drop n):=
 ⟨by simp[h.1],fun j h1 h2=>by simp only[List.getElem_drop];exact h.2 _ (by simp at h1;omega) (by simp at h2;omega)⟩
theorem cx.take{ag:List aI}{vs:List Value}(n:Nat)(h:cx D sites w av ag vs):cx D sites w av (ag.take n) (vs.take n):=
 ⟨by simp[h.1],fun j h1 h2=>by simp only[List.getElem_take];exact h.2 _ (by simp at h1;omega) (by simp at h2;omega)⟩
theorem cx.append{ag gg:List aI}{vs cn:List Value}(h:cx D sites w av ag vs)(ai:cx D sites w av gg cn):cx D sites w av (ag++gg) (vs++cn):=by
 induction ag generalizing vs with
 |nil=>rw[h.nx];exact ai
 |cons l ag ih=>
  obtain⟨v,v8,rfl,h1,h2⟩:=h.inv;exact .cons h1 (ih h2)
theorem cx.bG{ag gg:List aI}{vs cn:List Value}(off:Nat)(h:cx D sites w av ag vs)(ai:cx D sites w av gg cn):cx D sites w av (Jk.bG ag off gg) (Jk.bG vs off cn):=by
 unfold Jk.bG;rw[ai.1];exact((h.take off).append ai).append (h.drop _)
theorem dO.jv{l:aI}{u:Value}(h:dO D sites w av l u)(dH:l.storable=true):u.oneCell'=true:=by
 cases l with
 |d x=>exact bD.jv h
 |nil t=>rw[show u=_ from h];rfl
 |own o s=>exact h.1
 |ptr o s off=>obtain⟨b,rfl,_⟩:=h;rfl
 |en c B=>cases dH
 |eS _ _ _ _ _=>cases dH
 |clo g bA=>obtain⟨vs,rfl,_⟩:=h;rfl
 |cS x=>rw[show u=x from h];cases x<;>first|rfl|cases dH
 |fresh t xs=>cases dH
 |dn=>cases dH
 |any=>cases dH
theorem cx.jv{ag:List aI}{vs:List Value}(h:cx D sites w av ag vs)(dH:hd ag=true):∀u∈vs,u.oneCell'=true:=by
 induction ag generalizing vs with
 |nil=>rw[h.nx];intro u hu;simp at hu
 |cons l ag ih=>
  obtain⟨v,cn,rfl,h1,h2⟩:=h.inv;simp only[hd,Bool.and_eq_true] at dH;intro u hu;rcases List.mem_cons.1 hu with rfl|hu
  ·exact h1.jv dH.1
  ·exact ih h2 dH.2 u hu
theorem gU.cells{a:bP}{v:Value}(h:gU D sites w av a v)(dH:hd a.cells=true):cx D sites w av a.cells v.cells.toList:=by
 cases a with
 |ak l=>
  have h1:v.oneCell'=true:=dO.jv h (by simpa[bP.cells,hd] using dH)
  have:v.cells=#[v]:=by cases v<;>first|rfl|cases h1
  rw[this];exact .cons h .nil
 |agg ag=>
  obtain⟨vs,rfl,h1,h2⟩:=h;exact⟨h1,h2⟩
theorem Ss{agg:Bool}{off n:Nat}{ag:List aI}{vs:List Value}{v:aR}(hc:cut agg off n ag=some v)(h1:agg=false->n=1)(h:cx D sites w av ag vs):
  off+n<=vs.length/\cf D sites w av v (sG agg ((vs.drop off).take n)):=by
 unfold cut at hc;cases agg with
 |true=>
  simp only[cond_true] at hc;cases hb:Nat.ble (off+n) ag.length with
  |false=>simp[hb] at hc
  |true=>
   simp only[hb,cond_true,Option.some.injEq] at hc;subst hc;have hle:off+n<=ag.length:=Nat.le_of_ble_eq_true hb;have:=(h.drop off).take n;exact⟨by rw[h.1];exact hle,_,rfl,this.1,this.2⟩
 |false=>
  simp only[cond_false] at hc;have hn:=h1 rfl;subst hn;cases Z:ag.drop off with
  |nil=>simp[Z] at hc
  |cons l r=>
   simp only[Z,Option.some.injEq] at hc;subst hc;have Y':=h.drop off;rw[Z] at Y';obtain⟨u,us,hu,hl,_⟩:=Y'.inv;have hlen:off<ag.length:=by
    rcases Nat.lt_or_ge off ag.length with h|h
    ·exact h
    ·rw[List.drop_eq_nil_of_le h] at Z;cases Z
   refine⟨by rw[h.1];omega,?_⟩
   rw[hu];exact hl
theorem ht{ds:List a'}{vs:List Value}(hl:vs.length=ds.length)(h:∀j (h:j<ds.length) (ai:j<vs.length),bD w av (ds[j]) (vs[j])):cx D sites w av (cD ds) vs:=
 ⟨by simp[cD,hl],fun j h1 h2=>by simp only[cD,List.getElem_map];exact h j (by simpa[cD] using h1) h2⟩
end
theorem gL(b B j:Nat):(⟨b,B,none⟩:Addr).add j=⟨b,B+j,none⟩:=by
 unfold Addr.add;split<;>simp_all
def hV(w:World)(b B:Nat)(cs:List Value):Prop:=∀j u,cs[j]? =some u->w.cell? ⟨b,B+j,none⟩=some u
theorem hV.drop{w:World}{b B:Nat}{cs:List Value}(h:hV w b B cs)(m:Nat):hV w b (B+m) (cs.drop m):=by
 intro j u hu;rw[List.getElem?_drop] at hu;have:=h _ _ hu;rwa[Nat.add_assoc]
theorem hV.take{w:World}{b B:Nat}{cs:List Value}(h:hV w b B cs)(m:Nat):hV w b B (cs.take m):=by
 intro j u hu;rw[List.getElem?_take] at hu;split at hu
 ·exact h _ _ hu
 ·cases hu
theorem hV.row{w:World}{b:Nat}{cur:List Value}{T:TypeId}{cG:Nat×Nat}(h:w.heap[b]? =some (.cells cur.toArray T cG)):hV w b 0 cur:=by
 intro j u hu;rw[Nat.zero_add,cell_of_row w b j _ T cG h];simpa using hu
theorem ui(t:a7)(xs:List (den t))(k:Nat)(x:den t)(hx:xs[k]? =some x):((flat t xs).drop (k*aY t)).take (aY t)=enc t x:=by
 apply List.ext_getElem?;intro j;rw[List.getElem?_take,List.getElem?_drop];split
 ·rename_i hj;exact flat_get t xs k j x hx hj
 ·rename_i hj;rw[List.getElem?_eq_none (by rw[iV];omega)]
section
variable {P:Program}{C:hI}{O:World}{Y:List Nat}{X:Nat->Prop}{D:Nat->Value}{st:aj}{M:Array Value}{w:World}
theorem gG{o s:Nat}{cells:List aI}(h:fE st o s=some cells):look st.sites o=some (.box s cells):=by
 unfold fE aj.ab at h;split at h
 ·rename_i aD jy hl;cases hb:aD.beq s with
  |false=>simp[hb] at h
  |true=>
   simp only[hb,cond_true,Option.some.injEq] at h;have:=Nat.eq_of_beq_eq_true hb;subst this h;exact hl
 ·cases h
theorem jP{o s:Nat}{t:a7}{xs:List (den t)}(h:rowOf st o s=some ⟨t,xs⟩):look st.sites o=some (.row s t xs)\/look st.sites o=some (.dh s t xs):=by
 unfold rowOf aj.ab at h;split at h
 ·rename_i aD bk iK hl;cases hb:aD.beq s with
  |false=>simp[hb] at h
  |true=>
   simp only[hb,cond_true,Option.some.injEq] at h;have:=Nat.eq_of_beq_eq_true hb;subst this;cases h;exact .inl hl
 ·rename_i aD bk iK hl;cases hb:aD.beq s with
  |false=>simp[hb] at h
  |true=>
   simp only[hb,cond_true,Option.some.injEq] at h;have:=Nat.eq_of_beq_eq_true hb;subst this;cases h;exact .inr hl
 ·cases h
theorem Ref.at{sites:List (Nat×Site)}{o s:Nat}{p:Prop}{ab:Site}(h:Ref sites o s p)(hl:look sites o=some ab)(hs:ab.cw=s):p:=by
 obtain⟨bW,h1,_,h3⟩:=h;rw[hl] at h1;cases h1;exact h3 hs
theorem Ref.mk{sites:List (Nat×Site)}{o s:Nat}{p:Prop}{ab:Site}(hl:look sites o=some ab)(hs:ab.cw=s)(hp:p):Ref sites o s p:=
 ⟨ab,hl,by omega,fun _=>hp⟩
theorem ao.box(S:ao O Y X D st M w){o s off:Nat}{cells:List aI}(h:look st.sites o=some (.box s cells)){v:Value}(hv:dO D st.sites w (az X D st.sites) (.ptr o s off) v):
  ∃b T cur,D o=.pointer (some ⟨b,0,none⟩)/\v=.pointer (some ⟨b,off,none⟩)/\w.heap[b]? =some (.cells (List.toArray cur) T (0,0))/\(∀u∈cur,u.oneCell'=true)/\cx D st.sites w (az X D st.sites) cells cur:=by
 obtain⟨b,T,cur,h1,h2,h3,ay,_,bo⟩:=S.sites o _ h;obtain⟨bI,g2,g3⟩:=hv;have g1:=Ref.at g3 h rfl;rw[h1] at g1;cases g1;exact⟨b,T,cur,h1,g2,h2,ay,h3,bo⟩
theorem ao.row(S:ao O Y X D st M w){o s:Nat}{t:a7}{xs:List (den t)}(h:rowOf st o s=some ⟨t,xs⟩):
  ∃cs:List Value,cx D st.sites w (az X D st.sites) (cD (flat t xs)) cs/\
   ((D o=.slice none 0 0/\xs=[])\/∃b c,D o=.slice (some ⟨b,0,none⟩) xs.length c/\hV w b 0 cs/\xs.length<=c):=by
 rcases jP h with h|h
 ·obtain⟨e,cs,h1,h2⟩:=S.sites o _ h;have hl:cs.length=(flat t xs).length:=by rw[eW];exact h1.1
  refine⟨cs,ht hl h2,?_⟩;rcases h1.2 with⟨hn,h0⟩|⟨g,cap,cur,fz,hv,_,hg,hnc,_,_,htk⟩
  ·exact .inl ⟨hn,List.eq_nil_of_length_eq_zero h0⟩
  ·refine .inr ⟨_,_,hv,fun j u hu=>?_,hnc⟩
   rw[Nat.zero_add,cell_of_row w g j cur e fz hg];rw[<-htk,List.getElem?_take] at hu;split at hu
   ·simpa using hu
   ·cases hu
 ·obtain⟨h1,bU⟩:bD w (az X D st.sites) (.sl t xs) (D o)/\B' (D o):=S.sites o _ h;generalize hv:D o=v at h1 bU;cases h1 with
  |nil t=>exact⟨[],⟨rfl,fun j h=>by simp[cD,flat] at h⟩,.inl ⟨rfl,rfl⟩⟩
  |sl t xs a cap cs n hn hcap hb hl hc hr=>
   subst hn;rcases bU with bU|⟨b,n,c,bU⟩
   ·cases bU
   ·cases bU;exact⟨cs,ht hl hr,.inr ⟨b,cap,rfl,fun j u hu=>by have:=hc j u hu;rwa[gL] at this,hcap⟩⟩
def Ca(g:Nat)(t:a7)(xs:List (den t)):Prop:=g∈kF/\∀w (av:Nat->Prop),mW w->∃T fz,∃cs:List Value,w.heap[g]? =some (.cells cs.toArray T fz)/\cs.length=(flat t xs).length/\∀j (h:j<(flat t xs).length) (ai:j<cs.length),bD w av ((flat t xs)[j]) (cs[j])
structure CtxOk(P:Program)(C:Ctx):Prop where
 tt:∀T,(C.tt T).ok P T
 gt:∀g t xs,C.gt g=some ⟨t,xs⟩->Ca g t xs
theorem Fm{ti:cd}(h:ti.known=true):ti≠.none:=by rintro rfl;cases h
theorem FF{ti:cd}(h:ti.agg=false):ti.size=1:=by cases ti<;>first|rfl|cases h
theorem ag6{agg:Bool}{off n:Nat}{ag:List aI}(h:off+n<=ag.length)(h1:agg=false->n=1):cut agg off n ag≠none:=by
 unfold cut;cases agg with
 |true=>
  have:Nat.ble (off+n) ag.length=true:=Nat.ble_eq_true_of_le h;simp[this]
 |false=>
  have:=h1 rfl;simp only[cond_false];cases Z:ag.drop off with
  |nil=>have:=congrArg List.length Z;simp at this;omega
  |cons l r=>simp
theorem aiF(S:ao O Y X D st M w){C:Ctx}(H:CtxOk P C){B:Oper}{T:TypeId}{x:Operand}(aG:B.op=.load T x)(Z:ck st B.dst=true)(hk:(C.tt T).known=true):
  Holds (sK (C.tt T).agg (C.tt T).size st (a8 C st T x)) (cH P O Y X st M w B):=by
 have hn:=Fm hk;have bu:=dy S C T x;have fin:∀{b p:Nat} {ag:List aI} {vs:List Value} {off:Nat} {v:aR},Act.eval ⟨M,[]⟩ x=.pointer (some ⟨b,p+off,none⟩)->hV w b p vs->cx D st.sites w (az X D st.sites) ag vs->
   cut (C.tt T).agg off (C.tt T).size ag=some v->cH P O Y X st M w B v []:=by
  intro b p ag vs off v hx hc hl fG;obtain⟨hle,arN⟩:=Ss fG FF hl;refine dE S Z (vv:=sG (C.tt T).agg ((vs.drop off).take (C.tt T).size)) ?_ arN;have dm:=ub (P:=P) (w:=w) (H.tt T) hn ⟨b,p+off,none⟩ ((vs.drop off).take (C.tt T).size) (by simp;omega) (fun j u hu=>by rw[gL];exact(hc.drop off).take _ j u hu)
  unfold execOp;simp only[aG,Instr.loadAt,Instr.sureAddr,hx,Sem.run_bind,Sem.run_pure,Result.andThen_ok,dm]
 unfold sK;split
 ·rename_i o s off b5;rw[b5] at bu;split
  ·rename_i cells hb;split
   ·rename_i v fG;obtain⟨b,gq,cur,_,hv,hg,_,hl⟩:=S.box (gG hb) bu;exact Holds.ok (fin (p:=0) (by rw[Nat.zero_add];exact hv) (hV.row hg) hl fG)
   ·exact .fail
  ·exact .fail
 ·rename_i cells off b5;rw[b5] at bu;split
  ·rename_i v fG;obtain⟨b,p,hv,_,_,cs,hl,hc,hr⟩:=bu;exact Holds.ok (fin hv hc (ht hl hr) fG)
  ·exact .fail
 ·rename_i o s u k off b5;rw[b5] at bu;split
  ·rename_i t xs hrow;split
   ·rename_i nX;obtain⟨rfl,hle⟩:=nX;refine Holds.eo fun y hy=>?_
    have dW:xs[k]? =some y:=hy;obtain⟨cs,hl,hcell⟩:=S.row hrow;have dH:∃ab,look st.sites o=some ab/\ab.cw=s:=by
     rcases jP hrow with h|h<;>exact⟨_,h,rfl⟩
    obtain⟨ab,iP,lr⟩:=dH;obtain⟨b,hv,vM⟩:=bu;obtain⟨n,c,cR⟩:=Ref.at vM iP lr;cases fG:cut (C.tt T).agg off (C.tt T).size (cD (enc t y)) with
    |none=>exact absurd fG (ag6 (by simpa[cD,iV] using hle) FF)
    |some v=>
     rcases hcell with⟨qu,_⟩|⟨bI,fj,j2,hcs,_⟩
     ·rw[cR] at qu;cases qu
     ·rw[cR] at j2;cases j2;have e1:cD (enc t y)=((cD (flat t xs)).drop (k*aY t)).take (aY t):=by
       rw[<-ui t xs k y dW];simp[cD,List.map_drop,List.map_take]
      rw[e1] at fG;refine fin (p:=k*aY t) hv ?_ ((hl.drop (k*aY t)).take (aY t)) fG;have:=(hcs.drop (k*aY t)).take (aY t);rwa[Nat.zero_add] at this
   ·exact .fail
  ·exact .fail
 ·exact .fail
end
section
variable {P:Program}{O:World}{Y:List Nat}{X:Nat->Prop}{D:Nat->Value}{st:aj}{M:Array Value}{w:World}
theorem ao.fA(S:ao O Y X D st M w){o b:Nat}(hl:cj st.sites o)(hb:bH (D o)=some b):b<w.heap.size:=by
 obtain⟨ab,h1,h2⟩:=hl;have:=S.sites o ab h1;cases ab with
 |box s cells=>
  obtain⟨bI,T,cur,g1,g2,_⟩:=this;rw[g1] at hb;cases hb;exact(Array.getElem?_eq_some_iff.1 g2).1
 |row s t xs=>
  obtain⟨e,cs,g1,_⟩:=this;rcases g1.2 with⟨hn,_⟩|⟨g,cap,cur,fz,hv,_,hg,_⟩
  ·rw[hn] at hb;cases hb
  ·rw[hv] at hb;cases hb;exact(Array.getElem?_eq_some_iff.1 hg).1
 |map s t es=>
  obtain⟨bI,g1,g2⟩:=this;rw[g1] at hb;cases hb;exact g2.lt
 |dh=>cases h2
 |dead=>cases h2
theorem AL{D aQ:Nat->Value}{sites bV:List (Nat×Site)}{w w':World}{av cg:Nat->Prop}(go:∀{a:aR} {v:Value},cf D sites w av a v->cf aQ bV w' cg a v){ag:List aI}{vs:List Value}
  (h:cx D sites w av ag vs):cx aQ bV w' cg ag vs:=by
 obtain⟨cn,h1,h2,h3⟩:=go (a:=.av (.agg ag)) (v:=.agg vs.toArray) ⟨vs,rfl,h.1,h.2⟩;have:vs=cn:=by simpa using h1
 subst this;exact⟨h2,h3⟩
theorem oJ{D aQ:Nat->Value}{sites bV:List (Nat×Site)}{w w':World}{av cg:Nat->Prop}(go:∀{a:aR} {v:Value},cf D sites w av a v->cf aQ bV w' cg a v){d:a'}{v:Value}
  (h:bD w av d v):bD w' cg d v:=go (a:=one d) (v:=v) h
theorem NL{sites:List (Nat×Site)}{o:Nat}{ab bW:Site}(hl:look sites o=some ab)(h:bW.live=ab.live)(aa:Nat):cj (cp sites o bW) aa <-> cj sites aa:=by
 unfold cj;rw[c4];by_cases e:o=aa
 ·subst e;simp only[if_true,hl,Option.some.injEq];constructor
  ·rintro⟨s,rfl,h2⟩;exact⟨ab,rfl,h▸h2⟩
  ·rintro⟨s,rfl,h2⟩;exact⟨bW,rfl,h▸h2⟩
 ·simp only[e,if_false]
theorem ao.write(S:ao O Y X D st M w){o b:Nat}{ab bW:Site}{cur cur':Array Value}{T:TypeId}{cG:Nat×Nat}(hl:look st.sites o=some ab)(lS:ab.live=true)(akp:bW.live=true)(hs:bW.cw=ab.cw)
  (cR:bH (D o)=some b) (hg:w.heap[b]? =some (.cells cur T cG))
  (fy:∀{bV:List (Nat×Site)} {w':World},bV=cp st.sites o bW->w'=w.setRow b cur'->w'.heap[b]? =some (.cells cur' T cG)->
   (∀{a v},cf D st.sites w (az X D st.sites) a v->cf D bV w' (az X D bV) a v)->jX D bV w' (az X D bV) o bW):
  ao O Y X D {st with sites:=cp st.sites o bW} M (w.setRow b cur'):=by
 have cM:cj st.sites o:=⟨ab,hl,lS⟩;have lZ:∀aa,cj (cp st.sites o bW) aa <-> cj st.sites aa:=NL hl (akp.trans lS.symm);have b':∀bI,az X D (cp st.sites o bW) bI <-> az X D st.sites bI:=by
  intro bI;unfold az;simp only[lZ]
 have hne:∀bI,¬az X D st.sites bI->bI≠b:=by
  rintro bI h rfl;exact h (.inr ⟨o,cM,cR⟩)
 refine S.qj (fun aa s bS=>?_) (fun bI h _=>setRow_other w b bI _ (hne bI h)) (fun bI h _=>by rw[b'];exact h) (fun go aa s bS=>?_) (fun aa ρ bI h1 h2=>S.dV aa ρ bI ((lZ aa).1 h1) ((lZ ρ).1 h2))
  (fun aa bI h=>S.cl aa bI ((lZ aa).1 h)) (fun aa bI h hb=>by rw[setRow_size];exact S.fA ((lZ aa).1 h) hb) ?_ (by rw[setRow_size];exact Nat.le_refl _)
 ·rw[c4];by_cases e:o=aa
  ·subst e;rw[hl] at bS;cases bS;exact⟨bW,by simp,by omega,fun _=>rfl⟩
  ·exact⟨s,by simp[e,bS],Nat.le_refl _,fun _=>rfl⟩
 ·rw[c4] at bS;by_cases e:o=aa
  ·subst e;simp only[if_true,Option.some.injEq] at bS;subst bS;exact .inr (fy rfl rfl (setRow_heap w b cur cur' T cG hg) go)
  ·simp only[e,if_false] at bS;refine .inl ⟨bS,rfl,fun s6 bI dP=>setRow_other w b bI _ ?_⟩
   rintro rfl;exact e (S.dV o aa _ cM ⟨s,bS,s6⟩ cR dP)
 ·have aZ:=S.frame;refine⟨aZ.os,aZ.tape,aZ.output,by rw[setRow_size];exact aZ.size,fun bI h1 h2=>?_⟩
  rw[setRow_other w b bI _ ?_]
  ·exact aZ.block bI h1 h2
  ·rintro rfl;rcases(S.cl o _ cM cR).2 with h|h
   ·exact h2 h
   ·omega
theorem ao.freeze(S:ao O Y X D st M w){o s:Nat}{t:a7}{xs:List (den t)}(hl:look st.sites o=some (.row s t xs)):
  ao O Y X D {st with sites:=cp st.sites o (.dh s t xs)} M w:=by
 have cM:cj st.sites o:=⟨_,hl,rfl⟩;have d':∀aa,cj (cp st.sites o (.dh s t xs)) aa->cj st.sites aa/\aa≠o:=by
  rintro aa ⟨ab,h1,h2⟩;rw[c4] at h1;by_cases e:o=aa
  ·subst e;simp at h1;subst h1;cases h2
  ·simp only[e,if_false] at h1;exact⟨⟨ab,h1,h2⟩,fun h=>e h.symm⟩
 have b':∀bI,az X D (cp st.sites o (.dh s t xs)) bI->az X D st.sites bI:=by
  rintro bI (h|⟨aa,h1,h2⟩)
  ·exact .inl h
  ·exact .inr ⟨aa,(d' aa h1).1,h2⟩
 refine S.qj (fun aa ab bS=>?_) (fun _ _ _=>rfl) (fun bI h _ ai=>h (b' bI ai)) (fun go aa ab bS=>?_) (fun aa ρ bI h1 h2=>S.dV aa ρ bI (d' aa h1).1 (d' ρ h2).1)
  (fun aa bI h=>S.cl aa bI (d' aa h).1) (fun aa bI h hb=>S.fA (d' aa h).1 hb) S.frame (Nat.le_refl _)
 ·rw[c4];by_cases e:o=aa
  ·subst e;rw[hl] at bS;cases bS;exact⟨.dh s t xs,by simp,Nat.le_refl _,fun _=>rfl⟩
  ·exact⟨ab,by simp[e,bS],Nat.le_refl _,fun _=>rfl⟩
 ·rw[c4] at bS;by_cases e:o=aa
  ·subst e;simp only[if_true,Option.some.injEq] at bS;subst bS;refine .inr ?_
   show bD _ _ (.sl t xs) (D o)/\B' (D o);obtain⟨cE,cs,h1,h2⟩:=S.sites o _ hl;rcases h1.2 with⟨hn,h0⟩|⟨g,cap,cur,fz,hv,_,hg,hnc,_,_,htk⟩
   ·have:xs=[]:=List.eq_nil_of_length_eq_zero h0;subst this;rw[hn];exact⟨.nil t,.inl rfl⟩
   ·rw[hv];refine⟨?_,.inr ⟨_,_,_,rfl⟩⟩;have hlen:cs.length=(flat t xs).length:=by rw[eW];exact h1.1
    refine .sl t xs _ cap cs xs.length rfl hnc (fun _=>?_) hlen (fun j u hu=>?_) (fun j g1 g2=>oJ go (h2 j g1 g2))
    ·rintro(hx|⟨aa,g1,g2⟩)
     ·exact(S.cl o g cM (by rw[hv];rfl)).1 hx
     ·obtain⟨g3,g4⟩:=d' aa g1;exact g4 (S.dV aa o g g3 cM g2 (by rw[hv];rfl))
    ·rw[gL,Nat.zero_add,cell_of_row w g j cur cE fz hg];rw[<-htk,List.getElem?_take] at hu;split at hu
     ·simpa using hu
     ·cases hu
  ·simp only[e,if_false] at bS;exact .inl ⟨bS,rfl,fun _ _ _=>rfl⟩
theorem Pf{ax:Type}(l:List (Nat×ax))(n:Nat)(v:ax)(h:look l n=some v):cp l n v=l:=by
 induction l with
 |nil=>simp[look] at h
 |cons p l ih=>
  obtain⟨k,u⟩:=p;simp only[look] at h;simp only[cp];cases hb:k.beq n with
  |true=>simp only[hb,cond_true,Option.some.injEq] at h;subst h;simp
  |false=>simp only[hb,cond_false] at h;simp[ih h]
def dF(sites:List (Nat×Site))(us:List (Nat×Site)):Prop:=
 ∀o ab,(o,ab)∈us->∃s t,∃xs:List (den t),ab=.dh s t xs/\(look sites o=some (.row s t xs)\/look sites o=some (.dh s t xs))
theorem dF.nil{sites:List (Nat×Site)}:dF sites []:=fun _ _ h=>by simp at h
theorem dF.append{sites us vs:List (Nat×Site)}(h:dF sites us)(ai:dF sites vs):dF sites (us++vs):=by
 intro o ab hm;rcases List.mem_append.1 hm with hm|hm
 ·exact h o ab hm
 ·exact ai o ab hm
theorem dF.step{sites us:List (Nat×Site)}{o:Nat}{ab:Site}(h:dF sites ((o,ab)::us)):dF (cp sites o ab) us:=by
 obtain⟨s,t,xs,rfl,hl⟩:=h o ab (by simp)
 intro aa bW hm;obtain⟨aD,bk,iK,rfl,gh⟩:=h aa bW (by simp[hm])
 refine⟨aD,bk,iK,rfl,?_⟩;rw[c4];by_cases e:o=aa
 ·subst e;simp only[if_true];right;rcases hl with hl|hl<;>rcases gh with gh|gh<;>rw[hl] at gh<;>cases gh<;>rfl
 ·simp only[e,if_false];exact gh
theorem ao.z_{us:List (Nat×Site)}:∀{st:aj},ao O Y X D st M w->dF st.sites us->ao O Y X D {st with sites:=bl st.sites us} M w:=by
 induction us with
 |nil=>intro st S _;exact S
 |cons p us ih=>
  obtain⟨o,ab⟩:=p;intro st S h;have ai:=h.step;obtain⟨s,t,xs,rfl,hl⟩:=h o ab (by simp)
  simp only[bl];rcases hl with hl|hl
  ·exact ih (S.freeze hl) ai
  ·rw[Pf _ _ _ hl] at ai ⊢;exact ih S ai
theorem lD{us:List (Nat×Site)}:∀{sites:List (Nat×Site)},dF sites us->∀o,(look (bl sites us) o=look sites o)\/(∃s t,∃xs:List (den t),(look sites o=some (.row s t xs)\/look sites o=some (.dh s t xs))/\look (bl sites us) o=some (.dh s t xs)):=by
 induction us with
 |nil=>intro sites _ o;exact .inl rfl
 |cons p us ih=>
  obtain⟨aa,ab⟩:=p;intro sites h o;obtain⟨s,t,xs,rfl,hl⟩:=h aa ab (by simp)
  simp only[bl];have hc:=c4 sites aa o (.dh s t xs);rcases ih h.step o with h1|⟨aD,bk,iK,h1,h2⟩
  ·by_cases e:aa=o
   ·subst e;simp only[if_true] at hc;exact .inr ⟨s,t,xs,hl,h1.trans hc⟩
   ·simp only[e,if_false] at hc;exact .inl (h1.trans hc)
  ·by_cases e:aa=o
   ·subst e;simp only[if_true] at hc;rw[hc] at h1;rcases h1 with h1|h1
    ·cases h1
    ·cases h1;exact .inr ⟨s,t,xs,hl,h2⟩
   ·simp only[e,if_false] at hc;rw[hc] at h1;exact .inr ⟨aD,bk,iK,h1,h2⟩
theorem Dk{us:List (Nat×Site)}:∀{sites:List (Nat×Site)},dF sites us->∀{o s:Nat} {t:a7} {xs:List (den t)},(o,Site.dh s t xs)∈us->look (bl sites us) o=some (.dh s t xs):=by
 intro sites h o s t xs hm;obtain⟨fq,t0,Ci,he,hl⟩:=h o _ hm;cases he;rcases lD h o with h1|⟨aD,bk,iK,h1,h2⟩
 ·-- named,and awO avK
  induction us generalizing sites with
  |nil=>simp at hm
  |cons p us ih=>
   obtain⟨aa,ab⟩:=p;simp only[bl] at h1 ⊢;rcases List.mem_cons.1 hm with hm|hm
   ·cases hm;rcases lD h.step o with h2|⟨aD,bk,iK,h2,h3⟩
    ·rw[h2,c4];simp
    ·rw[c4] at h2;simp at h2;obtain⟨rfl,rfl,h2⟩:=h2;rw[h3];cases h2;rfl
   ·have hc:=c4 sites aa o ab;by_cases e:aa=o
    ·subst e;obtain⟨s1,t1,aqB,rfl,ia⟩:=h aa ab (by simp)
     have:Site.dh s1 t1 aqB=Site.dh s t xs:=by
      rcases hl with hl|hl<;>rcases ia with ia|ia<;>rw[hl] at ia<;>cases ia<;>rfl
     cases this;simp only[if_true] at hc;rcases lD h.step aa with h2|⟨aD,bk,iK,h2,h3⟩
     ·rw[h2,hc]
     ·rw[hc] at h2;rcases h2 with h2|h2
      ·cases h2
      ·cases h2;exact h3
    ·simp only[e,if_false] at hc;refine ih h.step hm (by rw[hc];exact hl) ?_
     rw[h1,hc]
 ·rcases hl with hl|hl<;>rcases h1 with h1|h1<;>rw[hl] at h1<;>cases h1<;>exact h2
end
section
variable {P:Program}{O:World}{Y:List Nat}{X:Nat->Prop}{D:Nat->Value}{st:aj}{M:Array Value}{w:World}
structure kS(O:World)(Y:List Nat)(X:Nat->Prop)(D:Nat->Value)(st:aj)(M:Array Value)(w:World)(vs:List (Nat×Site)):Prop where
 old:ao O Y X D st M w
 fz:dF st.sites vs
theorem kS.new{vs:List (Nat×Site)}(aZ:kS O Y X D st M w vs):ao O Y X D {st with sites:=bl st.sites vs} M w:=aZ.old.z_ aZ.fz
theorem kS.go{vs:List (Nat×Site)}(aZ:kS O Y X D st M w vs){a:aR}{v:Value}(h:cf D st.sites w (az X D st.sites) a v):cf D (bl st.sites vs) w (az X D (bl st.sites vs)) a v:=by
 have d':∀aa,cj (bl st.sites vs) aa->cj st.sites aa:=by
  rintro aa ⟨ab,h1,h2⟩;rcases lD aZ.fz aa with h|⟨s,t,xs,_,h⟩
  ·exact⟨ab,h▸h1,h2⟩
  ·rw[h] at h1;cases h1;cases h2
 refine h.goes ⟨fun o ab bq=>?_,fun _ _ _=>rfl,fun b hb _ dP=>hb ?_⟩ (Nat.le_refl _) ?_
 ·rcases lD aZ.fz o with h|⟨s,t,xs,h1,h2⟩
  ·exact⟨ab,h.trans bq,Nat.le_refl _,fun _=>rfl⟩
  ·refine⟨_,h2,?_,fun _=>rfl⟩
   rw[bq] at h1;rcases h1 with h1|h1<;>cases h1<;>exact Nat.le_refl _
 ·rcases dP with h|⟨aa,h1,h2⟩
  ·exact .inl h
  ·exact .inr ⟨aa,d' aa h1,h2⟩
 ·rintro b (h|⟨aa,h1,h2⟩)
  ·exact aZ.old.old b h
  ·exact aZ.old.fA (d' aa h1) h2
theorem aiT{o s:Nat}{t:a7}{xs:List (den t)}(hr:rowOf st o s=some ⟨t,xs⟩):dF st.sites (l2 st o s t xs):=by
 unfold l2;split
 ·exact .nil
 ·intro aa ab hm;simp only[List.mem_singleton,Prod.mk.injEq] at hm;obtain⟨rfl,rfl⟩:=hm;exact⟨s,t,xs,rfl,jP hr⟩
theorem PV{o s:Nat}{t:a7}{xs:List (den t)}(hr:rowOf st o s=some ⟨t,xs⟩):bl st.sites (l2 st o s t xs)=bl st.sites [(o,.dh s t xs)]:=by
 unfold l2;split
 ·rename_i fq t0 Ci h0;have h0:look st.sites o=some (.dh fq t0 Ci):=h0;simp only[bl];rcases jP hr with h|h
  ·rw[h0] at h;cases h
  ·exact(Pf _ _ _ h).symm
 ·rfl
theorem ae5{sites us:List (Nat×Site)}(h:dF sites us){o s:Nat}{t:a7}{xs:List (den t)}(hl:look sites o=some (.dh s t xs)):look (bl sites us) o=some (.dh s t xs):=by
 rcases lD h o with h1|⟨aD,bk,iK,h1,h2⟩
 ·rw[h1];exact hl
 ·rw[hl] at h1;rcases h1 with h1|h1
  ·cases h1
  ·cases h1;exact h2
theorem Sr{l:aI}{d:a'}{us:List (Nat×Site)}(h:jK st l=some (d,us)):dF st.sites us:=by
 unfold jK at h;split at h
 ·cases h;exact .nil
 ·cases h;exact .nil
 ·rename_i o s;split at h
  ·rename_i t xs hr;cases h;exact aiT hr
  ·cases h
 ·cases h;exact .nil
 ·cases h
theorem Sq{l:aI}{d:a'}{us vs:List (Nat×Site)}{v:Value}(h:jK st l=some (d,us))(hv:dO D st.sites w (az X D st.sites) l v)
  (aZ:kS O Y X D st M w vs) (d':∀p,p∈us->p∈vs):bD w (az X D (bl st.sites vs)) d v:=by
 unfold jK at h;split at h
 ·cases h;exact oJ aZ.go hv
 ·cases h;rw[show v=_ from hv];exact .nil _
 ·rename_i o s;split at h
  ·rename_i t xs hr;cases h;have hl:look (bl st.sites vs) o=some (.dh s t xs):=by
    unfold l2 at d';split at d'
    ·rename_i fq t0 Ci h0;have h0:look st.sites o=some (.dh fq t0 Ci):=h0;rcases jP hr with h|h
     ·rw[h0] at h;cases h
     ·exact ae5 aZ.fz h
    ·exact Dk aZ.fz (d' _ (List.mem_singleton.2 rfl))
   have:=aZ.new.sites o _ hl;have mS:v=D o:=by
    rcases jP hr with h1|h1<;>exact Ref.at hv.2 h1 rfl
   rw[mS];exact this.1
  ·cases h
 ·rename_i g;cases h;obtain⟨ag,rfl,hl,_⟩:=hv;have:ag=[]:=List.eq_nil_of_length_eq_zero (by simpa using hl)
  subst this;exact .fn g [] [] (fun _=>[]) _ rfl rfl (fun b hb=>by simp at hb) (fun b hb=>by simp at hb) (fun i hi=>by simp at hi) (fun i hi=>by simp at hi) (fun i hi=>by simp at hi)
 ·cases h
theorem Hg:∀{ag:List aI} {ds:List a'} {us:List (Nat×Site)},fQ st ag=some (ds,us)->dF st.sites us:=by
 intro ag;induction ag with
 |nil=>intro ds us h;simp only[fQ] at h;cases h;exact .nil
 |cons l ag ih=>
  intro ds us h;simp only[fQ] at h;split at h
  ·rename_i d u1 kG u2 h1 h2;cases h;exact(Sr h1).append (ih h2)
  ·cases h
def cY(w:World)(av:Nat->Prop)(ds:List a')(vs:List Value):Prop:=vs.length=ds.length/\∀j (h:j<ds.length) (ai:j<vs.length),bD w av (ds[j]) (vs[j])
theorem Ad:∀{ag:List aI} {ds:List a'} {us vs:List (Nat×Site)} {cs:List Value},fQ st ag=some (ds,us)->cx D st.sites w (az X D st.sites) ag cs->
  kS O Y X D st M w vs->(∀p,p∈us->p∈vs)->cY w (az X D (bl st.sites vs)) ds cs:=by
 intro ag;induction ag with
 |nil=>intro ds us vs cs h hl _ _;simp only[fQ] at h;cases h;rw[hl.nx];exact⟨rfl,fun j h=>by simp at h⟩
 |cons l ag ih=>
  intro ds us vs cs h hl aZ d';simp only[fQ] at h;split at h
  ·rename_i d u1 kG u2 h1 h2;cases h;obtain⟨c,n9,rfl,hc,hcs⟩:=hl.inv;have r1:=Sq h1 hc aZ (fun p hp=>d' p (List.mem_append.2 (.inl hp)))
   obtain⟨r2,hO⟩:=ih h2 hcs aZ (fun p hp=>d' p (List.mem_append.2 (.inr hp)))
   refine⟨by simp[r2],fun j g1 g2=>?_⟩
   cases j with
   |zero=>exact r1
   |succ j=>exact hO j (by simpa using g1) (by simpa using g2)
  ·cases h
theorem mK.run{P:Program}{u:Bool}(g B:Nat)(t:TypeId)(fz:Nat×Nat):∀(vs:List Value) (i:Nat) (cur:Array Value) (w:World),w.heap[g]? =some (.cells cur t fz)->mK u t cur fz->B+i+vs.length<=cur.size->(∀v∈vs,v.oneCell'=true)->
  (storeCells ⟨g,B,none⟩ vs i).run P w=.ok () (w.setRow g (cur.toList.take (B+i)++vs++cur.toList.drop (B+i+vs.length)).toArray)
 |[],i,cur,w,hg,_,_,_=>by
  simp only[storeCells,List.append_nil,List.length_nil,Nat.add_zero,List.take_append_drop,Array.toArray_toList];rw[setRow_self w g cur t fz hg];rfl
 |v::rest,i,cur,w,hg,hz,hl,h1=>by
  have hi:B+i<cur.size:=by simp at hl;omega
  have an5:(⟨g,B,none⟩:Addr).add i=⟨g,B+i,none⟩:=by unfold Addr.add;split<;>simp_all
  have hcell:w.cell? ⟨g,B+i,none⟩=some cur[B+i]:=by simp[World.cell?,hg,hi]
  have anY:w.frozen? ⟨g,B+i,none⟩=false:=by
   rcases hz.2 with rfl|⟨_,hz⟩
   ·simp[World.frozen?,hg]
   ·simp only[World.frozen?,hg];have:¬fz.1<=B+i:=by omega
    simp[this]
  have dH:(store ((⟨g,B,none⟩:Addr).add i) v).run P w=.ok () (w.setRow g (cur.setIfInBounds (B+i) v)):=by
   rw[an5,run_store P w _ v _ (h1 v (by simp)),hcell]
   simp[anY,setCell_eq_setRow w g (B+i) cur t fz v hg]
  have ih:=mK.run (P:=P) (u:=u) g B t fz rest (i+1) (cur.setIfInBounds (B+i) v) (w.setRow g (cur.setIfInBounds (B+i) v)) (setRow_heap w g cur _ t _ hg)
   ⟨hz.1,hz.2.imp id fun h=>⟨h.1,by simpa using h.2⟩⟩ (by simp at hl ⊢;omega) (fun x hx=>h1 x (by simp[hx]))
  simp only[storeCells,Sem.run_bind,dH,Result.andThen_ok,ih,setRow_setRow];congr 3
  have e:=list_seg_step cur.toList (B+i) v rest (by simp at hl ⊢;omega)
  simpa[Array.toList_setIfInBounds,Nat.add_assoc] using e
theorem Mz{u:Bool}{fz:Nat×Nat}{T:TypeId}{ti:cd}(h:ti.ok P T)(hn:ti≠.none){b off:Nat}{vv:Value}{cur:List Value}{gq:TypeId}(hg:w.heap[b]? =some (.cells cur.toArray gq fz))(hz:mK u gq cur.toArray fz)
  (hsz:vv.cells.toList.length=ti.size) (hle:off+vv.cells.toList.length<=cur.length) (h1:∀u∈vv.cells.toList,u.oneCell'=true):
  (storeVar T ⟨b,off,none⟩ vv).run P w=.ok () (w.setRow b (bG cur off vv.cells.toList).toArray):=by
 have hs:vv.cells.size=ti.size:=by simpa using hsz
 have:=mK.run (P:=P) b off gq fz vv.cells.toList 0 cur.toArray w hg hz (by simpa using hle) h1
 simp only[storeVar,Sem.run_bind,cd.PG h hn,Result.andThen_ok,hs,ne_eq,not_true_eq_false,if_false];rw[this];simp[bG]
variable {B:Oper}
theorem xp{aQ:Nat->Value}{w':World}{us:List (Nat×Site)}(S:ao O Y X aQ {st with sites:=bl st.sites us} M w')(Z:ck st B.dst=true)
  (h:(execOp (Act.eval ⟨M,[]⟩) B).run P w=.ok .skip w'):cH P O Y X st M w B (b0 (.cS undef)) us:=
 fun _ _ bR=>ajr h (bR _ _ _ (ao.cU S Z rfl))
theorem kV{aQ:Nat->Value}{w':World}{us:List (Nat×Site)}{v:aR}{vv:Value}(S:ao O Y X aQ {st with sites:=bl st.sites us} M w')(Z:ck st B.dst=true)
  (h:(execOp (Act.eval ⟨M,[]⟩) B).run P w=.ok (.value vv) w') (hv:cf aQ (bl st.sites us) w' (az X aQ (bl st.sites us)) v vv):cH P O Y X st M w B v us:=
 fun _ _ bR=>oz h (bR _ _ _ (ao.cU S Z hv))
theorem rq{ax:Type}(a:List ax)(off:Nat)(b:List ax)(h:off+b.length<=a.length):(bG a off b).length=a.length:=by
 unfold bG;simp only[List.length_append,List.length_take,List.length_drop];omega
theorem abE{ax:Type}(a:List ax)(off n:Nat)(b:List ax)(h:off+b.length<=n)(hn:n<=a.length):(bG a off b).take n=bG (a.take n) off b:=by
 unfold bG;apply List.ext_getElem?;intro j;simp only[List.getElem?_take,List.getElem?_append,List.length_append,List.length_take,List.getElem?_drop];have m1:min off a.length=off:=by omega
 have m2:min off (min n a.length)=off:=by omega
 simp only[m1,m2];by_cases c1:j<off
 ·have c2:j<n:=by omega
  have c3:j<off+b.length:=by omega
  simp[c1,c2,c3]
 ·by_cases c3:j<off+b.length
  ·have c2:j<n:=by omega
   simp[c1,c2,c3]
  ·have e:off+b.length+(j-(off+b.length))=j:=by omega
   simp[c1,c3,e]
theorem acA{cells ag:List aI}{T:TypeId}{cur vs:List Value}{b off:Nat}(h:mE cells T cur b)(hl:vs.length=ag.length)(hns:hd ag=true):mE (bG cells off ag) T (bG cur off vs) b:=by
 intro bU;unfold bG at bU ⊢;cases off with
 |zero=>
  cases ag with
  |nil=>
   cases vs with
   |nil=>simpa using h (by simpa using bU)
   |cons=>cases hl
  |cons l ag=>
   simp only[List.take_zero,List.nil_append,List.cons_append,List.head?_cons,Option.some.injEq] at bU;subst bU;cases hns
 |succ n=>
  cases cells with
  |nil=>
   cases ag with
   |nil=>simp at bU
   |cons l ag=>
    simp only[List.take_nil,List.nil_append,List.cons_append,List.head?_cons,Option.some.injEq] at bU;subst bU;cases hns
  |cons c cells=>
   simp only[List.take_succ_cons,List.cons_append,List.head?_cons,Option.some.injEq] at bU;subst bU;have:=h rfl;cases cur with
   |nil=>simp at this
   |cons v cur=>simpa using this
theorem ao.afS(S:ao O Y X D st M w){o s off:Nat}{cells ag:List aI}{v:Value}{vs:List Value}(hb:look st.sites o=some (.box s cells))(hv:dO D st.sites w (az X D st.sites) (.ptr o s off) v)
  (hl:cx D st.sites w (az X D st.sites) ag vs) (hle:off+ag.length<=cells.length) (h1:∀u∈vs,u.oneCell'=true) (hns:hd ag=true):
  ∃b T cur,v=.pointer (some ⟨b,off,none⟩)/\w.heap[b]? =some (.cells (List.toArray cur) T (0,0))/\off+vs.length<=cur.length/\
   ao O Y X D {st with sites:=cp st.sites o (.box s (bG cells off ag))} M (w.setRow b (bG cur off vs).toArray):=by
 obtain⟨b,T,cur,cR,wu,hg,kt,jH⟩:=S.box hb hv;have oV:off+vs.length<=cur.length:=by rw[hl.1,jH.1];exact hle
 refine⟨b,T,cur,wu,hg,oV,?_⟩;have iP:mE cells T cur b:=by
  obtain⟨b2,et,VS,aB,aA,_,_,bC,_⟩:=S.sites o _ hb;rw[cR] at aB;cases aB;rw[hg] at aA;cases aA;exact bC
 refine S.write hb rfl rfl rfl (by rw[cR];rfl) hg (fun hs hw hg' go=>?_)
 have VD:=AL go (jH.bG off hl);refine⟨b,T,_,cR,hg',VD.1,fun u hu=>?_,acA iP hl.1 hns,VD.2⟩
 unfold bG at hu;simp only[List.mem_append] at hu;rcases hu with(hu|hu)|hu
 ·exact kt u (List.mem_of_mem_take hu)
 ·exact h1 u hu
 ·exact kt u (List.mem_of_mem_drop hu)
theorem iZ{D:Nat->Value}{sites:List (Nat×Site)}{w:World}{av:Nat->Prop}{ds:List a'}{vs:List Value}(h:cx D sites w av (cD ds) vs):cY w av ds vs:=
 ⟨by simpa[cD] using h.1,fun j g1 g2=>by
  have:=h.2 j (by simpa[cD] using g1) g2
  simp only[cD,List.getElem_map] at this;exact this⟩
theorem aa0{w:World}{av:Nat->Prop}{t:a7}{xs:List (den t)}{k:Nat}{ib:den t}{cs ns:List Value}(hk:k<xs.length)(h:cY w av (flat t xs) cs)(ai:cY w av (enc t ib) ns):
  cY w av (flat t (xs.set k ib)) (bG cs (k*aY t) ns):=by
 have e:flat t (xs.set k ib)=bG (flat t xs) (k*aY t) (enc t ib):=by
  rw[agY,if_pos hk];unfold bG;rw[iV,Nat.add_mul,Nat.one_mul]
 rw[e];have a:=ht (D:=fun _=>undef) (sites:=[]) h.1 h.2
 have b:=ht (D:=fun _=>undef) (sites:=[]) ai.1 ai.2
 have c:=a.bG (k*aY t) b;have e2:bG (cD (flat t xs)) (k*aY t) (cD (enc t ib))=cD (bG (flat t xs) (k*aY t) (enc t ib)):=by
  simp[bG,cD,List.map_append,List.map_take,List.map_drop]
 rw[e2] at c;exact iZ c
theorem ao.afR(S:ao O Y X D st M w){o s k off:Nat}{t:a7}{xs:List (den t)}{x ib:den t}{v:Value}{ds:List a'}{vs:List Value}(hb:look st.sites o=some (.row s t xs))
  (hv:dO D st.sites w (az X D st.sites) (.eS o s t k off) v) (hx:xs[k]? =some x) (qD:enc t ib=bG (enc t x) off ds)
  (hl:cY w (az X D st.sites) ds vs) (hle:off+ds.length<=aY t) (h1:∀u∈vs,u.oneCell'=true):
  ∃b T cur fz,v=.pointer (some ⟨b,k*aY t+off,none⟩)/\w.heap[b]? =some (.cells (List.toArray cur) T fz)/\mK t.jG T cur.toArray fz/\k*aY t+off+vs.length<=cur.length/\
   ao O Y X D {st with sites:=cp st.sites o (.row s t (xs.set k ib))} M (w.setRow b (bG cur (k*aY t+off) vs).toArray):=by
 obtain⟨b,wu,o8⟩:=hv;obtain⟨n,c,cR⟩:=Ref.at o8 hb rfl;obtain⟨e,cs,lj,dI⟩:=S.sites o _ hb;have hk:k<xs.length:=by
  rcases Nat.lt_or_ge k xs.length with h|h
  ·exact h
  ·rw[List.getElem?_eq_none h] at hx;cases hx
 obtain⟨KF,h⟩:=lj;rcases h with⟨hn,_⟩|⟨g,cap,cur,fz,n4,KR,hg,hnc,hcm,hcs,htk⟩
 ·rw[cR] at hn;cases hn
 ·rw[cR] at n4;cases n4;have qP:(k+1)*aY t<=xs.length*aY t:=Nat.mul_le_mul_right _ hk;have hk2:xs.length*aY t<=c*aY t:=Nat.mul_le_mul_right _ hnc;rw[Nat.add_mul,Nat.one_mul] at qP;have l7:vs.length=ds.length:=hl.1;have kt:cur.toList.length=c*aY t:=by simpa using hcs
  have oV:k*aY t+off+vs.length<=cur.toList.length:=by omega
  refine⟨b,e,cur.toList,fz,wu,by simpa using hg,by simpa using KR,oV,?_⟩
  refine S.write hb rfl rfl rfl (by rw[cR];rfl) hg (fun hs hw hg' go=>?_)
  have awf:cs.length=xs.length*aY t:=KF;refine⟨e,bG cs (k*aY t+off) vs,⟨?_,.inr ⟨b,c,_,fz,?_,?_,hg',?_,hcm,?_,?_⟩⟩,?_⟩
  ·rw[rq _ _ _ (by omega),List.length_set];exact KF
  ·rw[cR,List.length_set]
  ·refine⟨KR.1,?_⟩;rcases KR.2 with h|⟨h,ai⟩
   ·exact .inl h
   ·refine .inr ⟨h,?_⟩;rw[List.size_toArray,rq _ _ _ oV];simpa using ai
  ·rw[List.length_set];exact hnc
  ·rw[List.size_toArray,rq _ _ _ oV];exact kt
  ·rw[<-htk,List.length_set,List.toList_toArray];exact abE _ _ _ _ (by omega) (by rw[kt];omega)
  ·have r0:cY w (az X D st.sites) (flat t xs) cs:=⟨by rw[eW];exact KF,dI⟩
   have iP:=ui t xs k x hx;have r1:cY w (az X D st.sites) (enc t x) ((cs.drop (k*aY t)).take (aY t)):=by
    have a:=ht (D:=fun _=>undef) (sites:=[]) r0.1 r0.2
    have bI:=(a.drop (k*aY t)).take (aY t);have e2:((cD (flat t xs)).drop (k*aY t)).take (aY t)=cD (enc t x):=by
     rw[<-iP];simp[cD,List.map_drop,List.map_take]
    rw[e2] at bI;exact iZ bI
   have r2:cY w (az X D st.sites) (enc t ib) (bG ((cs.drop (k*aY t)).take (aY t)) off vs):=by
    rw[qD];have a:=ht (D:=fun _=>undef) (sites:=[]) r1.1 r1.2
    have bI:=ht (D:=fun _=>undef) (sites:=[]) hl.1 hl.2
    have fj:=a.bG off bI;have e2:bG (cD (enc t x)) off (cD ds)=cD (bG (enc t x) off ds):=by
     simp[bG,cD,List.map_append,List.map_take,List.map_drop]
    rw[e2] at fj;exact iZ fj
   have hO:=aa0 hk r0 r2;have bz:bG cs (k*aY t) (bG ((cs.drop (k*aY t)).take (aY t)) off vs)=bG cs (k*aY t+off) vs:=by
    unfold bG;apply List.ext_getElem?;intro j;simp only[List.getElem?_append,List.length_append,List.length_take,List.length_drop,List.getElem?_take,List.getElem?_drop];have m1:min (k*aY t) cs.length=k*aY t:=by omega
    have m2:min (k*aY t+off) cs.length=k*aY t+off:=by omega
    have m3:min (aY t) (cs.length-k*aY t)=aY t:=by omega
    have m4:min off (aY t)=off:=by omega
    simp only[m1,m2,m3,m4];by_cases c1:j<k*aY t
    ·have c2:j<k*aY t+off:=by omega
     have c3:j<k*aY t+off+vs.length:=by omega
     have c5:j<k*aY t+(off+vs.length+(aY t-(off+vs.length))):=by omega
     simp[c1,c2,c3,c5]
    ·by_cases c2:j<k*aY t+off
     ·have d1:j-k*aY t<off:=by omega
      have d2:j-k*aY t<off+vs.length:=by omega
      have d3:j-k*aY t<aY t:=by omega
      have c3:j<k*aY t+off+vs.length:=by omega
      have c5:j<k*aY t+(off+vs.length+(aY t-(off+vs.length))):=by omega
      have gp:k*aY t+(j-k*aY t)=j:=by omega
      simp[c1,c2,c3,c5,d1,d2,d3,gp]
     ·by_cases c3:j<k*aY t+off+vs.length
      ·have d1:¬j-k*aY t<off:=by omega
       have d2:j-k*aY t<off+vs.length:=by omega
       have c5:j<k*aY t+(off+vs.length+(aY t-(off+vs.length))):=by omega
       have gp:j-k*aY t-off=j-(k*aY t+off):=by omega
       simp[c1,c2,c3,c5,d1,d2,gp]
      ·by_cases c5:j<k*aY t+(off+vs.length+(aY t-(off+vs.length)))
       ·have d2:¬j-k*aY t<off+vs.length:=by omega
        have d1:¬j-k*aY t<off:=by omega
        have d5:off+vs.length+(j-k*aY t-(off+vs.length))<aY t:=by omega
        have gp:k*aY t+(off+vs.length+(j-k*aY t-(off+vs.length)))=k*aY t+off+vs.length+(j-(k*aY t+off+vs.length)):=by omega
        simp[c1,c2,c3,c5,d1,d2,d5,gp]
       ·have gp:k*aY t+(off+vs.length+(aY t-(off+vs.length)))+(j-(k*aY t+(off+vs.length+(aY t-(off+vs.length)))))=k*aY t+off+vs.length+(j-(k*aY t+off+vs.length)):=by omega
        simp[c1,c2,c3,c5,gp]
   rw[bz] at hO;exact fun j g1 g2=>oJ go (hO.2 j g1 g2)
end
section
variable {P:Program}{O:World}{Y:List Nat}{X:Nat->Prop}{D:Nat->Value}{st:aj}{M:Array Value}{w:World}
theorem lE{o:Nat}{ab:Site}(h:look st.sites o=some ab):ab.cw<bp st o:=by
 unfold bp aj.ab;rw[h];exact Nat.lt_succ_self _
theorem ao.make(S:ao O Y X D st M w){o:Nat}{bW:Site}{nv:Value}{w':World}
  (hw:∀b,b<w.heap.size->w'.heap[b]? =w.heap[b]?) (hos:w'.os=w.os) (alE:w'.tape=w.tape) (I5:w'.output=w.output) (oL:w.heap.size<=w'.heap.size)
  (u6:∀ab,look st.sites o=some ab->ab.cw<bW.cw) (iJ:∀b,bH nv=some b->w.heap.size<=b/\b<w'.heap.size)
  (fy:∀{bV:List (Nat×Site)} {aQ:Nat->Value},bV=cp st.sites o bW->aQ o=nv->(∀{a v},cf D st.sites w (az X D st.sites) a v->cf aQ bV w' (az X aQ bV) a v)->
   (∀b,w.heap.size<=b->bH nv≠some b->¬az X aQ bV b)->(bW.live=false->∀b,bH nv=some b->¬az X aQ bV b)->jX aQ bV w' (az X aQ bV) o bW):
  ao O Y X (fun aa=>if aa=o then nv else D aa) {st with sites:=cp st.sites o bW} M w':=by
 have cM:∀aa,cj (cp st.sites o bW) aa->(aa=o/\bW.live=true)\/(aa≠o/\cj st.sites aa):=by
  rintro aa ⟨ab,h1,h2⟩;rw[c4] at h1;by_cases e:o=aa
  ·subst e;simp at h1;subst h1;exact .inl ⟨rfl,h2⟩
  ·simp only[e,if_false] at h1;exact .inr ⟨fun h=>e h.symm,ab,h1,h2⟩
 have b':∀b,az X (fun aa=>if aa=o then nv else D aa) (cp st.sites o bW) b->az X D st.sites b\/(bH nv=some b/\bW.live=true):=by
  rintro b (h|⟨aa,h1,h2⟩)
  ·exact .inl (.inl h)
  ·rcases cM aa h1 with⟨rfl,h3⟩|⟨h3,ay⟩
   ·simp at h2;exact .inr ⟨h2,h3⟩
   ·simp only[h3,if_false] at h2;exact .inl (.inr ⟨aa,ay,h2⟩)
 have hlt:∀b,az X D st.sites b->b<w.heap.size:=by
  rintro b (h|⟨aa,h1,h2⟩)
  ·exact S.old b h
  ·exact S.fA h1 h2
 refine S.qj (fun aa ab bS=>?_) (fun b _ hb=>hw b hb) (fun b h hb ai=>?_) (fun go aa ab bS=>?_) (fun aa ρ b h1 h2 g1 g2=>?_) (fun aa b h1 g1=>?_) (fun aa b h1 g1=>?_) ?_ oL
 ·rw[c4];by_cases e:o=aa
  ·subst e;exact⟨bW,by simp,Nat.le_of_lt (u6 ab bS),fun h=>by have:=u6 ab bS;omega⟩
  ·have cE:¬aa=o:=fun h=>e h.symm
   exact⟨ab,by simp[e,bS],Nat.le_refl _,fun _=>by simp[cE]⟩
 ·rcases b' b ai with ai|⟨ai,_⟩
  ·exact h ai
  ·have:=(iJ b ai).1;omega
 ·rw[c4] at bS;by_cases e:o=aa
  ·subst e;simp only[if_true,Option.some.injEq] at bS;subst bS;refine .inr (fy rfl (by simp) go (fun b hb hne ai=>?_) (fun hl b hb ai=>?_))
   ·rcases b' b ai with ai|⟨ai,_⟩
    ·have:=hlt b ai;omega
    ·exact hne ai
   ·rcases b' b ai with ai|⟨_,ai⟩
    ·have:=hlt b ai;have:=(iJ b hb).1;omega
    ·rw[hl] at ai;cases ai
  ·have cE:¬aa=o:=fun h=>e h.symm
   simp only[e,if_false] at bS;exact .inl ⟨bS,by simp[cE],fun hl b hb=>hw b (S.fA ⟨ab,bS,hl⟩ hb)⟩
 ·rcases cM aa h1 with⟨rfl,_⟩|⟨n1,ec⟩<;>rcases cM ρ h2 with⟨rfl,_⟩|⟨n2,gC⟩
  ·rfl
  ·simp only[if_true] at g1;simp only[n2,if_false] at g2;have:=S.fA gC g2;have:=(iJ b g1).1;omega
  ·simp only[if_true] at g2;simp only[n1,if_false] at g1;have:=S.fA ec g1;have:=(iJ b g2).1;omega
  ·simp only[n1,if_false] at g1;simp only[n2,if_false] at g2;exact S.dV aa ρ b ec gC g1 g2
 ·rcases cM aa h1 with⟨rfl,_⟩|⟨n1,ec⟩
  ·simp only[if_true] at g1;have hb:=(iJ b g1).1;exact⟨fun hx=>by have:=S.old b hx;have:=S.frame.size;omega,.inr (Nat.le_trans S.frame.size hb)⟩
  ·simp only[n1,if_false] at g1;exact S.cl aa b ec g1
 ·rcases cM aa h1 with⟨rfl,_⟩|⟨n1,ec⟩
  ·simp only[if_true] at g1;exact(iJ b g1).2
  ·simp only[n1,if_false] at g1;exact Nat.lt_of_lt_of_le (S.fA ec g1) oL
 ·have aZ:=S.frame;exact⟨hos.trans aZ.os,alE.trans aZ.tape,I5.trans aZ.output,Nat.le_trans aZ.size oL,fun b h1 h2=>(hw b (Nat.lt_of_lt_of_le h1 aZ.size)).trans (aZ.block b h1 h2)⟩
theorem ao.append(S:ao O Y X D st M w){o dst s:Nat}{t:a7}{xs r:List (den t)}(hl:look st.sites o=some (.row s t xs)){nv:Value}{w':World}
  (hg:w.grownBy w' (D o).ownBlock) (iJ:∀b,bH nv=some b->b<w'.heap.size/\(bH (D o)=some b\/w.heap.size<=b))
  (fy:∀{bV:List (Nat×Site)} {aQ:Nat->Value},aQ dst=nv->(∀{a v},cf D st.sites w (az X D st.sites) a v->cf aQ bV w' (az X aQ bV) a v)->
   jX aQ bV w' (az X aQ bV) dst (.row (bp (st.ig o (.dead s)) dst) t r)):
  ao O Y X (fun aa=>if aa=dst then nv else D aa) {st with sites:=bl st.sites [(o,.dead s),(dst,.row (bp (st.ig o (.dead s)) dst) t r)]} M w':=by
 have bq:cj st.sites o:=⟨_,hl,rfl⟩;have jB:∀aa,look (bl st.sites [(o,.dead s),(dst,.row (bp (st.ig o (.dead s)) dst) t r)]) aa=
   if dst=aa then some (.row (bp (st.ig o (.dead s)) dst) t r) else if o=aa then some (.dead s) else look st.sites aa:=by
  intro aa;simp only[bl,c4]
 have u6:∀ab,look st.sites dst=some ab->ab.cw<bp (st.ig o (.dead s)) dst:=by
  intro ab h;unfold bp;rw[aj.xh];by_cases e:o=dst
  ·subst e;rw[hl] at h;cases h;simp[Site.cw]
  ·simp only[e,if_false,aj.ab,h];exact Nat.lt_succ_self _
 have cM:∀aa,cj (bl st.sites [(o,.dead s),(dst,.row (bp (st.ig o (.dead s)) dst) t r)]) aa->aa=dst\/(aa≠dst/\aa≠o/\cj st.sites aa):=by
  rintro aa ⟨ab,h1,h2⟩;rw[jB] at h1;by_cases e:dst=aa
  ·exact .inl e.symm
  ·simp only[e,if_false] at h1;by_cases e2:o=aa
   ·simp only[e2,if_true,Option.some.injEq] at h1;subst h1;cases h2
   ·simp only[e2,if_false] at h1;exact .inr ⟨fun h=>e h.symm,fun h=>e2 h.symm,ab,h1,h2⟩
 have awx:∀b,bH (D o)=some b->(D o).ownBlock=some b:=by
  intro b hb;obtain⟨e,cs,g1,_⟩:=S.sites o _ hl;rcases g1.2 with⟨hn,_⟩|⟨g,cap,cur,fz,hv,_⟩
  ·rw[hn] at hb;cases hb
  ·rw[hv] at hb ⊢;exact hb
 have anJ:∀b,(D o).ownBlock=some b->bH (D o)=some b:=by
  intro b hb;cases hv:D o<;>rw[hv] at hb<;>first|cases hb|skip
  rename_i a n c;cases a<;>first|exact hb|cases hb
 have Iq:∀b,b<w.heap.size->bH (D o)≠some b->w'.heap[b]? =w.heap[b]? :=fun b hb hne=>hg.block b hb (fun e=>hne (anJ b e.symm))
 refine S.qj (fun aa ab bS=>?_) (fun b h hb=>Iq b hb (fun e=>h (.inr ⟨o,bq,e⟩))) (fun b h hb ai=>?_) (fun go aa ab bS=>?_) (fun aa ρ b h1 h2 g1 g2=>?_) (fun aa b h1 g1=>?_) (fun aa b h1 g1=>?_) ?_ hg.size
 ·rw[jB];by_cases e:dst=aa
  ·subst e;refine⟨.row (bp (st.ig o (.dead s)) dst) t r,by simp,?_,fun h=>?_⟩
   ·exact Nat.le_of_lt (u6 ab bS)
   ·have:=u6 ab bS;simp only[Site.cw] at h this;omega
  ·have cE:¬aa=dst:=fun h=>e h.symm
   by_cases e2:o=aa
   ·subst e2;rw[hl] at bS;cases bS;exact⟨.dead s,by simp[e],Nat.le_refl _,fun _=>by simp[cE]⟩
   ·exact⟨ab,by simp[e,e2,bS],Nat.le_refl _,fun _=>by simp[cE]⟩
 ·rcases ai with ai|⟨aa,h1,h2⟩
  ·exact h (.inl ai)
  ·rcases cM aa h1 with rfl|⟨n1,_,ec⟩
   ·simp only[if_true] at h2;rcases(iJ b h2).2 with h3|h3
    ·exact h (.inr ⟨o,bq,h3⟩)
    ·omega
   ·simp only[n1,if_false] at h2;exact h (.inr ⟨aa,ec,h2⟩)
 ·rw[jB] at bS;by_cases e:dst=aa
  ·subst e;simp only[if_true,Option.some.injEq] at bS;subst bS;exact .inr (fy (by simp) go)
  ·have cE:¬aa=dst:=fun h=>e h.symm
   simp only[e,if_false] at bS;by_cases e2:o=aa
   ·simp only[e2,if_true,Option.some.injEq] at bS;subst bS;exact .inr trivial
   ·simp only[e2,if_false] at bS;refine .inl ⟨bS,by simp[cE],fun gh b hb=>?_⟩
    have YO:cj st.sites aa:=⟨ab,bS,gh⟩;exact Iq b (S.fA YO hb) (fun h=>e2 (S.dV o aa b bq YO h hb))
 ·have key:∀aa b,aa≠dst->aa≠o->cj st.sites aa->bH (D aa)=some b->bH nv≠some b:=by
   intro aa b n1 n2 ec hb hn;rcases(iJ b hn).2 with h3|h3
   ·exact n2 (S.dV aa o b ec bq hb h3)
   ·have:=S.fA ec hb;omega
  rcases cM aa h1 with rfl|⟨n1,m1,ec⟩<;>rcases cM ρ h2 with rfl|⟨n2,m2,gC⟩
  ·rfl
  ·simp only[if_true] at g1;simp only[n2,if_false] at g2;exact absurd g1 (key ρ b n2 m2 gC g2)
  ·simp only[if_true] at g2;simp only[n1,if_false] at g1;exact absurd g2 (key aa b n1 m1 ec g1)
  ·simp only[n1,if_false] at g1;simp only[n2,if_false] at g2;exact S.dV aa ρ b ec gC g1 g2
 ·rcases cM aa h1 with rfl|⟨n1,_,ec⟩
  ·simp only[if_true] at g1;rcases(iJ b g1).2 with h3|h3
   ·exact S.cl o b bq h3
   ·exact⟨fun hx=>by have:=S.old b hx;have:=S.frame.size;omega,.inr (Nat.le_trans S.frame.size h3)⟩
  ·simp only[n1,if_false] at g1;exact S.cl aa b ec g1
 ·rcases cM aa h1 with rfl|⟨n1,_,ec⟩
  ·simp only[if_true] at g1;exact(iJ b g1).1
  ·simp only[n1,if_false] at g1;exact Nat.lt_of_lt_of_le (S.fA ec g1) hg.size
 ·have aZ:=S.frame;refine⟨hg.os.trans aZ.os,hg.tape.trans aZ.tape,hg.output.trans aZ.output,Nat.le_trans aZ.size hg.size,fun b h1 h2=>?_⟩
  rw[Iq b (Nat.lt_of_lt_of_le h1 aZ.size) (fun e=>?_)]
  ·exact aZ.block b h1 h2
  ·rcases(S.cl o b bq e).2 with h|h
   ·exact h2 h
   ·omega
end
def Src(w:World)(size:Nat)(x:Value)(m:Nat)(news:List Value):Prop:=
 news.length=m*size/\(∀u∈news,u.oneCell'=true)/\((x=.slice none 0 0/\m=0)\/(∃a c,x=.slice (some a) m c/\∀j u,news[j]? =some u->w.cell? (a.add j)=some u)\/∃s:ByteArray,x=.string s/\m=s.size/\size=1/\news=s.data.toList.map fun b=>Value.int .u8 b.toNat)
theorem Src.run{P:Program}{w w2:World}{size m:Nat}{x:Value}{news:List Value}(h:Src w size x m news)(hw:w2.heap=w.heap):(Builtin.firstCells size m x).run P w2=.ok news.toArray w2:=by
 obtain⟨h1,_,h2⟩:=h;rcases h2 with⟨rfl,rfl⟩|⟨a,c,rfl,h3⟩|⟨s,rfl,rfl,rfl,rfl⟩
 ·have:news=[]:=List.eq_nil_of_length_eq_zero (by simpa using h1)
  subst this;exact run_firstCells_none w2 size 0 0 0
 ·refine run_firstCells_some w2 size m a m c news h1 (fun j u hu=>?_)
  have:=h3 j u hu;unfold World.cell? at this ⊢;rw[hw];exact this
 ·have e:s.extract 0 s.size=s:=by simp
  show Result.ok ((s.extract 0 s.size).data.map fun b=>Value.int .u8 b.toNat) w2=_
  rw[e];congr 1
  apply Array.ext';simp
theorem Src.len{P:Program}{w w2:World}{size m:Nat}{x:Value}{news:List Value}(h:Src w size x m news):(Builtin.lenOf x).run P w2=.ok m w2:=by
 obtain⟨_,_,h2⟩:=h;rcases h2 with⟨rfl,rfl⟩|⟨a,c,rfl,_⟩|⟨s,rfl,rfl,_⟩<;>rfl
theorem Dm{P:Program}{u:Bool}(w:World)(T LM ty e:TypeId)(gD:u=true->e=me)(i:TypeInfo)(z:Value)(size bytes:Nat)(aq:P.underlying T=some (.slice e))(jl:(∃ex,P.underlying LM=some (.slice ex))\/P.underlying LM=some .string)(hi:P.info? e=some i)
  (hz:i.zero=some z) (oL:i.size=size) (jJ:i.bytes=bytes) (hzs:z.cells.size=size) (hsz:0<size)
  (v:Value) (n:Nat) (xs:List Value) (lj:∃cE,rowAt w u cE size v n xs) (x:Value) (m:Nat) (news:List Value) (fa:Src w size x m news)
  (h63:n+m<=maxLen) (Sj:(n+m)*bytes<=140737488355328):
  ∃v' w',(Builtin.append_ #[T,LM] ty #[v,x]).run P w=.ok v' w'/\(∃cE,rowAt w' u cE size v' (n+m) (xs++news))/\w.grownBy w' v.ownBlock/\
   ∀b,bH v'=some b->b<w'.heap.size/\(bH v=some b\/w.heap.size<=b):=by
 subst oL jJ;obtain⟨cE,hl0,lj⟩:=lj;have akm:n+m<=9223372036854775807:=by simp only[maxLen] at h63;omega
 have hlen:(xs++news).length=(n+m)*i.size:=by rw[List.length_append,hl0,fa.1,Nat.add_mul]
 have grown:∀(old:Nat),old<n+m->∀(row:Option Nat),
   rowAt (w.drew.alloc (.cells (xs.toArray++news.toArray++Builtin.zeroCells z.cells (grownCap w (n+m) old e-(n+m))) e)) u e i.size
    (.slice (some ⟨w.heap.size,0,none⟩) (n+m) (grownCap w (n+m) old e)) (n+m) (xs++news)/\
   w.grownBy (w.drew.alloc (.cells (xs.toArray++news.toArray++Builtin.zeroCells z.cells (grownCap w (n+m) old e-(n+m))) e)) row:=by
  intro old aG row;have hge:=grownCap_ge w (n+m) old e;have hcm:grownCap w (n+m) old e<=maxLen:=grownCap_le_maxLen w (n+m) old e h63;refine⟨⟨hlen,.inr ⟨w.heap.size,_,_,(0,0),rfl,⟨gD,.inl rfl⟩,heap_alloc_new w.drew _,hge,hcm,?_,?_⟩⟩,⟨rfl,rfl,rfl,by simp,fun k hk _=>RowKit.Below.heap_alloc w.drew _ k hk⟩⟩
  ·simp only[Array.size_append,List.size_toArray,size_zeroCells,hzs,hl0,fa.1,<-Nat.add_mul];congr 1
   omega
  ·simp only[Array.toList_append,List.append_assoc];rw[<-List.append_assoc,<-hlen];exact List.take_left
 have R3:∀{c:Nat} {B:Obj} {v:Value} b,bH (.slice (some ⟨w.heap.size,0,none⟩) (n+m) c)=some b->b<(w.drew.alloc B).heap.size/\(bH v=some b\/w.heap.size<=b):=by
  intro c B v b hb;cases hb;exact⟨by simp,.inr (Nat.le_refl _)⟩
 rcases lj with⟨rfl,rfl⟩|⟨g,cap,cur,fz,rfl,hfz,hg,hnc,hcm,hcs,lR⟩
 ·have hx:xs=[]:=List.eq_nil_of_length_eq_zero (by simpa using hl0)
  subst hx;by_cases hm:m=0
  ·subst hm;have hn:news=[]:=List.eq_nil_of_length_eq_zero (by simpa using fa.1)
   subst hn;refine⟨.slice none 0 0,w,?_,⟨e,D_ w u e i.size⟩,⟨rfl,rfl,rfl,Nat.le_refl _,fun _ _ _=>rfl⟩,fun b hb=>by cases hb⟩
   rcases jl with⟨ex,jl⟩|jl<;>simp[Builtin.append_,run_underlying aq,run_underlying jl,sizeOf,typeInfo,hi,fa.len,fa.run (w2:=w) rfl]
  ·have wF:=grown 0 (by omega) (Value.ownBlock (.slice none 0 0))
   refine⟨_,_,?_,⟨e,wF.1⟩,wF.2,R3⟩;have h63':¬(9223372036854775807<(m:Int)):=by omega
   have hb:=Sj;simp only[Nat.zero_add] at hb;have Jg:¬(281474976710656<Builtin.nextslicecap m 0*i.bytes):=by rw[nextslicecap_zero (by omega)];omega
   rcases jl with⟨ex,jl⟩|jl<;>simp[Builtin.append_,run_underlying aq,run_underlying jl,sizeOf,typeInfo,zeroValue,hi,hz,fa.len,hm,h63',Jg,Question.forced,run_firstCells_none,fa.run (w2:=w.drew) rfl,newRow,grownCap]
 ·by_cases hroom:n+m<=cap
  ·have lk:n*i.size+news.length<=cur.size:=by rw[fa.1,hcs,<-Nat.add_mul];exact Nat.mul_le_mul_right _ hroom
   have dH:=mK.run (P:=P) g (n*i.size) cE fz news 0 cur w hg hfz (by simpa using lk) fa.2.1
   simp only[Nat.add_zero] at dH;refine⟨.slice (some ⟨g,0,none⟩) (n+m) cap,w.setRow g (cur.toList.take (n*i.size)++news++cur.toList.drop (n*i.size+news.length)).toArray,?_,
    ⟨cE,hlen,.inr ⟨g,cap,_,fz,rfl,⟨hfz.1,hfz.2.imp id (fun h=>⟨h.1,?_⟩)⟩,setRow_heap w g cur _ cE _ hg,hroom,hcm,?_,?_⟩⟩,⟨rfl,rfl,rfl,by simp,fun k _ hk=>setRow_other w g k _ (fun e=>hk (by simp[Value.ownBlock,e]))⟩,fun b hb=>?_⟩
   ·rcases jl with⟨ex,jl⟩|jl<;>simp[Builtin.append_,run_underlying aq,run_underlying jl,sizeOf,typeInfo,hi,fa.len,hroom,fa.run (w2:=w) rfl,Addr.add_lit,dH]
   ·have:=h.2;simp only[List.size_toArray,List.length_append,List.length_take,List.length_drop,Array.length_toList];omega
   ·simp only[List.size_toArray,List.length_append,List.length_take,List.length_drop,Array.length_toList];omega
   ·rw[lR,<-hlen];exact List.take_left
   ·cases hb;exact⟨by rw[setRow_size];exact(Array.getElem?_eq_some_iff.1 hg).1,.inl rfl⟩
  ·have wF:=grown cap (by omega) (Value.ownBlock (.slice (some ⟨g,0,none⟩) n cap))
   refine⟨_,_,?_,⟨e,wF.1⟩,wF.2,R3⟩;have holds:∀j u,xs[j]? =some u->w.drew.cell? ((⟨g,0,none⟩:Addr).add j)=some u:=by
    intro j u hu;rw[gL,Nat.zero_add,World.cell?_drew,cell_of_row w g j cur cE fz hg];rw[<-lR,List.getElem?_take] at hu;split at hu
    ·simpa using hu
    ·cases hu
   have h63':¬(9223372036854775807<((n:Int)+(m:Int))):=by omega
   have lk:=growslice_fits (need:=n+m) (old:=cap) (bytes:=i.bytes) (by omega) Sj
   have Jg:¬(281474976710656<Builtin.nextslicecap (n+m) cap*i.bytes):=by omega
   have CM:=run_firstCells_some (P:=P) w.drew i.size n ⟨g,0,none⟩ n cap xs hl0 holds;rcases jl with⟨ex,jl⟩|jl<;>simp[Builtin.append_,run_underlying aq,run_underlying jl,sizeOf,typeInfo,zeroValue,hi,hz,fa.len,hroom,h63',Jg,Question.forced,fa.run (w2:=w.drew) rfl,CM,newRow,grownCap]
   all_goals
    congr 2
    apply Array.ext';simp[List.append_assoc]
section
variable {P:Program}{O:World}{Y:List Nat}{X:Nat->Prop}{D:Nat->Value}{st:aj}{M:Array Value}{w:World}{B:Oper}
theorem afT(S:ao O Y X D st M w){x:aR}{v:Value}{t:a7}{bh:List (den t)}(hx:cf D st.sites w (az X D st.sites) x v)(h:sE st x=some (.sl t bh)):
  ∃news,Src w (aY t) v bh.length news/\cY w (az X D st.sites) (flat t bh) news:=by
 have one:∀{news:List Value},cx D st.sites w (az X D st.sites) (cD (flat t bh)) news->(∀u∈news,u.oneCell'=true):=by
  intro news h;refine h.jv ?_
  unfold cD;generalize flat t bh=l;induction l with
  |nil=>rfl
  |cons d l ih=>simpa[hd,aI.storable] using ih
 unfold sE at h;split at h
 ·rename_i bk iK;cases h;have hx:bD w (az X D st.sites) (.sl t bh) v:=hx;cases hx with
  |nil t=>exact⟨[],⟨by simp,fun u hu=>by simp at hu,.inl ⟨rfl,rfl⟩⟩,rfl,fun j h=>by simp[flat] at h⟩
  |sl t xs a cap cs n hn hcap hb hl hc hr=>
   subst hn;have jH:=ht (D:=D) (sites:=st.sites) hl hr;exact⟨cs,⟨by rw[hl,eW],one jH,.inr (.inl ⟨a,cap,rfl,hc⟩)⟩,hl,hr⟩
 ·cases h
 ·rename_i bk;cases h;rw[show v=_ from hx]
  exact⟨[],⟨by simp,fun u hu=>by simp at hu,.inl ⟨rfl,rfl⟩⟩,rfl,fun j h=>by simp[flat] at h⟩
 ·rename_i o s;split at h
  ·rename_i bk iK hr;cases h;obtain⟨cs,hl,hc⟩:=S.row hr;have hv:v=D o:=by
    rcases jP hr with h1|h1<;>exact Ref.at hx.2 h1 rfl
   have dp:=iZ hl;refine⟨cs,⟨by rw[dp.1,eW],one hl,?_⟩,dp⟩
   rw[hv];rcases hc with⟨h1,h2⟩|⟨b,c,h1,h2,_⟩
   ·subst h2;exact .inl ⟨h1,rfl⟩
   ·exact .inr (.inl ⟨⟨b,0,none⟩,c,h1,fun j u hu=>by rw[gL];exact h2 j u hu⟩)
  ·cases h
 ·cases h
theorem NS(S:ao O Y X D st M w){C:Ctx}(H:CtxOk P C){T dM:TypeId}{s x:Operand}{e:TypeId}{t:a7}{bytes:Nat}{dst:Nat}(bi:C.tt T=.slice e t bytes)(Ta:(∃ex,P.underlying dM=some (.slice ex))\/P.underlying dM=some .string)
  (aG:B.op=.call {callee:=.builtin .append,args:=#[s,x],argTypes:=#[T,dM]}) (dz:B.dst=some dst) (Z:ck st B.dst=true) {bh:List (den t)} {news:List Value} (fa:Src w (aY t) (Act.eval ⟨M,[]⟩ x) bh.length news)
  (dI:cY w (az X D st.sites) (flat t bh) news):Holds (p1 bytes t dst st (a8 C st T s) bh) (cH P O Y X st M w B):=by
 have bF:=H.tt T;rw[bi] at bF;obtain⟨⟨fw,_⟩,z,hinfo,hzs,gD⟩:=bF;obtain⟨i,hi,wE⟩:∃i,P.info? e=some i/\(i.size,i.bytes,i.zero)=(aY t,bytes,some z):=by
  cases au:P.info? e with
  |none=>simp[au] at hinfo
  |some i=>exact⟨i,rfl,by simpa[au] using hinfo⟩
 simp only[Prod.mk.injEq] at wE;obtain⟨wE,Y7,KP⟩:=wE;have BY:=dy S C T s;have runs:∀{v':Value} {w':World},(Builtin.append_ #[T,dM] B.type #[Act.eval ⟨M,[]⟩ s,Act.eval ⟨M,[]⟩ x]).run P w=.ok v' w'->
   (execOp (Act.eval ⟨M,[]⟩) B).run P w=.ok (.value v') w':=by
  intro v' w' h;unfold execOp;simp only[aG,resolve,invoke,builtin,Sem.run_bind,Sem.run_pure,Result.andThen_ok,List.map_toArray,List.map_cons,List.map_nil,h]
 have one:∀{u:Bool} {cE:TypeId} {v':Value} {n m:Nat} {l:List Value} {w':World},rowAt w' u cE n v' m l->v'.oneCell'=true:=by
  intro u cE v' n m l w' h;rcases h.2 with⟨rfl,_⟩|⟨g,cap,cur,fz,rfl,_⟩<;>rfl
 unfold p1;split
 ·-- a nil slice
  rename_i t2 b5;rw[b5] at BY;have qu:Act.eval ⟨M,[]⟩ s=.slice none 0 0:=BY;refine Holds.hF fun r hr=>?_
  have dp:cy bytes [] bh=some r:=hr;unfold cy at dp;split at dp
  ·rename_i hb;cases dp;simp only[List.length_nil,Nat.zero_add,room] at hb;obtain⟨v',w',h1,⟨cE,h2⟩,h3,ay⟩:=Dm (P:=P) (u:=t.jG) w T dM B.type e gD i z (aY t) bytes fw Ta hi KP wE Y7 hzs (lM _) (.slice none 0 0) 0 [] ⟨e,D_ w _ e _⟩ _ _ news fa
    (by rw[Nat.zero_add];exact hb.2) (by rw[Nat.zero_add];exact hb.1)
   rw[Nat.zero_add,List.nil_append] at h2;have ch:=S.make (o:=dst) (bW:=.row (bp st dst) t ([]++bh)) (nv:=v') (w':=w') (fun b hb=>h3.block b hb (by simp[Value.ownBlock])) h3.os h3.tape h3.output h3.size
    (fun ab hs=>lE hs) (fun b hb=>by
     obtain⟨g1,g2⟩:=ay b hb;rcases g2 with g2|g2
     ·cases g2
     ·exact⟨g2,g1⟩) (fun hs cR go _ _=>by
     refine⟨cE,news,by rw[cR];simpa using h2,?_⟩
     intro j g1 g2;have asK:j<(flat t bh).length:=by simpa using g1
     simpa using oJ go (dI.2 j asK g2))
   refine kV (us:=[(dst,.row (bp st dst) t ([]++bh))]) ch Z (runs (by rw[qu];exact h1)) ?_
   refine⟨one h2,Ref.mk (ab:=.row (bp st dst) t ([]++bh)) ?_ rfl (by simp)⟩
   simp only[bl,c4];simp
  ·cases dp
 ·-- a row of Bo own
  rename_i o s2 b5;rw[b5] at BY;split
  ·rename_i gZ t2 xs gx;have sv:look st.sites o=some (.row gZ t2 xs):=gx;cases asi:gZ.beq s2 with
   |false=>simp only[cond_false];exact .fail
   |true=>
    have lr:=Nat.eq_of_beq_eq_true asi;subst lr;simp only[cond_true];split
    ·rename_i jm;subst jm;refine Holds.hF fun r hr=>?_
     have dp:cy bytes xs bh=some r:=hr;unfold cy at dp;split at dp
     ·rename_i hb;cases dp;simp only[room] at hb;have hv:Act.eval ⟨M,[]⟩ s=D o:=Ref.at BY.2 sv rfl;obtain⟨eT,cs,lj,hcs⟩:=S.sites o _ sv;obtain⟨v',w',h1,⟨cE,h2⟩,h3,ay⟩:=Dm (P:=P) w T dM B.type e gD i z (aY t2) bytes fw Ta hi KP wE Y7 hzs (lM _) (D o) xs.length cs ⟨eT,lj⟩ _ _ news fa hb.2 hb.1;have ch:=S.append (dst:=dst) (r:=xs++bh) sv (nv:=v') (w':=w') h3 ay (fun cR go=>by
       refine⟨cE,cs++news,by rw[cR,List.length_append];exact h2,?_⟩
       have tl:cY w (az X D st.sites) (flat t2 xs) cs:=⟨by rw[eW];exact lj.1,hcs⟩
       have mJ:=iZ ((ht (D:=D) (sites:=st.sites) tl.1 tl.2).append (ht (D:=D) (sites:=st.sites) dI.1 dI.2)|>fun h=>by
        rw[show cD (flat t2 xs)++cD (flat t2 bh)=cD (flat t2 (xs++bh)) from by simp[cD,rs]] at h
        exact h)
       intro j g1 g2;exact oJ go (mJ.2 j g1 g2))
      refine kV (us:=[(o,.dead gZ),(dst,.row (bp (st.ig o (.dead gZ)) dst) t2 (xs++bh))]) ch Z (runs (by rw[hv];exact h1)) ?_
      refine⟨one h2,Ref.mk (ab:=.row (bp (st.ig o (.dead gZ)) dst) t2 (xs++bh)) ?_ rfl (by simp)⟩
      simp only[bl,c4];simp
     ·cases dp
    ·exact .fail
  ·exact .fail
 ·exact .fail
theorem afi(S:ao O Y X D st M w){C:Ctx}(H:CtxOk P C){T dM:TypeId}{s x:Operand}{e ex:TypeId}{t u:a7}{bytes b2:Nat}{dst:Nat}(bi:C.tt T=.slice e t bytes)(gD:C.tt dM=.slice ex u b2)
  (aG:B.op=.call {callee:=.builtin .append,args:=#[s,x],argTypes:=#[T,dM]}) (dz:B.dst=some dst) (Z:ck st B.dst=true):
  Holds (sf bytes t dst st (a8 C st T s) (a8 C st dM x)) (cH P O Y X st M w B):=by
 have wJ:=H.tt dM;rw[gD] at wJ;unfold sf;split
 ·exact .fail
 ·rename_i d qS;split
  ·rename_i bk bh;split
   ·rename_i jm;subst jm;obtain⟨news,fa,dI⟩:=afT S (dy S C dM x) qS;exact NS S H bi (.inl ⟨_,wJ.1.1⟩) aG dz Z fa dI
   ·exact .fail
  ·exact .fail
theorem adk(S:ao O Y X D st M w){C:Ctx}(H:CtxOk P C){T dM:TypeId}{s x:Operand}{e:TypeId}{t:a7}{bytes:Nat}{dst:Nat}(bi:C.tt T=.slice e t bytes)(gD:C.tt dM=.str)
  (aG:B.op=.call {callee:=.builtin .append,args:=#[s,x],argTypes:=#[T,dM]}) (dz:B.dst=some dst) (Z:ck st B.dst=true):
  Holds (sg bytes t dst st (a8 C st T s) (a8 C st dM x)) (cH P O Y X st M w B):=by
 have wJ:=H.tt dM;rw[gD] at wJ;have bu:=dy S C dM x;unfold sg;split
 ·rename_i y hx;rw[hx] at bu;split
  ·rename_i jm;subst jm;have bu:bD w (az X D st.sites) (.str y) (Act.eval ⟨M,[]⟩ x):=bu;generalize hv:Act.eval ⟨M,[]⟩ x=v at bu;cases bu with
   |str _ b hb=>
    subst hb;refine NS S H bi (.inr wJ.1) aG dz Z (news:=b.data.toList.map fun b=>Value.int .u8 b.toNat) ?_ ?_
    ·rw[hv];refine⟨by simp[bytesOf,aY],fun u hu=>?_,.inr (.inr ⟨b,rfl,?_,rfl,rfl⟩)⟩
     ·obtain⟨c,_,rfl⟩:=List.mem_map.1 hu;rfl
     ·simp only[bytesOf,List.length_map,Array.length_toList];rfl
    ·have e1:flat .u8 (bytesOf b.data.toList)=(b.data.toList.map fun b=>a'.int .u8 b.toNat):=by
      unfold flat bytesOf;rw[List.flatMap_map];generalize b.data.toList=l;induction l with
      |nil=>rfl
      |cons a l ih=>simp only[List.flatMap_cons,List.map_cons,ih];rfl
     rw[e1];refine⟨by simp,fun j g1 g2=>?_⟩
     simp only[List.getElem_map];exact .int _ _
  ·exact .fail
 ·exact .fail
end
theorem foldl_set:∀(vs:List Value) (off k:Nat) (arr:Array Value),off+k+vs.length<=arr.size->
  (vs.zipIdx k).foldl (fun cs (x:Value×Nat)=>cs.setIfInBounds (off+x.2) x.1) arr=(bG arr.toList (off+k) vs).toArray:=by
 intro vs;induction vs with
 |nil=>intro off k arr h;simp[bG]
 |cons v vs ih=>
  intro off k arr h;simp only[List.zipIdx_cons,List.foldl_cons];rw[ih off (k+1) _ (by simp at h ⊢;omega)]
  congr 1
  simp only[List.length_cons] at h;unfold bG;rw[Array.toList_setIfInBounds];apply List.ext_getElem?;intro j;simp only[List.getElem?_append,List.length_append,List.length_take,List.length_set,List.getElem?_take,List.getElem?_drop,List.getElem?_set,List.length_cons,Array.length_toList];have m1:min (off+k) arr.size=off+k:=by omega
  have m2:min (off+(k+1)) arr.size=off+(k+1):=by omega
  simp only[m1,m2];by_cases c1:j<off+k
  ·have c2:j<off+(k+1):=by omega
   have c3:j<off+(k+1)+vs.length:=by omega
   have c5:j<off+k+(vs.length+1):=by omega
   have gE:¬off+k=j:=by omega
   simp[c1,c2,c3,c5,gE]
  ·by_cases c0:j=off+k
   ·subst c0;have c2:off+k<off+(k+1):=by omega
    have c3:off+k<off+(k+1)+vs.length:=by omega
    have c5:off+k<off+k+(vs.length+1):=by omega
    have gE:off+k<arr.size:=by omega
    simp[c2,c3,c5,gE]
   ·by_cases c5:j<off+k+(vs.length+1)
    ·have c2:¬j<off+(k+1):=by omega
     have c3:j<off+(k+1)+vs.length:=by omega
     have e:j-(off+k)=(j-(off+(k+1)))+1:=by omega
     simp[c1,c2,c3,c5,e]
    ·have c3:¬j<off+(k+1)+vs.length:=by omega
     have gE:¬off+k=off+(k+1)+vs.length+(j-(off+(k+1)+vs.length)):=by omega
     have e:off+(k+1)+vs.length+(j-(off+(k+1)+vs.length))=off+k+(vs.length+1)+(j-(off+k+(vs.length+1))):=by omega
     simp[c3,c5,gE,e];try(intro bo;exfalso;omega)
theorem Nj(v:Value)(off:Nat)(arr:Array Value)(h:off+v.cells.size<=arr.size):
  v.cells.zipIdx.foldl (fun cs (x:Value×Nat)=>cs.setIfInBounds (off+x.2) x.1) arr=(bG arr.toList off v.cells.toList).toArray:=by
 rw[<-Array.foldl_toList,Array.toList_zipIdx];exact foldl_set v.cells.toList off 0 arr (by simpa using h)
theorem NN(s:Nat):∀(vs:List (Nat×Value)) (n:Nat) (cells:Array Value),(∀j (h:j<vs.length),(vs[j]).1=n+j)->(∀p,p∈vs->p.2.cells.size=s)->(n+vs.length)*s<=cells.size->
  Instr.fill (fun i=>some (i*s,s)) cells vs=some (bG cells.toList (n*s) (vs.flatMap fun p=>p.2.cells.toList)).toArray:=by
 intro vs;induction vs with
 |nil=>intro n cells _ _ _;simp[Instr.fill,bG]
 |cons p vs ih=>
  obtain⟨i,v⟩:=p;intro n cells hi hs hle;have h0:i=n:=hi 0 (Nat.zero_lt_succ _);subst h0;have hv:v.cells.size=s:=hs (i,v) (by simp)
  have oV:i*s+s<=cells.size:=by
   have:(i+1)*s<=(i+(vs.length+1))*s:=Nat.mul_le_mul_right _ (by omega)
   simp only[List.length_cons] at hle;rw[Nat.add_mul,Nat.one_mul] at this;omega
  simp only[Instr.fill,hv];rw[if_neg (by simp;omega)]
  have oN:=Nj v (i*s) cells (by omega)
  rw[oN];have hlen:v.cells.toList.length=s:=by simpa using hv
  have anG:(bG cells.toList (i*s) v.cells.toList).length=cells.toList.length:=rq _ _ _ (by simp;omega)
  rw[ih (i+1) _ (fun j h=>by have:=hi (j+1) (by simpa using h);simp at this;omega) (fun p hp=>hs p (by simp[hp])) (by
   simp only[List.length_cons] at hle;simp only[List.size_toArray,anG,Array.length_toList];have e:i+1+vs.length=i+(vs.length+1):=by omega
   rw[e];exact hle)]
  congr 2
  simp only[List.flatMap_cons,List.toList_toArray];have pd:(vs.flatMap fun p=>p.2.cells.toList).length=vs.length*s:=by
   clear ih hi hle;induction vs with
   |nil=>simp
   |cons q vs arw=>
    have:q.2.cells.toList.length=s:=by simpa using hs q (by simp)
    rw[List.flatMap_cons,List.length_append,this,arw (fun p hp=>hs p (by rcases List.mem_cons.1 hp with h|h<;>simp[h])),List.length_cons,Nat.add_mul];omega
  have anS:(i+(vs.length+1))*s<=cells.size:=by simpa using hle
  rw[Nat.add_mul,Nat.add_mul] at anS;unfold bG;apply List.ext_getElem?;intro j;have e1:(i+1)*s=i*s+s:=by rw[Nat.add_mul,Nat.one_mul]
  simp only[List.getElem?_append,List.length_append,List.length_take,List.getElem?_take,List.getElem?_drop,List.length_drop,Array.length_toList,hlen,pd,e1];have m1:min (i*s) cells.size=i*s:=by omega
  have m2:min (i*s+s) (i*s+s+(cells.size-(i*s+s)))=i*s+s:=by omega
  simp only[m1,m2];by_cases c1:j<i*s
  ·have c2:j<i*s+s:=by omega
   have c3:j<i*s+s+vs.length*s:=by omega
   have c5:j<i*s+(s+vs.length*s):=by omega
   simp[c1,c2,c3,c5]
  ·by_cases c2:j<i*s+s
   ·have c3:j<i*s+s+vs.length*s:=by omega
    have c5:j<i*s+(s+vs.length*s):=by omega
    have gE:j-i*s<s:=by omega
    simp[c1,c2,c3,c5,gE]
   ·by_cases c3:j<i*s+s+vs.length*s
    ·have c5:j<i*s+(s+vs.length*s):=by omega
     have gE:¬j-i*s<s:=by omega
     have e:j-i*s-s=j-(i*s+s):=by omega
     simp[c1,c2,c3,c5,gE,e]
    ·have c5:¬j<i*s+(s+vs.length*s):=by omega
     have gE:¬i*s+s+vs.length*s+(j-(i*s+s+vs.length*s))<i*s:=by omega
     have c6:¬i*s+s+vs.length*s+(j-(i*s+s+vs.length*s))<i*s+s:=by omega
     have e:i*s+s+(i*s+s+vs.length*s+(j-(i*s+s+vs.length*s))-(i*s+s))=i*s+(s+vs.length*s)+(j-(i*s+(s+vs.length*s))):=by omega
     simp[c3,c5,gE,c6,e]
theorem ac1:∀(l:List (Nat×Operand)) (n:Nat),r4 n l=true->∀j (h:j<l.length),(l[j]).1=n+j:=by
 intro l;induction l with
 |nil=>intro n _ j h;simp at h
 |cons p l ih=>
  obtain⟨i,x⟩:=p;intro n h j hj;simp only[r4,Bool.and_eq_true] at h;cases j with
  |zero=>simpa using Nat.eq_of_beq_eq_true h.1
  |succ j=>have:=ih (n+1) h.2 j (by simpa using hj);simp;omega
section
variable {P:Program}{O:World}{Y:List Nat}{X:Nat->Prop}{D:Nat->Value}{st:aj}{M:Array Value}{w:World}{B:Oper}
theorem aax{ag:List aI}(h:hd ag=true):ag.head?≠some .dn:=by
 intro bU;cases ag with
 |nil=>cases bU
 |cons l r=>
  simp only[List.head?_cons,Option.some.injEq] at bU;subst bU;cases h
theorem ao.Q2(S:ao O Y X D st M w){o:Nat}{cells:List aI}{vs:List Value}{T:TypeId}(hl:cx D st.sites w (az X D st.sites) cells vs)(h1:∀u∈vs,u.oneCell'=true)(hns:mE cells T vs w.heap.size):
  ao O Y X (fun aa=>if aa=o then .pointer (some ⟨w.heap.size,0,none⟩) else D aa) {st with sites:=cp st.sites o (.box (bp st o) cells)} M (w.alloc (.cells vs.toArray T (0,0))):=
 S.make (fun b hb=>RowKit.Below.heap_alloc w _ b hb) rfl rfl rfl (by simp) (fun ab hs=>lE hs) (fun b hb=>by cases hb;exact⟨Nat.le_refl _,by simp⟩)
  (fun hs cR go _ _=>⟨w.heap.size,T,vs,cR,heap_alloc_new w _,hl.1,h1,hns,fun j g1 g2=>(AL go hl).2 j g1 g2⟩)
theorem afX{D:Nat->Value}{sites:List (Nat×Site)}{av:Nat->Prop}{cells:List aI}{T:TypeId}{cur:List Value}{b:Nat}(bi:T=qW)(h:cx D sites w av cells cur)(hs:cells.head?≠some .dn):cx D sites w av (vg cells) cur/\mE (vg cells) T cur b:=by
 unfold vg;split
 ·obtain⟨v,vs,rfl,h1,h2⟩:=h.inv;exact⟨.cons (show dO D sites w av .dn v from trivial) h2,fun _=>⟨bi,.inl (by rw[show v=_ from h1];rfl)⟩⟩
 ·exact⟨h,fun ai=>absurd ai hs⟩
theorem ahj(S:ao O Y X D st M w){C:Ctx}(H:CtxOk P C){elem:TypeId}{z:List aI}{o:Nat}(aG:B.op=.alloc elem)(dz:B.dst=some o)(hz:(C.tt elem).zero=some z)(Z:ck st B.dst=true):
  cH P O Y X st M w B (b0 (.ptr o (bp st o) 0)) [(o,.box (bp st o) (bif elem.beq qW then vg z else z))]:=by
 obtain⟨v,hv,nU⟩:=cd.EZ (w:=w) (H.tt elem) hz;obtain⟨h1,h2,h3⟩:=ud nU;have hns:z.head?≠some .dn:=by
  intro bU;cases z with
  |nil=>cases bU
  |cons l r=>
   simp only[List.head?_cons,Option.some.injEq] at bU;subst bU;simp[k0,pS] at nU
 have dm:(execOp (Act.eval ⟨M,[]⟩) B).run P w=.ok (.value (.pointer (some ⟨w.heap.size,0,none⟩))) (w.alloc (.cells v.cells.toList.toArray elem (0,0))):=by
  unfold execOp;simp[aG,Instr.alloc,hv,newVar,newRow]
 have key:∀cells,cx D st.sites w (az X D st.sites) cells v.cells.toList->mE cells elem v.cells.toList w.heap.size->
   cH P O Y X st M w B (b0 (.ptr o (bp st o) 0)) [(o,.box (bp st o) cells)]:=by
  intro cells hl hs;have ch:=S.Q2 (o:=o) (T:=elem) hl h2 hs;refine kV (us:=[(o,.box (bp st o) cells)]) ch Z (vv:=.pointer (some ⟨w.heap.size,0,none⟩)) dm ?_
  refine⟨_,rfl,Ref.mk (ab:=.box (bp st o) cells) ?_ rfl (by simp)⟩
  simp only[bl,c4];simp
 cases bi:elem.beq qW with
 |false=>exact key z ⟨h1,h3 _ _ _ _⟩ fun h=>absurd h hns
 |true=>
  obtain⟨aB,aA⟩:=afX (b:=w.heap.size) (Nat.eq_of_beq_eq_true bi) (⟨h1,h3 D st.sites w (az X D st.sites)⟩:cx D st.sites w (az X D st.sites) z v.cells.toList) hns;exact key _ aB aA
theorem akC(S:ao O Y X D st M w){elem:TypeId}{x:Operand}{a:bP}{o:Nat}(aG:B.op=.box elem x)(dz:B.dst=some o)(ha:gU D st.sites w (az X D st.sites) a (Act.eval ⟨M,[]⟩ x))
  (dH:hd a.cells=true) (Z:ck st B.dst=true):cH P O Y X st M w B (b0 (.ptr o (bp st o) 0)) [(o,.box (bp st o) a.cells)]:=by
 have hl:=ha.cells dH;have ch:=S.Q2 (o:=o) (T:=elem) hl (hl.jv dH) (fun h=>absurd h (aax dH))
 refine kV (us:=[(o,.box (bp st o) a.cells)]) ch Z (vv:=.pointer (some ⟨w.heap.size,0,none⟩)) ?_ ?_
 ·unfold execOp;simp[aG,Instr.box,newVar,newRow]
 ·refine⟨_,rfl,Ref.mk (ab:=.box (bp st o) a.cells) ?_ rfl (by simp)⟩
  simp only[bl,c4];simp
theorem ao.Gm(S:ao O Y X D st M w){o:Nat}{t:a7}{xs:List (den t)}{cs rest:List Value}{T:TypeId}{cap:Nat}(hl:cY w (az X D st.sites) (flat t xs) cs)(hcap:cs.length+rest.length=cap*aY t)(hm:cap<=maxLen)(gD:t.jG=true->T=me):
  ao O Y X (fun aa=>if aa=o then .slice (some ⟨w.heap.size,0,none⟩) xs.length cap else D aa) {st with sites:=cp st.sites o (.row (bp st o) t xs)} M (w.alloc (.cells (cs++rest).toArray T (0,0))):=by
 have hcl:cs.length=xs.length*aY t:=by rw[hl.1,eW]
 have hle:xs.length<=cap:=by
  have:xs.length*aY t<=cap*aY t:=by omega
  exact Nat.le_of_mul_le_mul_right this (lM t)
 refine S.make (fun b hb=>RowKit.Below.heap_alloc w _ b hb) rfl rfl rfl (by simp) (fun ab hs=>lE hs) (fun b hb=>by cases hb;exact⟨Nat.le_refl _,by simp⟩)
  (fun hs cR go _ _=>⟨T,cs,⟨hcl,.inr ⟨w.heap.size,cap,_,(0,0),cR,⟨gD,.inl rfl⟩,heap_alloc_new w _,hle,hm,?_,?_⟩⟩,fun j g1 g2=>oJ go (hl.2 j g1 g2)⟩)
 ·simp[hcap]
 ·rw[<-hcl];simp
theorem aiW:∀{as:List bP} {t:a7} {xs:List (den t)} {us vs:List (Nat×Site)} {ws:List Value},lm t st as=some (xs,us)->ws.length=as.length->
  (∀j (h:j<as.length) (ai:j<ws.length),gU D st.sites w (az X D st.sites) (as[j]) (ws[j]))->kS O Y X D st M w vs->(∀p,p∈us->p∈vs)->
  xs.length=as.length/\cY w (az X D (bl st.sites vs)) (flat t xs) (ws.flatMap fun v=>v.cells.toList)/\∀v,v∈ws->v.cells.size=aY t:=by
 intro as;induction as with
 |nil=>
  intro t xs us vs ws h hl _ _ _;simp only[lm] at h;cases h;have:ws=[]:=List.eq_nil_of_length_eq_zero hl;subst this;exact⟨rfl,⟨rfl,fun j h=>by simp[flat] at h⟩,fun v hv=>by simp at hv⟩
 |cons a as ih=>
  intro t xs us vs ws h hl fy aZ d';match ws,hl with
  |v::ws,hl=>
  simp only[lm] at h;split at h
  ·rename_i ds u1 oW;split at h
   ·rename_i x iK u2 j4 oM;cases h;have b':=fy 0 (by simp) (by simp)
    simp only[List.getElem_cons_zero] at b';have dH:hd a.cells=true:=by
     clear oM ih fy b' hl j4;generalize a.cells=ag at oW;induction ag generalizing ds u1 with
     |nil=>rfl
     |cons l ag ih=>
      simp only[fQ] at oW;split at oW
      ·rename_i d _x kG q8 h1 h2;simp only[hd,Bool.and_eq_true];refine⟨?_,ih _ _ (fun p hp=>d' p (by cases oW;rcases List.mem_append.1 hp with h|h<;>simp[h])) h2⟩
       unfold jK at h1;split at h1<;>first|rfl|cases h1
      ·cases oW
    have ia:=b'.cells dH;have KC:=Ad oW ia aZ (fun p hp=>d' p (List.mem_append.2 (.inl hp)))
    obtain⟨g1,g2,g3⟩:=ih oM (by simpa using hl) (fun j h1 h2=>fy (j+1) (by simpa using h1) (by simpa using h2)) aZ (fun p hp=>d' p (List.mem_append.2 (.inr hp)))
    have VJ:=Ac _ _ _ j4;refine⟨by simp[g1],?_,fun u hu=>?_⟩
    ·simp only[flat,List.flatMap_cons];rw[VJ];have:=iZ ((ht (D:=D) (sites:=st.sites) KC.1 KC.2).append (ht (D:=D) (sites:=st.sites) g2.1 g2.2)|>fun h=>by
      rw[show cD ds++cD (flat t iK)=cD (ds++flat t iK) from by simp[cD]] at h
      exact h)
     exact this
    ·rcases List.mem_cons.1 hu with rfl|hu
     ·have:u.cells.toList.length=ds.length:=KC.1;rw[<-VJ,iV] at this;simpa using this
     ·exact g3 u hu
   ·cases h
  ·cases h
theorem aiX:∀{as:List bP} {t:a7} {xs:List (den t)} {us:List (Nat×Site)},lm t st as=some (xs,us)->dF st.sites us:=by
 intro as;induction as with
 |nil=>intro t xs us h;simp only[lm] at h;cases h;exact .nil
 |cons a as ih=>
  intro t xs us h;simp only[lm] at h;split at h
  ·rename_i ds u1 oW;split at h
   ·rename_i x iK u2 j4 oM;cases h;exact(Hg oW).append (ih oM)
   ·cases h
  ·cases h
theorem _8{us:List (Nat×Site)}(h:dF st.sites us)(o:Nat):bp {st with sites:=bl st.sites us} o=bp st o:=by
 unfold bp aj.ab;simp only;rcases lD h o with h1|⟨s,t,xs,h1,h2⟩
 ·rw[h1]
 ·rw[h2];rcases h1 with h1|h1<;>rw[h1]<;>rfl
end
section
variable {P:Program}{O:World}{Y:List Nat}{X:Nat->Prop}{D:Nat->Value}{st:aj}{M:Array Value}{w:World}{B:Oper}
theorem pD{v:aR}{a:bP}(h:l3 v=some a):v=.av a:=by
 cases v with
 |av b=>cases h;rfl
 |jF _=>cases h
theorem adi:∀{vs:List aR} {as:List bP},nJ vs=some as->vs.length=as.length/\∀j (h:j<vs.length) (ai:j<as.length),vs[j]=.av (as[j]):=by
 intro vs;induction vs with
 |nil=>intro as h;simp only[nJ] at h;cases h;exact⟨rfl,fun j h=>by simp at h⟩
 |cons v vs ih=>
  intro as h;simp only[nJ] at h;split at h
  ·rename_i a n' h1 h2;cases h;obtain⟨g1,g2⟩:=ih h2;refine⟨by simp[g1],fun j aB aA=>?_⟩
   cases j with
   |zero=>exact pD h1
   |succ j=>exact g2 j (by simpa using aB) (by simpa using aA)
  ·cases h
theorem xu{C:Ctx}(H:CtxOk P C){T e:TypeId}{t:a7}{bytes:Nat}(bi:C.tt T=.slice e t bytes):
  P.underlying T=some (.slice e)/\∃i z,P.info? e=some i/\i.size=aY t/\i.bytes=bytes/\i.zero=some z/\z.cells.size=aY t/\(t.jG=true->e=me):=by
 have bF:=H.tt T;rw[bi] at bF;obtain⟨⟨fw,_⟩,z,hinfo,hzs⟩:=bF;refine⟨fw,?_⟩;cases au:P.info? e with
 |none=>simp[au] at hinfo
 |some i=>
  simp only[au,Option.map_some,Option.some.injEq,Prod.mk.injEq] at hinfo;exact⟨i,z,rfl,hinfo.1,hinfo.2.1,hinfo.2.2,hzs⟩
theorem aaH(S:ao O Y X D st M w){C:Ctx}(H:CtxOk P C){T e:TypeId}{t:a7}{bytes len o:Nat}{parts:Array (Nat×Operand)}(bi:C.tt T=.slice e t bytes)(aG:B.op=.buildSlice T len parts)
  (dz:B.dst=some o) (Z:ck st B.dst=true) (hlen:parts.toList.length=len) (qs:r4 0 parts.toList=true) (akm:len*aY t<=1000) {as:List bP} {xs:List (den t)} {us:List (Nat×Site)}
  (has:nJ (parts.toList.map fun p=>a8 C st e p.2)=some as) (j4:lm t st as=some (xs,us)):
  cH P O Y X st M w B (b0 (.own o (bp st o))) (us++[(o,.row (bp st o) t xs)]):=by
 obtain⟨fw,i,z,hi,jC,KO,tA,hzs,gD⟩:=xu H bi;have hfz:=aiX j4;have aZ:kS O Y X D st M w us:=⟨S,hfz⟩;obtain⟨tF,mb⟩:=adi has;let ws:List Value:=parts.toList.map fun p=>Act.eval ⟨M,[]⟩ p.2
 have YW:ws.length=as.length:=by rw[<-tF];simp[ws]
 have anC:∀j (h:j<as.length) (ai:j<ws.length),gU D st.sites w (az X D st.sites) (as[j]) (ws[j]):=by
  intro j h1 h2;have hj:j<(parts.toList.map fun p=>a8 C st e p.2).length:=by rw[tF];exact h1
  have:=mb j hj h1;simp only[List.getElem_map] at this;have bu:=dy S C e (parts.toList[j]'(by simpa using hj)).2
  rw[this] at bu;have h3:cf D st.sites w (az X D st.sites) (.av (as[j])) (ws[j]):=by simpa[ws] using bu
  exact h3
 obtain⟨hxl,dI,hcs⟩:=aiW j4 YW anC aZ (fun p hp=>hp)
 have Bx:xs.length=len:=by rw[hxl,<-YW];simpa[ws] using hlen
 have akn:(parts.map fun(x:Nat×Operand)=>(x.1,Act.eval ⟨M,[]⟩ x.2)).toList=parts.toList.map fun p=>(p.1,Act.eval ⟨M,[]⟩ p.2):=by simp
 have alL:((parts.toList.map fun p=>(p.1,Act.eval ⟨M,[]⟩ p.2)).flatMap fun p:Nat×Value=>p.2.cells.toList)=ws.flatMap fun v=>v.cells.toList:=by
  simp[ws,List.flatMap_map]
 have hcl:(ws.flatMap fun v=>v.cells.toList).length=len*aY t:=by rw[dI.1,eW,Bx]
 have hm:len<=maxLen:=by
  have:len*1<=len*aY t:=Nat.mul_le_mul_left _ (lM t);unfold maxLen;omega
 have ch:=aZ.new.Gm (o:=o) (xs:=xs) (cs:=ws.flatMap fun v=>v.cells.toList) (rest:=[]) (T:=e) (cap:=len) (by exact dI) (by simp[hcl]) hm gD
 rw[_8 hfz,Bx,List.append_nil] at ch;have u7:bl st.sites (us++[(o,.row (bp st o) t xs)])=cp (bl st.sites us) o (.row (bp st o) t xs):=by rw[kU];rfl
 have dm:(Instr.buildSlice T len (parts.map fun(x:Nat×Operand)=>(x.1,Act.eval ⟨M,[]⟩ x.2))).run P w=
   .ok (.slice (some ⟨w.heap.size,0,none⟩) len len) (w.alloc (.cells (ws.flatMap fun v=>v.cells.toList).toArray e)):=by
  by_cases h0:len*i.size=0
  ·have hl0:len=0:=by
    rcases Nat.mul_eq_zero.1 h0 with h|h
    ·exact h
    ·have:=lM t;omega
   subst hl0;have qK:parts.toList=[]:=List.eq_nil_of_length_eq_zero hlen;have CA:ws=[]:=by simp[ws,qK]
   have arW:parts=#[]:=by simpa using qK
   rw[CA];have ls:∀f:Nat->Value,Array.map f (Array.range 0)=#[]:=fun f=>by apply Array.ext';simp
   simp[Instr.buildSlice,run_underlying fw,sizeOf,typeInfo,hi,arW,Instr.fill,newRow,ls]
  ·refine run_buildSlice w T e len _ _ i z fw hi tA (by rw[jC];omega) h0 ?_
   rw[akn];have alA:(((Array.range (len*i.size)).map fun x=>z.cells[x%z.cells.size]!)).size=len*i.size:=by simp
   have:=NN (aY t) (parts.toList.map fun p=>(p.1,Act.eval ⟨M,[]⟩ p.2)) 0 ((Array.range (len*i.size)).map fun x=>z.cells[x%z.cells.size]!)
    (fun j h=>by have:=ac1 _ 0 qs j (by simpa using h);simpa using this)
    (fun p hp=>by
     obtain⟨q,au,rfl⟩:=List.mem_map.1 hp;exact hcs _ (List.mem_map.2 ⟨q,au,rfl⟩))
    (by rw[alA,jC];simp[hlen])
   rw[jC] at this ⊢;rw[this,alL];congr 2
   unfold bG;rw[Nat.zero_mul,List.take_zero,List.nil_append,Nat.zero_add,hcl,List.drop_eq_nil_of_le (by simp),List.append_nil]
 refine kV (us:=us++[(o,.row (bp st o) t xs)]) (by rw[u7];exact ch) Z (vv:=.slice (some ⟨w.heap.size,0,none⟩) len len) ?_ ?_
 ·unfold execOp;simp only[aG,Sem.run_bind];have alF:=dm;simp only[alF,Result.andThen_ok,Sem.run_pure]
 ·rw[u7];refine⟨rfl,Ref.mk (ab:=.row (bp st o) t xs) ?_ rfl (by simp)⟩
  simp only[c4];simp
theorem aay{w:World}{av:Nat->Prop}{t:a7}{z:den t}{zs:List Value}(h:cY w av (enc t z) zs)(n:Nat):cY w av (flat t (List.replicate n z)) ((List.replicate n zs).flatten):=by
 induction n with
 |zero=>exact⟨rfl,fun j h=>by simp[flat] at h⟩
 |succ n ih=>
  have:=iZ ((ht (D:=fun _=>undef) (sites:=[]) h.1 h.2).append (ht (D:=fun _=>undef) (sites:=[]) ih.1 ih.2)|>fun h=>by
   rw[show cD (enc t z)++cD (flat t (List.replicate n z))=cD (enc t z++flat t (List.replicate n z)) from by simp[cD]] at h
   exact h)
  simpa[List.replicate_succ,flat,List.flatMap_cons] using this
theorem aef(z:Array Value)(n:Nat)(hz:0<z.size):((Array.range (n*z.size)).map fun x=>z[x%z.size]!).toList=(List.replicate n z.toList).flatten:=by
 induction n with
 |zero=>simp
 |succ n ih=>
  rw[List.replicate_succ',List.flatten_append];rw[<-ih];apply List.ext_getElem?;intro j;have e:(n+1)*z.size=n*z.size+z.size:=by rw[Nat.add_mul,Nat.one_mul]
  simp only[Array.toList_map,Array.toList_range,List.getElem?_map,List.getElem?_append,List.length_map,List.length_range,List.flatten_cons,List.flatten_nil,List.append_nil,e];by_cases h1:j<n*z.size
  ·rw[List.getElem?_range (by omega)];simp[h1]
  ·by_cases h2:j<n*z.size+z.size
   ·rw[List.getElem?_range h2];have h3:j-n*z.size<z.size:=by omega
    have ay:j%z.size=j-n*z.size:=by
     have:j=z.size*n+(j-n*z.size):=by rw[Nat.mul_comm];omega
     conv=>lhs;rw[this]
     rw[Nat.mul_add_mod,Nat.mod_eq_of_lt h3]
    simp[h1,ay,h3]
   ·rw[List.getElem?_eq_none (by simp;omega)]
    have h3:¬j-n*z.size<z.size:=by omega
    simp[h1,h3]
theorem abl{l:aI}{v:Value}{d:a'}{us:List (Nat×Site)}(h:pS l=some v)(k:jK st l=some (d,us)):us=[]:=by
 cases l with
 |d x=>simp[jK] at k;exact k.2
 |nil t=>simp[jK] at k;exact k.2
 |own o s=>simp[pS] at h
 |clo g bA=>simp[pS] at h
 |_=>simp[jK] at k
theorem aa5(S:ao O Y X D st M w){C:Ctx}(H:CtxOk P C){T e:TypeId}{t:a7}{bytes o:Nat}{l c:Operand}{w0 w1:IntKind}{n m:Int}{z:List aI}{ds:List a'}{us:List (Nat×Site)}{eP:den t}(bi:C.tt T=.slice e t bytes)(aG:B.op=.makeSlice T l c)
  (dz:B.dst=some o) (Z:ck st B.dst=true) (hl:a8 C st 0 l=.av (.ak (.d (.int w0 n)))) (hc:a8 C st 0 c=.av (.ak (.d (.int w1 m)))) (hz:(C.tt e).zero=some z) (gB:fQ st z=some (ds,us)) (j4:dec t ds=some eP):
  ∀r,jj bytes n m eP=some r->cH P O Y X st M w B (b0 (.own o (bp st o))) [(o,.row (bp st o) t r)]:=by
 intro r hr;obtain⟨fw,i,fT,hi,jC,KO,tA,hzs,gD⟩:=xu H bi;obtain⟨v,hv,nU⟩:=cd.EZ (w:=w) (H.tt e) hz;have arF:v=fT:=by
  simp[zeroValue,typeInfo,hi,tA] at hv;exact hv.symm
 subst arF;obtain⟨h1,h2,h3⟩:=ud nU;have gV:us=[]:=by
  clear j4 hz h3 h2 h1;have key:∀{ag:List aI} {vs:List Value} {ds:List a'} {us:List (Nat×Site)},k0 ag=some vs->fQ st ag=some (ds,us)->us=[]:=by
   intro ag;induction ag with
   |nil=>intro vs ds us _ h;simp only[fQ] at h;cases h;rfl
   |cons l ag ih=>
    intro vs ds us h1 h2;simp only[k0] at h1;split at h1
    ·rename_i v cn g1 g2;simp only[fQ] at h2;split at h2
     ·rename_i d _x kG q8 aB aA;cases h2;rw[ih g2 aA,List.append_nil];exact abl g1 aB
     ·cases h2
    ·cases h1
  exact key nU gB
 subst gV;have aZ:kS O Y X D st M w []:=⟨S,.nil⟩;have hrz:cY w (az X D st.sites) ds v.cells.toList:=Ad gB ⟨h1,h3 _ _ _ _⟩ aZ (fun p hp=>hp)
 rw[<-Ac _ _ _ j4] at hrz;unfold jj at hr;split at hr
 ·rename_i hb;obtain⟨b1,b2,b3,rc⟩:=hb;cases hr;have e1:Act.eval ⟨M,[]⟩ l=.int w0 n:=by
   have:=dy S C 0 l;rw[hl] at this;have this:bD _ _ (.int w0 n) _:=this;generalize Act.eval ⟨M,[]⟩ l=u at this;cases this;rfl
  have e2:Act.eval ⟨M,[]⟩ c=.int w1 m:=by
   have:=dy S C 0 c;rw[hc] at this;have this:bD _ _ (.int w1 m) _:=this;generalize Act.eval ⟨M,[]⟩ c=u at this;cases this;rfl
  have Vy:=aay hrz n.toNat;have hlen:((List.replicate n.toNat v.cells.toList).flatten).length=n.toNat*aY t:=by
   rw[Vy.1,eW,List.length_replicate]
  have Sh:(List.replicate m.toNat v.cells.toList).flatten=(List.replicate n.toNat v.cells.toList).flatten++(List.replicate (m.toNat-n.toNat) v.cells.toList).flatten:=by
   rw[<-List.flatten_append,List.replicate_append_replicate];congr 2;omega
  have hcap:((List.replicate n.toNat v.cells.toList).flatten).length+((List.replicate (m.toNat-n.toNat) v.cells.toList).flatten).length=m.toNat*aY t:=by
   rw[<-List.length_append,<-Sh];simp[hzs]
  have hmax:m.toNat<=maxLen:=by omega
  have ch:=S.Gm (o:=o) (T:=e) Vy hcap hmax gD;rw[List.length_replicate,<-Sh] at ch;refine kV (us:=[(o,.row (bp st o) t (List.replicate n.toNat eP))]) ch Z (vv:=.slice (some ⟨w.heap.size,0,none⟩) n.toNat m.toNat) ?_ ?_
  ·unfold maxLen at rc;have aS:IntKind.i64.wrap n=n:=IntWalk.i64_in n (by omega)
   have w2:IntKind.i64.wrap m=m:=IntWalk.i64_in m (by omega)
   have I9:(decide (m<0)||decide (((i.bytes:Nat):Int)*m>2^48))=false:=by
    unfold room at b3;rw[KO];have:(bytes:Int)*m<=140737488355328:=by rw[Int.mul_comm];exact b3
    simp;omega
   have AQ:((Array.range (m.toNat*i.size)).map fun x=>v.cells[x%v.cells.size]!)=((List.replicate m.toNat v.cells.toList).flatten).toArray:=by
    rw[<-aef v.cells m.toNat (by rw[hzs];exact lM t),hzs,jC]
   unfold execOp;simp only[aG,e1,e2,Sem.run_bind];have dm:(Instr.makeSlice T (.int w0 n) (.int w1 m)).run P w=.ok (.slice (some ⟨w.heap.size,0,none⟩) n.toNat m.toNat) (w.alloc (.cells ((List.replicate m.toNat v.cells.toList).flatten).toArray e)):=by
    have qM:¬n<0:=by omega
    have kC:¬n>m:=by omega
    unfold Instr.makeSlice;simp only[Sem.run_bind,run_underlying fw,Result.andThen_ok,asInt,asIntOf,Sem.run_pure,kT hi,aS,w2,I9,Bool.false_eq_true,qM,kC,decide_false,Bool.or_false,Bool.or_self,if_false,
     run_askRoom,sizeOf]
    by_cases hz0:m.toNat*i.size=0
    ·have tu:m.toNat=0:=by
      rcases Nat.mul_eq_zero.1 hz0 with h|h
      ·exact h
      ·have:=lM t;omega
     have ls:∀f:Nat->Value,Array.map f (Array.range 0)=#[]:=fun f=>by apply Array.ext';simp
     simp[tu,newRow,ls]
    ·simp[hz0,tA,zeroValue,kT hi,newRow,AQ]
   simp only[dm,Result.andThen_ok,Sem.run_pure]
  ·refine⟨rfl,Ref.mk (ab:=.row (bp st o) t (List.replicate n.toNat eP)) ?_ rfl (by simp)⟩
   simp only[bl,c4];simp
 ·cases hr
end
theorem aeM{ax lv:Type}(g:ax->Option lv):∀{l:List ax} {r:List lv},l.mapM g=some r->∀{i:Nat} {y:lv},r[i]? =some y->∃x,l[i]? =some x/\g x=some y:=by
 intro l;induction l with
 |nil=>intro r h i y hy;simp at h;subst h;simp at hy
 |cons x l ih=>
  intro r h i y hy;simp only[List.mapM_cons,Option.bind_eq_bind,Option.pure_def] at h;cases hx:g x with
  |none=>simp[hx] at h
  |some z=>
   cases hl:l.mapM g with
   |none=>simp[hx,hl] at h
   |some ey=>
    simp only[hx,hl,Option.bind_some,Option.some.injEq] at h;subst h;cases i with
    |zero=>simp at hy;subst hy;exact⟨x,by simp,hx⟩
    |succ i=>simp at hy;simpa using ih hl hy
section
variable {P:Program}{O:World}{Y:List Nat}{X:Nat->Prop}{D:Nat->Value}{st:aj}{M:Array Value}{w:World}{B:Oper}
theorem ii{k:IntKind}{n:Int}{v:Value}{av:Nat->Prop}(h:bD w av (.int k n) v):v=.int k n:=by cases h;rfl
theorem jx{b:Bool}{v:Value}{av:Nat->Prop}(h:bD w av (.bool b) v):v=.bool b:=by cases h;rfl
theorem gv{s:F}{v:Value}{av:Nat->Prop}(h:bD w av (.str s) v):∃b:ByteArray,v=.string b/\b.data.toList=s:=by
 cases h with
 |str l s h=>exact⟨s,rfl,h⟩
theorem jW(S:ao O Y X D st M w){C:Ctx}{T:TypeId}{x:Operand}{k:IntKind}{n:Int}(h:a8 C st T x=.av (.ak (.d (.int k n)))):Act.eval ⟨M,[]⟩ x=.int k n:=by
 have:=dy S C T x;rw[h] at this;exact ii this
theorem Hc(S:ao O Y X D st M w){C:Ctx}{T:TypeId}{x:Operand}{b:Bool}(h:a8 C st T x=.av (.ak (.d (.bool b)))):Act.eval ⟨M,[]⟩ x=.bool b:=by
 have:=dy S C T x;rw[h] at this;exact jx this
theorem akx(S:ao O Y X D st M w){C:Ctx}{T:TypeId}{x:Operand}{s:F}(h:a8 C st T x=.av (.ak (.d (.str s)))):∃b:ByteArray,Act.eval ⟨M,[]⟩ x=.string b/\b.data.toList=s:=by
 have:=dy S C T x;rw[h] at this;exact gv this
theorem abz{C:Ctx}(H:CtxOk P C){T:TypeId}{aJ:List (Nat×Nat)}{n:Nat}{z:List aI}{eq:Bool}(bi:C.tt T=.struct aJ n z eq):(cd.struct aJ n z eq).ok P T:=by
 have:=H.tt T;rwa[bi] at this
theorem abh(S:ao O Y X D st M w){C:Ctx}(H:CtxOk P C){T:TypeId}{x:Operand}{f off LO:Nat}{aJ:List (Nat×Nat)}{n:Nat}{z:List aI}{eq:Bool}(bi:C.tt T=.struct aJ n z eq)(aG:B.op=.fieldAddr T x f)
  (Z:ck st B.dst=true) (hf:aJ[f]? =some (off,LO)):Holds (DQ off (a8 C st 0 x)) (cH P O Y X st M w B):=by
 obtain⟨fields,fw,⟨anN,arZ⟩,_⟩:=abz H bi;obtain⟨_M,h1,h2⟩:=aeM _ anN hf;have h1':fields[f]? =some _M:=by simpa using h1
 cases hi:P.info? _M.type with
 |none=>simp[hi] at h2
 |some i=>
  simp only[hi,Option.map_some,Option.some.injEq,Prod.mk.injEq] at h2;have hsz:i.size≠0:=by rw[h2.2];exact arZ (off,LO) (List.mem_of_getElem? hf)
  have bu:=dy S C 0 x;have run:∀{b p:Nat},Act.eval ⟨M,[]⟩ x=.pointer (some ⟨b,p,none⟩)->(execOp (Act.eval ⟨M,[]⟩) B).run P w=.ok (.value (.pointer (some ⟨b,p+off,none⟩))) w:=by
   intro b p hx;unfold execOp;simp only[aG,hx,Instr.fieldAt,Instr.sureAddr,Sem.run_bind,run_underlying fw,Result.andThen_ok,h1',Sem.run_pure,fieldPlace,sizeOf,kT hi,hsz,if_false,h2.1,gL]
  unfold DQ;split
  ·rename_i o s p b5;rw[b5] at bu;obtain⟨b,aB,aA⟩:=bu;exact Holds.ok (dE S Z (run aB) ⟨b,rfl,aA⟩)
  ·rename_i cells p b5;rw[b5] at bu;obtain⟨b,q,aB,aA⟩:=bu;refine Holds.ok (dE S Z (run aB) ⟨b,q,by rw[Nat.add_assoc],aA⟩)
  ·rename_i o s t k p b5;rw[b5] at bu;obtain⟨b,aB,aA⟩:=bu;exact Holds.ok (dE S Z (run aB) ⟨b,by rw[Nat.add_assoc],aA⟩)
  ·exact .fail
end
section
variable {P:Program}{O:World}{Y:List Nat}{X:Nat->Prop}{D:Nat->Value}{st:aj}{M:Array Value}{w:World}{B:Oper}
theorem afQ(S:ao O Y X D st M w){C:Ctx}(H:CtxOk P C){T:TypeId}{a x:Operand}{v:bP}(aG:B.op=.store T a x)(Z:ck st B.dst=true)(hk:(C.tt T).known=true)(hv:l3 (a8 C st T x)=some v):
  Holds (sh (C.tt T).size st (a8 C st T a) v) (cH P O Y X st M w B):=by
 have hn:=Fm hk;have qR:=dy S C T a;have hex:=dy S C T x;rw[pD hv] at hex;have hex:gU D st.sites w (az X D st.sites) v (Act.eval ⟨M,[]⟩ x):=hex;have run:∀{b p:Nat} {cur:List Value} {gq:TypeId} {u:Bool} {fz:Nat×Nat},Act.eval ⟨M,[]⟩ a=.pointer (some ⟨b,p,none⟩)->w.heap[b]? =some (.cells cur.toArray gq fz)->mK u gq cur.toArray fz->(Act.eval ⟨M,[]⟩ x).cells.toList.length=(C.tt T).size->
   p+(Act.eval ⟨M,[]⟩ x).cells.toList.length<=cur.length->(∀u∈(Act.eval ⟨M,[]⟩ x).cells.toList,u.oneCell'=true)->
   (execOp (Act.eval ⟨M,[]⟩) B).run P w=.ok .skip (w.setRow b (bG cur p (Act.eval ⟨M,[]⟩ x).cells.toList).toArray):=by
  intro b p cur gq u fz h1 h2 hz h3 ay bo;unfold execOp;simp only[aG,h1,Instr.storeAt,Instr.sureAddr,Sem.run_bind,Sem.run_pure,Result.andThen_ok,Mz (H.tt T) hn h2 hz h3 ay bo]
 unfold sh;cases hlen:v.cells.length.beq (C.tt T).size with
 |false=>simp only[cond_false];exact .fail
 |true=>
  have vp:=Nat.eq_of_beq_eq_true hlen;simp only[cond_true];split
  ·rename_i o s off b5;rw[b5] at qR;split
   ·rename_i cells hb;cases hc:(Nat.ble (off+(C.tt T).size) cells.length&&hd v.cells) with
    |false=>simp only[cond_false];exact .fail
    |true=>
     simp only[cond_true];simp only[Bool.and_eq_true] at hc;have hle:=Nat.le_of_ble_eq_true hc.1;have hl:=hex.cells hc.2;obtain⟨b,gq,cur,h1,h2,h3,ch⟩:=S.afS (gG hb) qR hl (by rw[vp];exact hle) (hl.jv hc.2) hc.2
     exact Holds.fx (xp (us:=[(o,.box s (bG cells off v.cells))]) ch Z (run (u:=false) h1 h2 ⟨(fun h=>by cases h),.inl rfl⟩ (by rw[hl.1];exact vp) h3 (hl.jv hc.2)))
   ·exact .fail
  ·rename_i o s u k off b5;rw[b5] at qR;split
   ·rename_i aD t xs gx;have sv:look st.sites o=some (.row aD t xs):=gx;cases hc:(aD.beq s&&Nat.ble (off+(C.tt T).size) (aY t)&&decide (t=u)) with
    |false=>simp only[cond_false];exact .fail
    |true=>
     simp only[cond_true];simp only[Bool.and_eq_true,decide_eq_true_eq] at hc;obtain⟨⟨hc1,n5⟩,rfl⟩:=hc;have:=Nat.eq_of_beq_eq_true hc1;subst this;have hle:=Nat.le_of_ble_eq_true n5;split
     ·rename_i ds us gB;cases kC:(look us o).isNone with
      |false=>simp only[cond_false];exact .fail
      |true=>
       simp only[cond_true];refine Holds.hF fun ib qD=>?_
       have vH:((xs[k]?).bind fun x=>dec t (bG (enc t x) off ds))=some ib:=qD
       cases Kp:xs[k]? with
       |none=>rw[Kp] at vH;cases vH
       |some wV=>
        rw[Kp] at vH;have j4:dec t (bG (enc t wV) off ds)=some ib:=vH;have hfz:=Hg gB;have aZ:kS O Y X D st M w us:=⟨S,hfz⟩;have dH:hd v.cells=true:=by
         clear hlen vp qD vH j4 kC hfz aZ;revert gB
         generalize v.cells=ag;intro gB;induction ag generalizing ds us with
         |nil=>rfl
         |cons l ag ih=>
          simp only[fQ] at gB;split at gB
          ·rename_i d _x kG q8 h1 h2;simp only[hd,Bool.and_eq_true];refine⟨?_,ih _ _ h2⟩;unfold jK at h1;split at h1<;>first|rfl|cases h1
          ·cases gB
        have hl:=hex.cells dH;have hr:=Ad gB hl aZ (fun p hp=>hp)
        have hdl:ds.length=(C.tt T).size:=by
         have:=hr.1;rw[hl.1] at this;omega
        have I9:look (bl st.sites us) o=some (.row aD t xs):=by
         rcases lD hfz o with h|⟨s2,t2,awm,h,ai⟩
         ·rw[h];exact sv
         ·exfalso
          have:∀(us:List (Nat×Site)) (sites:List (Nat×Site)),look us o=none->look (bl sites us) o=look sites o:=by
           intro us;induction us with
           |nil=>intro sites _;rfl
           |cons p us ih=>
            obtain⟨aa,ab⟩:=p;intro sites Bv;simp only[look] at Bv;cases hb:aa.beq o with
            |true=>simp[hb] at Bv
            |false=>
             simp only[hb,cond_false] at Bv;simp only[bl];rw[ih _ Bv,c4,if_neg];rintro rfl;simp at hb
          have h3:=this us st.sites (by simpa using kC)
          rw[ai,sv] at h3;cases h3
        have an0:=aZ.go (a:=.av (.ak (.eS o aD t k off))) qR;obtain⟨b,gq,cur,fz,h1,h2,hz,h3,ch⟩:=aZ.new.afR I9 an0 Kp (Ac _ _ _ j4) hr (by rw[hdl];exact hle) (hl.jv dH)
        refine xp (aQ:=D) (us:=us++[(o,.row aD t (xs.set k ib))]) ?_ Z (run h1 h2 hz (by rw[hl.1];exact vp) h3 (hl.jv dH))
        rw[kU];exact ch
     ·exact .fail
   ·exact .fail
  ·exact .fail
theorem abd(S:ao O Y X D st M w){C:Ctx}(H:CtxOk P C){T e:TypeId}{t:a7}{bytes:Nat}{x i:Operand}{k:IntKind}{n:Int}(bi:C.tt T=.slice e t bytes)(hi:a8 C st 0 i=.av (.ak (.d (.int k n))))(aG:B.op=.indexAddr T x i)
  (Z:ck st B.dst=true):
  Holds (rA t st (a8 C st T x) n) (cH P O Y X st M w B):=by
 obtain⟨fw,inf,z,ks,jC,KO,tA,hzs,_⟩:=xu H bi;have vL:=jW S hi;have bu:=dy S C T x;have run:∀{a:Addr} {len cap:Nat},Act.eval ⟨M,[]⟩ x=.slice (some a) len cap->0<=n->n<len->(execOp (Act.eval ⟨M,[]⟩) B).run P w=.ok (.value (.pointer (some (a.add (n.toNat*aY t))))) w:=by
  intro a len cap hx h0 h1;unfold execOp;simp[aG,hx,vL,Instr.indexAt,asIntOf,run_underlying fw,h0,h1,sizeOf,kT ks,jC]
 unfold rA;split
 ·rename_i u xs b5;split;case isFalse=>exact .fail
  rename_i nX;subst nX;rw[b5] at bu;have bu:bD w (az X D st.sites) (.sl u xs) (Act.eval ⟨M,[]⟩ x):=bu;refine Holds.eo fun y hy=>?_
  have dW:aP xs n=some y:=hy;unfold aP at dW;split at dW
  ·rename_i h0;have hlt:n.toNat<xs.length:=by
    rcases Nat.lt_or_ge n.toNat xs.length with h|h
    ·exact h
    ·rw[List.getElem?_eq_none h] at dW;cases dW
   generalize hx:Act.eval ⟨M,[]⟩ x=v at bu;cases bu with
   |nil=>simp at hlt
   |sl _ _ a cap cs m hm hcap hb hl hc hr=>
    subst hm;have hne:xs≠[]:=by rintro rfl;simp at hlt
    have hrow:cY w (az X D st.sites) (flat u xs) cs:=⟨hl,hr⟩;have kA:a.spot=none:=by
     have mI:0<cs.length:=by rw[hl,eW];exact Nat.mul_pos (List.length_pos_iff.mpr hne) (lM u)
     have h1:=hc 0 cs[0] (List.getElem?_eq_getElem mI);have h2:a.add 0=a:=by unfold Addr.add;simp
     rw[h2] at h1;unfold World.cell? at h1;split at h1
     ·cases hs:a.spot with
      |none=>rfl
      |some _=>simp[hs] at h1
     ·cases h1
    obtain⟨od,Df,as0⟩:=a;simp only at kA;subst kA;have hcs:hV w od Df cs:=fun j v hv=>by have:=hc j v hv;rwa[gL] at this
    refine dE S Z (run hx h0 (by omega)) ?_
    rw[gL];have iP:=ui u xs n.toNat y dW;have alH:=(hcs.drop (n.toNat*aY u)).take (aY u);have jH:=((ht (D:=D) (sites:=st.sites) hl hr).drop (n.toNat*aY u)).take (aY u);have e2:((cD (flat u xs)).drop (n.toNat*aY u)).take (aY u)=cD (enc u y):=by
     rw[<-iP];simp[cD,List.map_drop,List.map_take]
    rw[e2] at jH;have dI:=iZ jH;have hlt2:od<w.heap.size:=by
     have mI:0<cs.length:=by rw[hl,eW];exact Nat.mul_pos (List.length_pos_iff.mpr hne) (lM u)
     exact World.block_lt_of_cell? w _ (hcs 0 cs[0] (List.getElem?_eq_getElem mI))
    exact⟨od,Df+n.toNat*aY u,by rw[Nat.add_zero],hb hne,hlt2,_,dI.1,alH,dI.2⟩
  ·cases dW
 ·rename_i o s b5;rw[b5] at bu;split
  ·rename_i u xs hrow;split;case isFalse=>exact .fail
   rename_i nX;subst nX;refine Holds.eo fun y hy=>?_
   have dW:a_ xs.length n=some y:=hy;unfold a_ at dW;split at dW
   ·rename_i hb;cases dW;obtain⟨cs,hl,hcell⟩:=S.row hrow;have dH:∃ab,look st.sites o=some ab/\ab.cw=s:=by
     rcases jP hrow with h|h<;>exact⟨_,h,rfl⟩
    obtain⟨ab,iP,lr⟩:=dH;have hv:Act.eval ⟨M,[]⟩ x=D o:=Ref.at bu.2 iP lr;rcases hcell with⟨hn,nV⟩|⟨b,c,cR,Zc,_⟩
    ·subst nV;simp at hb;omega
    ·refine dE S Z (run (by rw[hv];exact cR) hb.1 hb.2) ?_
     rw[gL,Nat.zero_add];exact⟨b,by rw[Nat.add_zero],Ref.mk iP lr ⟨_,_,cR⟩⟩
   ·cases dW
  ·exact .fail
 ·exact .fail
end
section
variable {P:Program}{O:World}{Y:List Nat}{X:Nat->Prop}{D:Nat->Value}{st:aj}{M:Array Value}{w:World}{B:Oper}
theorem P4(S:ao O Y X D st M w){C:Ctx}{cT:Option Operand}{ll l:Int}(h:iF ll (cT.map (a8 C st 0))=some l):
  (cT=none/\l=ll)\/∃x k,cT=some x/\Act.eval ⟨M,[]⟩ x=.int k l:=by
 cases cT with
 |none=>simp only[Option.map_none,iF,Option.some.injEq] at h;exact .inl ⟨rfl,h.symm⟩
 |some x=>
  simp only[Option.map_some] at h;generalize hx:a8 C st 0 x=v at h;unfold iF at h;split at h
  ·rename_i b5;cases b5
  ·rename_i k n b5;cases h;cases b5;exact .inr ⟨x,k,rfl,jW S hx⟩
  ·cases h
theorem nj(t:a7)(xs:List (den t))(n:Nat):flat t (xs.take n)=(flat t xs).take (n*aY t):=by
 rcases Nat.lt_or_ge xs.length n with h|h
 ·rw[List.take_of_length_le (Nat.le_of_lt h),List.take_of_length_le (by rw[eW];exact Nat.mul_le_mul_right _ (Nat.le_of_lt h))]
 ·have:=rs t (xs.take n) (xs.drop n);rw[List.take_append_drop] at this;rw[this,List.take_left' (by rw[eW,List.length_take,Nat.min_eq_left h])]
theorem OS(t:a7)(xs:List (den t))(n:Nat):flat t (xs.drop n)=(flat t xs).drop (n*aY t):=by
 rcases Nat.lt_or_ge xs.length n with h|h
 ·rw[List.drop_eq_nil_of_le (Nat.le_of_lt h),List.drop_eq_nil_of_le (by rw[eW];exact Nat.mul_le_mul_right _ (Nat.le_of_lt h))]
  rfl
 ·have:=rs t (xs.take n) (xs.drop n);rw[List.take_append_drop] at this;rw[this,List.drop_left' (by rw[eW,List.length_take,Nat.min_eq_left h])]
theorem DI{P:Program}{w:World}(isSlice:Bool)(len cap:Nat)(cT hi:Option Value)(l h:Int)(fS:(cT=none/\l=0)\/∃k,cT=some (.int k l))(hhi:(hi=none/\h=len)\/∃k,hi=some (.int k h))
  (h0:0<=l) (h1:l<=h) (h2:h<=len) (hc:len<=cap):(Instr.sliceBounds isSlice len cap cT hi none).run P w=.ok (l.toNat,h.toNat,cap) w:=by
 have bU:0<=h:=by omega
 have Y8:h<=cap:=by omega
 have arL:((h.toNat:Nat):Int)=h:=Int.toNat_of_nonneg bU;rcases fS with⟨rfl,rfl⟩|⟨k,rfl⟩<;>rcases hhi with⟨rfl,rfl⟩|⟨k',rfl⟩
 ·simp[Instr.sliceBounds]
 ·simp[Instr.sliceBounds,Instr.sliceBound,asIntOf,bU,Y8]
 ·simp[Instr.sliceBounds,Instr.sliceBound,asIntOf,h0,h1]
 ·simp[Instr.sliceBounds,Instr.sliceBound,asIntOf,bU,Y8,h0,arL,h1]
theorem afP(s:ByteArray)(l h:Nat)(h2:h<=s.size):(s.extract l h).data.toList=(s.data.toList.take h).drop l:=by
 rw[ByteArray.data_extract,Array.toList_extract];simp[List.extract_eq_take_drop,List.drop_take]
theorem RO{w:World}{av:Nat->Prop}{t:a7}{xs:List (den t)}{b B:Nat}{cs:List Value}(hb:xs≠[]->¬av b)(hr:cY w av (flat t xs) cs)(hc:hV w b B cs)(l h:Nat)(h1:l<=h)(h2:h<=xs.length)(a:Addr)(fj:Nat)(Ze:h-l<=fj)
  (ha:a=⟨b,B+l*aY t,none⟩\/l=h) (Zf:a.block=b):bD w av (.sl t ((xs.take h).drop l)) (.slice (some a) (h-l) fj):=by
 have hlen:((xs.take h).drop l).length=h-l:=by simp;omega
 by_cases Y2:l=h
 ·subst Y2;have:(xs.take l).drop l=[]:=List.eq_nil_of_length_eq_zero (by rw[hlen];omega)
  rw[this];exact .sl t [] a fj [] _ (by simp) Ze (fun hx=>absurd rfl hx) rfl (fun j u hu=>by simp at hu) (fun j h=>by simp[flat] at h)
 ·rcases ha with ha|ha
  ·subst ha;have hf:flat t ((xs.take h).drop l)=((flat t xs).take (h*aY t)).drop (l*aY t):=by
    rw[OS,nj]
   have jH:=((ht (D:=fun _=>undef) (sites:=[]) hr.1 hr.2).take (h*aY t)).drop (l*aY t)
   have e2:((cD (flat t xs)).take (h*aY t)).drop (l*aY t)=cD (flat t ((xs.take h).drop l)):=by
    rw[hf];simp[cD,List.map_drop,List.map_take]
   rw[e2] at jH;have dp:=iZ jH;refine .sl t _ _ fj _ _ hlen.symm Ze (fun hx=>hb ?_) dp.1 (fun j u hu=>?_) dp.2
   ·rintro rfl;simp at hx
   ·rw[gL];exact((hc.take (h*aY t)).drop (l*aY t)) j u hu
  ·exact absurd ha Y2
theorem Gk{w:World}{av:Nat->Prop}{t:a7}{xs:List (den t)}{a:Addr}{cs:List Value}(hb:xs≠[]->¬av a.block)(hr:cY w av (flat t xs) cs)(hc:∀j u,cs[j]? =some u->w.cell? (a.add j)=some u)
  (l h cap:Nat) (h1:l<=h) (h2:h<=xs.length) (hcap:xs.length<=cap):
  bD w av (.sl t ((xs.take h).drop l)) (.slice (if cap=l then some a else(some a).map (·.add (l*aY t))) (h-l) (cap-l)):=by
 by_cases hx:xs=[]
 ·subst hx;have:h=0:=by simpa using h2
  subst this;have hl0:l=0:=by omega
  subst hl0;have:((if cap=0 then some a else(some a).map (·.add (0*aY t))):Option Addr)=some a:=by
   split
   ·rfl
   ·simp[Addr.add]
  rw[this];exact .sl t [] a (cap-0) [] 0 rfl (by omega) (fun hx=>absurd rfl hx) rfl (fun j u hu=>by simp at hu) (fun j h=>by simp[flat] at h)
 ·have kA:a.spot=none:=by
   have mI:0<cs.length:=by rw[hr.1,eW];exact Nat.mul_pos (List.length_pos_iff.mpr hx) (lM t)
   have h1:=hc 0 cs[0] (List.getElem?_eq_getElem mI);have h2:a.add 0=a:=by unfold Addr.add;simp
   rw[h2] at h1;unfold World.cell? at h1;split at h1
   ·cases hs:a.spot with
    |none=>rfl
    |some _=>simp[hs] at h1
   ·cases h1
  obtain⟨od,Df,as0⟩:=a;simp only at kA;subst kA;have hcs:hV w od Df cs:=fun j v hv=>by have:=hc j v hv;rwa[gL] at this
  split
  ·rename_i e;exact RO hb hr hcs l h h1 h2 _ _ (by omega) (.inr (by omega)) rfl
  ·simp only[Option.map_some,gL];exact RO hb hr hcs l h h1 h2 _ _ (by omega) (.inl rfl) rfl
theorem Od{v:aR}{us mM:List (Nat×Site)}(e:bl st.sites us=bl st.sites mM)(h:cH P O Y X st M w B v us):cH P O Y X st M w B v mM:=by
 have:st.cU B.dst v mM=st.cU B.dst v us:=by cases B.dst<;>simp only[aj.cU,aj.uD,e]
 intro K Q bR;rw[this] at bR;exact h K Q bR
theorem afV(S:ao O Y X D st M w){C:Ctx}(H:CtxOk P C){T:TypeId}{x:Operand}{cT hi:Option Operand}(aG:B.op=.slice T x cT hi none)(Z:ck st B.dst=true):
  Holds (sk (C.tt T) st (a8 C st T x) (cT.map (a8 C st 0)) (hi.map (a8 C st 0))) (cH P O Y X st M w B):=by
 have bu:=dy S C T x;have qt:∀{cT:Option Operand} {ll l:Int},iF ll (cT.map (a8 C st 0))=some l->(cT.map (Act.eval ⟨M,[]⟩)=none/\l=ll)\/∃k,cT.map (Act.eval ⟨M,[]⟩)=some (.int k l):=by
  intro cT ll l h;rcases P4 S h with⟨rfl,ai⟩|⟨x,k,rfl,ai⟩
  ·exact .inl ⟨rfl,ai⟩
  ·exact .inr ⟨k,by simp[ai]⟩
 have runs:∀{vv:Value},(Instr.sliceAt T (Act.eval ⟨M,[]⟩ x) (cT.map (Act.eval ⟨M,[]⟩)) (hi.map (Act.eval ⟨M,[]⟩)) none).run P w=.ok vv w->(execOp (Act.eval ⟨M,[]⟩) B).run P w=.ok (.value vv) w:=by
  intro vv h;unfold execOp;simp only[aG,Option.map_none,Sem.run_bind,h,Result.andThen_ok,Sem.run_pure]
 have vh:∀{e:TypeId} {t:a7} {bytes:Nat} {a:Option Addr} {len cap:Nat} {l h:Int},C.tt T=.slice e t bytes->Act.eval ⟨M,[]⟩ x=.slice a len cap->iF 0 (cT.map (a8 C st 0))=some l->iF len (hi.map (a8 C st 0))=some h->
   0<=l->l<=h->h<=len->len<=cap->(execOp (Act.eval ⟨M,[]⟩) B).run P w=.ok (.value (.slice (if cap=l.toNat then a else a.map (·.add (l.toNat*aY t))) (h.toNat-l.toNat) (cap-l.toNat))) w:=by
  intro e t bytes a len cap l h bi hx fS hhi h0 h1 h2 hc;obtain⟨fw,inf,z,ks,jC,_⟩:=xu H bi;refine runs ?_
  have hb:=DI (P:=P) (w:=w) true len cap (cT.map (Act.eval ⟨M,[]⟩)) (hi.map (Act.eval ⟨M,[]⟩)) l h (qt fS) (qt hhi) h0 h1 h2 hc;simp only[Instr.sliceAt,Instr.slice,Sem.run_bind,run_underlying fw,Result.andThen_ok,hx,hb,sizeOf,kT ks,jC,Sem.run_pure]
 unfold sk;split
 ·rename_i s b5;rw[b5] at bu;obtain⟨b,hx,hs⟩:=gv bu;split
  ·rename_i l h bi fS hhi;have bF:=H.tt T;rw[bi] at bF;refine Holds.eo fun r hr=>?_
   have dp:bw s l h=some r:=hr;unfold bw at dp;split at dp
   ·rename_i hb;obtain⟨h0,h1,h2⟩:=hb;cases dp;have hsz:s.length=b.size:=by rw[<-hs];rfl
    rw[hsz] at h2 hhi;refine dE S Z (vv:=.string (b.extract l.toNat h.toNat)) (runs ?_) (.str _ _ ?_)
    ·have hb:=DI (P:=P) (w:=w) false b.size b.size (cT.map (Act.eval ⟨M,[]⟩)) (hi.map (Act.eval ⟨M,[]⟩)) l h (qt fS) (qt hhi) h0 h1 h2 (Nat.le_refl _);simp[Instr.sliceAt,Instr.slice,run_underlying bF.1,hx,hb]
    ·rw[afP b _ _ (by omega),hs]
   ·cases dp
  ·exact .fail
 ·rename_i t xs b5;rw[b5] at bu;have bu:bD w (az X D st.sites) (.sl t xs) (Act.eval ⟨M,[]⟩ x):=bu;split
  ·rename_i e u bytes l h bi fS hhi;split;case isFalse=>exact .fail
   rename_i nX;subst nX;refine Holds.eo fun r hr=>?_
   have dp:bw xs l h=some r:=hr;unfold bw at dp;split at dp
   ·rename_i hb;obtain⟨h0,h1,h2⟩:=hb;cases dp;generalize hx:Act.eval ⟨M,[]⟩ x=v at bu;cases bu with
    |nil=>
     have bU:h=0:=by simp at h2;omega
     have hl:l=0:=by omega
     subst bU hl;refine dE S Z (vh bi hx fS hhi h0 h1 h2 (Nat.le_refl _)) ?_
     simp only[List.take_nil,List.drop_nil];exact bD.nil t
    |sl _ _ a cap cs m hm hcap hb hl hc hr=>
     subst hm;refine dE S Z (vh bi hx fS hhi h0 h1 h2 hcap) ?_
     exact Gk hb ⟨hl,hr⟩ hc l.toNat h.toNat cap (by omega) (by omega) hcap
   ·cases dp
  ·exact .fail
 ·rename_i t b5;rw[b5] at bu;have hx:Act.eval ⟨M,[]⟩ x=.slice none 0 0:=bu;split
  ·rename_i e u bytes l h bi fS hhi;refine Holds.eo fun r hr=>?_
   have dp:bw ([]:List (den t)) l h=some r:=hr;unfold bw at dp;split at dp
   ·rename_i hb;obtain⟨h0,h1,h2⟩:=hb;cases dp;have bU:h=0:=by simp at h2;omega
    have hl:l=0:=by omega
    subst bU hl;refine dE S Z (vh bi hx fS hhi h0 h1 h2 (Nat.le_refl _)) ?_
    simp only[List.take_nil,List.drop_nil];exact bD.nil t
   ·cases dp
  ·exact .fail
 ·rename_i o s b5;rw[b5] at bu;split
  ·rename_i t xs hrow;split
   ·rename_i e u bytes l h bi fS hhi;split;case isFalse=>exact .fail
    rename_i nX;subst nX;refine Holds.hF fun r hr=>?_
    have dp:bw xs l h=some r:=hr;unfold bw at dp;split at dp
    ·rename_i hb;obtain⟨h0,h1,h2⟩:=hb;cases dp;refine Od (us:=[(o,.dh s t xs)]) (PV hrow).symm ?_
     have hfz:dF st.sites [(o,.dh s t xs)]:=by
      intro aa ab hm;simp only[List.mem_singleton,Prod.mk.injEq] at hm;obtain⟨rfl,rfl⟩:=hm;exact⟨s,t,xs,rfl,jP hrow⟩
     have aZ:kS O Y X D st M w [(o,.dh s t xs)]:=⟨S,hfz⟩;have KJ:=Dk hfz (List.mem_singleton.2 rfl);obtain⟨dI,Te⟩:=aZ.new.sites o _ KJ;have hv:Act.eval ⟨M,[]⟩ x=D o:=by
      rcases jP hrow with h1|h1<;>exact Ref.at bu.2 h1 rfl
     generalize hx:D o=v at dI Te;rw[hx] at hv;cases dI with
     |nil=>
      have bU:h=0:=by simp at h2;omega
      have hl:l=0:=by omega
      subst bU hl;refine kV (us:=[(o,.dh s t [])]) aZ.new Z (vh bi hv fS hhi h0 h1 h2 (Nat.le_refl _)) ?_
      simp only[List.take_nil,List.drop_nil];exact bD.nil t
     |sl _ _ a cap cs m hm hcap hb hl hc hr=>
      subst hm;refine kV (us:=[(o,.dh s t xs)]) aZ.new Z (vh bi hv fS hhi h0 h1 h2 hcap) ?_
      exact Gk hb ⟨hl,hr⟩ hc l.toNat h.toNat cap (by omega) (by omega) hcap
    ·cases dp
   ·exact .fail
  ·exact .fail
 ·exact .fail
end
section
variable {P:Program}{O:World}{Y:List Nat}{X:Nat->Prop}{D:Nat->Value}{st:aj}{M:Array Value}{w:World}{B:Oper}
theorem QU{av:Nat->Prop}{o s:Nat}{t:a7}{xs:List (den t)}{v:Value}(h:cf D st.sites w av (b0 (.own o s)) v)(hr:rowOf st o s=some ⟨t,xs⟩):v=D o:=by
 rcases jP hr with h1|h1<;>exact Ref.at h.2 h1 rfl
theorem Q1(S:ao O Y X D st M w){l:aI}{v:Value}{t:a7}{es:List (F×den t)}(h:dO D st.sites w (az X D st.sites) l v)(hm:mapOf st l=some ⟨t,es⟩):
  (v=.map none/\es=[])\/∃b,v=.map (some b)/\lV w b t es:=by
 unfold mapOf at hm;split at hm
 ·cases hm;have h:bD w (az X D st.sites) (.map t es) v:=h;cases h with
  |vF=>exact .inl ⟨rfl,rfl⟩
  |map _ _ b hb hm=>exact .inr ⟨b,rfl,hm⟩
 ·rename_i o s;split at hm
  ·rename_i aD u tI hl;cases hb:aD.beq s with
   |false=>rw[hb] at hm;cases hm
   |true=>
    rw[hb] at hm;have hs:=Nat.eq_of_beq_eq_true hb;subst hs;cases hm;have hl:look st.sites o=some (.map aD _ es):=hl;have hv:v=D o:=Ref.at h.2 hl rfl;obtain⟨b,h1,h2⟩:=S.sites o _ hl;exact .inr ⟨b,hv.trans h1,h2⟩
  ·cases hm
 ·cases hm
theorem lV.size{b:Nat}{t:a7}{es:List (F×den t)}{arr:Array MapEntry}(h:my arr=jY t es):arr.size=es.length:=by
 have:=congrArg List.length h;simpa[my,jY] using this
theorem aki(S:ao O Y X D st M w){C:Ctx}(H:CtxOk P C){T:TypeId}{x:Operand}(aG:B.op=.call {callee:=.builtin .len,args:=#[x],argTypes:=#[T]})(Z:ck st B.dst=true):
  Holds (s3 (C.tt T) st (a8 C st T x)) (cH P O Y X st M w B):=by
 have bu:=dy S C T x;have bF:=H.tt T;have run:∀{vv:Value},(Builtin.len_ #[T] B.type #[Act.eval ⟨M,[]⟩ x]).run P w=.ok vv w->(execOp (Act.eval ⟨M,[]⟩) B).run P w=.ok (.value vv) w:=by
  intro vv h;unfold execOp;simp only[aG,resolve,invoke,builtin,Sem.run_bind,Sem.run_pure,Result.andThen_ok,List.map_toArray,List.map_cons,List.map_nil,h]
 unfold s3;split
 ·rename_i s bi b5;rw[b5] at bu;rw[bi] at bF;obtain⟨b,hx,hs⟩:=gv bu;refine Holds.ok (dE S Z (run (vv:=.int .i64 s.length) ?_) (.int _ _));have:s.length=b.size:=by rw[<-hs];rfl
  simp[Builtin.len_,hx,run_underlying bF.1,goInt,this]
 ·rename_i e t b u xs bi b5;rw[b5] at bu;rw[bi] at bF;have bu:bD w (az X D st.sites) (.sl u xs) (Act.eval ⟨M,[]⟩ x):=bu;refine Holds.ok (dE S Z (run (vv:=.int .i64 xs.length) ?_) (.int _ _));generalize Act.eval ⟨M,[]⟩ x=v at bu;cases bu with
  |nil=>simp[Builtin.len_,run_underlying bF.1.1,goInt]
  |sl _ _ a cap cs n hn hcap hb hl hc hr=>simp[Builtin.len_,run_underlying bF.1.1,goInt,hn]
 ·rename_i e t b u bi b5;rw[b5] at bu;rw[bi] at bF;have hx:Act.eval ⟨M,[]⟩ x=.slice none 0 0:=bu;exact Holds.ok (dE S Z (run (vv:=.int .i64 0) (by simp[Builtin.len_,hx,run_underlying bF.1.1,goInt])) (.int _ _))
 ·rename_i e t b o s bi b5;rw[b5] at bu;rw[bi] at bF;split
  ·rename_i u xs hrow;have hv:=QU bu hrow;refine Holds.ok (dE S Z (run (vv:=.int .i64 xs.length) ?_) (.int _ _));obtain⟨cs,_,hc⟩:=S.row hrow;rcases hc with⟨h1,h2⟩|⟨bI,c,h1,_⟩
   ·subst h2;simp[Builtin.len_,hv,h1,run_underlying bF.1.1,goInt]
   ·simp[Builtin.len_,hv,h1,run_underlying bF.1.1,goInt]
  ·exact .fail
 ·rename_i hP kO u l bi b5;rw[b5] at bu;rw[bi] at bF;split
  ·rename_i b7 es hm;refine Holds.ok (dE S Z (run (vv:=.int .i64 es.length) ?_) (.int _ _));rcases Q1 S bu hm with⟨h1,rfl⟩|⟨b,h1,arr,c,h2,h3⟩
   ·simp[Builtin.len_,h1,run_underlying bF.1.1,goInt]
   ·have hsz:=lV.size (b:=b) h3;simp[Builtin.len_,h1,run_underlying bF.1.1,goInt,MapKept.run_getObj_map h2,hsz,Result.andThen]
  ·exact .fail
 ·exact .fail
theorem agR(S:ao O Y X D st M w){C:Ctx}(H:CtxOk P C){T:TypeId}{x i:Operand}{s:F}{k:IntKind}{n:Int}(aG:B.op=.index T x i)(Z:ck st B.dst=true)(bi:C.tt T=.str)
  (hx:a8 C st T x=.av (.ak (.d (.str s)))) (hi:a8 C st 0 i=.av (.ak (.d (.int k n)))):Holds (.eo (aP s n) fun b=>one (.int .u8 b.toNat)) (cH P O Y X st M w B):=by
 have bF:=H.tt T;rw[bi] at bF;obtain⟨b,hb,hs⟩:=akx S hx;have hn:=jW S hi;refine Holds.eo fun y hy=>?_
 have dW:aP s n=some y:=hy;unfold aP at dW;split at dW
 ·rename_i h0;refine dE S Z (vv:=.int .u8 y.toNat) ?_ (.int _ _);have s7:b[n.toNat]? =some y:=by
   have:n.toNat<s.length:=by
    rcases Nat.lt_or_ge n.toNat s.length with h|h
    ·exact h
    ·rw[List.getElem?_eq_none h] at dW;cases dW
   rw[<-hs] at dW this;have hsz:n.toNat<b.size:=this;rw[getElem?_pos b n.toNat hsz];rw[List.getElem?_eq_getElem this] at dW;have h3:b.data[n.toNat]=y:=by simpa using dW
   rw[<-h3];rfl
  unfold execOp;simp[aG,hb,hn,Instr.index,asIntOf,run_underlying bF.1,h0,s7]
 ·cases dW
theorem bytes_beq(x y:ByteArray):(x==y)=(x.data.toList==y.data.toList):=by
 obtain⟨a⟩:=x;obtain⟨b⟩:=y;have h:((⟨a⟩:ByteArray)==⟨b⟩)=(a==b):=rfl;rw[h,Bool.eq_iff_iff];simp
theorem agZ:∀{z ag:List aI} {vs:List Value},qw z ag=true->cx D st.sites w (az X D st.sites) ag vs->oX z vs=true:=by
 intro z;induction z with
 |nil=>
  intro ag vs h h1;cases ag with
  |nil=>rw[h1.nx];rfl
  |cons l ag=>cases h
 |cons c z ih=>
  intro ag vs h h1;unfold qw at h;split at h
  ·rename_i hz;cases hz
  ·rename_i b5;cases b5;obtain⟨v,cn,rfl,a1,a2⟩:=h1.inv;rw[ii a1];exact ih h a2
  ·rename_i b5;cases b5;obtain⟨v,cn,rfl,a1,a2⟩:=h1.inv;rw[jx a1];exact ih h a2
  ·rename_i b5;cases b5;obtain⟨v,cn,rfl,a1,a2⟩:=h1.inv;obtain⟨x,rfl,hx⟩:=gv a1;exact ih h a2
  ·cases h
theorem ab9:∀{ag iS:List aI} {vs us:List Value} {b:Bool},uV ag iS=some b->cx D st.sites w (az X D st.sites) ag vs->cx D st.sites w (az X D st.sites) iS us->ju vs us=some b:=by
 have leaf:∀{d e:a'} {v u:Value} {b:Bool} {av:Nat->Prop},AM d e=some b->bD w av d v->bD w av e u->nu v u=some b:=by
  intro d e v u b av h h1 h2;unfold AM at h;split at h
  ·rw[ii h1,ii h2];exact h
  ·rw[jx h1,jx h2];exact h
  ·obtain⟨x,rfl,hx⟩:=gv h1;obtain⟨y,rfl,hy⟩:=gv h2;subst hx hy;cases h;show some (x==y)=some (x.data.toList==y.data.toList);rw[bytes_beq]
  ·cases h
 intro ag;induction ag with
 |nil=>intro iS vs us b h _ _;cases iS<;>simp[uV] at h
 |cons l ag ih=>
  intro iS vs us b h h1 h2;obtain⟨v,cn,rfl,a1,a2⟩:=h1.inv;unfold uV at h;split at h
  ·rename_i d e b5;cases b5;obtain⟨u,mM,rfl,b1,b2⟩:=h2.inv;rw[a2.nx,b2.nx];exact leaf h a1 b1
  ·rename_i d ds e es hne b5;cases b5;obtain⟨u,mM,rfl,b1,b2⟩:=h2.inv;split at h
   ·rename_i x y hx hy;cases h;have e1:=leaf hx a1 b1;have e2:=ih hy a2 b2;match cn,mM,e2 with
    |[],[],e2=>simp[ju] at e2
    |[],_::_,e2=>simp[ju] at e2
    |_::_,[],e2=>simp[ju] at e2
    |v2::awn,u2::awo,e2=>rw[ju,e1,e2];simp
   ·cases h
  ·cases h
theorem run_equal_bool{T:TypeId}(h:P.underlying T=some .bool)(a b:Bool):(Op.equal T (.bool a) (.bool b)).run P w=.ok (a==b) w:=by
 have e:Op.maxDepth=9999+1:=rfl;unfold Op.equal;rw[e];unfold Op.equalIn;simp only[Sem.run_bind,run_underlying h,Result.andThen_ok,Sem.run_pure]
theorem run_eql_bool{T:TypeId}(h:P.underlying T=some .bool)(a b:Bool):(binOp .eql T (.bool a) (.bool b)).run P w=.ok (.bool (a==b)) w:=by
 show((do pure (.bool (<-Op.equal T (.bool a) (.bool b)))):Sem Value).run P w=_
 simp only[Sem.run_bind,run_equal_bool h,Result.andThen_ok,Sem.run_pure]
theorem run_neq_bool{T:TypeId}(h:P.underlying T=some .bool)(a b:Bool):(binOp .neq T (.bool a) (.bool b)).run P w=.ok (.bool (!(a==b))) w:=by
 show((do pure (.bool (!(<-Op.equal T (.bool a) (.bool b))))):Sem Value).run P w=_
 simp only[Sem.run_bind,run_equal_bool h,Result.andThen_ok,Sem.run_pure]
theorem ai4(S:ao O Y X D st M w){C:Ctx}(H:CtxOk P C){op:BinOp}{T mZ:TypeId}{x y:Operand}(aG:B.op=.binOp op T x y mZ)(Z:ck st B.dst=true):
  Holds (Jm op (C.tt T) (a8 C st T x) (a8 C st T y)) (cH P O Y X st M w B):=by
 have hx:=dy S C T x;have hy:=dy S C T y;have bF:=H.tt T;have run:∀{vv:Value},(eqGuard op T x y (Act.eval ⟨M,[]⟩ x) (Act.eval ⟨M,[]⟩ y)).run P w=.ok () w->(binOp op T (Act.eval ⟨M,[]⟩ x) (Act.eval ⟨M,[]⟩ y)).run P w=.ok vv w->
   (execOp (Act.eval ⟨M,[]⟩) B).run P w=.ok (.value vv) w:=by
  intro vv h1 h2;unfold execOp;simp only[aG,Sem.run_bind,h1,h2,Result.andThen_ok,Sem.run_pure]
 have plain:∀{r:de},(eqGuard op T x y (Act.eval ⟨M,[]⟩ x) (Act.eval ⟨M,[]⟩ y)).run P w=.ok () w->Holds r (Plain P w (binOp op T (Act.eval ⟨M,[]⟩ x) (Act.eval ⟨M,[]⟩ y)))->Holds r (cH P O Y X st M w B):=by
  intro r h1 h2 z hz hc;obtain⟨vv,d,g1,g2,g3,g4⟩:=h2 z hz hc;rw[g2,g3];exact dE S Z (run h1 g1) (g4 _)
 unfold Jm;split
 ·rename_i k a k' b hxe hye;rw[hxe] at hx;rw[hye] at hy;refine plain (by rw[ii hx,ii hy];exact aah _ _ _ _ _ _ _ _) ?_
  rw[ii hx,ii hy];unfold R6;split
  ·refine Holds.eo fun n hn=>?_
   have iu:lh k a b=some n:=hn;unfold lh at iu;split at iu
   ·cases iu
   ·rename_i hb;cases iu;exact .mk (by simp[binOp,Op.shift,hb]) fun av=>.int _ _
  ·refine Holds.eo fun n hn=>?_
   have iu:e9 k a b=some n:=hn;unfold e9 at iu;split at iu
   ·cases iu
   ·rename_i hb;cases iu;exact .mk (by simp[binOp,Op.shift,hb]) fun av=>.int _ _
  ·rename_i h1 h2;split
   ·rename_i hk;subst hk;exact ad7 _ T k a b h1 h2
   ·exact .fail
 ·rename_i s t hxe hye;rw[hxe] at hx;rw[hye] at hy;obtain⟨a,ha,hs⟩:=gv hx;obtain⟨b,hb,aq⟩:=gv hy;subst hs aq;refine plain (by rw[ha,hb];exact _4 _ _ _ _ _ _) ?_
  rw[ha,hb];exact ad5 op T a b
 ·rename_i a b hxe hye;rw[hxe] at hx;rw[hye] at hy;unfold St;split
  ·rename_i bi;rw[bi] at bF;split
   ·refine plain (by rw[jx hx,jx hy];exact My _ _ _ _ _ _) (Holds.ok ?_)
    rw[jx hx,jx hy];exact .mk (run_eql_bool bF.1 _ _) fun av=>.bool _
   ·refine plain (by rw[jx hx,jx hy];exact My _ _ _ _ _ _) (Holds.ok ?_)
    rw[jx hx,jx hy];exact .mk (run_neq_bool bF.1 _ _) fun av=>.bool _
   ·exact .fail
  ·exact .fail
 ·rename_i xs bh hxe hye;rw[hxe] at hx;rw[hye] at hy;unfold Tj;split
  ·rename_i aJ n z bi;rw[bi] at bF;cases hl:xs.length.beq n&&qw z xs with
   |false=>exact .fail
   |true=>
    simp only[cond_true];simp only[Bool.and_eq_true] at hl;have gh:=Nat.eq_of_beq_eq_true hl.1;split
    ·rename_i b hb;obtain⟨vs,hv,o9,o8⟩:=hx;obtain⟨us,hu,Ku,Kt⟩:=hy;have tC:=ab9 hb ⟨o9,o8⟩ ⟨Ku,Kt⟩;obtain⟨fields,fw,_,⟨fT,hz,_,_⟩,b5⟩:=bF;obtain⟨hg,I_⟩:=b5 rfl;have:=I_ vs us b w tC (agZ hl.2 ⟨o9,o8⟩);split
     ·refine plain ?_ (Holds.ok ?_)
      ·rw[hv,hu];simp[eqGuard,hg]
      ·rw[hv,hu];refine .mk (vv:=.bool b) ?_ fun av=>.bool _
       show((do pure (.bool (<-Op.equal T (.agg vs.toArray) (.agg us.toArray)))):Sem Value).run P w=_
       simp only[Sem.run_bind,this,Result.andThen_ok,Sem.run_pure]
     ·refine plain ?_ (Holds.ok ?_)
      ·rw[hv,hu];simp[eqGuard,hg]
      ·rw[hv,hu];refine .mk (vv:=.bool (!b)) ?_ fun av=>.bool _
       show((do pure (.bool (!(<-Op.equal T (.agg vs.toArray) (.agg us.toArray))))):Sem Value).run P w=_
       simp only[Sem.run_bind,this,Result.andThen_ok,Sem.run_pure]
     ·exact .fail
    ·exact .fail
  ·exact .fail
 ·exact .fail
theorem aaZ{T:TypeId}{iS:Array (String×TypeId)}(aq:P.underlying T=some (.interface iS))(gq:TypeId)(cZ:Option Int)(v:Value)(hv:v=match cZ with|none=>.nilIface|some n=>.iface gq (.agg #[.int .i64 n])):
  (Op.equal T v .nilIface).run P w=.ok cZ.isNone w:=by
 have h:∀d:Nat,(Op.equalIn (d+1) T v .nilIface).run P w=.ok cZ.isNone w:=fun d=>by
  subst hv;cases cZ<;>simp[Op.equalIn,run_underlying aq]
 exact h 9999
theorem ae7(S:ao O Y X D st M w){C:Ctx}(H:CtxOk P C){op:BinOp}{T mZ:TypeId}{x y:Operand}(aG:B.op=.binOp op T x y mZ)(Z:ck st B.dst=true)(hn:AO y=true):
  Holds (Ic op (C.tt T) (a8 C st T x)) (cH P O Y X st M w B):=by
 have hy:y=.const .nilIface:=by
  unfold AO at hn;split at hn
  ·rfl
  ·cases hn
 subst hy;have hx:=dy S C T x;have bF:=H.tt T;have key:∀(gq:TypeId) (cZ:Option Int),(Act.eval ⟨M,[]⟩ x=match cZ with|none=>.nilIface|some n=>.iface gq (.agg #[.int .i64 n]))->Holds (BD op (C.tt T) cZ) (cH P O Y X st M w B):=by
  intro gq cZ hv;unfold BD;split
  ·rename_i bi;rw[bi] at bF;obtain⟨iS,bF⟩:=bF;have he:=aaZ (P:=P) (w:=w) bF.1 gq cZ _ hv;have hg:(eqGuard op T x (.const .nilIface) (Act.eval ⟨M,[]⟩ x) .nilIface).run P w=.ok () w:=by
    rw[hv];cases cZ<;>cases op<;>simp[eqGuard]
   split
   ·refine Holds.ok (dE S Z (vv:=.bool cZ.isNone) ?_ (.bool _));unfold execOp;simp only[aG,Act.eval,Sem.run_bind,Result.andThen_ok,Sem.run_pure] at hg ⊢;rw[hg];simp only[Result.andThen_ok];have:(binOp .eql T (Act.eval ⟨M,[]⟩ x) .nilIface).run P w=.ok (.bool cZ.isNone) w:=by
     have e:binOp .eql T (Act.eval ⟨M,[]⟩ x) .nilIface=(do pure (.bool (<-Op.equal T (Act.eval ⟨M,[]⟩ x) .nilIface))):=by rw[hv];cases cZ<;>rfl
     rw[e];simp only[Sem.run_bind,he,Result.andThen_ok,Sem.run_pure]
    simp only[Act.eval] at this;rw[this];rfl
   ·refine Holds.ok (dE S Z (vv:=.bool cZ.isSome) ?_ (.bool _));unfold execOp;simp only[aG,Act.eval,Sem.run_bind,Result.andThen_ok,Sem.run_pure] at hg ⊢;rw[hg];simp only[Result.andThen_ok];have:(binOp .neq T (Act.eval ⟨M,[]⟩ x) .nilIface).run P w=.ok (.bool cZ.isSome) w:=by
     have e:binOp .neq T (Act.eval ⟨M,[]⟩ x) .nilIface=(do pure (.bool (!(<-Op.equal T (Act.eval ⟨M,[]⟩ x) .nilIface)))):=by rw[hv];cases cZ<;>rfl
     rw[e];simp only[Sem.run_bind,he,Result.andThen_ok,Sem.run_pure];cases cZ<;>rfl
    simp only[Act.eval] at this;rw[this];rfl
   ·exact .fail
  ·exact .fail
 unfold Ic;split
 ·rename_i gq cZ hxe;rw[hxe] at hx;have hx:bD w (az X D st.sites) (.err gq cZ) (Act.eval ⟨M,[]⟩ x):=hx;exact key gq cZ (by revert hx;generalize Act.eval ⟨M,[]⟩ x=vv;intro hx;cases hx<;>rfl)
 ·rename_i hxe;rw[hxe] at hx;exact key 0 none hx
 ·exact .fail
theorem _9(S:ao O Y X D st M w){C:Ctx}(H:CtxOk P C){T:TypeId}{x:Operand}{n:Int}{aJ z q e}(aG:B.op=.makeInterface T x)(Z:ck st B.dst=true)(bi:C.tt T=.struct aJ q z e)
  (hx:a8 C st T x=.av (.agg [.d (.int .i64 n)])):cH P O Y X st M w B (one (.err T (some n))) []:=by
 have bF:=H.tt T;rw[bi] at bF;obtain⟨fields,hu,_⟩:=bF;have bu:=dy S C T x;rw[hx] at bu;obtain⟨vs,h1,h2,h3⟩:=bu;match vs,h2,h1,h3 with
 |[v],_,h1,h3=>
  have hv:=ii (h3 0 (by simp) (by simp))
  simp only[List.getElem_cons_zero] at hv;subst hv;refine dE S Z (vv:=.iface T (.agg #[.int .i64 n])) ?_ (.err _ _);unfold execOp;simp[aG,Instr.makeInterface,run_underlying hu,h1]
end
section
variable {P:Program}{O:World}{Y:List Nat}{X:Nat->Prop}{D:Nat->Value}{st:aj}{M:Array Value}{w:World}{B:Oper}
theorem sd(xs:List Int):flat .u8 xs=xs.map (a'.int .u8):=by
 unfold flat;induction xs with
 |nil=>rfl
 |cons x xs ih=>simp only[List.flatMap_cons,List.map_cons,ih];rfl
theorem RN{w:World}{av:Nat->Prop}{xs:List Int}{cs:List Value}(h:cY w av (flat .u8 xs) cs):cs=xs.map (Value.int .u8):=by
 obtain⟨h1,h2⟩:=h;rw[sd] at h1;apply List.ext_getElem
 ·rw[h1];simp
 ·intro j g1 g2;have g3:j<xs.length:=by simpa using g2
  have:=h2 j (by rw[sd];simpa using g3) g1
  have e:(flat .u8 xs)[j]'(by rw[sd];simpa using g3)=a'.int .u8 xs[j]:=by simp[sd]
  rw[e] at this;rw[ii this];simp
theorem ML{src dst e:TypeId}{a:Addr}{len cap:Nat}{xs:List Int}(hs:P.underlying src=some (.slice e))(he:P.underlying e=some (.int .u8))(Z:P.underlying dst=some .string)
  (hlen:xs.length=len) (hc:∀j u,(xs.map (Value.int .u8))[j]? =some u->w.cell? (a.add j)=some u):
  ∃b:ByteArray,(convert src dst (.slice (some a) len cap)).run P w=.ok (.string b) w/\b.data.toList=strOf xs:=by
 have hl:(loadCells a len).run P w=.ok (xs.map (Value.int .u8)).toArray w:=by
  have:=run_loadCells_list (P:=P) w a (xs.map (Value.int .u8)) hc;simpa[hlen] using this
 rw[run_convert_bytes_string w src dst e _ len cap hs he Z,run_bytesToString w a len cap xs hl,foldl_push_bytes];exact⟨_,rfl,by simp[strOf]⟩
theorem xA{ti:cd}(h:isByte ti=true):ti=.int .u8:=by
 unfold isByte at h;split at h
 ·rfl
 ·cases h
theorem aff(s:F):(bytesOf s).length=s.length:=by simp[bytesOf]
theorem ag9(S:ao O Y X D st M w){C:Ctx}(H:CtxOk P C){src dst:TypeId}{x:Operand}{o:Nat}(aG:B.op=.convert src dst x)(dz:B.dst=some o)(Z:ck st B.dst=true):
  Holds (sT C src dst o st (a8 C st src x)) (cH P O Y X st M w B):=by
 have bu:=dy S C src x;have hs:=H.tt src;have aq:=H.tt dst;have run:∀{vv:Value} {w':World},(convert src dst (Act.eval ⟨M,[]⟩ x)).run P w=.ok vv w'->(execOp (Act.eval ⟨M,[]⟩) B).run P w=.ok (.value vv) w':=by
  intro vv w' h;unfold execOp;simp only[aG,Sem.run_bind,h,Result.andThen_ok,Sem.run_pure]
 have qA:∀{ti:cd},ti.ok P src->ti≠.none->∃d,P.underlying src=some d:=by
  intro ti h hn;cases ti with
  |none=>exact absurd rfl hn
  |int k=>exact⟨_,h.1⟩
  |bool=>exact⟨_,h.1⟩
  |str=>exact⟨_,h.1⟩
  |ptr=>obtain⟨_,h⟩:=h;exact⟨_,h.1⟩
  |func=>obtain⟨_,_,_,h⟩:=h;exact⟨_,h.1⟩
  |iface=>obtain⟨_,h⟩:=h;exact⟨_,h.1⟩
  |slice e t b=>exact⟨_,h.1.1⟩
  |map k e t=>exact⟨_,h.1.1⟩
  |struct aJ n z eq=>obtain⟨f,h,_⟩:=h;exact⟨_,h⟩
  |arr e t n=>exact⟨_,h.1⟩
 unfold sT;split
 ·exact .fail
 ·rename_i k k' n hk hx hn;rw[hx] at bu;rw[hk] at aq;obtain⟨d,qS⟩:=qA hs (by rintro h;exact absurd h (by simpa using hn))
  refine Holds.ok (dE S Z (run (vv:=.int k (k.wrap n)) ?_) (.int _ _));rw[ii bu];simp[convert,run_underlying qS,run_underlying aq.1,Conv.intToInt]
 ·rename_i s hk hx hn;rw[hx] at bu;rw[hk] at aq;obtain⟨b,hb,ep⟩:=gv bu;obtain⟨d,qS⟩:=qA hs (by rintro h;exact absurd h (by simpa using hn))
  refine Holds.ok (dE S Z (run (vv:=.string b) ?_) (.str _ _ ep));rw[hb];simp[convert,run_underlying qS,run_underlying aq.1]
 ·rename_i e b xs fa qg hx;cases jJ:isByte (C.tt e) with
  |false=>exact .fail
  |true=>
   rw[hx] at bu;rw[qg] at aq;rw[fa] at hs;have he:=H.tt e;rw[xA jJ] at he;have bu:bD w (az X D st.sites) (.sl .u8 xs) (Act.eval ⟨M,[]⟩ x):=bu;have:∃b:ByteArray,(convert src dst (Act.eval ⟨M,[]⟩ x)).run P w=.ok (.string b) w/\b.data.toList=strOf xs:=by
    generalize Act.eval ⟨M,[]⟩ x=v at bu;cases bu with
    |nil=>exact⟨_,run_convert_bytes_nil w src e hs.1.1 he.1 _ _ dst aq.1,rfl⟩
    |sl _ _ a cap cs n hn hcap hb hl hc hr=>
     have:=RN (xs:=xs) ⟨hl,hr⟩;subst this;exact ML hs.1.1 he.1 aq.1 hn.symm hc
   obtain⟨b,h1,h2⟩:=this;exact Holds.ok (dE S Z (run h1) (.str _ _ h2))
 ·rename_i e b u fa qg hx;cases jJ:isByte (C.tt e) with
  |false=>exact .fail
  |true=>
   rw[hx] at bu;rw[qg] at aq;rw[fa] at hs;have he:=H.tt e;rw[xA jJ] at he;have bu:Act.eval ⟨M,[]⟩ x=.slice none 0 0:=bu;refine Holds.ok (dE S Z (run (vv:=.string ByteArray.empty) ?_) (.str _ _ rfl));rw[bu];exact run_convert_bytes_nil w src e hs.1.1 he.1 _ _ dst aq.1
 ·rename_i e b aa s fa qg hx;split
  ·rename_i xs hrow;cases jJ:isByte (C.tt e) with
   |false=>exact .fail
   |true=>
    rw[hx] at bu;rw[qg] at aq;rw[fa] at hs;have he:=H.tt e;rw[xA jJ] at he;have hv:=QU bu hrow;have:∃b:ByteArray,(convert src dst (Act.eval ⟨M,[]⟩ x)).run P w=.ok (.string b) w/\b.data.toList=strOf xs:=by
     rw[hv];obtain⟨cs,h1,hc⟩:=S.row hrow;rcases hc with⟨h2,h3⟩|⟨bI,c,h2,h3,ay⟩
     ·subst h3;rw[h2];exact⟨_,run_convert_bytes_nil w src e hs.1.1 he.1 _ _ dst aq.1,rfl⟩
     ·have:=RN (xs:=xs) (iZ h1);subst this;rw[h2];exact ML hs.1.1 he.1 aq.1 rfl (fun j u hu=>by rw[gL];exact h3 j u hu)
    obtain⟨b,h1,h2⟩:=this;exact Holds.ok (dE S Z (run h1) (.str _ _ h2))
  ·exact .fail
 ·rename_i e b s fa qg hx;cases jJ:isByte (C.tt e) with
  |false=>exact .fail
  |true=>
   rw[hx] at bu;rw[qg] at aq;rw[fa] at hs;have he:=H.tt e;rw[xA jJ] at he;obtain⟨gF,hb,ep⟩:=gv bu;have dm:(convert src dst (Act.eval ⟨M,[]⟩ x)).run P w=.ok (.slice (some ⟨w.heap.size,0,none⟩) gF.size (grownCap w gF.size 0 e)) (Go.Lib.bytesWorld w e gF):=by
    rw[hb];exact Go.Lib.run_convert_string_bytes w src dst e gF hs.1 aq.1.1 he.1
   have hcap:gF.size<=grownCap w gF.size 0 e:=grownCap_ge w gF.size 0 e;refine Holds.hF fun r hr=>?_
   have hmax:gF.size<=maxLen:=by
    have hr:(if s.length<=maxLen then some () else none)=some r:=hr
    split at hr
    ·rename_i h;rw[<-ep] at h;simpa using h
    ·cases hr
   have hsz:(Go.Lib.bytesCells w e gF).size=grownCap w gF.size 0 e:=by
    simp only[Go.Lib.bytesCells,Array.size_append,Array.size_map,Array.size_replicate];have:gF.data.size=gF.size:=rfl;omega
   have hlen:gF.size=(bytesOf s).length:=by rw[aff,<-ep];rfl
   have ez:ao O Y X (fun aa=>if aa=o then .slice (some ⟨w.heap.size,0,none⟩) gF.size (grownCap w gF.size 0 e) else D aa) {st with sites:=cp st.sites o (.row (bp st o) .u8 (bytesOf s))} M (Go.Lib.bytesWorld w e gF):=by
    refine S.make (fun b hb=>Go.Lib.bytesWorld_at_old w e gF b hb) rfl rfl rfl (by rw[Go.Lib.bytesWorld_size];omega) (fun ab hs=>lE hs)
     (fun b hb=>by cases hb;exact⟨Nat.le_refl _,by rw[Go.Lib.bytesWorld_size];exact Nat.lt_succ_self _⟩) ?_
    intro bV aQ fH j2 go avO avV;refine⟨e,gF.data.toList.map fun b=>Value.int .u8 b.toNat,⟨?_,.inr ⟨_,_,Go.Lib.bytesCells w e gF,_,j2.trans (by rw[hlen]),⟨(fun h=>by obtain⟨_,z,_,_,gD⟩:=aq;exact gD h),.inr ⟨rfl,Nat.le_refl _⟩⟩,Go.Lib.bytesWorld_at_new w e gF,by rw[<-hlen];exact hcap,grownCap_le_maxLen w gF.size 0 e hmax,?_,?_⟩⟩,fun j g1 g2=>?_⟩
    ·rw[List.length_map,<-hlen];exact(Nat.mul_one _).symm
    ·rw[hsz];exact(Nat.mul_one _).symm
    ·have h1:(bytesOf s).length*aY .u8=(gF.data.toList.map fun b=>Value.int .u8 b.toNat).length:=by rw[List.length_map,<-hlen];exact Nat.mul_one _
     rw[h1];simp only[Go.Lib.bytesCells,Array.toList_append,Array.toList_map];exact List.take_left
    ·subst ep;simp only[sd,bytesOf,List.getElem_map];exact .int _ _
   refine kV (us:=[(o,.row (bp st o) .u8 (bytesOf s))]) ez Z (run dm) ?_
   refine⟨rfl,Ref.mk (ab:=.row (bp st o) .u8 (bytesOf s)) ?_ rfl (by simp)⟩
   simp only[bl,c4];simp
 ·exact .fail
end
section
variable {P:Program}{O:World}{Y:List Nat}{X:Nat->Prop}{D:Nat->Value}{st:aj}{M:Array Value}{w:World}{B:Oper}
theorem QZ(S:ao O Y X D st M w){C:Ctx}{x:Operand}(aG:B.op=.move x\/B.op=.assign x)(Z:ck st B.dst=true)(T:TypeId):cH P O Y X st M w B (a8 C st T x) []:=by
 refine dE S Z (vv:=Act.eval ⟨M,[]⟩ x) ?_ (dy S C T x);unfold execOp;rcases aG with h|h<;>simp only[h,Sem.run_pure]
theorem QR(S:ao O Y X D st M w){C:Ctx}{c a b:Operand}{t:Bool}{T:TypeId}(aG:B.op=.pick c a b)(Z:ck st B.dst=true)(hc:a8 C st T c=.av (.ak (.d (.bool t)))):
  cH P O Y X st M w B (a8 C st T (if t then a else b)) []:=by
 refine dE S Z (vv:=Act.eval ⟨M,[]⟩ (if t then a else b)) ?_ (dy S C T _)
 unfold execOp;have:=Hc S hc;cases t<;>simp[aG,this,asBool]
theorem abv(S:ao O Y X D st M w){C:Ctx}{x:Operand}{t:Bool}{T dM:TypeId}(aG:B.op=.unOp .not dM x)(Z:ck st B.dst=true)(hc:a8 C st T x=.av (.ak (.d (.bool t)))):
  cH P O Y X st M w B (one (.bool (!t))) []:=by
 refine dE S Z (vv:=.bool (!t)) ?_ (.bool _);unfold execOp;simp[aG,Hc S hc,Op.unary]
theorem abw(S:ao O Y X D st M w){C:Ctx}{x:Operand}{k:IntKind}{n:Int}{T dM:TypeId}(aG:B.op=.unOp .neg dM x)(Z:ck st B.dst=true)(hc:a8 C st T x=.av (.ak (.d (.int k n)))):
  cH P O Y X st M w B (one (.int k (k.wrap (0-n)))) []:=by
 refine dE S Z (vv:=.int k (k.wrap (0-n))) ?_ (.int _ _);unfold execOp;simp[aG,jW S hc,Op.unary,Op.intArith]
theorem DA(S:ao O Y X D st M w){C:Ctx}{x:Operand}{v:aR}{T:TypeId}(aG:B.op=.nilCheck x)(Z:ck st B.dst=true)(hc:a8 C st T x=v)
  (hv:∀vv,cf D st.sites w (az X D st.sites) v vv->∃a,vv=.pointer (some a)):cH P O Y X st M w B v []:=by
 have:=dy S C T x;rw[hc] at this;obtain⟨a,ha⟩:=hv _ this;refine dE S Z (vv:=Act.eval ⟨M,[]⟩ x) ?_ this;unfold execOp;simp[aG,ha]
theorem ac3(S:ao O Y X D st M w){C:Ctx}{x:Operand}{i:Nat}{as:List bP}{a:bP}{T:TypeId}(aG:B.op=.extract x i)(Z:ck st B.dst=true)(hc:a8 C st T x=.jF as)(ha:as[i]? =some a):
  cH P O Y X st M w B (.av a) []:=by
 have bu:=dy S C T x;rw[hc] at bu;obtain⟨vs,h1,h2,h3⟩:=bu;obtain⟨hi,ar8⟩:=List.getElem?_eq_some_iff.1 ha;have jn:i<vs.length:=by omega
 refine dE S Z (vv:=vs[i]) ?_ (by rw[<-ar8];exact h3 i hi jn)
 unfold execOp;simp[aG,h1,Instr.extract,jn]
theorem OF(S:ao O Y X D st M w){C:Ctx}{x y:Operand}{k k':IntKind}{a b:Int}{T:TypeId}{sN:Bool}{cW:Array TypeId}(aG:B.op=.call {callee:=.builtin (if sN then .max else .min),args:=#[x,y],argTypes:=cW})(Z:ck st B.dst=true)
  (hx:a8 C st T x=.av (.ak (.d (.int k a)))) (hy:a8 C st T y=.av (.ak (.d (.int k' b)))):cH P O Y X st M w B (one (.int k (if sN then gz a b else li a b))) []:=by
 refine dE S Z (vv:=.int k (if sN then gz a b else li a b)) ?_ (.int _ _)
 unfold execOp;cases sN<;>simp[aG,resolve,invoke,builtin,jW S hx,jW S hy,Builtin.max_,Builtin.min_,Builtin.max2,Builtin.min2,gz,li]
theorem aiD(S:ao O Y X D st M w){C:Ctx}{x y z u v:Operand}{k aB aA bC cO:IntKind}{a b c d e:Int}{T:TypeId}{cW:Array TypeId}(aG:B.op=.call {callee:=.builtin .max,args:=#[x,y,z,u,v],argTypes:=cW})(Z:ck st B.dst=true)
  (hx:a8 C st T x=.av (.ak (.d (.int k a)))) (hy:a8 C st T y=.av (.ak (.d (.int aB b)))) (hz:a8 C st T z=.av (.ak (.d (.int aA c)))) (hu:a8 C st T u=.av (.ak (.d (.int bC d)))) (hv:a8 C st T v=.av (.ak (.d (.int cO e)))):
  cH P O Y X st M w B (one (.int k (gz (gz (gz (gz a b) c) d) e))) []:=by
 refine dE S Z (vv:=.int k (gz (gz (gz (gz a b) c) d) e)) ?_ (.int _ _);unfold execOp;simp[aG,resolve,invoke,builtin,jW S hx,jW S hy,jW S hz,jW S hu,jW S hv,Builtin.max_,Builtin.max2,gz]
theorem aha(S:ao O Y X D st M w){C:Ctx}:∀{xs:List Operand} {bA:List (Nat×Nat)},step.nI C st xs=some bA->xs.length=bA.length/\
  ∀i (h:i<bA.length) (ai:i<xs.length),Ref st.sites (bA[i]).1 (bA[i]).2 (Act.eval ⟨M,[]⟩ (xs[i])=D (bA[i]).1):=by
 intro xs;induction xs with
 |nil=>intro bA h;simp only[step.nI] at h;cases h;exact⟨rfl,fun i h=>by simp at h⟩
 |cons x xs ih=>
  intro bA h;simp only[step.nI] at h;split at h
  ·rename_i o s l hx hl;cases h;obtain⟨h1,h2⟩:=ih hl;refine⟨by simp[h1],fun i g1 g2=>?_⟩
   cases i with
   |zero=>
    have:=dy S C 0 x;rw[hx] at this;obtain⟨b,hb,ab,r1,r2,hO⟩:=this;exact⟨ab,r1,r2,fun e=>by simp only[List.getElem_cons_zero];rw[hb,hO e]⟩
   |succ i=>simpa using h2 i (by simpa using g1) (by simpa using g2)
  ·cases h
theorem abS(S:ao O Y X D st M w){C:Ctx}{g:FuncId}{first captured:Array Operand}{bA:List (Nat×Nat)}(aG:B.op=.makeFunc (.func g) first captured)(Z:ck st B.dst=true)(hf:first.toList.isEmpty=true)
  (hc:step.nI C st captured.toList=some bA):cH P O Y X st M w B (b0 (.clo g bA)) []:=by
 obtain⟨h1,h2⟩:=aha S hc;refine dE S Z (vv:=.func (.func g) #[] (captured.toList.map (Act.eval ⟨M,[]⟩)).toArray) ?_ ⟨captured.toList.map (Act.eval ⟨M,[]⟩),rfl,by simpa using h1,fun i g1 g2=>?_⟩
 ·have:first=#[]:=by simpa using hf
  unfold execOp;simp only[aG,Instr.makeFunc,Sem.run_bind,Sem.run_pure,Result.andThen_ok,this];simp;apply Array.ext';simp
 ·have:=h2 i g1 (by simpa using g2)
  simpa using this
theorem O0(S:ao O Y X D st M w){C:Ctx}{aJ:List (Nat×Nat)}:∀(parts:List (Nat×Operand)) (z:List aI) (cells:Array Value),cx D st.sites w (az X D st.sites) z cells.toList->
  Holds (step.mz C st aJ z parts) (fun v us=>us=[]/\∃jy,Instr.fill (aJ.toArray[·]?) cells (parts.map fun p=>(p.1,Act.eval ⟨M,[]⟩ p.2))=some jy/\cf D st.sites w (az X D st.sites) v (.agg jy)):=by
 intro parts;induction parts with
 |nil=>intro z cells h;exact Holds.ok ⟨rfl,cells,rfl,cells.toList,by simp,h.1,h.2⟩
 |cons p parts ih=>
  obtain⟨i,x⟩:=p;intro z cells h;simp only[step.mz];split
  ·rename_i off n a hf ha;cases hb:(a.cells.length.beq n&&hd a.cells&&Nat.ble (off+n) z.length) with
   |false=>exact .fail
   |true=>
    simp only[cond_true];simp only[Bool.and_eq_true] at hb;obtain⟨⟨b1,b2⟩,b3⟩:=hb;have b1:=Nat.eq_of_beq_eq_true b1;have b3:=Nat.le_of_ble_eq_true b3;have bu:=dy S C 0 x;rw[pD ha] at bu;have AQ:=gU.cells (bu:gU D st.sites w _ a _) b2;have hsz:(Act.eval ⟨M,[]⟩ x).cells.size=n:=by rw[<-b1,<-AQ.1];simp
    have hle:off+(Act.eval ⟨M,[]⟩ x).cells.size<=cells.size:=by
     have:=h.1;simp at this;omega
    have:=ih (Jk.bG z off a.cells) (Jk.bG cells.toList off (Act.eval ⟨M,[]⟩ x).cells.toList).toArray (by simpa using cx.bG off h AQ)
    intro y hy hc;obtain⟨g1,jy,g2,g3⟩:=this y hy hc;refine⟨g1,jy,?_,g3⟩;simp only[List.map_cons,Instr.fill];have KU:aJ.toArray[i]? =some (off,n):=by simpa using hf
    simp only[KU];have c1:¬((Act.eval ⟨M,[]⟩ x).cells.size≠n\/off+(Act.eval ⟨M,[]⟩ x).cells.size>cells.size):=by omega
    have c2:(decide ((Act.eval ⟨M,[]⟩ x).cells.size≠n)||decide (off+(Act.eval ⟨M,[]⟩ x).cells.size>cells.size))=false:=by
     simp;omega
    have oV:off+n<=cells.size:=by omega
    rw[Nj _ _ _ hle];simp only[Bool.decide_or,hsz] at*;simpa[c2,oV] using g2
  ·exact .fail
theorem ahc(S:ao O Y X D st M w){C:Ctx}(H:CtxOk P C){T:TypeId}{parts:Array (Nat×Operand)}{aJ:List (Nat×Nat)}{n:Nat}{z:List aI}{eq:Bool}(bi:C.tt T=.struct aJ n z eq)(aG:B.op=.build T parts)
  (Z:ck st B.dst=true):Holds (step.mz C st aJ z parts.toList) (cH P O Y X st M w B):=by
 have bF:=H.tt T;rw[bi] at bF;obtain⟨fields,fw,⟨hf,_⟩,⟨fT,hz,hzz,Cx⟩,_⟩:=bF;obtain⟨aB,aA,bC⟩:=ud hzz;intro y hy hc;obtain⟨g1,jy,g2,g3⟩:=O0 S parts.toList z fT ⟨aB,fun j h ai=>bC _ _ _ _ j h ai⟩ y hy hc
 rw[g1];refine dE S Z (vv:=.agg jy) ?_ g3;cases hi:P.info? T with
 |none=>simp[hi] at hz
 |some it=>
  simp only[hi,Option.map_some,Option.some.injEq,Prod.mk.injEq] at hz;have hb:P.built T (parts.toList.map fun p=>(p.1,Act.eval ⟨M,[]⟩ p.2))=some jy:=by
   unfold Program.built;simp only[hi,fw,hz.2,hf];exact g2
  have dP:P.built T (parts.map fun p=>(p.1,Act.eval ⟨M,[]⟩ p.2)).toList=some jy:=by simpa using hb
  unfold execOp;simp only[aG,Sem.run_bind,run_build w T _ jy dP,Result.andThen_ok,Sem.run_pure]
end
def mw(w:World)(b:Nat)(B:Obj):World:={w with heap:=w.heap.setIfInBounds b B}
theorem Qv{b:ByteArray}{l:F}(h:b.data.toList=l):Value.string b=gP l:=by
 subst h;rfl
def k9{ax:Type}:List (F×ax)->F->Nat->Option (Nat×ax)
 |[],_,_=>none
 |(k,v)::r,n,i=>bif k==n then some (i,v) else k9 r n (i+1)
theorem aeN{ax:Type}(n:F):∀(es:List (F×ax)) (i:Nat),(k9 es n i).map (·.2)=ki es n:=by
 intro es;induction es with
 |nil=>intro i;rfl
 |cons p es ih=>
  intro i;simp only[k9,ki];cases p.1==n with
  |true=>rfl
  |false=>exact ih (i+1)
theorem abR{ax:Type}(n:F)(v:ax):∀(es:List (F×ax)) (i:Nat),k9 es n i=none->oD es n v=es++[(n,v)]:=by
 intro es;induction es with
 |nil=>intro i _;rfl
 |cons p es ih=>
  intro i h;simp only[k9] at h;simp only[oD];cases hp:(p.1==n) with
  |true=>rw[hp] at h;cases h
  |false=>rw[hp] at h;simp only[cond_false,ih (i+1) h,List.cons_append]
theorem acX{ax:Type}(n:F)(v:ax):∀(es:List (F×ax)) (i j:Nat) (v0:ax),k9 es n i=some (j,v0)->i<=j/\(∃p,es[j-i]? =some p/\p.1=n)/\oD es n v=es.modify (j-i) fun p=>(p.1,v):=by
 intro es;induction es with
 |nil=>intro i j v0 h;cases h
 |cons p es ih=>
  intro i j v0 h;simp only[k9] at h;simp only[oD];cases hp:(p.1==n) with
  |true=>
   rw[hp] at h;cases h;refine⟨Nat.le_refl _,⟨p,by simp,eq_of_beq hp⟩,?_⟩
   simp
  |false=>
   rw[hp] at h;obtain⟨h1,⟨q,h2,h3⟩,ay⟩:=ih (i+1) j v0 h;have e:j-i=(j-(i+1))+1:=by omega
   refine⟨by omega,⟨q,by rw[e];simpa using h2,h3⟩,?_⟩
   rw[e,cond_false,ay,List.modify_succ_cons]
theorem Nk{t:a7}(n:F):∀(es:List (F×den t)) (iS:List MapEntry) (i:Nat),iS.map (fun e=>(e.key,e.val))=jY t es->
  Instr.findNow .string (gP n) iS i=some ((k9 es n i).map fun p=>(p.1,m_ t p.2))
 |[],iS,i,h=>by
  have:iS=[]:=by simpa[jY] using h
  subst this;rfl
 |(k,v)::es,[],i,h=>by simp[jY] at h
 |(k,v)::es,m::iS,i,h=>by
  simp only[jY,List.map_cons,List.cons.injEq,Prod.mk.injEq] at h;obtain⟨⟨h1,h2⟩,h3⟩:=h;have ih:=Nk n es iS (i+1) h3;have hs:Instr.sameNow .string (gP n) m.key=some (k==n):=by
   rw[h1];show some ((⟨n.toArray⟩:ByteArray)==⟨k.toArray⟩)=_;rw[bytes_beq];congr 1
   rw[Bool.eq_iff_iff];simp only[beq_iff_eq];exact eq_comm
  unfold Instr.findNow k9;rw[hs];cases k==n with
  |true=>simp only[cond_true,Option.map_some,h2]
  |false=>simp only[cond_false];exact ih
section
variable {P:Program}{w:World}{hP kO T:TypeId}{t:a7}
theorem acD{hP:TypeId}(hk:P.underlying hP=some .string)(c:Bool)(s:F)(n:Nat):(Instr.checkKey c (n+1) hP (gP s)).run P w=.ok () w:=by
 simp[Instr.checkKey,run_underlying hk,gP,Result.andThen]
theorem ul{hP:TypeId}(hk:P.underlying hP=some .string)(c:Bool)(s:F):(Instr.checkKey c 10000 hP (gP s)).run P w=.ok () w:=acD hk c s 9999
theorem yt{hP:TypeId}(hk:P.underlying hP=some .string){es:List (F×den t)}{arr:Array MapEntry}(h:my arr=jY t es)(n:F):
  (Instr.findKey hP (gP n) arr.toList).run P w=.ok ((k9 es n 0).map fun p=>(p.1,m_ t p.2)) w:=by
 simp[Instr.findKey,run_underlying hk,Nk n es arr.toList 0 h,Result.andThen]
theorem ad6(s:F):(Instr.keyThatStays (gP s) (gP s)).run P w=.ok (gP s) w:=by
 have:Instr.sameBits 10000 (gP s) (gP s)=true:=by
  show((⟨s.toArray⟩:ByteArray)==⟨s.toArray⟩)=true;rw[bytes_beq];simp
 simp[Instr.keyThatStays,this]
theorem als{t:a7}{d:a'}{x:den t}{v:Value}{av:Nat->Prop}(h:ID t d=some x)(hr:bD w av d v):v=m_ t x:=by
 unfold ID at h;split at h
 ·cases h;cases hr;rfl
 ·cases h;cases hr;rfl
 ·cases h
theorem acB(bi:P.underlying T=some (.map hP kO))(hk:P.underlying hP=some .string){b:Nat}{arr:Array MapEntry}{clock:Nat}{es:List (F×den t)}(hb:w.heap[b]? =some (.map arr clock))(he:my arr=jY t es)(n:F)(x:den t):
  ∃oZ oG,(Instr.mapUpdate T (.map (some b)) (gP n) (m_ t x)).run P w=.ok () (mw w b (.map oZ oG))/\my oZ=jY t (oD es n x):=by
 cases hm:k9 es n 0 with
 |none=>
  refine⟨arr.push ⟨gP n,m_ t x,clock⟩,clock+1,?_,?_⟩
  ·have hf:=yt (w:=w) hk he n;rw[hm] at hf;simp[Instr.mapUpdate,run_underlying bi,MapKept.run_getObj_map hb,ul hk,hf,MapKept.run_setObj_map _ hb,Result.andThen,mw]
  ·rw[abR n x es 0 hm];unfold my jY at he ⊢;simp[he]
 |some p=>
  obtain⟨j,v0⟩:=p;obtain⟨_,⟨q,h2,h3⟩,ay⟩:=acX n x es 0 j v0 hm;rw[Nat.sub_zero] at h2 ay;have hlen:arr.size=es.length:=lV.size (b:=b) he;have hj:j<arr.size:=by rw[hlen];exact(List.getElem?_eq_some_iff.1 h2).1
  have anV:((arr[j]?).map (·.key)).getD (gP n)=gP n:=by
   have bo:=congrArg (fun l=>l[j]?) he
   simp only[my,jY,List.getElem?_map,h2,Option.map_some,Array.getElem?_toList] at bo;cases ha:arr[j]? with
   |none=>rfl
   |some e=>
    rw[ha] at bo;simp only[Option.map_some,Option.some.injEq,Prod.mk.injEq] at bo;simp[bo.1,h3]
  refine⟨arr.modify j fun e=>{e with key:=gP n,val:=m_ t x},clock,?_,?_⟩
  ·have hf:=yt (w:=w) hk he n;rw[hm] at hf;simp[Instr.mapUpdate,run_underlying bi,MapKept.run_getObj_map hb,ul hk,hf,MapKept.run_setObj_map _ hb,Result.andThen,mw,anV,ad6]
  ·rw[ay];unfold my jY at he ⊢;apply List.ext_getElem?;intro i;have bo:=congrArg (fun l=>l[i]?) he
   simp only[List.getElem?_map,Array.getElem?_toList] at bo;simp only[List.getElem?_map,Array.getElem?_toList,Array.getElem?_modify,List.getElem?_modify];by_cases pc:j=i
   ·subst pc;simp only[if_true,h2,Option.map_some,<-h3];cases ha:arr[j]? with
    |none=>rw[ha,h2] at bo;cases bo
    |some e=>rfl
   ·simp only[pc,if_false];cases ha:arr[i]? <;>cases dP:es[i]? <;>rw[ha,dP] at bo<;>simp_all
end
section
variable {P:Program}{O:World}{Y:List Nat}{X:Nat->Prop}{D:Nat->Value}{st:aj}{M:Array Value}{w:World}{B:Oper}
theorem DM(w:World)(b bI:Nat)(B:Obj)(h:bI≠b):(mw w b B).heap[bI]? =w.heap[bI]? :=by
 simp only[mw,Array.getElem?_setIfInBounds];rw[if_neg (fun e=>h e.symm)]
theorem aaj(w:World)(b:Nat)(B cZ:Obj)(h:w.heap[b]? =some cZ):(mw w b B).heap[b]? =some B:=by
 have:=(Array.getElem?_eq_some_iff.1 h).1;simp[mw,Array.getElem?_setIfInBounds,this]
theorem ao.akb(S:ao O Y X D st M w){o s b:Nat}{t:a7}{es tI:List (F×den t)}{B:Obj}{oZ:Array MapEntry}{oG:Nat}(hl:look st.sites o=some (.map s t es))(cR:D o=.map (some b))(hg:w.heap[b]? =some B)
  (he:my oZ=jY t tI):ao O Y X D {st with sites:=cp st.sites o (.map s t tI)} M (mw w b (.map oZ oG)):=by
 have hbk:bH (D o)=some b:=by rw[cR];rfl
 have cM:cj st.sites o:=⟨_,hl,rfl⟩;have lZ:∀aa,cj (cp st.sites o (.map s t tI)) aa <-> cj st.sites aa:=NL hl rfl;have b':∀bI,az X D (cp st.sites o (.map s t tI)) bI <-> az X D st.sites bI:=by
  intro bI;unfold az;simp only[lZ]
 have hne:∀bI,¬az X D st.sites bI->bI≠b:=by
  rintro bI h rfl;exact h (.inr ⟨o,cM,hbk⟩)
 have hsz:(mw w b (.map oZ oG)).heap.size=w.heap.size:=by simp[mw]
 refine S.qj (fun aa aD bS=>?_) (fun bI h _=>DM w b bI _ (hne bI h)) (fun bI h _=>by rw[b'];exact h) (fun go aa aD bS=>?_) (fun aa ρ bI h1 h2=>S.dV aa ρ bI ((lZ aa).1 h1) ((lZ ρ).1 h2))
  (fun aa bI h=>S.cl aa bI ((lZ aa).1 h)) (fun aa bI h hb=>by rw[hsz];exact S.fA ((lZ aa).1 h) hb) ?_ (by rw[hsz];exact Nat.le_refl _)
 ·rw[c4];by_cases e:o=aa
  ·subst e;rw[hl] at bS;cases bS;exact⟨.map s t tI,by simp,Nat.le_refl _,fun _=>rfl⟩
  ·exact⟨aD,by simp[e,bS],Nat.le_refl _,fun _=>rfl⟩
 ·rw[c4] at bS;by_cases e:o=aa
  ·subst e;simp only[if_true,Option.some.injEq] at bS;subst bS;exact .inr ⟨b,cR,oZ,oG,aaj w b _ _ hg,he⟩
  ·simp only[e,if_false] at bS;refine .inl ⟨bS,rfl,fun s6 bI dP=>DM w b bI _ ?_⟩
   rintro rfl;exact e (S.dV o aa _ cM ⟨aD,bS,s6⟩ hbk dP)
 ·have aZ:=S.frame;refine⟨aZ.os,aZ.tape,aZ.output,by rw[hsz];exact aZ.size,fun bI h1 h2=>?_⟩
  rw[DM w b bI _ ?_]
  ·exact aZ.block bI h1 h2
  ·rintro rfl;rcases(S.cl o _ cM hbk).2 with h|h
   ·exact h2 h
   ·omega
theorem ao.makeMap(S:ao O Y X D st M w){o:Nat}{t:a7}:
  ao O Y X (fun aa=>if aa=o then .map (some w.heap.size) else D aa) {st with sites:=cp st.sites o (.map (bp st o) t [])} M (w.alloc (.map #[] 0)):=
 S.make (fun b hb=>RowKit.Below.heap_alloc w _ b hb) rfl rfl rfl (by simp) (fun ab hs=>lE hs) (fun b hb=>by cases hb;exact⟨Nat.le_refl _,by simp⟩)
  (fun hs cR go _ _=>⟨w.heap.size,cR,#[],0,heap_alloc_new w _,rfl⟩)
end
section
variable {P:Program}{O:World}{Y:List Nat}{X:Nat->Prop}{D:Nat->Value}{st:aj}{M:Array Value}{w:World}{B:Oper}
theorem NI(S:ao O Y X D st M w){T:TypeId}{hP kO:TypeId}{t:a7}{r:Option Operand}{o:Nat}(aG:B.op=.makeMap T r)(dz:B.dst=some o)(Z:ck st B.dst=true)(bi:P.underlying T=some (.map hP kO))
  (hr:∀x,r=some x->∃k n,Act.eval ⟨M,[]⟩ x=.int k n):cH P O Y X st M w B (b0 (.own o (bp st o))) [(o,.map (bp st o) t [])]:=by
 have ch:=S.makeMap (o:=o) (t:=t);refine kV (us:=[(o,.map (bp st o) t [])]) ch Z (vv:=.map (some w.heap.size)) ?_ ?_
 ·unfold execOp;cases r with
  |none=>simp[aG,Instr.makeMap]
  |some x=>
   obtain⟨k,n,hx⟩:=hr x rfl;simp[aG,Instr.makeMap,hx,run_underlying bi,asInt,asIntOf,Result.andThen]
 ·refine⟨rfl,Ref.mk (ab:=.map (bp st o) t []) ?_ rfl (by simp)⟩
  simp only[bl,c4];simp
theorem OG(S:ao O Y X D st M w){C:Ctx}(H:CtxOk P C){T:TypeId}{m k x:Operand}(aG:B.op=.mapUpdate T m k x\/B.op=.insert T m k x)(Z:ck st B.dst=true):
  Holds (k3.ss C st T m k x) (cH P O Y X st M w B):=by
 have bF:=H.tt T;unfold k3.ss;split
 ·rename_i hP kO t o s n d bi hm hk hx;rw[bi] at bF;split
  ·rename_i aD u es hl;cases hb:(aD.beq s&&decide (u=t)) with
   |false=>exact .fail
   |true=>
    simp only[cond_true];simp only[Bool.and_eq_true,decide_eq_true_eq] at hb;have hs:=Nat.eq_of_beq_eq_true hb.1;subst hs;split
    ·rename_i v hv;refine Holds.fx ?_
     have em:=dy S C T m;rw[hm] at em;have rb:=dy S C 0 k;rw[hk] at rb;have ex:=dy S C 0 x;rw[hx] at ex;have hl:look st.sites o=some (.map aD u es):=hl;have Y0:Act.eval ⟨M,[]⟩ m=D o:=Ref.at em.2 hl rfl;obtain⟨b,h1,arr,clock,h2,h3⟩:=S.sites o _ hl;obtain⟨bs,KL,hkl⟩:=gv (s:=n) rb;have CJ:Act.eval ⟨M,[]⟩ k=gP n:=by rw[KL];exact Qv hkl
     have YV:Act.eval ⟨M,[]⟩ x=m_ u v:=als hv (av:=az X D st.sites) ex;obtain⟨oZ,oG,r1,r2⟩:=acB (T:=T) bF.1.1 bF.2.1 h2 h3 n v;have ch:=S.akb hl h1 h2 (oG:=oG) r2;refine xp (us:=[(o,.map aD u (oD es n v))]) ch Z ?_
     unfold execOp;rcases aG with aG|aG
     ·simp only[aG,Y0,h1,CJ,YV,Sem.run_bind,r1,Result.andThen_ok,Sem.run_pure]
     ·simp only[aG,Y0,h1,CJ,YV,Sem.run_bind,r1,Result.andThen_ok,Sem.run_pure]
    ·exact .fail
  ·exact .fail
 ·exact .fail
theorem aeR(S:ao O Y X D st M w){C:Ctx}(H:CtxOk P C){T hP kO:TypeId}{t:a7}{m k:Operand}{c:Bool}{l:aI}{n:F}{es:List (F×den t)}{d:a'}(aG:B.op=.lookup T m k c)(Z:ck st B.dst=true)
  (bi:C.tt T=.map hP kO t) (hm:a8 C st T m=.av (.ak l)) (hk:a8 C st 0 k=.av (.ak (.d (.str n)))) (KV:mapOf st l=some ⟨t,es⟩) (KW:vt t (ki es n)=some d):
  cH P O Y X st M w B (bif c then .jF [.ak (.d d),.ak (.d (.bool (ki es n).isSome))] else one d) []:=by
 have bF:=H.tt T;rw[bi] at bF;have em:=dy S C T m;rw[hm] at em;have rb:=dy S C 0 k;rw[hk] at rb;obtain⟨bs,KL,hkl⟩:=gv (s:=n) rb;have CJ:Act.eval ⟨M,[]⟩ k=gP n:=by rw[KL];exact Qv hkl
 have hz:∀cZ:Option (den t),vt t cZ=some d->(∀x,cZ=some x->∀av,bD w av d (m_ t x))/\(cZ=none->∃z,(zeroValue kO).run P w=.ok z w/\∀av,bD w av d z):=by
  intro cZ h;have he:=bF.2.2;have key:∀{_N:TypeDesc} {z:Value},jf P kO _N z->(zeroValue kO).run P w=.ok z w:=by
   intro _N z h;obtain⟨_,_,_,h⟩:=h;cases hi:P.info? kO with
   |none=>simp[hi] at h
   |some i=>
    simp only[hi,Option.map_some,Option.some.injEq,Prod.mk.injEq] at h;simp[zeroValue,kT hi,h.2]
  cases t<;>first|(exact he.elim)|skip
  ·simp only[vt,Option.some.injEq] at h;subst h;refine⟨fun x hx av=>by subst hx;exact .int _ _,fun hn=>?_⟩
   subst hn;exact⟨_,key he,fun av=>.int _ _⟩
  ·simp only[vt,Option.some.injEq] at h;subst h;refine⟨fun x hx av=>by subst hx;exact .bool _,fun hn=>?_⟩
   subst hn;exact⟨_,key he,fun av=>.bool _⟩
 obtain⟨hz1,hz2⟩:=hz _ KW;have main:∃v,(Instr.lookup T (Act.eval ⟨M,[]⟩ m) (Act.eval ⟨M,[]⟩ k) c).run P w=.ok (if c then .tuple #[v,.bool (ki es n).isSome] else v) w/\∀av,bD w av d v:=by
  rw[CJ];rcases Q1 S em KV with⟨h1,rfl⟩|⟨b,h1,arr,clock,h2,h3⟩
  ·obtain⟨z,fI,z2⟩:=hz2 rfl;refine⟨z,?_,z2⟩;have hf:=yt (w:=w) (t:=t) bF.2.1 (es:=[]) (arr:=#[]) rfl n;have KU:(Instr.findKey hP (gP n) []).run P w=.ok none w:=hf;simp[Instr.lookup,run_underlying bF.1.1,h1,ul bF.2.1,KU,fI,ki,Result.andThen]
  ·have hf:=yt (w:=w) bF.2.1 h3 n;have hg:=aeN n es 0;cases ha:k9 es n 0 with
   |none=>
    rw[ha] at hf hg;have hg:ki es n=none:=hg.symm;obtain⟨z,fI,z2⟩:=hz2 hg;refine⟨z,?_,z2⟩;simp[Instr.lookup,run_underlying bF.1.1,h1,MapKept.run_getObj_map h2,ul bF.2.1,hf,fI,hg,Result.andThen]
   |some p=>
    rw[ha] at hf hg;have hg:ki es n=some p.2:=hg.symm;refine⟨m_ t p.2,?_,hz1 p.2 hg⟩;simp[Instr.lookup,run_underlying bF.1.1,h1,MapKept.run_getObj_map h2,ul bF.2.1,hf,hg,Result.andThen]
 obtain⟨v,r1,r2⟩:=main;refine dE S Z (vv:=if c then .tuple #[v,.bool (ki es n).isSome] else v) ?_ ?_
 ·unfold execOp;simp only[aG,Sem.run_bind,r1,Result.andThen_ok,Sem.run_pure]
 ·cases c with
  |true=>
   refine⟨[v,.bool (ki es n).isSome],rfl,rfl,fun j g1 g2=>?_⟩
   match j,g1 with
   |0,_=>exact r2 _
   |1,_=>exact bD.bool _
  |false=>exact r2 _
theorem acW(S:ao O Y X D st M w){C:Ctx}(H:CtxOk P C)(Z:ck st B.dst=true):Holds (k3 C st B) (cH P O Y X st M w B):=by
 unfold k3;split
 ·rename_i t r aG;split
  ·rename_i o hP kO ty dz bi;have bF:=H.tt t;rw[bi] at bF;split
   ·exact Holds.fx (NI S aG dz Z bF.1.1 (fun x h=>by cases h))
   ·rename_i x;split
    ·rename_i k n hx;refine Holds.fx (NI S aG dz Z bF.1.1 (fun y h=>?_))
     cases h;have ex:=dy S C 0 x;rw[hx] at ex;exact⟨k,n,ii ex⟩
    ·exact .fail
  ·exact .fail
 ·rename_i t m k x aG;exact OG S H (.inl aG) Z
 ·rename_i t m k x aG;exact OG S H (.inr aG) Z
 ·rename_i t m k c aG;split
  ·rename_i hP kO ty l n bi hm hk;split
   ·rename_i u es KV;cases hu:decide (u=ty) with
    |false=>exact .fail
    |true=>
     have hu:=of_decide_eq_true hu;subst hu;simp only[cond_true];split
     ·rename_i d KW;exact Holds.ok (aeR S H aG Z bi hm hk KV KW)
     ·exact .fail
   ·exact .fail
  ·exact .fail
 ·rename_i t x aG;split
  ·rename_i aJ q z e n bi hx;exact Holds.ok (_9 S H aG Z bi hx)
  ·exact .fail
 ·exact .fail
end
theorem nf{P:Program}{e:TypeId}{t:a7}(h:Hj P e t):aY t=1/\(∃d z,jf P e d z)/\∃l eP,tf t=some l/\wT t=some eP/\cD (enc t eP)=[l]:=by
 cases t<;>first|exact h.elim|exact⟨rfl,⟨_,_,h⟩,_,_,rfl,rfl,rfl⟩
theorem NR{P:Program}{e:TypeId}{t:a7}{T:TypeId}(h:Hj P e t):t.jG=true->T=me:=by intro ai;cases t<;>first|exact h.elim|cases ai
theorem Ez(t:a7)(x:den t)(xs:List (den t)):flat t (x::xs)=enc t x++flat t xs:=by simp[flat]
theorem Hi(a b:List a'):cD (a++b)=cD a++cD b:=by simp[cD]
theorem Rl{t:a7}{z:den t}(hz:wT t=some z)(xs:List (den t)):B4 t xs xs.length=cD (flat t xs):=by
 unfold B4;rw[hz];suffices h:∀(bh zs:List (den t)),xs=zs++bh->((List.range' zs.length bh.length).flatMap fun j=>cD (enc t (xs.getD j z)))=cD (flat t bh) by
  have:=h xs [] rfl;rw[List.length_nil,<-List.range_eq_range'] at this;exact this
 intro bh;induction bh with
 |nil=>intro zs _;rfl
 |cons y bh ih=>
  intro zs hx;rw[List.length_cons,List.range'_succ,List.flatMap_cons,Ez,Hi];have e1:xs.getD zs.length z=y:=by rw[hx];simp[List.getD]
  have e2:=ih (zs++[y]) (by rw[hx];simp)
  rw[List.length_append,List.length_singleton] at e2;rw[e1,e2]
theorem Hf{t:a7}:∀{ag:List aI} {xs:List (den t)},s_ t ag=some xs->ag=cD (flat t xs):=by
 intro ag;induction ag with
 |nil=>intro xs h;cases h;rfl
 |cons l ag ih=>
  intro xs h;cases l<;>try(cases h;done)
  rename_i d;simp only[s_] at h;split at h
  ·rename_i x bh h1 h2;cases h;rw[Ez,Hi,<-ih h2,Ac _ _ _ h1];rfl
  ·cases h
theorem um{ax:Type}{n:Nat}{xs bh:List ax}(h:long n xs=some bh):bh=xs/\xs.length=n:=by
 unfold long at h;split at h
 ·cases h;exact⟨rfl,by assumption⟩
 ·cases h
section
variable {P:Program}{O:World}{Y:List Nat}{X:Nat->Prop}{D:Nat->Value}{st:aj}{M:Array Value}{w:World}{B:Oper}
theorem ao.kM(S:ao O Y X D st M w):mW w/\∀b,b∈kF->¬az X D st.sites b/\b<w.heap.size:=by
 have G:=S.eZ;refine⟨alQ (fun b hb=>S.frame.block b (G.lt b hb) (G.Y b hb)) G.ok,fun b hb=>⟨?_,Nat.lt_of_lt_of_le (G.lt b hb) S.frame.size⟩⟩
 rintro(h|⟨o,h1,h2⟩)
 ·exact G.X b hb h
 ·rcases(S.cl o b h1 h2).2 with h|h
  ·exact G.Y b hb h
  ·have:=G.lt b hb;omega
theorem ake{ds:List a'}{vs:List Value}{av:Nat->Prop}(h:cY w av ds vs):∀u∈vs,u.oneCell'=true:=by
 intro u hu;obtain⟨j,hj,rfl⟩:=List.getElem_of_mem hu;exact(h.2 j (by rw[<-h.1];exact hj) hj).jv
theorem QY(S:ao O Y X D st M w){T:TypeId}{o n:Nat}{t:a7}{xs:List (den t)}{vs:List Value}(he:aY t=1)(gD:t.jG=true->T=me)(hv:cY w (az X D st.sites) (flat t xs) vs)(Z:ck st B.dst=true)
  (dm:(execOp (Act.eval ⟨M,[]⟩) B).run P w=.ok (.value (.pointer (some ⟨w.heap.size,0,none⟩))) (w.alloc (.cells vs.toArray T (0,0)))):Holds (qn o st t n xs) (cH P O Y X st M w B):=by
 unfold qn;cases hc:(xs.length.beq n&&Nat.ble n 1000) with
 |false=>exact .fail
 |true=>
  simp only[Bool.and_eq_true] at hc;have h1:=Nat.eq_of_beq_eq_true hc.1;have h2:=Nat.le_of_ble_eq_true hc.2;simp only[cond_true];have hl:vs.length=xs.length:=by rw[hv.1,eW,he,Nat.mul_one]
  have ch:=S.Gm (o:=o) (T:=T) (rest:=[]) (cap:=n) hv (by rw[he,hl,h1];simp) (by unfold maxLen;omega) gD
  rw[List.append_nil] at ch;refine Holds.fx (kV (us:=[(o,.row (bp st o) t xs)]) ch Z dm ?_);refine⟨w.heap.size,by simp,Ref.mk (ab:=.row (bp st o) t xs) ?_ rfl ⟨xs.length,n,by simp⟩⟩
  simp only[bl,c4];simp
theorem afj(S:ao O Y X D st M w){C:Ctx}(H:CtxOk P C){elem e:TypeId}{t:a7}{n o:Nat}(bi:C.tt elem=.arr e t n)(aG:B.op=.alloc elem)(Z:ck st B.dst=true):Holds (sB o st t n) (cH P O Y X st M w B):=by
 have bF:=H.tt elem;rw[bi] at bF;obtain⟨_,_,l'⟩:=id bF;obtain⟨he,_,l,eP,Cx,mQ,hzz⟩:=nf l';unfold sB;rw[mQ];obtain⟨v,hv,nU⟩:=cd.EZ (w:=w) bF (z:=List.replicate n l) (by simp only[cd.zero,Cx,Option.map_some])
 obtain⟨h1,h2,h3⟩:=ud nU;have hr:cY w (az X D st.sites) (flat t (List.replicate n eP)) v.cells.toList:=by
  have:=h3 D st.sites w (az X D st.sites);have e1:∀n,cD (flat t (List.replicate n eP))=List.replicate n l:=by
   intro n;induction n with
   |zero=>rfl
   |succ n ih=>rw[List.replicate_succ,Ez,Hi,hzz,List.replicate_succ,ih];rfl
  refine iZ (D:=D) (sites:=st.sites) ?_
  rw[e1];exact⟨h1,this⟩
 refine QY (T:=elem) S he (NR l') hr Z ?_
 unfold execOp;simp[aG,Instr.alloc,hv,newVar,newRow]
theorem ai1(S:ao O Y X D st M w){C:Ctx}(H:CtxOk P C){elem e:TypeId}{t:a7}{n o:Nat}{x:Operand}(bi:C.tt elem=.arr e t n)(aG:B.op=.box elem x)(Z:ck st B.dst=true):Holds (ta o st t n (a8 C st elem x)) (cH P O Y X st M w B):=by
 have bF:=H.tt elem;rw[bi] at bF;have he:=(nf bF.2.2).1;have bu:=dy S C elem x;unfold ta;split
 ·rename_i ag hx;rw[hx] at bu;split
  ·rename_i xs tl;obtain⟨vs,hv,hl,hr⟩:∃vs:List Value,Act.eval ⟨M,[]⟩ x=.agg vs.toArray/\vs.length=ag.length/\∀j (h:j<ag.length) (ai:j<vs.length),dO D st.sites w (az X D st.sites) (ag[j]) (vs[j]):=bu;have o':cx D st.sites w (az X D st.sites) ag vs:=⟨hl,hr⟩;rw[Hf tl] at o';refine QY (T:=elem) S he (NR bF.2.2) (iZ o') Z ?_
   unfold execOp;simp[aG,Instr.box,newVar,newRow,hv,Value.cells]
  ·exact .fail
 ·exact .fail
theorem ao.arr(S:ao O Y X D st M w){o s:Nat}{t:a7}{xs:List (den t)}{v:Value}(hr:rowOf st o s=some ⟨t,xs⟩)(hv:dO D st.sites w (az X D st.sites) (.eS o s t 0 0) v):
  ∃b c,∃cs:List Value,v=.pointer (some ⟨b,0,none⟩)/\D o=.slice (some ⟨b,0,none⟩) xs.length c/\hV w b 0 cs/\cY w (az X D st.sites) (flat t xs) cs:=by
 obtain⟨cs,hl,hcell⟩:=S.row hr;obtain⟨ab,iP,lr⟩:∃ab,look st.sites o=some ab/\ab.cw=s:=by
  rcases jP hr with h|h<;>exact⟨_,h,rfl⟩
 obtain⟨b,hv,vM⟩:=hv;obtain⟨n,c,cR⟩:=Ref.at vM iP lr;rcases hcell with⟨qu,_⟩|⟨bI,fj,j2,hcs,_⟩
 ·rw[cR] at qu;cases qu
 ·rw[cR] at j2;cases j2;exact⟨b,c,cs,by simpa using hv,cR,hcs,iZ hl⟩
theorem agI(S:ao O Y X D st M w){C:Ctx}(H:CtxOk P C){T e:TypeId}{t:a7}{n:Nat}{x:Operand}(bi:C.tt T=.arr e t n)(aG:B.op=.load T x)(Z:ck st B.dst=true):Holds (sL st t n (a8 C st T x)) (cH P O Y X st M w B):=by
 have bF:=H.tt T;rw[bi] at bF;obtain⟨he,_,_,eP,_,mQ,_⟩:=nf bF.2.2;have bu:=dy S C T x;unfold sL;split
 ·rename_i o s u hx;rw[hx] at bu;split
  ·rename_i bk xs hrow;split
   ·rename_i jm;obtain⟨rfl,rfl⟩:=jm;refine Holds.eo fun y hy=>?_
    obtain⟨rfl,hlen⟩:=um (hy:long n xs=some y);obtain⟨b,c,cs,hv,_,hc,hr⟩:=S.arr hrow bu;have hcl:cs.length=n:=by rw[hr.1,eW,he,hlen,Nat.mul_one]
    refine dE S Z (vv:=.agg cs.toArray) ?_ ?_
    ·have dm:=ub (P:=P) (w:=w) bF (by rintro h;cases h) ⟨b,0,none⟩ cs hcl (fun j u hu=>by rw[gL];exact hc j u hu)
     unfold execOp;simp only[aG,Instr.loadAt,Instr.sureAddr,hv,Sem.run_bind,Sem.run_pure,Result.andThen_ok,dm];rfl
    ·subst hlen;have:=ht (D:=D) (sites:=st.sites) hr.1 hr.2;rw[<-Rl mQ] at this;exact⟨cs,rfl,this.1,this.2⟩
   ·exact .fail
  ·exact .fail
 ·exact .fail
theorem adX(S:ao O Y X D st M w){C:Ctx}(H:CtxOk P C){T e:TypeId}{t:a7}{n:Nat}{a x:Operand}{v:bP}(bi:C.tt T=.arr e t n)(aG:B.op=.store T a x)(Z:ck st B.dst=true)(hv:l3 (a8 C st T x)=some v):
  Holds (si st t n (a8 C st T a) v) (cH P O Y X st M w B):=by
 have bF:=H.tt T;rw[bi] at bF;have he:=(nf bF.2.2).1;have qR:=dy S C T a;have hex:=dy S C T x;rw[pD hv] at hex;unfold si;split
 ·rename_i o s u ag hx;rw[hx] at qR;split
  ·rename_i aD bk xs gx;have gx:look st.sites o=some (.row aD bk xs):=gx;split
   ·rename_i jm;obtain⟨rfl,rfl,rfl⟩:=jm;split
    ·rename_i bh arA;cases hc:bh.length.beq n with
     |false=>exact .fail
     |true=>
      have Cy:=Nat.eq_of_beq_eq_true hc;refine Holds.hF fun r hr=>?_
      obtain⟨_,hlen⟩:=um (hr:long n xs=some r);obtain⟨vs,wu,hl,dI⟩:∃vs:List Value,Act.eval ⟨M,[]⟩ x=.agg vs.toArray/\vs.length=ag.length/\∀j (h:j<ag.length) (ai:j<vs.length),dO D st.sites w (az X D st.sites) (ag[j]) (vs[j]):=hex;have o':cx D st.sites w (az X D st.sites) ag vs:=⟨hl,dI⟩;rw[Hf arA] at o';have tr:=iZ o';have l7:vs.length=n:=by rw[tr.1,eW,he,Cy,Nat.mul_one]
      obtain⟨b,CE,vM⟩:=qR;obtain⟨m,c,cR⟩:=Ref.at vM gx rfl;obtain⟨cE,cs,lj,hcs⟩:=S.sites o _ gx;rcases lj.2 with⟨hn,_⟩|⟨g,cap,cur,fz,n4,hz,hg,hnc,hcm,kt,htk⟩
      ·rw[cR] at hn;cases hn
      ·rw[cR] at n4;cases n4;have asf:cur.size=c:=by rw[kt,he,Nat.mul_one]
       have lk:0+vs.length<=cur.toList.length:=by
        have:cur.toList.length=cur.size:=Array.length_toList;omega
       have ch:ao O Y X D {st with sites:=cp st.sites o (.row aD bk bh)} M (w.setRow b (bG cur.toList 0 vs).toArray):=by
        refine S.write gx rfl rfl rfl (by rw[cR];rfl) hg (fun hs hw hg' go=>?_)
        refine⟨cE,vs,⟨by rw[he,Cy,Nat.mul_one];exact l7,.inr ⟨b,c,_,fz,by rw[cR,hlen,Cy],?_,hg',by omega,hcm,?_,?_⟩⟩,fun j g1 g2=>oJ go (tr.2 j g1 g2)⟩
        ·refine⟨hz.1,hz.2.imp id fun h=>⟨h.1,?_⟩⟩
         rw[List.size_toArray,rq _ _ _ lk];simpa using h.2
        ·rw[List.size_toArray,rq _ _ _ lk,Array.length_toList,asf,he,Nat.mul_one]
        ·rw[he,Nat.mul_one,Cy,<-l7];simp[bG]
       refine xp (us:=[(o,.row aD bk bh)]) ch Z ?_
       have dm:=Mz (P:=P) (w:=w) bF (by rintro h;cases h) (vv:=.agg vs.toArray) (cur:=cur.toList) (off:=0) (by simpa using hg) (by simpa using hz) (by simpa[Value.cells,cd.size] using l7) (by simpa[Value.cells] using lk) (by simpa[Value.cells] using ake tr)
       unfold execOp;simp only[aG,CE,wu,Instr.storeAt,Instr.sureAddr,Sem.run_bind,Sem.run_pure,Result.andThen_ok,Nat.zero_mul,Nat.zero_add,dm];simp[Value.cells]
    ·exact .fail
   ·exact .fail
  ·exact .fail
 ·exact .fail
theorem aaD(S:ao O Y X D st M w){C:Ctx}(H:CtxOk P C){T e:TypeId}{t:a7}{m:Nat}{x i:Operand}{k:IntKind}{n:Int}(bi:C.tt T=.arr e t m)(hi:a8 C st 0 i=.av (.ak (.d (.int k n))))(aG:B.op=.indexAddr T x i)(Z:ck st B.dst=true):
  Holds (rB C st t m (a8 C st T x) n) (cH P O Y X st M w B):=by
 have bF:=H.tt T;rw[bi] at bF;obtain⟨fw,_,l'⟩:=bF;obtain⟨he,⟨d,z0,mT⟩,_⟩:=nf l';have vL:=jW S hi;have bu:=dy S C T x;obtain⟨inf,ks,jC⟩:∃inf,P.info? e=some inf/\inf.size=1:=by
  have:=mT.2.2.2;cases au:P.info? e with
  |none=>simp[au] at this
  |some i=>simp only[au,Option.map_some,Option.some.injEq,Prod.mk.injEq] at this;exact⟨i,rfl,this.1⟩
 have run:∀{b:Nat},Act.eval ⟨M,[]⟩ x=.pointer (some ⟨b,0,none⟩)->0<=n->n<m->(execOp (Act.eval ⟨M,[]⟩) B).run P w=.ok (.value (.pointer (some ⟨b,n.toNat,none⟩))) w:=by
  intro b hx h0 h1;unfold execOp;simp[aG,hx,vL,Instr.indexAt,Instr.sureAddr,asIntOf,run_underlying fw,h0,h1,sizeOf,kT ks,jC,gL]
 unfold rB;split
 ·rename_i o s u hx;rw[hx] at bu;split
  ·rename_i bk xs hrow;split
   ·rename_i jm;obtain⟨rfl,rfl⟩:=jm;refine Holds.eo fun y hy=>?_
    obtain⟨zs,hz1,hz2⟩:=Option.bind_eq_some_iff.1 (hy:(long m xs).bind (fun xs=>a_ xs.length n)=some y)
    obtain⟨rfl,hlen⟩:=um hz1;unfold a_ at hz2;split at hz2
    ·rename_i hb;cases hz2;obtain⟨b,c,cs,hv,cR,_⟩:=S.arr hrow bu;refine dE S Z (run hv hb.1 (by rw[<-hlen];exact hb.2)) ⟨b,?_,?_⟩
     ·rw[he,Nat.mul_one,Nat.add_zero]
     ·rcases jP hrow with h|h<;>exact Ref.mk h rfl ⟨_,_,cR⟩
    ·cases hz2
   ·exact .fail
  ·exact .fail
 ·rename_i g hx;rw[hx] at bu;split
  ·rename_i bk xs qQ;cases hc:(decide (bk=t)&&xs.length.beq m) with
   |false=>exact .fail
   |true=>
    simp only[Bool.and_eq_true,decide_eq_true_eq] at hc;obtain⟨rfl,hlen⟩:=hc;have hlen:=Nat.eq_of_beq_eq_true hlen;refine Holds.eo fun y hy=>?_
    have dW:aP xs n=some y:=hy;unfold aP at dW;split at dW
    ·rename_i h0;have hlt:n.toNat<xs.length:=by
      rcases Nat.lt_or_ge n.toNat xs.length with h|h
      ·exact h
      ·rw[List.getElem?_eq_none h] at dW;cases dW
     obtain⟨Y9,tB⟩:=H.gt g _ _ qQ;obtain⟨fy,b'⟩:=S.kM;obtain⟨gq,fz',cs,hg,dI⟩:=tB w (az X D st.sites) fy;have hv:Act.eval ⟨M,[]⟩ x=.pointer (some ⟨g,0,none⟩):=bu;refine dE S Z (run hv h0 (by omega)) ⟨g,n.toNat,rfl,(b' g Y9).1,(b' g Y9).2,(cs.drop n.toNat).take 1,?_,fun j u hu=>?_,?_⟩
     ·have:cs.length=xs.length:=by rw[dI.1,eW,he,Nat.mul_one]
      rw[iV,he];simp;omega
     ·exact(((hV.row hg).drop n.toNat).take 1) j u hu|>fun h=>by simpa using h
     ·have hs:=ui bk xs n.toNat y dW;rw[he,Nat.mul_one] at hs;have mJ:cY w (az X D st.sites) (flat bk xs) cs:=dI;have alO:=ht (D:=D) (sites:=st.sites) mJ.1 mJ.2;have h2:=iZ (ds:=((flat bk xs).drop n.toNat).take 1) (by
       have:=(alO.drop n.toNat).take 1;simpa[cD,List.map_drop,List.map_take] using this)
      rw[hs] at h2;exact h2.2
    ·cases dW
  ·exact .fail
 ·exact .fail
theorem aeZ(S:ao O Y X D st M w){C:Ctx}(H:CtxOk P C){T e:TypeId}{t:a7}{m:Nat}{x i:Operand}{k:IntKind}{n:Int}(bi:C.tt T=.arr e t m)(hi:a8 C st 0 i=.av (.ak (.d (.int k n))))(aG:B.op=.index T x i)(Z:ck st B.dst=true):
  Holds (H8 t m (a8 C st T x) n) (cH P O Y X st M w B):=by
 have bF:=H.tt T;rw[bi] at bF;obtain⟨fw,_,l'⟩:=bF;obtain⟨he,⟨d,z0,mT⟩,_⟩:=nf l';have vL:=jW S hi;have bu:=dy S C T x;obtain⟨inf,ks,jC⟩:∃inf,P.info? e=some inf/\inf.size=1:=by
  have:=mT.2.2.2;cases au:P.info? e with
  |none=>simp[au] at this
  |some i=>simp only[au,Option.map_some,Option.some.injEq,Prod.mk.injEq] at this;exact⟨i,rfl,this.1⟩
 unfold H8;split
 ·rename_i ag hx;rw[hx] at bu;split
  ·rename_i xs tl;cases hc:xs.length.beq m with
   |false=>exact .fail
   |true=>
    have hlen:=Nat.eq_of_beq_eq_true hc;refine Holds.eo fun y hy=>?_
    have dW:aP xs n=some y:=hy;unfold aP at dW;split at dW
    ·rename_i h0;have hlt:n.toNat<xs.length:=by
      rcases Nat.lt_or_ge n.toNat xs.length with h|h
      ·exact h
      ·rw[List.getElem?_eq_none h] at dW;cases dW
     obtain⟨vs,hv,hl,hr⟩:∃vs:List Value,Act.eval ⟨M,[]⟩ x=.agg vs.toArray/\vs.length=ag.length/\∀j (h:j<ag.length) (ai:j<vs.length),dO D st.sites w (az X D st.sites) (ag[j]) (vs[j]):=bu;have o':cx D st.sites w (az X D st.sites) ag vs:=⟨hl,hr⟩;rw[Hf tl] at o';have tr:=iZ o';have l7:vs.length=xs.length:=by rw[tr.1,eW,he,Nat.mul_one]
     obtain⟨d1,hd1⟩:∃d1,enc t y=[d1]:=by
      have:=iV t y;rw[he] at this;match h:enc t y,this with
      |[d1],_=>exact⟨d1,rfl⟩
     simp only[hd1];have cM:n.toNat<vs.length:=by omega
     refine dE S Z (vv:=vs[n.toNat]) ?_ ?_
     ·have Jf:(isAgg e).run P w=.ok false w:=by
       have h1:=mT.1;simp only[isAgg,Sem.run_bind,run_underlying h1,Result.andThen_ok];have g1:=mT.2.1;have g2:=mT.2.2.1;cases d<;>first|rfl|exact absurd rfl (g1 _)|exact absurd rfl (g2 _ _)
      have h1:n<(m:Int):=by omega
      unfold execOp;simp[aG,hv,vL,Instr.index,asIntOf,run_underlying fw,h0,h1,sizeOf,kT ks,jC,part,Jf,cM]
     ·have hs:=ui t xs n.toNat y dW;rw[he,Nat.mul_one,hd1] at hs;have pd:n.toNat<(flat t xs).length:=by rw[eW,he,Nat.mul_one];exact hlt
      have e1:(flat t xs)[n.toNat]=d1:=by
       have:=congrArg (fun l=>l[0]?) hs
       simp only[List.getElem?_take,List.getElem?_drop] at this;rw[if_pos (by decide),Nat.add_zero,List.getElem?_eq_getElem pd] at this
       simpa using this
      have:=tr.2 n.toNat pd cM;rw[e1] at this;exact this
    ·cases dW
  ·exact .fail
 ·exact .fail
theorem ad1(S:ao O Y X D st M w){C:Ctx}(H:CtxOk P C){T e:TypeId}{t:a7}{m:Nat}{x:Operand}{cT hi:Option Operand}(bi:C.tt T=.arr e t m)(aG:B.op=.slice T x cT hi none)(Z:ck st B.dst=true):
  Holds (sn st t m (a8 C st T x) (cT.map (a8 C st 0)) (hi.map (a8 C st 0))) (cH P O Y X st M w B):=by
 have bF:=H.tt T;rw[bi] at bF;obtain⟨fw,_,l'⟩:=bF;obtain⟨he,⟨d,z0,mT⟩,_⟩:=nf l';have bu:=dy S C T x;obtain⟨inf,ks,jC⟩:∃inf,P.info? e=some inf/\inf.size=1:=by
  have:=mT.2.2.2;cases au:P.info? e with
  |none=>simp[au] at this
  |some i=>simp only[au,Option.map_some,Option.some.injEq,Prod.mk.injEq] at this;exact⟨i,rfl,this.1⟩
 have qt:∀{cT:Option Operand} {ll l:Int},iF ll (cT.map (a8 C st 0))=some l->(cT.map (Act.eval ⟨M,[]⟩)=none/\l=ll)\/∃k,cT.map (Act.eval ⟨M,[]⟩)=some (.int k l):=by
  intro cT ll l h;rcases P4 S h with⟨rfl,ai⟩|⟨x,k,rfl,ai⟩
  ·exact .inl ⟨rfl,ai⟩
  ·exact .inr ⟨k,by simp[ai]⟩
 unfold sn;split
 ·rename_i o s u hx;rw[hx] at bu;split
  ·rename_i bk xs l h hrow fS hhi;split
   ·rename_i jm;obtain⟨rfl,rfl⟩:=jm;refine Holds.hF fun r hr=>?_
    obtain⟨zs,hz1,hz2⟩:=Option.bind_eq_some_iff.1 (hr:(long m xs).bind (fun xs=>bw xs l h)=some r)
    obtain⟨rfl,hlen⟩:=um hz1;unfold bw at hz2;split at hz2
    ·rename_i hb;obtain⟨h0,h1,h2⟩:=hb;cases hz2;obtain⟨b,c,cs,hv,cR,_⟩:=S.arr hrow bu;refine Od (us:=[(o,.dh s bk zs)]) (PV hrow).symm ?_
     have hfz:dF st.sites [(o,.dh s bk zs)]:=by
      intro aa ab hm;simp only[List.mem_singleton,Prod.mk.injEq] at hm;obtain⟨rfl,rfl⟩:=hm;exact⟨s,bk,zs,rfl,jP hrow⟩
     have aZ:kS O Y X D st M w [(o,.dh s bk zs)]:=⟨S,hfz⟩;have KJ:=Dk hfz (List.mem_singleton.2 rfl);obtain⟨dI,Te⟩:=aZ.new.sites o _ KJ;rw[cR] at dI;generalize YU:Value.slice (some ⟨b,0,none⟩) zs.length c=v at dI;cases dI with
     |nil=>cases YU
     |sl _ _ a cap n9 k hk hcap dP hl hc hr=>
      cases YU;have asj:=DI (P:=P) (w:=w) false m m (cT.map (Act.eval ⟨M,[]⟩)) (hi.map (Act.eval ⟨M,[]⟩)) l h (qt fS) (qt hhi) h0 h1 (by omega) (Nat.le_refl _)
      refine kV (us:=[(o,.dh s bk zs)]) aZ.new Z (vv:=.slice (if m=l.toNat then some ⟨b,0,none⟩ else(some (⟨b,0,none⟩:Addr)).map (·.add (l.toNat*aY bk))) (h.toNat-l.toNat) (m-l.toNat)) ?_ ?_
      ·unfold execOp;simp only[aG,Option.map_none,Sem.run_bind,Instr.sliceAt,run_underlying fw,Result.andThen_ok,hv,Instr.sureAddr,Sem.run_pure,asj,sizeOf,kT ks,jC,he];split<;>simp
      ·exact Gk dP ⟨hl,hr⟩ hc l.toNat h.toNat m (by omega) (by omega) (by omega)
    ·cases hz2
   ·exact .fail
  ·exact .fail
 ·exact .fail
theorem ae6{f g:Nat->Option (Nat×Nat)}(h:∀i p,f i=some p->g i=some p):∀(l:List (Nat×Value)) (cs n9:Array Value),Instr.fill f cs l=some n9->Instr.fill g cs l=some n9:=by
 intro l;induction l with
 |nil=>intro cs n9 k;exact k
 |cons p l ih=>
  obtain⟨i,v⟩:=p;intro cs n9 k;simp only[Instr.fill] at k ⊢;cases hf:f i with
  |none=>simp[hf] at k
  |some q=>
   obtain⟨off,size⟩:=q;rw[h i _ hf];rw[hf] at k;simp only at k ⊢;split at k
   ·cases k
   ·rename_i hn;rw[if_neg hn];exact ih _ _ k
theorem afg(S:ao O Y X D st M w){C:Ctx}(H:CtxOk P C){T e:TypeId}{t:a7}{n:Nat}{z:aI}{parts:Array (Nat×Operand)}(bi:C.tt T=.arr e t n)(hz:tf t=some z)(aG:B.op=.build T parts)(Z:ck st B.dst=true):
  Holds (step.mz C st ((List.range n).map fun j=>(j,1)) (List.replicate n z) parts.toList) (cH P O Y X st M w B):=by
 have bF:=H.tt T;rw[bi] at bF;obtain⟨fw,⟨fT,fI,ks,hz1,hzz⟩,l'⟩:=bF;rw[hz] at hz1;cases hz1;obtain⟨he,⟨d,z0,mT⟩,_⟩:=nf l';obtain⟨awS,ar7,anW⟩:∃inf,P.info? e=some inf/\inf.size=1:=by
  have:=mT.2.2.2;cases au:P.info? e with
  |none=>simp[au] at this
  |some i=>simp only[au,Option.map_some,Option.some.injEq,Prod.mk.injEq] at this;exact⟨i,rfl,this.1⟩
 obtain⟨aB,aA,bC⟩:=ud hzz;intro y hy hc;obtain⟨g1,jy,g2,g3⟩:=O0 S parts.toList (List.replicate n z) fT ⟨aB,fun j h ai=>bC _ _ _ _ j h ai⟩ y hy hc
 rw[g1];refine dE S Z (vv:=.agg jy) ?_ g3;cases hi:P.info? T with
 |none=>simp[hi] at ks
 |some it=>
  simp only[hi,Option.map_some,Option.some.injEq,Prod.mk.injEq] at ks;have hb:P.built T (parts.toList.map fun p=>(p.1,Act.eval ⟨M,[]⟩ p.2))=some jy:=by
   unfold Program.built;simp only[hi,fw,ks.2,ar7,anW];refine ae6 (fun i p hp=>?_) _ _ _ g2
   simp only[List.getElem?_toArray,List.getElem?_map,Option.map_eq_some_iff] at hp;obtain⟨a,ha,rfl⟩:=hp;have:=List.getElem?_eq_some_iff.1 ha;obtain⟨h1,h2⟩:=this;simp at h2;subst h2;simp
  have dP:P.built T (parts.map fun p=>(p.1,Act.eval ⟨M,[]⟩ p.2)).toList=some jy:=by simpa using hb
  unfold execOp;simp only[aG,Sem.run_bind,run_build w T _ jy dP,Result.andThen_ok,Sem.run_pure]
theorem abu(S:ao O Y X D st M w){C:Ctx}{x:Operand}{k:IntKind}{n:Int}{T dM:TypeId}(aG:B.op=.unOp .xor dM x)(Z:ck st B.dst=true)(hc:a8 C st T x=.av (.ak (.d (.int k n)))):
  cH P O Y X st M w B (one (.int k (dl k (if k.signed then-1 else k.max) n))) []:=by
 refine dE S Z (vv:=.int k (dl k (if k.signed then-1 else k.max) n)) ?_ (.int _ _)
 unfold execOp;simp[aG,jW S hc,Op.unary,Op.intBits,dl]
end
def lX:Nat->Value:=fun _=>undef
def mF(w:World)(av:Nat->Prop)(l:aI)(v:Value)(bs:List Nat):Prop:=
 match l with
 |.fresh t xs=>bs=(bH v).toList/\∃e,∃cs:List Value,rowAt w t.jG e (aY t) v xs.length cs/\cY w av (flat t xs) cs
 |l=>bs=[]/\dO lX [] w av l v
def lf(w:World)(av:Nat->Prop):List aI->List Value->List Nat->Prop
 |[],[],bs=>bs=[]
 |l::ag,v::vs,bs=>∃b1 b2,bs=b1++b2/\mF w av l v b1/\lf w av ag vs b2
 |_,_,_=>False
def BJ(w:World)(av:Nat->Prop):bP->Value->List Nat->Prop
 |.ak l,v,bs=>mF w av l v bs
 |.agg ag,v,bs=>∃vs:List Value,v=.agg vs.toArray/\lf w av ag vs bs
def k6(w:World)(av:Nat->Prop):List bP->List Value->List Nat->Prop
 |[],[],bs=>bs=[]
 |l::ag,v::vs,bs=>∃b1 b2,bs=b1++b2/\BJ w av l v b1/\k6 w av ag vs b2
 |_,_,_=>False
def Hk(w:World)(av:Nat->Prop)(b:Nat)(cells:List aI)(bs:List Nat):Prop:=
 ∃T,∃cur:List Value,∃n_,bs=b::n_/\w.heap[b]? =some (.cells cur.toArray T (0,0))/\(∀u∈cur,u.oneCell'=true)/\mE cells T cur b/\lf w av cells cur n_
def Rn(w:World)(av:Nat->Prop):Arg->Value->List Nat->Prop
 |.av a,v,bs=>BJ w av a v bs
 |.fk cells,v,bs=>∃b,v=.pointer (some ⟨b,0,none⟩)/\Hk w av b cells bs
def iX(w:World)(av:Nat->Prop):List Arg->List Value->List Nat->Prop
 |[],[],bs=>bs=[]
 |l::ag,v::vs,bs=>∃b1 b2,bs=b1++b2/\Rn w av l v b1/\iX w av ag vs b2
 |_,_,_=>False
def dL:List Arg->List Value->List Nat
 |.fk _::as,.pointer (some a)::vs=>a.block::dL as vs
 |_::as,_::vs=>dL as vs
 |_,_=>[]
def i'(w:World)(av:Nat->Prop):List Nat->List (List aI)->List Nat->Prop
 |[],[],bs=>bs=[]
 |b::dx,cs::cN,bs=>∃b1 b2,bs=b1++b2/\Hk w av b cs b1/\i' w av dx cN b2
 |_,_,_=>False
def nB:List Value->Value
 |[v]=>v
 |vs=>.tuple vs.toArray
def Enters(P:Program)(g:FuncId)(vs:Array Value)(w:World)(R:Value->World->Prop):Prop:=
 ((callFunc g vs).run P w=.ok (.enter g vs) w/\Calls P g vs w fun|.returned v,w'=>R v w'|_,_=>False)\/(∃v w',(callFunc g vs).run P w=.ok (.value v) w'/\R v w')
def aE(P:Program)(g:FuncId)(S:aF):Prop:=
 ∀as y,(S as).comp=some y->∀(w:World) (X:Nat->Prop) (vs:List Value) (dt:List Nat),iX w (fun b=>X b\/b∈dt) as vs dt->dt.Nodup->(∀b,b∈dt->¬X b)->(∀b,X b->b<w.heap.size)->iB w dt X->
  Enters P g vs.toArray w fun v w'=>∃ej ei rv,Fr dt w w'/\i' w' (fun b=>X b\/b∈ej++ei) (dL as vs) ((S as).fk y) ej/\k6 w' (fun b=>X b\/b∈ej++ei) ((S as).fb y) rv ei/\
   v=nB rv/\(ej++ei).Nodup/\∀b,b∈ej++ei->¬X b/\(b∈dt\/w.heap.size<=b)
section
variable {O:World}{Y:List Nat}{X:Nat->Prop}{D:Nat->Value}{st:aj}{M:Array Value}{w:World}
theorem cf.gT{sites:List (Nat×Site)}{av cg:Nat->Prop}(h:∀b,cg b->av b)(hlt:∀b,cg b->b<w.heap.size){a:aR}{v:Value}(k:cf D sites w av a v):cf D sites w cg a v:=by
 have G:h7 D D sites sites w w av cg:=⟨fun o ab hs=>⟨ab,hs,Nat.le_refl _,fun _=>rfl⟩,fun _ _ _=>rfl,fun b hb _ ai=>hb (h b ai)⟩
 exact k.goes G (Nat.le_refl _) hlt
theorem jX.gT{sites:List (Nat×Site)}{av cg:Nat->Prop}(h:∀b,cg b->av b)(hlt:∀b,cg b->b<w.heap.size){o:Nat}{ab:Site}(k:jX D sites w av o ab):jX D sites w cg o ab:=by
 have G:h7 D D sites sites w w av cg:=⟨fun o ab hs=>⟨ab,hs,Nat.le_refl _,fun _=>rfl⟩,fun _ _ _=>rfl,fun b hb _ ai=>hb (h b ai)⟩
 exact k.goes G (Nat.le_refl _) hlt rfl (fun _ _ _=>rfl)
theorem ao.lt(S:ao O Y X D st M w){b:Nat}(h:az X D st.sites b):b<w.heap.size:=by
 rcases h with h|⟨o,h1,h2⟩
 ·exact S.old b h
 ·exact S.fA h1 h2
theorem ao.shrink(S:ao O Y X D st M w){X':Nat->Prop}(h:∀b,X' b->X b):ao O Y X' D st M w:=by
 have b':∀b,az X' D st.sites b->az X D st.sites b:=by
  rintro b (hb|hb)
  ·exact .inl (h b hb)
  ·exact .inr hb
 have hlt:=fun b hb=>S.lt (b' b hb)
 exact⟨S.nt,fun t=>(S.cI t).gT b' hlt,fun o ab hs=>(S.sites o ab hs).gT b' hlt,S.dV,fun o b h1 h2=>⟨fun hx=>(S.cl o b h1 h2).1 (h b hx),(S.cl o b h1 h2).2⟩,S.frame,fun b hb=>S.old b (h b hb),S.eZ.less fun b _=>h b⟩
theorem ao.kill(S:ao O Y X D st M w){o:Nat}{ab:Site}(hl:look st.sites o=some ab)(lS:ab.live=true):
  ao O Y (fun b=>X b\/bH (D o)=some b) D {st with sites:=cp st.sites o (.dead ab.cw)} M w:=by
 have cM:∀aa,cj (cp st.sites o (.dead ab.cw)) aa->aa≠o/\cj st.sites aa:=by
  rintro aa ⟨s,h1,h2⟩;rw[c4] at h1;by_cases e:o=aa
  ·subst e;simp at h1;subst h1;cases h2
  ·simp only[e,if_false] at h1;exact⟨fun h=>e h.symm,s,h1,h2⟩
 have b':∀b,az (fun b=>X b\/bH (D o)=some b) D (cp st.sites o (.dead ab.cw)) b->az X D st.sites b:=by
  rintro b ((h|h)|⟨aa,h1,h2⟩)
  ·exact .inl h
  ·exact .inr ⟨o,⟨ab,hl,lS⟩,h⟩
  ·exact .inr ⟨aa,(cM aa h1).2,h2⟩
 have hlt:=fun b hb=>S.lt (b' b hb)
 have ch:ao O Y X D {st with sites:=cp st.sites o (.dead ab.cw)} M w:=by
  have vO:∀b,az X D (cp st.sites o (.dead ab.cw)) b->az X D st.sites b:=by
   rintro b (h|⟨aa,h1,h2⟩)
   ·exact .inl h
   ·exact .inr ⟨aa,(cM aa h1).2,h2⟩
  refine S.qj (fun aa s hs=>?_) (fun _ _ _=>rfl) (fun b hb _ ai=>hb (vO b ai)) (fun go aa s hs=>?_) (fun aa ρ b h1 h2 g1 g2=>S.dV aa ρ b (cM aa h1).2 (cM ρ h2).2 g1 g2) (fun aa b h1 h2=>S.cl aa b (cM aa h1).2 h2)
   (fun aa b h1 h2=>S.fA (cM aa h1).2 h2) S.frame (Nat.le_refl _)
  ·rw[c4];by_cases e:o=aa
   ·subst e;rw[hl] at hs;cases hs;exact⟨.dead ab.cw,by simp,Nat.le_refl _,fun _=>rfl⟩
   ·exact⟨s,by simp[e,hs],Nat.le_refl _,fun _=>rfl⟩
  ·rw[c4] at hs;by_cases e:o=aa
   ·simp only[e,if_true,Option.some.injEq] at hs;subst hs;exact .inr trivial
   ·simp only[e,if_false] at hs;exact .inl ⟨hs,rfl,fun _ _ _=>rfl⟩
 refine⟨ch.nt,fun t=>?_,fun aa s hs=>?_,ch.dV,fun aa b h1 h2=>⟨?_,(ch.cl aa b h1 h2).2⟩,ch.frame,?_,S.eZ.less fun b hb hx=>hx.elim id fun e=>absurd (.inr ⟨o,⟨ab,hl,lS⟩,e⟩) (S.kM.2 b hb).1⟩
 ·have G:h7 D D st.sites (cp st.sites o (.dead ab.cw)) w w (az X D st.sites) (az (fun b=>X b\/bH (D o)=some b) D (cp st.sites o (.dead ab.cw))):=
   ⟨fun aa s hs=>by
    rw[c4];by_cases e:o=aa
    ·subst e;rw[hl] at hs;cases hs;exact⟨.dead ab.cw,by simp,Nat.le_refl _,fun _=>rfl⟩
    ·exact⟨s,by simp[e,hs],Nat.le_refl _,fun _=>rfl⟩,fun _ _ _=>rfl,fun b hb _ ai=>hb (b' b ai)⟩
  exact(S.cI t).goes G (Nat.le_refl _) hlt
 ·have fH:look (cp st.sites o (.dead ab.cw)) aa=some s:=hs;rw[c4] at fH;by_cases e:o=aa
  ·simp only[e,if_true,Option.some.injEq] at fH;subst fH;trivial
  ·simp only[e,if_false] at fH;have G:h7 D D st.sites (cp st.sites o (.dead ab.cw)) w w (az X D st.sites) (az (fun b=>X b\/bH (D o)=some b) D (cp st.sites o (.dead ab.cw))):=
    ⟨fun aa s hs=>by
     rw[c4];by_cases e:o=aa
     ·subst e;rw[hl] at hs;cases hs;exact⟨.dead ab.cw,by simp,Nat.le_refl _,fun _=>rfl⟩
     ·exact⟨s,by simp[e,hs],Nat.le_refl _,fun _=>rfl⟩,fun _ _ _=>rfl,fun b hb _ ai=>hb (b' b ai)⟩
   exact(S.sites aa s fH).goes G (Nat.le_refl _) hlt rfl (fun _ _ _=>rfl)
 ·rintro(hx|hx)
  ·exact(ch.cl aa b h1 h2).1 hx
  ·exact(cM aa h1).1 (S.dV aa o b (cM aa h1).2 ⟨ab,hl,lS⟩ h2 hx)
 ·rintro b (hb|hb)
  ·exact S.old b hb
  ·exact S.fA ⟨ab,hl,lS⟩ hb
theorem ao.jump(S:ao O Y X D st M w){w':World}(h:∀b,¬X b->b<w.heap.size->w'.heap[b]? =w.heap[b]?)(hs:w.heap.size<=w'.heap.size)(hf:Fr Y O w'):
  ao O Y (fun b=>X b\/(w.heap.size<=b/\b<w'.heap.size)) D st M w':=by
 have hlt:∀b,az (fun b=>X b\/(w.heap.size<=b/\b<w'.heap.size)) D st.sites b->b<w'.heap.size:=by
  rintro b ((hb|hb)|⟨aa,h1,h2⟩)
  ·exact Nat.lt_of_lt_of_le (S.old b hb) hs
  ·exact hb.2
  ·exact Nat.lt_of_lt_of_le (S.fA h1 h2) hs
 have G:h7 D D st.sites st.sites w w' (az X D st.sites) (az (fun b=>X b\/(w.heap.size<=b/\b<w'.heap.size)) D st.sites):=
  ⟨fun aa s h=>⟨s,h,Nat.le_refl _,fun _=>rfl⟩,fun b hb dP=>h b (fun hx=>hb (.inl hx)) dP,fun b hb dP ai=>by
   rcases ai with(ai|ai)|ai
   ·exact hb (.inl ai)
   ·omega
   ·exact hb (.inr ai)⟩
 refine⟨S.nt,fun t=>(S.cI t).goes G hs hlt,fun o s h1=>(S.sites o s h1).goes G hs hlt rfl (fun hl b hb=>?_),S.dV,fun o b h1 h2=>⟨?_,(S.cl o b h1 h2).2⟩,hf,?_,S.eZ.less fun b hb hx=>hx.elim id fun e=>absurd (S.kM.2 b hb).2 (by omega)⟩
 ·exact h b (S.cl o b ⟨s,h1,hl⟩ hb).1 (S.fA ⟨s,h1,hl⟩ hb)
 ·rintro(hx|hx)
  ·exact(S.cl o b h1 h2).1 hx
  ·have:=S.fA h1 h2;omega
 ·rintro b (hb|hb)
  ·exact Nat.lt_of_lt_of_le (S.old b hb) hs
  ·exact hb.2
theorem ao.vw(S:ao O Y X D st M w){X':Nat->Prop}{n:Nat}{bW:Site}{nv:Value}(gn:∀b,X' b->X b)
  (dH:(∀ab,look st.sites n=some ab->ab.cw<bW.cw)\/(D n=nv/\∀ab,look st.sites n=some ab->ab.cw=bW.cw/\ab.live=false))
  (hb:∀b,bH nv=some b->X b/\¬X' b/\(b∈Y\/O.heap.size<=b))
  (fy:∀{bV:List (Nat×Site)} {aQ:Nat->Value},bV=cp st.sites n bW->aQ n=nv->(∀{a v},cf D st.sites w (az X D st.sites) a v->cf aQ bV w (az X' aQ bV) a v)->
   (∀b,az X' aQ bV b->az X D st.sites b)->jX aQ bV w (az X' aQ bV) n bW):
  ao O Y X' (fun aa=>if aa=n then nv else D aa) {st with sites:=cp st.sites n bW} M w/\
   (∀b,az X' (fun aa=>if aa=n then nv else D aa) (cp st.sites n bW) b->az X D st.sites b)/\
   (∀{a v},cf D st.sites w (az X D st.sites) a v->cf (fun aa=>if aa=n then nv else D aa) (cp st.sites n bW) w (az X' (fun aa=>if aa=n then nv else D aa) (cp st.sites n bW)) a v):=by
 have cM:∀aa,cj (cp st.sites n bW) aa->aa=n\/(aa≠n/\cj st.sites aa):=by
  rintro aa ⟨s,h1,h2⟩;rw[c4] at h1;by_cases e:n=aa
  ·exact .inl e.symm
  ·simp only[e,if_false] at h1;exact .inr ⟨fun h=>e h.symm,s,h1,h2⟩
 have b':∀b,az X' (fun aa=>if aa=n then nv else D aa) (cp st.sites n bW) b->az X D st.sites b:=by
  rintro b (h|⟨aa,h1,h2⟩)
  ·exact .inl (gn b h)
  ·rcases cM aa h1 with rfl|⟨h3,ay⟩
   ·simp at h2;exact .inl (hb b h2).1
   ·simp only[h3,if_false] at h2;exact .inr ⟨aa,ay,h2⟩
 have qq:∀o ab,look st.sites o=some ab->∃aD,look (cp st.sites n bW) o=some aD/\ab.cw<=aD.cw/\(aD.cw=ab.cw->(fun aa=>if aa=n then nv else D aa) o=D o):=by
  intro aa s hs;rw[c4];by_cases e:n=aa
  ·subst e;refine⟨bW,by simp,?_,fun h=>?_⟩
   ·rcases dH with h|⟨_,h⟩
    ·exact Nat.le_of_lt (h s hs)
    ·exact Nat.le_of_eq (h s hs).1
   ·rcases dH with ai|⟨ai,_⟩
    ·have:=ai s hs;omega
    ·simp[ai]
  ·have cE:¬aa=n:=fun h=>e h.symm
   exact⟨s,by simp[e,hs],Nat.le_refl _,fun _=>by simp[cE]⟩
 have G:h7 D (fun aa=>if aa=n then nv else D aa) st.sites (cp st.sites n bW) w w (az X D st.sites) (az X' (fun aa=>if aa=n then nv else D aa) (cp st.sites n bW)):=
  ⟨qq,fun _ _ _=>rfl,fun b hb _ ai=>hb (b' b ai)⟩
 have hlt:=fun b hb=>S.lt (b' b hb)
 refine⟨⟨S.nt,fun t=>(S.cI t).goes G (Nat.le_refl _) hlt,fun aa s hs=>?_,fun aa ρ b h1 h2 g1 g2=>?_,fun aa b h1 h2=>?_,S.frame,fun b h=>S.old b (gn b h),S.eZ.less fun b _=>gn b⟩,b',fun h=>h.goes G (Nat.le_refl _) hlt⟩
 ·have fH:look (cp st.sites n bW) aa=some s:=hs;rw[c4] at fH;by_cases e:n=aa
  ·subst e;simp only[if_true,Option.some.injEq] at fH;subst fH;exact fy rfl (by simp) (fun h=>h.goes G (Nat.le_refl _) hlt) b'
  ·have cE:¬aa=n:=fun h=>e h.symm
   simp only[e,if_false] at fH;exact(S.sites aa s fH).goes G (Nat.le_refl _) hlt (by simp[cE]) (fun _ _ _=>rfl)
 ·rcases cM aa h1 with rfl|⟨n1,ec⟩<;>rcases cM ρ h2 with rfl|⟨n2,gC⟩
  ·rfl
  ·simp only[if_true] at g1;simp only[n2,if_false] at g2;exact absurd (hb b g1).1 (S.cl ρ b gC g2).1
  ·simp only[if_true] at g2;simp only[n1,if_false] at g1;exact absurd (hb b g2).1 (S.cl aa b ec g1).1
  ·simp only[n1,if_false] at g1;simp only[n2,if_false] at g2;exact S.dV aa ρ b ec gC g1 g2
 ·rcases cM aa h1 with rfl|⟨n1,ec⟩
  ·simp only[if_true] at h2;exact⟨(hb b h2).2.1,(hb b h2).2.2⟩
  ·simp only[n1,if_false] at h2;exact⟨fun hx=>(S.cl aa b ec h2).1 (gn b hx),(S.cl aa b ec h2).2⟩
end
def kk(w:World)(av:Nat->Prop):List (List a')->List Value->Prop
 |[],[]=>True
 |ds::r,v::vs=>(∃b,∃cs:List Value,v=.pointer (some ⟨b,0,none⟩)/\¬av b/\b<w.heap.size/\hV w b 0 cs/\cY w av ds cs)/\kk w av r vs
 |_,_=>False
theorem kk.fn{w:World}{av:Nat->Prop}{g:FuncId}:∀{bA:List (List a')} {vs:List Value},kk w av bA vs->bD w av (.fn g bA) (.func (.func g) #[] vs.toArray):=by
 intro bA vs h;have key:∀{bA:List (List a')} {vs:List Value},kk w av bA vs->∃na:List Nat,∃e0:List (List Value),vs=na.map (fun b=>Value.pointer (some ⟨b,0,none⟩))/\na.length=bA.length/\e0.length=bA.length/\
   (∀b,b∈na->¬av b/\b<w.heap.size)/\(∀i (h:i<na.length) (ai:i<e0.length),hV w na[i] 0 e0[i])/\(∀i (h:i<bA.length) (ai:i<e0.length),cY w av bA[i] e0[i]):=by
  intro bA;induction bA with
  |nil=>
   intro vs h;match vs,h with
   |[],_=>exact⟨[],[],rfl,rfl,rfl,fun b h=>by simp at h,fun i h=>by simp at h,fun i h=>by simp at h⟩
  |cons ds bA ih=>
   intro vs h;match vs,h with
   |v::vs,⟨⟨b,cs,h1,h2,h3,ay,bo⟩,cc⟩=>
    obtain⟨na,e0,aB,aA,bC,cO,fK,ie⟩:=ih cc;refine⟨b::na,cs::e0,by simp[h1,aB],by simp[aA],by simp[bC],fun c hc=>?_,fun i g1 g2=>?_,fun i g1 g2=>?_⟩
    ·rcases List.mem_cons.1 hc with rfl|hc
     ·exact⟨h2,h3⟩
     ·exact cO c hc
    ·cases i with
     |zero=>exact ay
     |succ i=>exact fK i (by simpa using g1) (by simpa using g2)
    ·cases i with
     |zero=>exact bo
     |succ i=>exact ie i (by simpa using g1) (by simpa using g2)
 obtain⟨na,e0,aB,aA,bC,cO,fK,ie⟩:=key h;refine .fn g bA na (fun i=>e0.getD i []) _ (by rw[aB]) aA (fun b hb=>(cO b hb).1) (fun b hb=>(cO b hb).2) (fun i hi=>?_) (fun i hi j u hu=>?_) (fun i hi j h1 h2=>?_)
 ·have ai:i<e0.length:=by omega
  have:=(ie i hi ai).1;simpa[List.getD,ai] using this
 ·have ai:i<e0.length:=by omega
  have:=fK i hi ai j u (by simpa[List.getD,ai] using hu)
  simpa using this
 ·have ai:i<e0.length:=by omega
  have h2':j<e0[i].length:=by simpa[List.getD,ai] using h2
  have:=(ie i hi ai).2 j h1 h2';simpa[List.getD,ai] using this
theorem kk.SW{w:World}{av:Nat->Prop}{g:FuncId}{bA:List (List a')}{v:Value}(h:bD w av (.fn g bA) v):∃vs:List Value,v=.func (.func g) #[] vs.toArray/\kk w av bA vs:=by
 cases h with
 |fn _ _ bs iT lb hlb tD hb hlt hl hc hr=>
  refine⟨bs.map fun b=>Value.pointer (some ⟨b,0,none⟩),by rw[hlb],?_⟩
  have key:∀(bA:List (List a')) (bs:List Nat) (iT:Nat->List Value),bs.length=bA.length->(∀b,b∈bs->¬av b/\b<w.heap.size)->(∀i (h:i<bA.length),(iT i).length=(bA[i]).length)->
    (∀i (h:i<bs.length) j u,(iT i)[j]? =some u->w.cell? ⟨bs[i],j,none⟩=some u)->(∀i (h:i<bA.length) j (h1:j<(bA[i]).length) (h2:j<(iT i).length),bD w av ((bA[i])[j]) ((iT i)[j]))->
    kk w av bA (bs.map fun b=>Value.pointer (some ⟨b,0,none⟩)):=by
   intro bA;induction bA with
   |nil=>intro bs iT h _ _ _ _;rw[List.eq_nil_of_length_eq_zero h];trivial
   |cons ds bA ih=>
    intro bs iT h h1 h2 h3 ay;match bs,h with
    |b::bs,h=>
     refine⟨⟨b,iT 0,rfl,(h1 b List.mem_cons_self).1,(h1 b List.mem_cons_self).2,fun j u hu=>?_,h2 0 (by simp),fun j g1 g2=>ay 0 (by simp) j g1 g2⟩,?_⟩
     ·have:=h3 0 (by simp) j u hu
      simpa using this
     ·exact ih bs (fun i=>iT (i+1)) (by simpa using h) (fun c hc=>h1 c (List.mem_cons_of_mem _ hc)) (fun i hi=>h2 (i+1) (by simpa using hi)) (fun i hi j u hu=>h3 (i+1) (by simpa using hi) j u hu)
       (fun i hi j g1 g2=>ay (i+1) (by simpa using hi) j g1 g2)
  exact key bA bs iT tD (fun b h=>⟨hb b h,hlt b h⟩) hl hc hr
section
variable {O:World}{Y:List Nat}{X:Nat->Prop}{D:Nat->Value}{st:aj}{M:Array Value}{w:World}
structure fv(O:World)(Y:List Nat)(X:Nat->Prop)(D:Nat->Value)(st:aj)(M:Array Value)(w:World)(df:List (Nat×Site))(eU:List Nat)(av:Nat->Prop):Prop where
 fz:kS O Y X D st M w df
 le:∀b,av b->az X D (bl st.sites df) b
 auZ:∀o,o∈eU->∀b,bH (D o)=some b->¬av b
variable {df:List (Nat×Site)}{eU:List Nat}{av:Nat->Prop}
theorem fv.lt(L:fv O Y X D st M w df eU av){b:Nat}(h:av b):b<w.heap.size:=L.fz.new.lt (L.le b h)
theorem fv.sub(L:fv O Y X D st M w df eU av){b:Nat}(h:av b):az X D st.sites b:=by
 rcases L.le b h with h|⟨o,⟨ab,h1,h2⟩,h3⟩
 ·exact .inl h
 ·refine .inr ⟨o,?_,h3⟩;rcases lD L.fz.fz o with h|⟨s,t,xs,ay,bo⟩
  ·exact⟨ab,h▸h1,h2⟩
  ·rw[bo] at h1;cases h1;cases h2
theorem fv.rd(L:fv O Y X D st M w df eU av){d:a'}{v:Value}(h:bD w (az X D (bl st.sites df)) d v):bD w av d v:=
 cf.gT (D:=D) (sites:=[]) (a:=one d) (v:=v) L.le (fun b hb=>L.lt hb) h
theorem fv.wb(L:fv O Y X D st M w df eU av){d:a'}{v:Value}(h:bD w (az X D st.sites) d v):bD w av d v:=
 cf.gT (D:=D) (sites:=[]) (a:=one d) (v:=v) (fun b hb=>L.sub hb) (fun b hb=>L.lt hb) h
theorem OY(L:fv O Y X D st M w df eU av):∀{bA:List (Nat×Nat)} {cs:List (List a')} {us:List (Nat×Site)} {bs:List Nat} {vs:List Value},k5 st bA=some (cs,us,bs)->
  (∀p,p∈us->p∈df)->(∀o,o∈bs->o∈eU)->vs.length=bA.length->(∀i (h:i<bA.length) (ai:i<vs.length),Ref st.sites (bA[i]).1 (bA[i]).2 (vs[i]=D (bA[i]).1))->kk w av cs vs:=by
 intro bA;induction bA with
 |nil=>
  intro cs us bs vs h _ _ hl _;simp only[k5] at h;cases h;rw[List.eq_nil_of_length_eq_zero hl];trivial
 |cons c bA ih=>
  obtain⟨o,s⟩:=c;intro cs us bs vs h gV ep hl hr;simp only[k5] at h;split at h
  ·rename_i cells l0;split at h
   ·rename_i ds u1 rest u2 b2 gB oM;cases h;match vs,hl with
    |v::vs,hl=>
     have jB:=gG l0;obtain⟨b,T,cur,h1,h2,h3,ay,_,bo⟩:=L.fz.old.sites o _ jB;have hv:v=D o:=Ref.at (hr 0 (by simp) (by simp)) jB rfl
     have dI:=Ad gB ⟨h3,bo⟩ L.fz (fun p hp=>gV p (List.mem_append.2 (.inl hp)))
     refine⟨⟨b,cur,by rw[hv,h1],L.auZ o (ep o List.mem_cons_self) b (by rw[h1];rfl),L.fz.old.fA ⟨_,jB,rfl⟩ (by rw[h1];rfl),.row h2,dI.1,fun j g1 g2=>L.rd (dI.2 j g1 g2)⟩,?_⟩
     exact ih oM (fun p hp=>gV p (List.mem_append.2 (.inr hp))) (fun aa bS=>ep aa (List.mem_cons_of_mem _ bS)) (by simpa using hl) (fun i g1 g2=>hr (i+1) (by simpa using g1) (by simpa using g2))
   ·cases h
  ·cases h
theorem Gn(L:fv O Y X D st M w df eU av){l gm:aI}{us:List (Nat×Site)}{bs:List Nat}{v:Value}(h:mG st l=some (gm,us,bs))(gV:∀p,p∈us->p∈df)(ep:∀o,o∈bs->o∈eU)
  (hv:dO D st.sites w (az X D st.sites) l v):mF w av gm v []:=by
 unfold mG at h;split at h
 ·rename_i cells;cases h;obtain⟨b,B,h1,h2,h3,cs,ay,bo,cc⟩:=hv;exact⟨rfl,b,B,h1,fun hx=>h2 (L.sub hx),h3,cs,ay,bo,fun j g1 g2=>L.wb (cc j g1 g2)⟩
 ·rename_i g c cs;split at h
  ·rename_i ds u b hc;cases h;obtain⟨vs,h1,h2,h3⟩:=hv;rw[h1];exact⟨rfl,(OY L hc gV ep h2 h3).fn⟩
  ·cases h
 ·split at h
  ·rename_i d u Z;cases h;exact⟨rfl,L.rd (Sq Z hv L.fz gV)⟩
  ·cases h
theorem agL(L:fv O Y X D st M w df eU av):∀{ag gg:List aI} {us:List (Nat×Site)} {bs:List Nat} {vs:List Value},lQ st ag=some (gg,us,bs)->(∀p,p∈us->p∈df)->(∀o,o∈bs->o∈eU)->
  cx D st.sites w (az X D st.sites) ag vs->lf w av gg vs []:=by
 intro ag;induction ag with
 |nil=>intro gg us bs vs h _ _ hv;simp only[lQ] at h;cases h;rw[hv.nx];rfl
 |cons l ag ih=>
  intro gg us bs vs h gV ep hv;simp only[lQ] at h;split at h
  ·rename_i a u1 b1 as u2 b2 h1 h2;cases h;obtain⟨v,cn,rfl,o9,o8⟩:=hv.inv;exact⟨[],[],rfl,Gn L h1 (fun p hp=>gV p (List.mem_append.2 (.inl hp))) (fun p hp=>ep p (List.mem_append.2 (.inl hp))) o9,
    ih h2 (fun p hp=>gV p (List.mem_append.2 (.inr hp))) (fun p hp=>ep p (List.mem_append.2 (.inr hp))) o8⟩
  ·cases h
def db(D:Nat->Value)(fV:List Nat):List Nat:=fV.filterMap fun o=>bH (D o)
theorem jO{ax:Type}(a b:List (Nat×ax)):keys (a++b)=keys a++keys b:=by
 induction a with
 |nil=>rfl
 |cons p a ih=>simp[keys,ih]
theorem oj(a b:List Nat):db D (a++b)=db D a++db D b:=by simp[db]
def gO(sites:List (Nat×Site))(us:List (Nat×Site)):Prop:=∀o aD,(o,aD)∈us->∃ab,look sites o=some ab/\ab.live=true/\aD=.dead ab.cw
theorem gO.nil{sites:List (Nat×Site)}:gO sites []:=fun _ _ h=>by simp at h
theorem gO.append{sites us vs:List (Nat×Site)}(h:gO sites us)(ai:gO sites vs):gO sites (us++vs):=by
 intro o s hm;rcases List.mem_append.1 hm with hm|hm
 ·exact h o s hm
 ·exact ai o s hm
theorem aiA(L:fv O Y X D st M w df eU av){o s:Nat}{t:a7}{xs:List (den t)}(hl:look st.sites o=some (.row s t xs)):
  ∃e,∃cs:List Value,rowAt w t.jG e (aY t) (D o) xs.length cs/\cY w av (flat t xs) cs:=by
 obtain⟨e,cs,h1,h2⟩:=L.fz.old.sites o _ hl;refine⟨e,cs,h1,by rw[eW];exact h1.1,fun j g1 g2=>L.wb (h2 j g1 g2)⟩
theorem yA(L:fv O Y X D st M w df eU av){l gm:aI}{us:List (Nat×Site)}{v:Value}(h:nH st l=some (gm,us))(hv:dO D st.sites w (az X D st.sites) l v):
  mF w av gm v (db D (keys us))/\gO st.sites us:=by
 unfold nH at h;split at h
 ·cases h;exact⟨⟨rfl,L.wb hv⟩,.nil⟩
 ·rename_i t;cases h;have hv:v=.slice none 0 0:=hv;subst hv;exact⟨⟨rfl,0,[],⟨by simp,.inl ⟨rfl,rfl⟩⟩,rfl,fun j g=>by simp[flat] at g⟩,.nil⟩
 ·rename_i o s;split at h
  ·rename_i aD t xs hl;cases hb:aD.beq s with
   |false=>simp[hb] at h
   |true=>
    simp only[hb,cond_true,Option.some.injEq,Prod.mk.injEq] at h;obtain⟨rfl,rfl⟩:=h;have hs:=Nat.eq_of_beq_eq_true hb;subst hs;have hl:look st.sites o=some (.row aD t xs):=hl;have mS:v=D o:=Ref.at hv.2 hl rfl;obtain⟨e,cs,h1,h2⟩:=aiA L hl;refine⟨⟨?_,e,cs,by rw[mS];exact h1,h2⟩,fun aa aws hm=>?_⟩
    ·simp only[keys,db,List.filterMap_cons,List.filterMap_nil,mS];cases bH (D o)<;>rfl
    ·simp only[List.mem_singleton,Prod.mk.injEq] at hm;obtain⟨rfl,rfl⟩:=hm;exact⟨_,hl,rfl,rfl⟩
  ·rename_i aD t xs hl;cases hb:aD.beq s with
   |false=>simp[hb] at h
   |true=>
    simp only[hb,cond_true,Option.some.injEq,Prod.mk.injEq] at h;obtain⟨rfl,rfl⟩:=h;have hs:=Nat.eq_of_beq_eq_true hb;subst hs;have hl:look st.sites o=some (.dh aD t xs):=hl;have mS:v=D o:=Ref.at hv.2 hl rfl;refine⟨⟨rfl,?_⟩,.nil⟩;rw[mS];exact L.wb (L.fz.old.sites o _ hl).1
  ·cases h
 ·cases h;exact⟨⟨rfl,trivial⟩,.nil⟩
 ·cases h;exact⟨⟨rfl,hv⟩,.nil⟩
 ·cases h
theorem OP{ag gg:List aI}{us:List (Nat×Site)}(h:ku st ag=some (gg,us))(bU:gg.head?=some .dn):ag.head?=some .dn:=by
 cases ag with
 |nil=>simp only[ku] at h;cases h;cases bU
 |cons l ag=>
  simp only[ku] at h;split at h
  ·rename_i a u1 as u2 h1 h2;cases h;simp only[List.head?_cons,Option.some.injEq] at bU ⊢;subst bU;unfold nH at h1;split at h1<;>try(cases h1;done)
   ·split at h1;all_goals first|cases h1;done|skip
    all_goals
     rename_i aD t xs _;revert h1
     generalize aD.beq _=q;intro h1;cases q<;>cases h1
   ·rfl
  ·cases h
theorem GW(L:fv O Y X D st M w df eU av):∀{ag gg:List aI} {us:List (Nat×Site)} {vs:List Value},ku st ag=some (gg,us)->cx D st.sites w (az X D st.sites) ag vs->
  lf w av gg vs (db D (keys us))/\gO st.sites us:=by
 intro ag;induction ag with
 |nil=>intro gg us vs h hv;simp only[ku] at h;cases h;rw[hv.nx];exact⟨rfl,.nil⟩
 |cons l ag ih=>
  intro gg us vs h hv;simp only[ku] at h;split at h
  ·rename_i a u1 as u2 h1 h2;cases h;obtain⟨v,cn,rfl,o9,o8⟩:=hv.inv;obtain⟨aB,aA⟩:=yA L h1 o9;obtain⟨bC,cO⟩:=ih h2 o8;exact⟨⟨_,_,by rw[jO,oj],aB,bC⟩,aA.append cO⟩
  ·cases h
theorem iX.append{as n':List Arg}{vs cn:List Value}{bs n_:List Nat}(h:iX w av as vs bs)(ai:iX w av n' cn n_):iX w av (as++n') (vs++cn) (bs++n_):=by
 induction as generalizing vs bs with
 |nil=>
  match vs,h with
  |[],h=>have h:bs=[]:=h;subst h;exact ai
 |cons a as ih=>
  match vs,h with
  |v::vs,⟨b1,b2,h1,h2,h3⟩=>exact⟨b1,b2++n_,by rw[h1,List.append_assoc],h2,ih h3⟩
theorem ade{cs:List (List a')}{vs:List Value}(h:kk w av cs vs):iX w av (nz cs) vs []:=by
 induction cs generalizing vs with
 |nil=>
  match vs,h with
  |[],_=>rfl
 |cons ds cs ih=>
  match vs,h with
  |v::vs,⟨⟨b,cur,h1,h2,h3,ay,bo⟩,cc⟩=>
   refine⟨[],[],rfl,⟨rfl,b,0,by rw[h1],h2,h3,cur,by rw[bo.1],fun j u hu=>ay j u hu,bo.2⟩,ih cc⟩
theorem MR{as n':List Arg}{vs cn:List Value}(hl:as.length=vs.length):dL (as++n') (vs++cn)=dL as vs++dL n' cn:=by
 induction as generalizing vs with
 |nil=>rw[List.eq_nil_of_length_eq_zero hl.symm];rfl
 |cons a as ih=>
  match vs,hl with
  |v::vs,hl=>
   have:=ih (vs:=vs) (by simpa using hl)
   cases a with
   |av a=>cases v<;>simp[dL,this]
   |fk c=>
    cases v<;>try(simp[dL,this];done)
    rename_i p;cases p<;>simp[dL,this]
theorem adg(cs:List (List a'))(vs:List Value):dL (nz cs) vs=[]:=by
 induction cs generalizing vs with
 |nil=>cases vs<;>rfl
 |cons c cs ih=>cases vs<;>simp[nz,dL,ih]
theorem iX.length{as:List Arg}{vs:List Value}{bs:List Nat}(h:iX w av as vs bs):as.length=vs.length:=by
 induction as generalizing vs bs with
 |nil=>
  match vs,h with
  |[],_=>rfl
 |cons a as ih=>
  match vs,h with
  |v::vs,⟨_,_,_,_,h⟩=>simp[ih h]
theorem aeJ(L:fv O Y X D st M w df eU av):∀{cC:List aR} {a:j6} {vs:List Value},i_ st cC=some a->cC.length=vs.length->
  (∀i (h:i<cC.length) (ai:i<vs.length),cf D st.sites w (az X D st.sites) (cC[i]) (vs[i]))->(∀p,p∈a.eL->p∈df)->(∀o,o∈a.fN->o∈eU)->
  iX w av a.as vs (db D (keys a.gone))/\gO st.sites a.gone/\dL a.as vs=db D (keys a.boxes)/\(∀o s,(o,s)∈a.boxes->(o,.dead s)∈a.gone/\∃b,D o=.pointer (some ⟨b,0,none⟩)):=by
 intro cC;induction cC with
 |nil=>
  intro a vs h hl _ _ _;simp only[i_] at h;cases h;rw[List.eq_nil_of_length_eq_zero hl.symm];exact⟨rfl,.nil,rfl,fun o s hm=>by simp at hm⟩
 |cons q9 cC ih=>
  intro a vs h hl hv gV ep;match vs,hl with
  |v::vs,hl=>
   have mR:=hv 0 (by simp) (by simp)
   have hvs:∀i (h:i<cC.length) (ai:i<vs.length),cf D st.sites w (az X D st.sites) (cC[i]) (vs[i]):=fun i g1 g2=>hv (i+1) (by simpa using g1) (by simpa using g2)
   have gh:cC.length=vs.length:=by simpa using hl
   simp only[List.getElem_cons_zero] at mR;unfold i_ at h;split at h
   ·cases ‹q9::cC=[]›
   ·rename_i o s cn b5;cases b5;split at h
    ·rename_i cells r l0 hr;split at h
     ·rename_i cs gone hg;cases h;obtain⟨aB,aA,bC,cO⟩:=ih hr gh hvs gV ep;have jB:=gG l0;obtain⟨b,T,cur,e1,e2,bz,da,gp⟩:=L.fz.old.box jB mR;have I3:mE cells T cur b:=by
       obtain⟨b2,et,VS,q1,q2,_,_,cV,_⟩:=L.fz.old.sites o _ jB;rw[e1] at q1;cases q1;rw[bz] at q2;cases q2;exact cV
      obtain⟨g1,g2⟩:=GW L hg gp;subst e2;refine⟨⟨b::db D (keys gone),_,?_,⟨b,rfl,T,cur,_,rfl,bz,da,fun bU=>I3 (OP hg bU),g1⟩,aB⟩,?_,?_,?_⟩
      ·show db D (keys (((o,Site.dead s)::gone)++r.gone))=_;rw[jO,oj];congr 1
       simp[keys,db,e1,bH]
      ·refine gO.append ?_ aA;intro aa aD hm;rcases List.mem_cons.1 hm with hm|hm
       ·cases hm;exact⟨_,jB,rfl,rfl⟩
       ·exact g2 aa aD hm
      ·simp[dL,bC,keys,db,e1,bH]
      ·intro aa aD hm;rcases List.mem_cons.1 hm with hm|hm
       ·cases hm;exact⟨by simp,b,e1⟩
       ·obtain⟨q1,q2⟩:=cO aa aD hm;exact⟨List.mem_append.2 (.inr q1),q2⟩
     ·cases h
    ·cases h
   ·rename_i l cn _ b5;cases b5;split at h
    ·rename_i gm us bs r h1 hr;cases h;obtain⟨aB,aA,bC,cO⟩:=ih hr gh hvs (fun p hp=>gV p (List.mem_append.2 (.inr hp))) (fun p hp=>ep p (List.mem_append.2 (.inr hp)))
     have:=Gn L h1 (fun p hp=>gV p (List.mem_append.2 (.inl hp))) (fun p hp=>ep p (List.mem_append.2 (.inl hp))) mR
     refine⟨⟨[],_,rfl,this,aB⟩,aA,?_,cO⟩;cases v<;>simp[dL,bC]
    ·cases h
   ·rename_i ag cn b5;cases b5;split at h
    ·rename_i gg us bs r h1 hr;cases h;obtain⟨aB,aA,bC,cO⟩:=ih hr gh hvs (fun p hp=>gV p (List.mem_append.2 (.inr hp))) (fun p hp=>ep p (List.mem_append.2 (.inr hp)))
     obtain⟨mM,e1,e2,bz⟩:=mR;have:=agL L h1 (fun p hp=>gV p (List.mem_append.2 (.inl hp))) (fun p hp=>ep p (List.mem_append.2 (.inl hp))) ⟨e2,bz⟩
     refine⟨⟨[],_,rfl,⟨mM,e1,this⟩,aB⟩,aA,?_,cO⟩;cases v<;>simp[dL,bC]
    ·cases h
   ·cases h
theorem ae2(L:fv O Y X D st M w df eU av){l gm:aI}{gs us:List (Nat×Site)}{bs:List Nat}{v:Value}(h:oE st l=some (gm,gs,us,bs))(gV:∀p,p∈us->p∈df)(ep:∀o,o∈bs->o∈eU)
  (hv:dO D st.sites w (az X D st.sites) l v):mF w av gm v (db D (keys gs))/\gO st.sites gs:=by
 unfold oE at h;split at h
 ·split at h
  ·rename_i hg;cases h;exact yA L hg hv
  ·cases h
 ·cases h;exact yA (l:=.nil _) (us:=[]) L rfl hv
 ·split at h
  ·rename_i hl;cases h;exact⟨Gn L hl gV ep hv,.nil⟩
  ·cases h
theorem acU(L:fv O Y X D st M w df eU av):∀{cC:List aR} {a:j6} {vs:List Value},lK st cC=some a->cC.length=vs.length->
  (∀i (h:i<cC.length) (ai:i<vs.length),cf D st.sites w (az X D st.sites) (cC[i]) (vs[i]))->(∀p,p∈a.eL->p∈df)->(∀o,o∈a.fN->o∈eU)->
  iX w av a.as vs (db D (keys a.gone))/\gO st.sites a.gone/\dL a.as vs=db D (keys a.boxes)/\(∀o s,(o,s)∈a.boxes->(o,.dead s)∈a.gone/\∃b,D o=.pointer (some ⟨b,0,none⟩)):=by
 intro cC;induction cC with
 |nil=>
  intro a vs h hl _ _ _;simp only[lK] at h;cases h;rw[List.eq_nil_of_length_eq_zero hl.symm];exact⟨rfl,.nil,rfl,fun o s hm=>by simp at hm⟩
 |cons q9 cC ih=>
  intro a vs h hl hv gV ep;match vs,hl with
  |v::vs,hl=>
   have mR:=hv 0 (by simp) (by simp)
   have hvs:∀i (h:i<cC.length) (ai:i<vs.length),cf D st.sites w (az X D st.sites) (cC[i]) (vs[i]):=fun i g1 g2=>hv (i+1) (by simpa using g1) (by simpa using g2)
   have gh:cC.length=vs.length:=by simpa using hl
   simp only[List.getElem_cons_zero] at mR;unfold lK at h;split at h
   ·cases ‹q9::cC=[]›
   ·rename_i l cn b5;cases b5;split at h
    ·rename_i gm gs us bs r h1 hr;cases h;obtain⟨aB,aA,bC,cO⟩:=ih hr gh hvs (fun p hp=>gV p (List.mem_append.2 (.inr hp))) (fun p hp=>ep p (List.mem_append.2 (.inr hp)))
     obtain⟨g1,g2⟩:=ae2 L h1 (fun p hp=>gV p (List.mem_append.2 (.inl hp))) (fun p hp=>ep p (List.mem_append.2 (.inl hp))) mR
     refine⟨⟨_,_,by rw[jO,oj],g1,aB⟩,g2.append aA,?_,fun aa aD hm=>?_⟩
     ·cases v<;>simp[dL,bC]
     ·obtain⟨q1,q2⟩:=cO aa aD hm;exact⟨List.mem_append.2 (.inr q1),q2⟩
    ·cases h
   ·cases h
theorem NH{b:Bool}(L:fv O Y X D st M w df eU av){cC:List aR}{a:j6}{vs:List Value}(h:rZ b st cC=some a)(hl:cC.length=vs.length)
  (hv:∀i (h:i<cC.length) (ai:i<vs.length),cf D st.sites w (az X D st.sites) (cC[i]) (vs[i])) (h1:∀p,p∈a.eL->p∈df) (h2:∀o,o∈a.fN->o∈eU):
  iX w av a.as vs (db D (keys a.gone))/\gO st.sites a.gone/\dL a.as vs=db D (keys a.boxes)/\(∀o s,(o,s)∈a.boxes->(o,.dead s)∈a.gone/\∃b,D o=.pointer (some ⟨b,0,none⟩)):=by
 cases b
 ·exact aeJ L h hl hv h1 h2
 ·exact acU L h hl hv h1 h2
end
end Go.Jk
