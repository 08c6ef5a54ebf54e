/- FnDiskNew: a stored root is recovered. (part 1 of 7: JkCore, JkGlob, JkState, JkExec, JkFoot, JkCode, JkTurn, JkOps1, JkOps2, JkOps3, JkOps4, JkOps5, JkOps6, JkOps7, JkOps8, JkOps9, JkOps10, JkOps11, JkOps12, JkOps13, JkOps14, JkOps15, JkOps16, JkOps17,) Conditions: none beyond the statement. -/
import Derived.Calls
import Derived.Below
import Derived.WalkKit
import Derived.Laws.AppendOwn
import Derived.Great.BuildSlice
import Derived.IntWalk
import Derived.Laws.Tables
import Derived.MapKept
import Derived.Laws.BytesArg
import Derived.Lib.ConvBytes
set_option linter.unusedSimpArgs false
set_option linter.unusedVariables false
namespace Go.Jk
abbrev J:=List UInt8
structure az where
 path:J
 kind:Int
 mode:Int
 text:J
structure bQ where
 name:J
 kind:Int
 bf:J
structure aS where
 name:J
 bf:J
 bj:List bQ
 bH:List az
structure at0 where
 name:J
 text:J
structure abV where
 name:J
 text:J
structure Source where
 name:J
 sum:J
structure Piece where
 name:J
 eU:J
structure anr where
 name:J
 bf:J
 lets:List abV
 builds:List bQ
 runs:List bQ
 sources:List Source
 pieces:List Piece
 steps:List J
structure atn where
 at_:Int
 lines:List J
inductive bc where
 |i64|u8|u32|bool|str|entry|need|pack|file|lt|source|piece|recipe|hunk|sA
 deriving DecidableEq
@[reducible] def den:bc->Type
 |.i64|.u8|.u32=>Int
 |.bool=>Bool
 |.str=>J
 |.entry=>az
 |.need=>bQ
 |.pack=>aS
 |.file=>at0
 |.lt=>abV
 |.source=>Source
 |.piece=>Piece
 |.recipe=>anr
 |.hunk=>atn
 |.sA=>List Bool
inductive be:Type where
 |int (k:IntKind) (n:Int)
 |bool (b:Bool)
 |str (s:J)
 |sl (t:bc) (xs:List (den t))
 |fn (g:FuncId) (bA:List (List be))
 |map (t:bc) (es:List (J×den t))
 |err (T:Nat) (B:Option Int)
def enc:(t:bc)->den t->List be
 |.i64,n=>[.int .i64 n]
 |.u8,n=>[.int .u8 n]
 |.u32,n=>[.int .u32 n]
 |.bool,b=>[.bool b]
 |.str,s=>[.str s]
 |.entry,e=>[.str e.path,.int .i64 e.kind,.int .i64 e.mode,.str e.text]
 |.need,n=>[.str n.name,.int .i64 n.kind,.str n.bf]
 |.pack,p=>[.str p.name,.str p.bf,.sl .need p.bj,.sl .entry p.bH]
 |.file,f=>[.str f.name,.str f.text]
 |.lt,f=>[.str f.name,.str f.text]
 |.source,f=>[.str f.name,.str f.sum]
 |.piece,f=>[.str f.name,.str f.eU]
 |.recipe,r=>[.str r.name,.str r.bf,.sl .lt r.lets,.sl .need r.builds,.sl .need r.runs,.sl .source r.sources,.sl .piece r.pieces,.sl .str r.steps]
 |.hunk,h=>[.int .i64 h.at_,.sl .str h.lines]
 |.sA,b=>[.sl .bool b]
def bb:bc->Nat
 |.i64|.u8|.u32|.bool|.str|.sA=>1
 |.entry=>4
 |.need=>3
 |.pack=>4
 |.file|.lt|.source|.piece|.hunk=>2
 |.recipe=>8
def dec:(t:bc)->List be->Option (den t)
 |.i64,[.int .i64 n]=>some n
 |.u8,[.int .u8 n]=>some n
 |.u32,[.int .u32 n]=>some n
 |.bool,[.bool b]=>some b
 |.str,[.str s]=>some s
 |.entry,[.str a,.int .i64 k,.int .i64 m,.str b]=>some ⟨a,k,m,b⟩
 |.need,[.str a,.int .i64 k,.str b]=>some ⟨a,k,b⟩
 |.pack,[.str a,.str b,.sl .need ns,.sl .entry es]=>some ⟨a,b,ns,es⟩
 |.file,[.str a,.str b]=>some ⟨a,b⟩
 |.lt,[.str a,.str b]=>some ⟨a,b⟩
 |.source,[.str a,.str b]=>some ⟨a,b⟩
 |.piece,[.str a,.str b]=>some ⟨a,b⟩
 |.recipe,[.str a,.str b,.sl .lt ai,.sl .need bs,.sl .need kz,.sl .source ba,.sl .piece ps,.sl .str cU]=>some ⟨a,b,ai,bs,kz,ba,ps,cU⟩
 |.hunk,[.int .i64 n,.sl .str ai]=>some ⟨n,ai⟩
 |.sA,[.sl .bool b]=>some b
 |_,_=>none
theorem iH:∀(t:bc) (x:den t),(enc t x).length=bb t:=by
 intro t x;cases t<;>rfl
theorem lI(t:bc):0<bb t:=by cases t<;>decide
theorem zQ:∀(t:bc) (ds:List be) (x:den t),dec t ds=some x->enc t x=ds:=by
 intro t ds x h;unfold dec at h;split at h<;>first|(cases h;rfl)|cases h
def flat(t:bc)(xs:List (den t)):List be:=xs.flatMap (enc t)
theorem eS(t:bc)(xs:List (den t)):(flat t xs).length=xs.length*bb t:=by
 unfold flat;induction xs with
 |nil=>simp
 |cons x xs ih=>simp[List.flatMap_cons,iH,ih,Nat.add_mul,Nat.add_comm]
theorem ra(t:bc)(xs bg:List (den t)):flat t (xs++bg)=flat t xs++flat t bg:=by
 simp[flat,List.flatMap_append]
theorem flat_get(t:bc)(xs:List (den t))(i j:Nat)(x:den t)(hx:xs[i]? =some x)(hj:j<bb t):
  (flat t xs)[i*bb t+j]? =(enc t x)[j]? :=by
 induction xs generalizing i with
 |nil=>simp at hx
 |cons y bg ih=>
  cases i with
  |zero=>
   simp only[List.getElem?_cons_zero,Option.some.injEq] at hx;subst hx;simp only[Nat.zero_mul,Nat.zero_add,flat,List.flatMap_cons];rw[List.getElem?_append_left (by rw[iH];exact hj)]
  |succ i=>
   simp only[List.getElem?_cons_succ] at hx;have:=ih i hx;simp only[flat,List.flatMap_cons] at this ⊢;rw[List.getElem?_append_right (by rw[iH,Nat.add_mul];omega),iH]
   rw[<-this];congr 1
   rw[Nat.add_mul];omega
theorem ajh(t:bc)(xs:List (den t))(i:Nat)(x:den t):
  flat t (xs.set i x)=(flat t xs).take (i*bb t)++(if i<xs.length then enc t x else [])++(flat t xs).drop ((i+1)*bb t):=by
 induction xs generalizing i with
 |nil=>simp[flat]
 |cons y bg ih=>
  cases i with
  |zero=>
   simp only[List.set_cons_zero,flat,List.flatMap_cons,Nat.zero_mul,List.take_zero,List.nil_append,List.length_cons,Nat.zero_lt_succ,if_true,Nat.zero_add,Nat.one_mul];rw[List.drop_append_of_le_length (by rw[iH];omega)]
   rw[show List.drop (bb t) (enc t y)=[] from List.drop_eq_nil_of_le (by rw[iH];exact Nat.le_refl _)]
   rfl
  |succ i=>
   have h:=ih i;simp only[flat] at h;simp only[List.set_cons_succ,flat,List.flatMap_cons,List.length_cons];rw[h];have e1:List.take ((i+1)*bb t) (enc t y++bg.flatMap (enc t))=enc t y++(bg.flatMap (enc t)).take (i*bb t):=by
    rw[List.take_append,List.take_of_length_le (by rw[iH,Nat.add_mul];omega),iH]
    congr 2
    rw[Nat.add_mul];omega
   have e2:List.drop ((i+1+1)*bb t) (enc t y++bg.flatMap (enc t))=(bg.flatMap (enc t)).drop ((i+1)*bb t):=by
    rw[List.drop_append,List.drop_eq_nil_of_le (by rw[iH,Nat.add_mul,Nat.add_mul];omega),iH,List.nil_append]
    congr 1
    rw[Nat.add_mul (i+1) 1];omega
   rw[e1,e2];simp only[Nat.add_lt_add_iff_right,List.append_assoc]
def h_:List Int:=[1116352408,1899447441,3049323471,3921009573,961987163,1508970993,2453635748,2870763221,3624381080,310598401,607225278,1426881987,1925078388,2162078206,2614888103,3248222580,3835390401,4022224774,264347078,604807628,770255983,1249150122,1555081692,1996064986,2554220882,2821834349,2952996808,3210313671,3336571891,3584528711,113926993,338241895,666307205,773529912,1294757372,1396182291,1695183700,1986661051,2177026350,2456956037,2730485921,2820302411,3259730800,3345764771,3516065817,3600352804,4094571909,275423344,430227734,506948616,659060556,883997877,958139571,1322822218,1537002063,1747873779,1955562222,2024104815,2227730452,2361852424,2428436474,2756734187,3204031479,3329325298]
def Vu:List Int:=(List.range 20).map fun i=>((10^i:Nat):Int)
def nE(w:World)(g:Nat)(k:IntKind)(zs:List Int):Prop:=∃T fz,w.heap[g]? =some (.cells (zs.map fun z=>Value.int k z).toArray T fz)
def qN:TypeId:=91
def mb:TypeId:=5
def ku:List Nat:=[0,1]
def mV(w:World):Prop:=nE w 0 .u32 h_/\nE w 1 .u64 Vu
theorem ao4{w w':World}(h:∀b,b∈ku->w'.heap[b]? =w.heap[b]?)(k:mV w):mV w':=by
 obtain⟨⟨Md,f0,h0⟩,⟨cX,f1,h1⟩⟩:=k;exact⟨⟨Md,f0,(h 0 (by simp[ku])).trans h0⟩,⟨cX,f1,(h 1 (by simp[ku])).trans h1⟩⟩
theorem nE.lt{w:World}{g:Nat}{k:IntKind}{zs:List Int}(h:nE w g k zs):g<w.heap.size:=by
 obtain⟨T,f,h⟩:=h;exact(Array.getElem?_eq_some_iff.1 h).1
theorem awI{w:World}(k:mV w)(b:Nat)(h:b∈ku):b<w.heap.size:=by
 simp only[ku,List.mem_cons,List.not_mem_nil,or_false] at h;rcases h with rfl|rfl
 ·exact k.1.lt
 ·exact k.2.lt
inductive aP:Type where
 |d (v:be)
 |nil (t:bc) -- sX nil slice
 |own (o s:Nat) -- sX whole of a row of A9 own
 |ptr (o s off:Nat) -- a pointer azY a box of A9 own
 |er (cells:List be) (off:Nat) -- a pointer abE cells By aaC only read
 |eP (o s:Nat) (t:bc) (k off:Nat) -- a pointer abE azy k of a row of A9 own,avo cell 'oT
 |clo (g:FuncId) (bA:List (Nat×Nat)) -- a closure over boxes of A9 own
 |cH (v:Value) -- azX this value
 |fresh (t:bc) (xs:List (den t)) -- a row By azE else holds (alJ caller and callee alone)
 |dh -- in a apb first cell:nil,or sX apb own address (strings.azA)
 |any
inductive bP:Type where
 |am (l:aP)
 |agg (ai:List aP)
inductive aZ:Type where
 |av (a:bP)
 |ju (as:List bP)
inductive Site:Type where
 |box (s:Nat) (cells:List aP)
 |row (s:Nat) (t:bc) (xs:List (den t))
 |c8 (s:Nat) (t:bc) (xs:List (den t))
 |map (s:Nat) (t:bc) (es:List (J×den t))
 |dead (s:Nat)
def Site.cl:Site->Nat
 |.box s _|.row s _ _|.c8 s _ _|.map s _ _|.dead s=>s
def Site.live:Site->Bool
 |.box _ _|.row _ _ _|.map _ _ _=>true
 |_=>false
def look{aI:Type}:List (Nat×aI)->Nat->Option aI
 |[],_=>none
 |(k,v)::r,n=>bif k.beq n then some v else look r n
def ci{aI:Type}:List (Nat×aI)->Nat->aI->List (Nat×aI)
 |[],n,v=>[(n,v)]
 |(k,w)::r,n,v=>bif k.beq n then(k,v)::r else(k,w)::ci r n v
theorem js{a b:Nat}(h:¬a=b):a.beq b=false:=by
 cases e:a.beq b
 ·rfl
 ·exact absurd (Nat.eq_of_beq_eq_true e) h
theorem cR{aI:Type}(l:List (Nat×aI))(n m:Nat)(v:aI):look (ci l n v) m=if n=m then some v else look l m:=by
 induction l with
 |nil=>
  simp only[ci,look];by_cases h:n=m
  ·subst h;simp
  ·have:n.beq m=false:=js h;simp[this,h]
 |cons p l ih=>
  obtain⟨k,w⟩:=p;simp only[ci];by_cases h:k=n
  ·subst h;simp only[Nat.beq_refl,cond_true,look];by_cases hm:k=m
   ·subst hm;simp
   ·have:k.beq m=false:=js hm;simp[this,hm]
  ·have hb:k.beq n=false:=js h;simp only[hb,cond_false,look];by_cases hm:k=m
   ·subst hm;have:¬n=k:=fun e=>h e.symm
    simp[this]
   ·have:k.beq m=false:=js hm;simp[this,ih]
structure al where
 cA:List (Nat×aZ)
 sites:List (Nat×Site)
 nt:Nat
def al.get(st:al)(t:Nat):aZ:=match look st.cA t with|some v=>v|none=>.av (.am .any)
def al.ae(st:al)(o:Nat):Option Site:=look st.sites o
def al.set(st:al)(t:Nat)(v:aZ):al:={st with cA:=ci st.cA t v}
def al.hY(st:al)(o:Nat)(s:Site):al:={st with sites:=ci st.sites o s}
@[simp] theorem al.Hc(st:al)(t u:Nat)(v:aZ):(st.set t v).get u=if t=u then v else st.get u:=by
 unfold al.set al.get;rw[cR];by_cases h:t=u<;>simp[h]
@[simp] theorem al.ah0(st:al)(t o:Nat)(v:aZ):(st.set t v).ae o=st.ae o:=rfl
@[simp] theorem al.amW(st:al)(t:Nat)(v:aZ):(st.set t v).nt=st.nt:=rfl
@[simp] theorem al.ad8(st:al)(o u:Nat)(s:Site):(st.hY o s).get u=st.get u:=rfl
@[simp] theorem al.wV(st:al)(o ab:Nat)(s:Site):(st.hY o s).ae ab=if o=ab then some s else st.ae ab:=by
 unfold al.hY al.ae;simp only[cR]
@[simp] theorem al.aeW(st:al)(o:Nat)(s:Site):(st.hY o s).nt=st.nt:=rfl
def m_:(t:bc)->den t->Value
 |.i64,n=>.int .i64 n
 |.bool,b=>.bool b
 |_,_=>undef
def gG(l:J):Value:=.string ⟨l.toArray⟩
def mu(arr:Array MapEntry):List (Value×Value):=arr.toList.map fun e=>(e.key,e.val)
def jP(t:bc)(es:List (J×den t)):List (Value×Value):=es.map fun p=>(gG p.1,m_ t p.2)
def lS(w:World)(b:Nat)(t:bc)(es:List (J×den t)):Prop:=∃arr clock,w.heap[b]? =some (.map arr clock)/\mu arr=jP t es
theorem lS.of{w w':World}{b:Nat}{t:bc}{es:List (J×den t)}(h:w'.heap[b]? =w.heap[b]?)(m:lS w b t es):lS w' b t es:=by
 obtain⟨arr,c,h1,h2⟩:=m;exact⟨arr,c,h.trans h1,h2⟩
theorem lS.lt{w:World}{b:Nat}{t:bc}{es:List (J×den t)}(m:lS w b t es):b<w.heap.size:=by
 obtain⟨arr,c,h1,h2⟩:=m;rcases Nat.lt_or_ge b w.heap.size with h|h
 ·exact h
 ·rw[Array.getElem?_eq_none h] at h1;cases h1
inductive bF(w:World)(av:Nat->Prop):be->Value->Prop where
 |int (k:IntKind) (n:Int):bF w av (.int k n) (.int k n)
 |bool (b:Bool):bF w av (.bool b) (.bool b)
 |str (l:J) (s:ByteArray) (h:s.data.toList=l):bF w av (.str l) (.string s)
 |nil (t:bc):bF w av (.sl t []) (.slice none 0 0)
 |sl (t:bc) (xs:List (den t)) (a:Addr) (cap:Nat) (cs:List Value) (n:Nat) (hn:n=xs.length) (hcap:n<=cap) (hb:xs≠[]->¬av a.block)
   (hl:cs.length=(flat t xs).length)
   (hc:∀j u,cs[j]? =some u->w.cell? (a.add j)=some u)
   (hr:∀j (h:j<(flat t xs).length) (aj:j<cs.length),bF w av ((flat t xs)[j]) (cs[j])):bF w av (.sl t xs) (.slice (some a) n cap)
 |fn (g:FuncId) (bA:List (List be)) (bs:List Nat) (iE:Nat->List Value) (lb:Array Value) (hlb:lb=(bs.map fun b=>Value.pointer (some ⟨b,0,none⟩)).toArray) (tj:bs.length=bA.length)
   (hb:∀b,b∈bs->¬av b) (hlt:∀b,b∈bs->b<w.heap.size)
   (hl:∀i (h:i<bA.length),(iE i).length=(bA[i]).length)
   (hc:∀i (h:i<bs.length) j u,(iE i)[j]? =some u->w.cell? ⟨bs[i],j,none⟩=some u)
   (hr:∀i (h:i<bA.length) j (h1:j<(bA[i]).length) (h2:j<(iE i).length),bF w av ((bA[i])[j]) ((iE i)[j])):
   bF w av (.fn g bA) (.func (.func g) #[] lb)
 |u' (t:bc):bF w av (.map t []) (.map none)
 |map (t:bc) (es:List (J×den t)) (b:Nat) (hb:¬av b) (hm:lS w b t es):bF w av (.map t es) (.map (some b))
 |vm (T:TypeId):bF w av (.err T none) .nilIface
 |err (T:TypeId) (n:Int):bF w av (.err T (some n)) (.iface T (.agg #[.int .i64 n]))
theorem bF.je{w:World}{av:Nat->Prop}{d:be}{v:Value}(r:bF w av d v):v.oneCell'=true:=by
 cases r<;>rfl
def BZ(v:Value):Prop:=v=.slice none 0 0\/∃b n c,v=.slice (some ⟨b,0,none⟩) n c
def bN:Value->Option Nat
 |.slice (some a) _ _=>some a.block
 |.pointer (some a)=>some a.block
 |.map (some b)=>some b
 |_=>none
section
variable (D:Nat->Value)(sites:List (Nat×Site))(w:World)(av:Nat->Prop)
def Ref(o s:Nat)(p:Prop):Prop:=∃ae,look sites o=some ae/\s<=ae.cl/\(ae.cl=s->p)
def dM:aP->Value->Prop
 |.d x,v=>bF w av x v
 |.nil _,v=>v=.slice none 0 0
 |.own o s,v=>v.oneCell'=true/\Ref sites o s (v=D o)
 |.ptr o s off,v=>∃b,v=.pointer (some ⟨b,off,none⟩)/\Ref sites o s (D o=.pointer (some ⟨b,0,none⟩))
 |.er cells off,v=>∃b B,v=.pointer (some ⟨b,B+off,none⟩)/\¬av b/\b<w.heap.size/\∃cs:List Value,cs.length=cells.length/\(∀j u,cs[j]? =some u->w.cell? ⟨b,B+j,none⟩=some u)/\
   ∀j (h:j<cells.length) (aj:j<cs.length),bF w av (cells[j]) (cs[j])
 |.eP o s t k off,v=>∃b,v=.pointer (some ⟨b,k*bb t+off,none⟩)/\Ref sites o s (∃n c,D o=.slice (some ⟨b,0,none⟩) n c)
 |.clo g bA,v=>∃vs:List Value,v=.func (.func g) #[] vs.toArray/\vs.length=bA.length/\∀i (h:i<bA.length) (aj:i<vs.length),Ref sites (bA[i]).1 (bA[i]).2 (vs[i]=D (bA[i]).1)
 |.cH u,v=>v=u
 |.fresh _ _,_=>False
 |.dh,_=>True
 |.any,_=>True
def bc.jw:bc->Bool
 |.u8=>true
 |_=>false
def mI(u:Bool)(e:TypeId)(cur:Array Value)(fz:Nat×Nat):Prop:=(u=true->e=mb)/\(fz=(0,0)\/u=true/\cur.size<=fz.1)
def rowAt(w:World)(u:Bool)(e:TypeId)(size:Nat)(v:Value)(n:Nat)(xs:List Value):Prop:=
 xs.length=n*size/\((v=.slice none 0 0/\n=0)\/
  ∃g cap cur fz,v=.slice (some ⟨g,0,none⟩) n cap/\mI u e cur fz/\w.heap[g]? =some (.cells cur e fz)/\n<=cap/\cap<=maxLen/\cur.size=cap*size/\cur.toList.take (n*size)=xs)
theorem Ed(w:World)(u:Bool)(e:TypeId)(size:Nat):rowAt w u e size (.slice none 0 0) 0 []:=⟨by simp,.inl ⟨rfl,rfl⟩⟩
def mB(cells:List aP)(T:TypeId)(cur:List Value)(b:Nat):Prop:=cells.head?=some .dh->T=qN/\(cur.head?=some (.pointer none)\/cur.head?=some (.pointer (some ⟨b,0,none⟩)))
def gL:bP->Value->Prop
 |.am l,v=>dM D sites w av l v
 |.agg ai,v=>∃vs:List Value,v=.agg vs.toArray/\vs.length=ai.length/\∀j (h:j<ai.length) (aj:j<vs.length),dM D sites w av (ai[j]) (vs[j])
def b_:aZ->Value->Prop
 |.av a,v=>gL D sites w av a v
 |.ju as,v=>∃vs:List Value,v=.tuple vs.toArray/\vs.length=as.length/\∀j (h:j<as.length) (aj:j<vs.length),gL D sites w av (as[j]) (vs[j])
def jM(o:Nat):Site->Prop
 |.box _ cells=>∃b T,∃cur:List Value,D o=.pointer (some ⟨b,0,none⟩)/\w.heap[b]? =some (.cells cur.toArray T (0,0))/\cur.length=cells.length/\
   (∀u∈cur,u.oneCell'=true)/\mB cells T cur b/\∀j (h:j<cells.length) (aj:j<cur.length),dM D sites w av (cells[j]) (cur[j])
 |.row _ t xs=>∃e,∃cs:List Value,rowAt w t.jw e (bb t) (D o) xs.length cs/\∀j (h:j<(flat t xs).length) (aj:j<cs.length),bF w av ((flat t xs)[j]) (cs[j])
 |.c8 _ t xs=>bF w av (.sl t xs) (D o)/\BZ (D o)
 |.map _ t es=>∃b,D o=.map (some b)/\lS w b t es
 |.dead _=>True
end
def ce(sites:List (Nat×Site))(o:Nat):Prop:=∃ae,look sites o=some ae/\ae.live=true
def aH(X:Nat->Prop)(D:Nat->Value)(sites:List (Nat×Site))(b:Nat):Prop:=X b\/∃o,ce sites o/\bN (D o)=some b
structure Fr(Y:List Nat)(U w:World):Prop where
 os:w.os=U.os
 tape:w.tape=U.tape
 output:w.output=U.output
 size:U.heap.size<=w.heap.size
 block:∀b,b<U.heap.size->b∉Y->w.heap[b]? =U.heap[b]?
theorem Fr.refl(Y:List Nat)(w:World):Fr Y w w:=⟨rfl,rfl,rfl,Nat.le_refl _,fun _ _ _=>rfl⟩
structure ij(w:World)(Y:List Nat)(X:Nat->Prop):Prop where
 ok:mV w
 Y:∀b,b∈ku->b∉Y
 X:∀b,b∈ku->¬X b
 lt:∀b,b∈ku->b<w.heap.size
theorem ij.less{w:World}{Y:List Nat}{X X':Nat->Prop}(G:ij w Y X)(h:∀b,b∈ku->X' b->X b):ij w Y X':=⟨G.ok,G.Y,fun b hb hx=>G.X b hb (h b hb hx),G.lt⟩
theorem ij.aoH{w:World}{Y:List Nat}{X X':Nat->Prop}(G:ij w Y X)(h:∀b,X' b->X b\/b∈Y):ij w Y X':=⟨G.ok,G.Y,fun b hb hx=>(h b hx).elim (G.X b hb) (G.Y b hb),G.lt⟩
structure aq(U:World)(Y:List Nat)(X:Nat->Prop)(D:Nat->Value)(st:al)(M:Array Value)(w:World):Prop where
 nt:M.size=st.nt
 cA:∀t,b_ D st.sites w (aH X D st.sites) (st.get t) (M.getD t undef)
 sites:∀o ae,look st.sites o=some ae->jM D st.sites w (aH X D st.sites) o ae
 dW:∀o ab b,ce st.sites o->ce st.sites ab->bN (D o)=some b->bN (D ab)=some b->o=ab
 cg:∀o b,ce st.sites o->bN (D o)=some b->¬X b/\(b∈Y\/U.heap.size<=b)
 frame:Fr Y U w
 old:∀b,X b->b<w.heap.size
 eU:ij U Y X
inductive b7:Type where
 |none
 |int (k:IntKind)
 |bool
 |str
 |ptr
 |func
 |slice (e:TypeId) (t:bc) (bytes:Nat)
 |struct (bO:List (Nat×Nat)) (n:Nat) (z:List aP) (eq:Bool)
 |map (k e:TypeId) (t:bc)
 |arr (e:TypeId) (t:bc) (n:Nat)
 |iface
def wy:(t:bc)->Option (den t)
 |.i64|.u8|.u32=>some (0:Int)
 |.bool=>some false
 |.str=>some ([]:J)
 |_=>none
def sU:bc->Option aP
 |.i64=>some (.d (.int .i64 0))
 |.u8=>some (.d (.int .u8 0))
 |.u32=>some (.d (.int .u32 0))
 |.bool=>some (.d (.bool false))
 |.str=>some (.d (.str []))
 |_=>none
def b7.agg:b7->Bool
 |.struct _ _ _ _|.arr _ _ _=>true
 |_=>false
def b7.known:b7->Bool
 |.none=>false
 |_=>true
def b7.size:b7->Nat
 |.struct _ n _ _=>n
 |.arr _ _ n=>n
 |_=>1
def b7.zero:b7->Option (List aP)
 |.none=>Option.none
 |.int k=>some [.d (.int k 0)]
 |.bool=>some [.d (.bool false)]
 |.str=>some [.d (.str [])]
 |.ptr=>some [.cH (.pointer Option.none)]
 |.func=>some [.cH .nilFunc]
 |.slice _ t _=>some [.nil t]
 |.struct _ _ z _=>some z
 |.map _ _ _=>some [.cH (.map Option.none)]
 |.arr _ t n=>(sU t).map (List.replicate n)
 |.iface=>some [.cH .nilIface]
inductive Arg:Type where
 |av (a:bP)
 |e8 (cells:List aP)
structure vq:Type 1 where
 F:Type
 comp:Option F
 e8:F->List (List aP)
 e5:F->List bP
abbrev aB:=List Arg->vq
def vq.fail:vq:=⟨Unit,Option.none,fun _=>[],fun _=>[]⟩
structure Ctx:Type 1 where
 tt:TypeId->b7
 bO:FuncId->Option aB
 lw:FuncId->Option FuncId:=fun _=>none
 m':FuncId->Bool:=fun _=>false
 op:FuncId->Bool:=fun _=>false
 j6:FuncId->Bool:=fun _=>false -- a aho copy check
 bs:FuncId->Bool:=fun _=>false -- a aho String
 gt:Nat->Option ((t:bc)×List (den t)):=fun _=>none -- sX azv tables
structure cZ:Type 1 where
 F:Type
 comp:Option F
 val:F->aZ
 us:F->List (Nat×Site)
 qO:F->Bool
def cZ.fail:cZ:=⟨Unit,Option.none,fun _=>.av (.am .any),fun _=>[],fun _=>false⟩
def cZ.ok(v:aZ):cZ:=⟨Unit,some (),fun _=>v,fun _=>[],fun _=>true⟩
def cZ.fk(v:aZ)(us:List (Nat×Site)):cZ:=⟨Unit,some (),fun _=>v,fun _=>us,fun _=>true⟩
def cZ.ei{F:Type}(c:Option F)(f:F->aZ):cZ:=⟨F,c,f,fun _=>[],fun _=>true⟩
def cZ.g_{F:Type}(c:Option F)(f:F->aZ)(us:F->List (Nat×Site)):cZ:=⟨F,c,f,us,fun _=>true⟩
def aN{aI:Type}(xs:List aI)(i:Int):Option aI:=if 0<=i then xs[i.toNat]? else none
def bk(n:Nat)(i:Int):Option Nat:=if 0<=i/\i<n then some i.toNat else none
def bu{aI:Type}(xs:List aI)(cI hi:Int):Option (List aI):=if 0<=cI/\cI<=hi/\hi<=xs.length then some ((xs.take hi.toNat).drop cI.toNat) else none
def room:Nat:=140737488355328
def cj{aI:Type}(bytes:Nat)(xs bg:List aI):Option (List aI):=if(xs.length+bg.length)*bytes<=room/\xs.length+bg.length<=maxLen then some (xs++bg) else none
def bX(s t:J):Option J:=if((s.length+t.length:Nat):Int)>IntKind.i64.max then none else some (s++t)
def lc(k:IntKind)(x y:Int):Option Int:=if y=0 then none else some (k.wrap (x.tdiv y))
def h'(x y:Int):Option Int:=if y=0 then none else some (x.tmod y)
def la(k:IntKind)(x y:Int):Option Int:=if y<0 then none else some (k.wrap (x*2^(min y.toNat k.bits)))
def eZ(k:IntKind)(x y:Int):Option Int:=if y<0 then none else some (x.fdiv (2^(min y.toNat k.bits)))
def jv{aI:Type}(bytes:Nat)(n c:Int)(z:aI):Option (List aI):=if 0<=n/\n<=c/\c*bytes<=room/\c<=maxLen then some (List.replicate n.toNat z) else none
def gp(x y:Int):Int:=if y>x then y else x
def ld(x y:Int):Int:=if y<x then y else x
def et(k:IntKind)(x y:Int):Int:=k.wrap (BitVec.ofInt k.bits x &&& BitVec.ofInt k.bits y).toNat
def hq(k:IntKind)(x y:Int):Int:=k.wrap (BitVec.ofInt k.bits x ||| BitVec.ofInt k.bits y).toNat
def c4(k:IntKind)(x y:Int):Int:=k.wrap (BitVec.ofInt k.bits x ^^^ BitVec.ofInt k.bits y).toNat
def bytesOf(s:J):List Int:=s.map fun b=>(b.toNat:Int)
def strOf(xs:List Int):J:=xs.map fun n=>UInt8.ofNat n.toNat
abbrev one(d:be):aZ:=.av (.am (.d d))
abbrev bZ(l:aP):aZ:=.av (.am l)
def ur(ti:b7):Value->aZ
 |.int k n=>one (.int k n)
 |.bool b=>one (.bool b)
 |.string s=>one (.str s.data.toList)
 |.slice none 0 0=>match ti with|.slice _ t _=>bZ (.nil t)|_=>bZ (.cH (.slice none 0 0))
 |.map none=>match ti with|.map _ _ t=>one (.map t [])|_=>bZ (.cH (.map none))
 |.agg _|.tuple _=>bZ .any
 |v=>bZ (.cH v)
def bd(C:Ctx)(st:al)(T:TypeId):Operand->aZ
 |.tmp t=>st.get t
 |.const v=>ur (C.tt T) v
 |.global g=>bZ (.cH (.pointer (some ⟨g,0,none⟩)))
 |.func f=>bZ (.clo f [])
def rowOf(st:al)(o s:Nat):Option ((t:bc)×List (den t)):=
 match st.ae o with
 |some (.row aM t xs)=>bif aM.beq s then some ⟨t,xs⟩ else none
 |some (.c8 aM t xs)=>bif aM.beq s then some ⟨t,xs⟩ else none
 |_=>none
def fs(st:al)(o s:Nat):Option (List aP):=
 match st.ae o with
 |some (.box aM cells)=>bif aM.beq s then some cells else none
 |_=>none
def mapOf(st:al):aP->Option ((t:bc)×List (J×den t))
 |.d (.map t es)=>some ⟨t,es⟩
 |.own o s=>match st.ae o with
  |some (.map aM t es)=>bif aM.beq s then some ⟨t,es⟩ else none
  |_=>none
 |_=>none
def kb{aI:Type}:List (J×aI)->J->Option aI
 |[],_=>none
 |(k,v)::r,n=>bif k==n then some v else kb r n
def oE{aI:Type}:List (J×aI)->J->aI->List (J×aI)
 |[],n,v=>[(n,v)]
 |(k,w)::r,n,v=>bif k==n then(k,v)::r else(k,w)::oE r n v
def IU:(t:bc)->be->Option (den t)
 |.i64,.int .i64 n=>some n
 |.bool,.bool b=>some b
 |_,_=>none
def uY:(t:bc)->Option (den t)->Option be
 |.i64,B=>some (.int .i64 (B.getD 0))
 |.bool,B=>some (.bool (B.getD false))
 |_,_=>none
def bq(st:al)(o:Nat):Nat:=match st.ae o with|some x=>x.cl+1|none=>0
def lY(st:al)(o s:Nat)(t:bc)(xs:List (den t)):List (Nat×Site):=match st.ae o with
 |some (.c8 _ _ _)=>[]
 |_=>[(o,.c8 s t xs)]
def jA(st:al):aP->Option (be×List (Nat×Site))
 |.d v=>some (v,[])
 |.nil t=>some (.sl t [],[])
 |.own o s=>match rowOf st o s with|some ⟨t,xs⟩=>some (.sl t xs,lY st o s t xs)|none=>none
 |.clo g []=>some (.fn g [],[])
 |_=>none
def fE(st:al):List aP->Option (List be×List (Nat×Site))
 |[]=>some ([],[])
 |l::ai=>match jA st l,fE st ai with
  |some (d,us),some (ds,vs)=>some (d::ds,us++vs)
  |_,_=>none
def bP.cells:bP->List aP
 |.am l=>[l]
 |.agg ai=>ai
def aP.storable:aP->Bool
 |.any|.dh|.fresh _ _|.er _ _|.eP _ _ _ _ _=>false
 |.cH (.agg _)|.cH (.tuple _)=>false
 |_=>true
def gU:List aP->Bool
 |[]=>true
 |l::ai=>l.storable&&gU ai
def cut(agg:Bool)(off n:Nat)(ai:List aP):Option aZ:=
 bif agg then(bif Nat.ble (off+n) ai.length then some (.av (.agg ((ai.drop off).take n))) else none)
 else match ai.drop off with|l::_=>some (bZ l)|[]=>none
def cv(ds:List be):List aP:=ds.map .d
def bM{aI:Type}(old:List aI)(off:Nat)(new:List aI):List aI:=old.take off++new++old.drop (off+new.length)
def Aq:be->be->Option Bool
 |.int k a,.int k' b=>if k=k' then some (a==b) else none
 |.bool a,.bool b=>some (a==b)
 |.str a,.str b=>some (a==b)
 |_,_=>none
def ut:List aP->List aP->Option Bool
 |[.d a],[.d b]=>Aq a b
 |.d a::as,.d b::bs=>match Aq a b,ut as bs with
  |some x,some y=>some (x&&y)
  |_,_=>none
 |_,_=>none
def UK(op:BinOp)(k:IntKind)(x y:Int):cZ:=
 match op with
 |.add=>.ok (one (.int k (k.wrap (x+y))))
 |.sub=>.ok (one (.int k (k.wrap (x-y))))
 |.mul=>.ok (one (.int k (k.wrap (x*y))))
 |.quo=>.ei (lc k x y) fun n=>one (.int k n)
 |.rem=>.ei (h' x y) fun n=>one (.int k n)
 |.and=>.ok (one (.int k (et k x y)))
 |.or=>.ok (one (.int k (hq k x y)))
 |.xor=>.ok (one (.int k (c4 k x y)))
 |.eql=>.ok (one (.bool (x==y)))
 |.neq=>.ok (one (.bool (x !=y)))
 |.lss=>.ok (one (.bool (decide (x<y))))
 |.leq=>.ok (one (.bool (decide (x<=y))))
 |.gtr=>.ok (one (.bool (decide (x>y))))
 |.geq=>.ok (one (.bool (decide (x>=y))))
 |_=>.fail
def Up(op:BinOp)(s t:J):cZ:=
 match op with
 |.add=>.ei (bX s t) fun r=>one (.str r)
 |.eql=>.ok (one (.bool (s==t)))
 |.neq=>.ok (one (.bool (!(s==t))))
 |.lss=>.ok (one (.bool (Op.bytesLess s t)))
 |.leq=>.ok (one (.bool (Op.bytesLess s t||s==t)))
 |.gtr=>.ok (one (.bool (!(Op.bytesLess s t||s==t))))
 |.geq=>.ok (one (.bool (!(Op.bytesLess s t))))
 |_=>.fail
def Tm(op:BinOp)(k:IntKind)(a:Int)(k':IntKind)(b:Int):cZ:=
 match op with
 |.shl=>.ei (la k a b) fun n=>one (.int k n)
 |.shr=>.ei (eZ k a b) fun n=>one (.int k n)
 |op=>if k=k' then UK op k a b else .fail
def TX(op:BinOp)(ti:b7)(a b:Bool):cZ:=
 match ti with
 |.bool=>match op with
  |.eql=>.ok (one (.bool (a==b)))
  |.neq=>.ok (one (.bool (!(a==b))))
  |_=>.fail
 |_=>.fail
def qn:List aP->List aP->Bool
 |[],[]=>true
 |.d (.int _ _)::z,.d (.int _ _)::l=>qn z l
 |.d (.bool _)::z,.d (.bool _)::l=>qn z l
 |.d (.str _)::z,.d (.str _)::l=>qn z l
 |_,_=>false
def U1(op:BinOp)(ti:b7)(xs bg:List aP):cZ:=
 match ti with
 |.struct _ n z true=>bif xs.length.beq n&&qn z xs then
   match ut xs bg with
   |some b=>match op with
    |.eql=>.ok (one (.bool b))
    |.neq=>.ok (one (.bool (!b)))
    |_=>.fail
   |none=>.fail
  else .fail
 |_=>.fail
def Bl(op:BinOp)(ti:b7)(B:Option Int):cZ:=
 match ti with
 |.iface=>match op with
  |.eql=>.ok (one (.bool B.isNone))
  |.neq=>.ok (one (.bool B.isSome))
  |_=>.fail
 |_=>.fail
def Au:Operand->Bool
 |.const .nilIface=>true
 |_=>false
def Ik(op:BinOp)(ti:b7):aZ->cZ
 |.av (.am (.d (.err _ B)))=>Bl op ti B
 |.av (.am (.cH .nilIface))=>Bl op ti none
 |_=>.fail
def JB(op:BinOp)(ti:b7)(x y:aZ):cZ:=
 match x,y with
 |.av (.am (.d (.int k a))),.av (.am (.d (.int k' b)))=>Tm op k a k' b
 |.av (.am (.d (.str s))),.av (.am (.d (.str t)))=>Up op s t
 |.av (.am (.d (.bool a))),.av (.am (.d (.bool b)))=>TX op ti a b
 |.av (.agg xs),.av (.agg bg)=>U1 op ti xs bg
 |_,_=>.fail
def sr(agg:Bool)(n:Nat)(st:al)(a:aZ):cZ:=
 match a with
 |.av (.am (.ptr o s off))=>match fs st o s with
  |some cells=>match cut agg off n cells with|some v=>.ok v|none=>.fail
  |none=>.fail
 |.av (.am (.er cells off))=>match cut agg off n (cv cells) with|some v=>.ok v|none=>.fail
 |.av (.am (.eP o s u k off))=>match rowOf st o s with
  |some ⟨t,xs⟩=>if t=u/\off+n<=bb t then .ei (xs[k]?) fun x=>match cut agg off n (cv (enc t x)) with|some v=>v|none=>bZ .any else .fail
  |none=>.fail
 |_=>.fail
def rR(n:Nat)(st:al)(a:aZ)(v:bP):cZ:=
 bif v.cells.length.beq n then
 match a with
 |.av (.am (.ptr o s off))=>match fs st o s with
  |some cells=>bif Nat.ble (off+n) cells.length&&gU v.cells then .fk (bZ (.cH undef)) [(o,.box s (bM cells off v.cells))] else .fail
  |none=>.fail
 |.av (.am (.eP o s u k off))=>match st.ae o with
  |some (.row aM t xs)=>bif aM.beq s&&Nat.ble (off+n) (bb t)&&decide (t=u) then
    match fE st v.cells with
    |some (ds,us)=>bif(look us o).isNone then .g_ ((xs[k]?).bind fun x=>dec t (bM (enc t x) off ds)) (fun _=>bZ (.cH undef)) fun x=>us++[(o,.row s t (xs.set k x))] else .fail
    |none=>.fail
   else .fail
  |_=>.fail
 |_=>.fail
 else .fail
def rc(u:bc)(st:al)(x:aZ)(i:Int):cZ:=
 match x with
 |.av (.am (.d (.sl t xs)))=>if t=u then .ei (aN xs i) fun x=>bZ (.er (enc t x) 0) else .fail
 |.av (.am (.own o s))=>match rowOf st o s with
  |some ⟨t,xs⟩=>if t=u then .ei (bk xs.length i) fun k=>bZ (.eP o s t k 0) else .fail
  |none=>.fail
 |_=>.fail
def DT(off:Nat):aZ->cZ
 |.av (.am (.ptr o s B))=>.ok (bZ (.ptr o s (B+off)))
 |.av (.am (.er cells B))=>.ok (bZ (.er cells (B+off)))
 |.av (.am (.eP o s t k B))=>.ok (bZ (.eP o s t k (B+off)))
 |_=>.fail
def im(lj:Int):Option aZ->Option Int
 |none=>some lj
 |some (.av (.am (.d (.int _ n))))=>some n
 |some _=>none
def rU(ti:b7)(st:al)(x:aZ)(cI hi:Option aZ):cZ:=
 match x with
 |.av (.am (.d (.str s)))=>match ti,im 0 cI,im s.length hi with
  |.str,some l,some h=>.ei (bu s l h) fun r=>one (.str r)
  |_,_,_=>.fail
 |.av (.am (.d (.sl t xs)))=>match ti,im 0 cI,im xs.length hi with
  |.slice _ u _,some l,some h=>if t=u then .ei (bu xs l h) fun r=>one (.sl t r) else .fail
  |_,_,_=>.fail
 |.av (.am (.nil t))=>match ti,im 0 cI,im 0 hi with
  |.slice _ _ _,some l,some h=>.ei (bu ([]:List (den t)) l h) fun r=>one (.sl t r)
  |_,_,_=>.fail
 |.av (.am (.own o s))=>match rowOf st o s with
  |some ⟨t,xs⟩=>match ti,im 0 cI,im xs.length hi with
   |.slice _ u _,some l,some h=>if t=u then .g_ (bu xs l h) (fun r=>one (.sl t r)) fun _=>lY st o s t xs else .fail
   |_,_,_=>.fail
  |none=>.fail
 |_=>.fail
def sH(ti:b7)(st:al)(x:aZ):cZ:=
 match ti,x with
 |.str,.av (.am (.d (.str s)))=>.ok (one (.int .i64 s.length))
 |.slice _ _ _,.av (.am (.d (.sl _ xs)))=>.ok (one (.int .i64 xs.length))
 |.slice _ _ _,.av (.am (.nil _))=>.ok (one (.int .i64 0))
 |.slice _ _ _,.av (.am (.own o s))=>match rowOf st o s with
  |some ⟨_,xs⟩=>.ok (one (.int .i64 xs.length))
  |none=>.fail
 |.map _ _ _,.av (.am l)=>match mapOf st l with
  |some ⟨_,es⟩=>.ok (one (.int .i64 es.length))
  |none=>.fail
 |_,_=>.fail
def sj(st:al):aZ->Option be
 |.av (.am (.d (.sl t xs)))=>some (.sl t xs)
 |.av (.am (.d (.str s)))=>some (.str s)
 |.av (.am (.nil t))=>some (.sl t [])
 |.av (.am (.own o s))=>match rowOf st o s with|some ⟨t,xs⟩=>some (.sl t xs)|none=>none
 |_=>none
def pS(bytes:Nat)(t:bc)(dst:Nat)(st:al)(s:aZ)(bg:List (den t)):cZ:=
 match s with
 |.av (.am (.nil _))=>.g_ (cj bytes [] bg) (fun _=>bZ (.own dst (bq st dst))) fun r=>[(dst,.row (bq st dst) t r)]
 |.av (.am (.own o s))=>match st.ae o with
  |some (.row aM bz xs)=>bif aM.beq s then
    if aj:bz=t then .g_ (cj bytes (aj▸xs:List (den t)) bg) (fun _=>bZ (.own dst (bq (st.hY o (.dead s)) dst)))
     fun r=>[(o,.dead s),(dst,.row (bq (st.hY o (.dead s)) dst) t r)]
    else .fail
   else .fail
  |_=>.fail
 |_=>.fail
def rO(bytes:Nat)(t:bc)(dst:Nat)(st:al)(s x:aZ):cZ:=
 match sj st x with
 |none=>.fail
 |some d=>match d with
  |.sl u bg=>if h:u=t then pS bytes t dst st s (h▸bg:List (den t)) else .fail
  |_=>.fail
def rP(bytes:Nat)(t:bc)(dst:Nat)(st:al)(s x:aZ):cZ:=
 match x with
 |.av (.am (.d (.str y)))=>if h:t=.u8 then pS bytes t dst st s (h▸(bytesOf y:List (den .u8))) else .fail
 |_=>.fail
def lk(t:bc)(st:al):List bP->Option (List (den t)×List (Nat×Site))
 |[]=>some ([],[])
 |a::as=>match fE st a.cells with
  |some (ds,us)=>match dec t ds,lk t st as with
   |some x,some (xs,vs)=>some (x::xs,us++vs)
   |_,_=>none
  |none=>none
def l0:aZ->Option bP
 |.av a=>some a
 |.ju _=>none
def nD:List aZ->Option (List bP)
 |[]=>some []
 |v::vs=>match l0 v,nD vs with|some a,some as=>some (a::as)|_,_=>none
def rH:Nat->List (Nat×Operand)->Bool
 |_,[]=>true
 |n,(i,_)::r=>i.beq n&&rH (n+1) r
def isByte:b7->Bool
 |.int .u8=>true
 |_=>false
def sz(C:Ctx)(src dst:TypeId)(o:Nat)(st:al)(x:aZ):cZ:=
 match C.tt src,C.tt dst,x with
 |.none,_,_=>.fail
 |_,.int k,.av (.am (.d (.int _ n)))=>.ok (one (.int k (k.wrap n)))
 |_,.str,.av (.am (.d (.str s)))=>.ok (one (.str s))
 |.slice e .u8 _,.str,.av (.am (.d (.sl .u8 xs)))=>bif isByte (C.tt e) then .ok (one (.str (strOf xs))) else .fail
 |.slice e .u8 _,.str,.av (.am (.nil _))=>bif isByte (C.tt e) then .ok (one (.str [])) else .fail
 |.slice e .u8 _,.str,.av (.am (.own ab s))=>match rowOf st ab s with
  |some ⟨.u8,xs⟩=>bif isByte (C.tt e) then .ok (one (.str (strOf xs))) else .fail
  |_=>.fail
 |.str,.slice e .u8 _,.av (.am (.d (.str s)))=>bif isByte (C.tt e) then .g_ (if s.length<=maxLen then some () else none) (fun _=>bZ (.own o (bq st o))) fun _=>[(o,.row (bq st o) .u8 (bytesOf s))] else .fail
 |_,_,_=>.fail
def kU(st:al):List (Nat×Nat)->Option (List (List be)×List (Nat×Site)×List Nat)
 |[]=>some ([],[],[])
 |(o,s)::r=>match fs st o s with
  |some cells=>match fE st cells,kU st r with
   |some (ds,us),some (rest,vs,bs)=>some (ds::rest,us++vs,o::bs)
   |_,_=>none
  |none=>none
def mF(st:al):aP->Option (aP×List (Nat×Site)×List Nat)
 |.er cells 0=>some (.er cells 0,[],[])
 |.clo g (c::cs)=>match kU st (c::cs) with|some (ds,us,bs)=>some (.d (.fn g ds),us,bs)|none=>none
 |l=>match jA st l with|some (d,us)=>some (.d d,us,[])|none=>none
def lM(st:al):List aP->Option (List aP×List (Nat×Site)×List Nat)
 |[]=>some ([],[],[])
 |l::ai=>match mF st l,lM st ai with
  |some (a,us,bs),some (as,vs,cs)=>some (a::as,us++vs,bs++cs)
  |_,_=>none
def nB(st:al):aP->Option (aP×List (Nat×Site))
 |.d v=>some (.d v,[])
 |.nil t=>some (.fresh t [],[])
 |.own o s=>match st.ae o with
  |some (.row aM t xs)=>bif aM.beq s then some (.fresh t xs,[(o,.dead s)]) else none
  |some (.c8 aM t xs)=>bif aM.beq s then some (.d (.sl t xs),[]) else none
  |_=>none
 |.dh=>some (.dh,[])
 |.cH v=>some (.cH v,[])
 |_=>none
def uO:List aP->List aP
 |.cH (.pointer none)::r=>.dh::r
 |l=>l
def kl(st:al):List aP->Option (List aP×List (Nat×Site))
 |[]=>some ([],[])
 |l::ai=>match nB st l,kl st ai with
  |some (a,us),some (as,vs)=>some (a::as,us++vs)
  |_,_=>none
structure jX where
 as:List Arg
 eG:List (Nat×Site) -- rows By aaC eG,as azC aAT frozen
 fA:List Nat -- boxes By aaC eG
 gone:List (Nat×Site) -- boxes By go over,and rows in azR
 boxes:List (Nat×Nat) -- sX boxes:ae,cl
def iM(st:al):List aZ->Option jX
 |[]=>some ⟨[],[],[],[],[]⟩
 |.av (.am (.ptr o s 0))::vs=>match fs st o s,iM st vs with
  |some cells,some r=>match kl st cells with
   |some (cs,gone)=>some ⟨.e8 cs::r.as,r.eG,r.fA,((o,.dead s)::gone)++r.gone,(o,s)::r.boxes⟩
   |none=>none
  |_,_=>none
 |.av (.am l)::vs=>match mF st l,iM st vs with
  |some (a,us,bs),some r=>some ⟨.av (.am a)::r.as,us++r.eG,bs++r.fA,r.gone,r.boxes⟩
  |_,_=>none
 |.av (.agg ai)::vs=>match lM st ai,iM st vs with
  |some (as,us,bs),some r=>some ⟨.av (.agg as)::r.as,us++r.eG,bs++r.fA,r.gone,r.boxes⟩
  |_,_=>none
 |_::_=>none
def oF(st:al):aP->Option (aP×List (Nat×Site)×List (Nat×Site)×List Nat)
 |.own o s=>match nB st (.own o s) with|some (a,us)=>some (a,us,[],[])|none=>none
 |.nil t=>some (.fresh t [],[],[],[])
 |l=>match mF st l with|some (a,us,bs)=>some (a,[],us,bs)|none=>none
def lG(st:al):List aZ->Option jX
 |[]=>some ⟨[],[],[],[],[]⟩
 |.av (.am l)::vs=>match oF st l,lG st vs with
  |some (a,us,ai,bs),some r=>some ⟨.av (.am a)::r.as,ai++r.eG,bs++r.fA,us++r.gone,r.boxes⟩
  |_,_=>none
 |_::_=>none
def rF(b:Bool)(st:al)(vs:List aZ):Option jX:=bif b then lG st vs else iM st vs
def bc.oC:bc->Bool
 |.pack|.recipe|.hunk|.sA=>true
 |_=>false
def aP.oC:aP->Bool
 |.d (.sl _ _)|.d (.fn _ _)|.d (.map _ _)=>true
 |.d _=>false
 |.fresh t _=>t.oC
 |.dh|.cH _=>false
 |_=>true
def rq:List aP->Bool
 |[]=>false
 |l::ai=>l.oC||rq ai
def rh:List bP->Bool
 |[]=>false
 |a::as=>rq a.cells||rh as
def rf:List (List aP)->Bool
 |[]=>false
 |a::as=>rq a||rf as
def take(st:al)(n:Nat):List aP->List aP×List (Nat×Site)
 |[]=>([],[])
 |.fresh t xs::ai=>let r:=take st (n+1) ai;(.own n (bq st n)::r.1,(n,.row (bq st n) t xs)::r.2)
 |l::ai=>let r:=take st (n+1) ai;(l::r.1,r.2)
def dS(st:al)(n:Nat):List bP->List bP×List (Nat×Site)
 |[]=>([],[])
 |.am l::as=>let x:=take st n [l];let r:=dS st (n+100) as;((match x.1 with|[ga]=>.am ga|ai=>.agg ai)::r.1,x.2++r.2)
 |.agg ai::as=>let x:=take st n ai;let r:=dS st (n+100) as;(.agg x.1::r.1,x.2++r.2)
def gD(st:al):List (Nat×Nat)->List (List aP)->List (Nat×Site)
 |(o,s)::bs,cs::cC=>let x:=take st (1000000+o*100) cs;x.2++(o,.box s x.1)::gD st bs cC
 |_,_=>[]
def Us:List bP->aZ
 |[a]=>.av a
 |as=>.ju as
def keys{aI:Type}:List (Nat×aI)->List Nat
 |[]=>[]
 |p::r=>p.1::keys r
def fD(n:Nat):List Nat->Bool
 |[]=>false
 |m::r=>n.beq m||fD n r
def fq:List Nat->Bool
 |[]=>true
 |n::r=>!fD n r&&fq r
def eT:List Nat->List Nat->Bool
 |[],_=>true
 |n::r,l=>!fD n l&&eT r l
def oP(dst:Nat)(st:al)(S:aB)(a:jX):cZ:=
 let r:=S a.as
 {F:=r.F,comp:=r.comp
  val:=fun y=>Us (dS st (2000000+dst*10000) (r.e5 y)).1
  us:=fun y=>(bif rh (r.e5 y)||rf (r.e8 y) then a.eG else [])++a.gone++gD st a.boxes (r.e8 y)++(dS st (2000000+dst*10000) (r.e5 y)).2
  qO:=fun y=>fq (keys a.gone)&&eT (keys a.eG++a.fA) (keys a.gone)&&fq (keys (gD st a.boxes (r.e8 y)++(dS st (2000000+dst*10000) (r.e5 y)).2))&&
   eT (keys a.eG++a.fA) (keys (gD st a.boxes (r.e8 y)++(dS st (2000000+dst*10000) (r.e5 y)).2))&&(!(rh (r.e5 y)||rf (r.e8 y))||a.fA.isEmpty)}
def callee(v:aZ):Option (FuncId×List (Nat×Nat)):=
 match v with
 |.av (.am (.clo g bA))=>some (g,bA)
 |_=>none
def fZ(C:Ctx)(st:al):List Operand->List TypeId->List aZ
 |[],_=>[]
 |x::xs,[]=>bd C st 0 x::fZ C st xs []
 |x::xs,T::cL=>bd C st T x::fZ C st xs cL
def nu:List (List be)->List Arg
 |[]=>[]
 |c::cs=>.av (.am (.er c 0))::nu cs
def rT(g:FuncId)(n:Nat)(st:al):List aZ->cZ
 |[.av (.am (.d (.str s))),.av (.am (.d (.str p)))]=>.fk (bZ (.clo g [(n,bq st n),(n+1,bq st (n+1)),(n+2,bq st (n+2))]))
   [(n,.box (bq st n) [.d (.str p)]),(n+1,.box (bq st (n+1)) [.d (.str s)]),(n+2,.box (bq st (n+2)) [.d (.int .i64 0)])]
 |_=>.fail
def copyV(st:al):List aZ->cZ
 |[.av (.am (.ptr o s 0))]=>match st.ae o with
  |some (.box aM [.dh,l])=>bif aM.beq s then .fk (.ju []) [(o,.box s [.dh,l])] else .fail
  |_=>.fail
 |_=>.fail
def rE(st:al):List aZ->cZ
 |[.av (.am (.ptr o s 0))]=>match fs st o s with
  |some [_,.nil .u8]=>.ok (one (.str []))
  |some [_,.own ab u]=>match st.ae ab with
   |some (.row bT .u8 xs)=>bif bT.beq u then .fk (one (.str (strOf xs))) [(ab,.c8 u .u8 xs)] else .fail
   |_=>.fail
  |_=>.fail
 |_=>.fail
def so(n:Nat)(st:al):List aZ->cZ
 |[.av (.am (.d (.sl .u8 xs)))]=>.fk (bZ (.ptr n (bq st n) 0)) [(n,.box (bq st n) [.d (.sl .u8 (xs.take 2000)),.d (.int .i64 0)])]
 |_=>.fail
def lF(C:Ctx)(dst:Nat)(st:al)(f:aZ)(vs:List aZ):cZ:=
  match f with
  |.av (.am (.clo g bA))=>match C.lw g with
   |some cn=>match bA with
    |[]=>rT cn (3000000+dst*10) st vs
    |_=>.fail
   |none=>bif C.op g then(match bA with
    |[]=>so (4000000+dst) st vs
    |_=>.fail) else bif C.j6 g then(match bA with
    |[]=>copyV st vs
    |_=>.fail) else bif C.bs g then(match bA with
    |[]=>rE st vs
    |_=>.fail) else match C.bO g,rF (C.m' g) st vs,kU st bA with
    |some S,some a,some (cs,us,bs)=>oP dst st S {a with as:=a.as++nu cs,eG:=a.eG++us,fA:=a.fA++bs}
    |_,_,_=>.fail
  |.av (.am (.d (.fn g bA)))=>match C.bO g,iM st vs with
    |some S,some a=>oP dst st S {a with as:=a.as++nu bA}
    |_,_=>.fail
  |_=>.fail
def BR(t:bc)(xs:List (den t))(n:Nat):List aP:=match wy t with
 |some z=>(List.range n).flatMap fun j=>cv (enc t (xs.getD j z))
 |none=>[]
def sP(t:bc):List aP->Option (List (den t))
 |[]=>some []
 |.d d::ai=>match dec t [d],sP t ai with
  |some x,some xs=>some (x::xs)
  |_,_=>none
 |_=>none
def long{aI:Type}(n:Nat)(xs:List aI):Option (List aI):=if xs.length=n then some xs else none
def qg(o:Nat)(st:al)(t:bc)(n:Nat)(xs:List (den t)):cZ:=bif xs.length.beq n&&Nat.ble n 1000 then .fk (bZ (.eP o (bq st o) t 0 0)) [(o,.row (bq st o) t xs)] else .fail
def sf(o:Nat)(st:al)(t:bc)(n:Nat):cZ:=match wy t with
 |some z=>qg o st t n (List.replicate n z)
 |none=>.fail
def sR(o:Nat)(st:al)(t:bc)(n:Nat)(v:aZ):cZ:=match v with
 |.av (.agg ai)=>match sP t ai with
  |some xs=>qg o st t n xs
  |none=>.fail
 |_=>.fail
def ss(st:al)(t:bc)(n:Nat)(a:aZ):cZ:=match a with
 |.av (.am (.eP o s u 0 0))=>match rowOf st o s with
  |some ⟨bz,xs⟩=>if bz=t/\bz=u then .ei (long n xs) fun xs=>.av (.agg (BR bz xs n)) else .fail
  |none=>.fail
 |_=>.fail
def rS(st:al)(t:bc)(n:Nat)(a:aZ)(v:bP):cZ:=match a,v with
 |.av (.am (.eP o s u 0 0)),.agg ai=>match st.ae o with
  |some (.row aM bz xs)=>if bz=t/\bz=u/\aM=s then(match sP bz ai with
   |some bg=>bif bg.length.beq n then .g_ (long n xs) (fun _=>bZ (.cH undef)) fun _=>[(o,.row s bz bg)] else .fail
   |none=>.fail) else .fail
  |_=>.fail
 |_,_=>.fail
def re(C:Ctx)(st:al)(t:bc)(n:Nat)(x:aZ)(i:Int):cZ:=match x with
 |.av (.am (.eP o s u 0 0))=>match rowOf st o s with
  |some ⟨bz,xs⟩=>if bz=t/\bz=u then .ei ((long n xs).bind fun xs=>bk xs.length i) fun k=>bZ (.eP o s bz k 0) else .fail
  |none=>.fail
 |.av (.am (.cH (.pointer (some ⟨g,0,none⟩))))=>match C.gt g with
  |some ⟨bz,xs⟩=>bif decide (bz=t)&&xs.length.beq n then .ei (aN xs i) fun x=>bZ (.er (enc bz x) 0) else .fail
  |none=>.fail
 |_=>.fail
def Ib(t:bc)(n:Nat)(x:aZ)(i:Int):cZ:=match x with
 |.av (.agg ai)=>match sP t ai with
  |some xs=>bif xs.length.beq n then .ei (aN xs i) fun x=>(match enc t x with|[d]=>bZ (.d d)|_=>bZ .any) else .fail
  |none=>.fail
 |_=>.fail
def rV(st:al)(t:bc)(n:Nat)(x:aZ)(cI hi:Option aZ):cZ:=match x with
 |.av (.am (.eP o s u 0 0))=>match rowOf st o s,im 0 cI,im n hi with
  |some ⟨bz,xs⟩,some l,some h=>if bz=t/\bz=u then .g_ ((long n xs).bind fun xs=>bu xs l h) (fun r=>bZ (.d (.sl bz r))) fun _=>lY st o s bz xs else .fail
  |_,_,_=>.fail
 |_=>.fail
def kS(C:Ctx)(st:al)(B:Oper):cZ:=
 match B.op with
 |.makeMap t r=>match B.dst,C.tt t with
  |some o,.map _ _ ty=>match r with
   |none=>.fk (bZ (.own o (bq st o))) [(o,.map (bq st o) ty [])]
   |some x=>match bd C st 0 x with
    |.av (.am (.d (.int _ _)))=>.fk (bZ (.own o (bq st o))) [(o,.map (bq st o) ty [])]
    |_=>.fail
  |_,_=>.fail
 |.mapUpdate t m k x=>rZ C st t m k x
 |.insert t m k x=>rZ C st t m k x
 |.lookup t m k c=>match C.tt t,bd C st t m,bd C st 0 k with
  |.map _ _ ty,.av (.am l),.av (.am (.d (.str n)))=>match mapOf st l with
   |some ⟨u,es⟩=>bif decide (u=ty) then(match uY u (kb es n) with
    |some d=>.ok (bif c then .ju [.am (.d d),.am (.d (.bool (kb es n).isSome))] else one d)
    |none=>.fail) else .fail
   |none=>.fail
  |_,_,_=>.fail
 |.makeInterface t x=>match C.tt t,bd C st t x with
  |.struct _ _ _ _,.av (.agg [.d (.int .i64 n)])=>.ok (one (.err t (some n)))
  |_,_=>.fail
 |_=>.fail
where
 rZ (C:Ctx) (st:al) (t:TypeId) (m k x:Operand):cZ:=match C.tt t,bd C st t m,bd C st 0 k,bd C st 0 x with
  |.map _ _ ty,.av (.am (.own o s)),.av (.am (.d (.str n))),.av (.am (.d d))=>match st.ae o with
   |some (.map aM u es)=>bif aM.beq s&&decide (u=ty) then(match IU u d with
    |some v=>.fk (bZ (.cH undef)) [(o,.map s u (oE es n v))]
    |none=>.fail) else .fail
   |_=>.fail
  |_,_,_,_=>.fail
def step(C:Ctx)(st:al)(B:Oper):cZ:=
 match B.op with
 |.move x|.assign x=>.ok (bd C st B.type x)
 |.pick c a b=>match bd C st B.type c with
  |.av (.am (.d (.bool true)))=>.ok (bd C st B.type a)
  |.av (.am (.d (.bool false)))=>.ok (bd C st B.type b)
  |_=>.fail
 |.alloc elem=>match B.dst,C.tt elem with
  |some o,.arr _ t n=>sf o st t n
  |some o,ti=>match ti.zero with
   |some z=>.fk (bZ (.ptr o (bq st o) 0)) [(o,.box (bq st o) (bif elem.beq qN then uO z else z))]
   |none=>.fail
  |_,_=>.fail
 |.box elem x=>match B.dst,C.tt elem with
  |some o,.arr _ t n=>sR o st t n (bd C st elem x)
  |some o,_=>match l0 (bd C st elem x) with
   |some a=>bif gU a.cells then .fk (bZ (.ptr o (bq st o) 0)) [(o,.box (bq st o) a.cells)] else .fail
   |none=>.fail
  |_,_=>.fail
 |.build t parts=>match C.tt t with
  |.struct bO _ z _=>mv C st bO z parts.toList
  |.arr _ ty n=>match sU ty with
   |some z=>mv C st ((List.range n).map fun j=>(j,1)) (List.replicate n z) parts.toList
   |none=>.fail
  |_=>.fail
 |.buildSlice t len parts=>match B.dst,C.tt t with
  |some o,.slice e ty _=>bif parts.toList.length.beq len&&rH 0 parts.toList&&Nat.ble (len*bb ty) 1000 then
    match nD (parts.toList.map fun p=>bd C st e p.2) with
    |some as=>match lk ty st as with
     |some (xs,us)=>.fk (bZ (.own o (bq st o))) (us++[(o,.row (bq st o) ty xs)])
     |none=>.fail
    |none=>.fail
   else .fail
  |_,_=>.fail
 |.load t a=>match C.tt t with
  |.arr _ ty n=>ss st ty n (bd C st t a)
  |ti=>bif ti.known then sr ti.agg ti.size st (bd C st t a) else .fail
 |.store t a x=>match l0 (bd C st t x) with
  |some v=>match C.tt t with
   |.arr _ ty n=>rS st ty n (bd C st t a) v
   |ti=>bif ti.known then rR ti.size st (bd C st t a) v else .fail
  |none=>.fail
 |.nilCheck x=>match bd C st B.type x with
  |.av (.am (.ptr o s f))=>.ok (bZ (.ptr o s f))
  |.av (.am (.er cs f))=>.ok (bZ (.er cs f))
  |.av (.am (.eP o s t k f))=>.ok (bZ (.eP o s t k f))
  |_=>.fail
 |.binOp op t x y _=>bif Au y then Ik op (C.tt t) (bd C st t x) else JB op (C.tt t) (bd C st t x) (bd C st t y)
 |.unOp op _ x=>match op,bd C st B.type x with
  |.not,.av (.am (.d (.bool b)))=>.ok (one (.bool (!b)))
  |.neg,.av (.am (.d (.int k n)))=>.ok (one (.int k (k.wrap (0-n))))
  |.xor,.av (.am (.d (.int k n)))=>.ok (one (.int k (c4 k (if k.signed then-1 else k.max) n)))
  |_,_=>.fail
 |.convert src dst x=>(match B.dst with|some o=>sz C src dst o st (bd C st src x)|none=>.fail)
 |.makeFunc fn first captured=>match fn with
  |.func g=>bif first.toList.isEmpty then(match nC C st captured.toList with|some bA=>.ok (bZ (.clo g bA))|none=>.fail) else .fail
  |_=>.fail
 |.makeSlice t l c=>match B.dst,C.tt t,bd C st 0 l,bd C st 0 c with
  |some o,.slice e ty bytes,.av (.am (.d (.int _ n))),.av (.am (.d (.int _ m)))=>match(C.tt e).zero with
   |some z=>match fE st z with
    |some (ds,_)=>match dec ty ds with
     |some eK=>.g_ (jv bytes n m eK) (fun _=>bZ (.own o (bq st o))) fun r=>[(o,.row (bq st o) ty r)]
     |none=>.fail
    |none=>.fail
   |none=>.fail
  |_,_,_,_=>.fail
 |.slice t x cI hi C2=>match C2 with
  |none=>match C.tt t with
   |.arr _ ty n=>rV st ty n (bd C st t x) (cI.map (bd C st 0)) (hi.map (bd C st 0))
   |ti=>rU ti st (bd C st t x) (cI.map (bd C st 0)) (hi.map (bd C st 0))
  |some _=>.fail
 |.fieldAddr s x f=>match C.tt s with
  |.struct bO _ _ _=>match bO[f]? with
   |some (off,_)=>DT off (bd C st 0 x)
   |none=>.fail
  |_=>.fail
 |.indexAddr t x i=>match C.tt t,bd C st 0 i with
  |.slice _ ty _,.av (.am (.d (.int _ n)))=>rc ty st (bd C st t x) n
  |.arr _ ty m,.av (.am (.d (.int _ n)))=>re C st ty m (bd C st t x) n
  |_,_=>.fail
 |.index t x i=>match C.tt t,bd C st t x,bd C st 0 i with
  |.str,.av (.am (.d (.str s))),.av (.am (.d (.int _ n)))=>.ei (aN s n) fun b=>one (.int .u8 b.toNat)
  |.arr _ ty m,v,.av (.am (.d (.int _ n)))=>Ib ty m v n
  |_,_,_=>.fail
 |.extract t i=>match bd C st 0 t with
  |.ju as=>match as[i]? with
   |some a=>.ok (.av a)
   |none=>.fail
  |_=>.fail
 |.call c=>match c.callee with
  |.value f=>match B.dst with
   |some d=>lF C d st (bd C st 0 f) (fZ C st c.args.toList c.argTypes.toList)
   |none=>lF C 0 st (bd C st 0 f) (fZ C st c.args.toList c.argTypes.toList)
  |.builtin b=>match b,B.dst,c.args.toList,c.argTypes.toList with
   |.len,_,[x],[t]=>sH (C.tt t) st (bd C st t x)
   |.append,some o,[s,x],[t,u]=>match C.tt t,C.tt u with
    |.slice _ ty bytes,.slice _ _ _=>rO bytes ty o st (bd C st t s) (bd C st u x)
    |.slice _ ty bytes,.str=>rP bytes ty o st (bd C st t s) (bd C st u x)
    |_,_=>.fail
   |.max,_,[x,y],_=>match bd C st B.type x,bd C st B.type y with
    |.av (.am (.d (.int k a))),.av (.am (.d (.int _ b)))=>.ok (one (.int k (gp a b)))
    |_,_=>.fail
   |.max,_,[x,y,z,u,v],_=>match bd C st B.type x,bd C st B.type y,bd C st B.type z,bd C st B.type u,bd C st B.type v with
    |.av (.am (.d (.int k a))),.av (.am (.d (.int _ b))),.av (.am (.d (.int _ c))),.av (.am (.d (.int _ d))),.av (.am (.d (.int _ e)))=>.ok (one (.int k (gp (gp (gp (gp a b) c) d) e)))
    |_,_,_,_,_=>.fail
   |.min,_,[x,y],_=>match bd C st B.type x,bd C st B.type y with
    |.av (.am (.d (.int k a))),.av (.am (.d (.int _ b)))=>.ok (one (.int k (ld a b)))
    |_,_=>.fail
   |_,_,_,_=>.fail
  |_=>.fail
 |_=>kS C st B
where
 mv (C:Ctx) (st:al) (bO:List (Nat×Nat)):List aP->List (Nat×Operand)->cZ
  |z,[]=>.ok (.av (.agg z))
  |z,(i,x)::r=>match bO[i]?,l0 (bd C st 0 x) with
   |some (off,n),some a=>bif a.cells.length.beq n&&gU a.cells&&Nat.ble (off+n) z.length then mv C st bO (bM z off a.cells) r else .fail
   |_,_=>.fail
 nC (C:Ctx) (st:al):List Operand->Option (List (Nat×Nat))
  |[]=>some []
  |x::r=>match bd C st 0 x,nC C st r with
   |.av (.am (.ptr o s 0)),some l=>some ((o,s)::l)
   |_,_=>none
def HY(C:Ctx)(st:al)(B:Oper):Option (((t:bc)×List (den t))×Bool):=
 match B.op with
 |.binOp op T x (.const (.slice none 0 0)) _=>match C.tt T with
  |.slice _ _ _=>match op with
   |.eql=>match bd C st T x with
    |.av (.am (.d (.sl t xs)))=>some (⟨t,xs⟩,false)
    |_=>none
   |.neq=>match bd C st T x with
    |.av (.am (.d (.sl t xs)))=>some (⟨t,xs⟩,true)
    |_=>none
   |_=>none
  |_=>none
 |_=>none
def aP.names:aP->List Nat
 |.own o _|.ptr o _ _|.eP o _ _ _ _=>[o]
 |.clo _ bA=>keys bA
 |_=>[]
def dr:List aP->List Nat
 |[]=>[]
 |l::ai=>l.names++dr ai
def rB:List bP->List Nat
 |[]=>[]
 |a::as=>dr a.cells++rB as
def aZ.names:aZ->List Nat
 |.av a=>dr a.cells
 |.ju as=>rB as
def xn(st:al)(o:Nat):List Nat:=match st.ae o with
 |some (.box _ cells)=>dr cells
 |_=>[]
def eO(st:al):List Nat->List Nat
 |[]=>[]
 |o::r=>o::(xn st o++eO st r)
def kY:Op->List Operand
 |.move x|.assign x|.makeInterface _ x|.box _ x|.load _ x|.nilCheck x|.unOp _ _ x|.convert _ _ x|.fieldAddr _ x _|.extract x _=>[x]
 |.pick c a b=>[c,a,b]
 |.build _ ps|.buildSlice _ _ ps=>ps.toList.map (·.2)
 |.store _ a v|.binOp _ _ a v _|.makeSlice _ a v|.indexAddr _ a v|.index _ a v=>[a,v]
 |.makeFunc _ _ captured=>captured.toList
 |.slice _ x l h _=>x::(l.toList++h.toList)
 |.call c=>(match c.callee with|.value f=>[f]|_=>[])++c.args.toList
 |.lookup _ m k _=>[m,k]
 |.mapUpdate _ m k x|.insert _ m k x=>[m,k,x]
 |.makeMap _ r=>r.toList
 |_=>[]
def nm(st:al):List Operand->List Nat
 |[]=>[]
 |.tmp t::r=>(st.get t).names++nm st r
 |_::r=>nm st r
def ot:List Operand->List Nat
 |[]=>[]
 |.tmp t::r=>t::ot r
 |_::r=>ot r
def Av:Op->Bool
 |.call c=>match c.callee with
  |.value _=>true
  |_=>false
 |_=>false
def Iu(C:Ctx):Op->List Nat
 |.makeSlice t _ _=>match C.tt t with
  |.slice e _ _=>match(C.tt e).zero with
   |some z=>dr z
   |none=>[]
  |_=>[]
 |_=>[]
def looks:Op->Bool
 |.load _ _|.store _ _ _|.slice _ _ _ _ _|.indexAddr _ _ _|.convert _ _ _|.buildSlice _ _ _|.call _|.lookup _ _ _ _|.mapUpdate _ _ _ _|.insert _ _ _ _=>true
 |_=>false
def IH(C:Ctx)(st:al)(B:Oper):List Nat:=(bif looks B.op then eO st (nm st (kY B.op)) else [])++B.dst.toList++Iu C B.op
def P_(u:Nat):List Oper->List Nat
 |[]=>[]
 |B::r=>(match B.op,B.dst with
  |.move (.tmp t),some d=>bif Nat.beq d u then [t] else []
  |_,_=>[])++P_ u r
def E8(all:List Oper):List Oper->List Nat
 |[]=>[]
 |B::r=>(match B.op with
  |.slice _ (.tmp u) _ _ _=>u::P_ u all
  |_=>[])++E8 all r
def UZ(st:al)(t:Nat):List (Nat×Site):=match st.get t with
 |.av (.am (.own o s))=>match st.ae o with
  |some (.row aM t xs)=>bif aM.beq s then [(o,.c8 aM t xs)] else []
  |_=>[]
 |_=>[]
def AL(st:al):List Nat->List (Nat×Site)
 |[]=>[]
 |t::r=>UZ st t++AL st r
def al.hN(st:al):List (Nat×Site)->al
 |[]=>st
 |(o,s)::r=>(st.hY o s).hN r
def al.cW(st:al)(dst:Option Nat)(v:aZ)(us:List (Nat×Site)):al:=
 match dst with
 |some t=>(st.hN us).set t v
 |none=>st.hN us
def cf(st:al):Option Nat->Bool
 |some t=>Nat.blt t st.nt
 |none=>true
abbrev zW:aZ:=bZ (.cH undef)
section
variable {R:Type}
open Classical in
noncomputable def py{t:bc}(xs:List (den t))(a b:Option R):Option R:=if xs=[]->a=b then b else none
def ka(C:Ctx)(st:al)(B:Oper)(K:al->Option R):Option R:=
 bif cf st B.dst then(step C st B).comp.bind fun y=>bif(step C st B).qO y then K (st.cW B.dst ((step C st B).val y) ((step C st B).us y)) else none else none
noncomputable def uQ(C:Ctx)(st:al)(B:Oper)(K:al->Option R):Option R:=
 match HY C st B with
 |some (⟨t,xs⟩,neg)=>bif cf st B.dst then py xs (K (st.cW B.dst (one (.bool (!neg))) [])) (K (st.cW B.dst (one (.bool neg)) [])) else none
 |none=>ka C st B K
def rW(st:al)(B:Oper)(K:al->Option R):Option R:=
 bif cf st B.dst then K (st.cW B.dst zW []) else none
noncomputable def RT(C:Ctx)(ops:Array Oper)(st:al)(B:Oper)(K:al->Option R):Option R:=
 match B.guard with
 |none=>uQ C st B K
 |some (j,want)=>match(ops[j]?).bind (·.dst) with
  |some t=>match st.get t with
   |.av (.am (.d (.bool b)))=>bif(bif want then b else !b) then uQ C (st.set t (one (.bool want))) B K else rW (st.set t (one (.bool (!want)))) B K
   |.av (.am (.cH (.tuple _)))=>rW st B K
   |_=>none
  |none=>none
noncomputable def ux(C:Ctx)(ops:Array Oper):List Oper->al->(al->Option R)->Option R
 |[],st,K=>K st
 |B::r,st,K=>RT C ops st B fun ao=>ux C ops r ao K
structure Rec where
 B:Oper
 go:Bool
 v:aZ
 us:List (Nat×Site)
 kz:List Nat
 rn:List Nat
 CL:Bool
def uK:List Nat->Bool
 |[]=>false
 |n::r=>Nat.ble 1000000 n||uK r
def sG(d:Option Nat)(l:List Nat):Bool:=match d with|some d=>fD d l|none=>false
def lU(a b:Rec):Bool:=
 sG a.B.dst b.kz||sG a.B.dst b.B.dst.toList||sG b.B.dst a.kz||
 !eT (keys a.us) (b.rn++keys b.us)||!eT (keys b.us) a.rn||(a.CL&&uK (keys b.us))||(b.CL&&uK (keys a.us))
def lR(acc:List (Nat×Rec×List Nat)):List Edge->List Nat
 |[]=>[]
 |e::r=>bif Region.binds .any e then(match look acc e.on with|some x=>e.on::(x.2++lR acc r)|none=>lR acc r) else lR acc r
def rN(i:Nat):List Edge->Bool
 |[]=>true
 |e::r=>(!Region.binds .any e||Nat.blt e.on i)&&rN i r
def rY(wh:List Nat)(x:Rec):List (Nat×Rec×List Nat)->Bool
 |[]=>true
 |(j,y,_)::r=>(fD j wh||!lU y x)&&rY wh x r
def RP(i:Nat):List Oper->Bool
 |[]=>false
 |B::r=>(match B.guard with|some (j,_)=>Nat.beq i j|none=>false)||RP i r
def I'(g:Bool)(v:aZ)(K:aZ->Option R):Option R:=
 bif g then(match v with
  |.av (.am (.d (.bool b)))=>bif b then K (one (.bool true)) else K (one (.bool false))
  |v=>K v) else K v
def zP(C:Ctx)(g:Bool)(st:al)(B:Oper)(gs:List Nat)(K:Rec->Option R):Option R:=
 (step C st B).comp.bind fun y=>bif(step C st B).qO y then I' g ((step C st B).val y) fun v=>
  K ⟨B,true,v,(step C st B).us y,gs++ot (kY B.op),IH C st B,Av B.op⟩ else none
def FJ(B:Oper)(gs:List Nat)(K:Rec->Option R):Option R:=K ⟨B,false,zW,[],gs,[],false⟩
def Im(C:Ctx)(ops:Array Oper)(g:Bool)(st:al)(B:Oper)(K:Rec->Option R):Option R:=
 match B.guard with
 |none=>zP C g st B [] K
 |some (j,want)=>match(ops[j]?).bind (·.dst) with
  |some t=>match st.get t with
   |.av (.am (.d (.bool b)))=>bif(bif want then b else !b) then zP C g st B [t] K else FJ B [t] K
   |.av (.am (.cH (.tuple _)))=>FJ B [t] K
   |_=>none
  |none=>none
def AX(C:Ctx)(ops:Array Oper):List Oper->Nat->List (Nat×Rec×List Nat)->al->(al->Option R)->Option R
 |[],_,_,st,K=>K st
 |B::r,i,acc,st,K=>bif cf st B.dst&&rN i B.after.toList then Im C ops (RP i r) st B fun x=>
   bif rY (lR acc B.after.toList) x acc then AX C ops r (i+1) ((i,x,lR acc B.after.toList)::acc) (st.cW B.dst x.v x.us) K else none
  else none
def R9(C:Ctx)(ops:Array Oper)(st:al)(K:al->Option R):Option R:=AX C ops ops.toList 0 [] (st.hN (AL st (E8 ops.toList ops.toList))) K
inductive Out:Type where
 |norm (st:al)
 |exit (id:Nat) (st:al)
 |ret (st:al)
structure arU:Type 1 where
 F:Type
 comp:Option F
 out:F->Out
 run:(R:Type)->F->(Out->Option R)->Option R
 run_eq:∀(R:Type) (y:F) (K:Out->Option R),run R y K=K (out y)
abbrev ht:=al->arU
structure g':Type 1 extends Ctx where
 nL:Nat->Option ht
def wrap(C:g')(p:Nat)(st:al)(K:Out->Option R)(x:Option R):Option R:=
 match C.nL p with
 |some f=>(f st).comp.bind fun y=>(f st).run R y K
 |none=>x
noncomputable def exec(C:g'):Code->Nat->al->(Out->Option R)->Option R
 |.skip,_,st,K=>K (.norm st)
 |.region _ ops false,p,st,K=>wrap C p st K (ux C.toCtx ops ops.toList st fun ao=>K (.norm ao))
 |.region _ ops true,p,st,K=>wrap C p st K (R9 C.toCtx ops st fun ao=>K (.norm ao))
 |.seq a b,p,st,K=>wrap C p st K (exec C a (2*p) st fun
  |.norm ao=>exec C b (2*p+1) ao K
  |B=>K B)
 |.cond c a b,p,st,K=>wrap C p st K (match bd C.toCtx st 0 c with
  |.av (.am (.d (.bool t)))=>bif t then exec C a (2*p) st K else exec C b (2*p+1) st K
  |_=>none)
 |.block id c,p,st,K=>wrap C p st K (exec C c (2*p) st fun
  |.exit iz ao=>bif iz.beq id then K (.norm ao) else K (.exit iz ao)
  |B=>K B)
 |.loop _,p,st,K=>wrap C p st K none
 |.rangeFunc _ _ _ _,p,st,K=>wrap C p st K none
 |.exit id,_,st,K=>K (.exit id st)
 |.ret,_,st,K=>K (.ret st)
 |_,_,_,_=>none
end
section
variable {D aW:Nat->Value}{sites bU:List (Nat×Site)}{w w':World}{av b':Nat->Prop}
structure hP(D aW:Nat->Value)(sites bU:List (Nat×Site))(w w':World)(av b':Nat->Prop):Prop where
 ref:∀o ae,look sites o=some ae->∃bV,look bU o=some bV/\ae.cl<=bV.cl/\(bV.cl=ae.cl->aW o=D o)
 bN:∀b,¬av b->b<w.heap.size->w'.heap[b]? =w.heap[b]?
 av:∀b,¬av b->b<w.heap.size->¬b' b
theorem bF.goes{d:be}{v:Value}(G:hP D aW sites bU w w' av b')(hs:w.heap.size<=w'.heap.size)(az9:∀b,b' b->b<w'.heap.size)(r:bF w av d v):bF w' b' d v:=by
 induction r with
 |int k n=>exact .int k n
 |bool b=>exact .bool b
 |str l s h=>exact .str l s h
 |nil t=>exact .nil t
 |sl t xs a cap cs n hn hcap hb hl hc _ ih=>
  have key:xs≠[]->a.block<w.heap.size:=by
   intro hne;have nI:0<cs.length:=by
    rw[hl,eS];exact Nat.mul_pos (List.length_pos_iff.mpr hne) (lI t)
   have:=hc 0 (cs[0]) (List.getElem?_eq_getElem nI);have h2:=World.block_lt_of_cell? w _ this;have is:(a.add 0).block=a.block:=by unfold Addr.add;split<;>rfl
   rwa[is] at h2
  refine .sl t xs a cap cs n hn hcap (fun hx=>G.av _ (hb hx) (key hx)) hl (fun j u hu=>?_) ih
  have hcell:=hc j u hu;have hne:xs≠[]:=by
   rintro rfl;have:cs=[]:=List.eq_nil_of_length_eq_zero (by simpa[flat] using hl)
   subst this;simp at hu
  have is:(a.add j).block=a.block:=by unfold Addr.add;split<;>rfl
  rw[World.cell?_of_block (w:=w) (a:=a.add j) (by rw[is];exact G.bN _ (hb hne) (key hne))]
  exact hcell
 |fn g bA bs iE lb hlb tj hb hlt hl hc _ ih=>
  refine .fn g bA bs iE lb hlb tj (fun b hm=>G.av b (hb b hm) (hlt b hm)) (fun b hm=>Nat.lt_of_lt_of_le (hlt b hm) hs) hl (fun i hi j u hu=>?_) ih
  have hcell:=hc i hi j u hu;have hm:bs[i]∈bs:=List.getElem_mem hi;rw[World.cell?_of_block (w:=w) (a:=⟨bs[i],j,none⟩) (G.bN _ (hb _ hm) (hlt _ hm))];exact hcell
 |u' t=>exact .u' t
 |vm T=>exact .vm T
 |err T n=>exact .err T n
 |map t es b hb hm=>exact .map t es b (G.av b hb hm.lt) (hm.of (G.bN b hb hm.lt))
theorem Ref.goes{o s:Nat}{p j5:Prop}(G:hP D aW sites bU w w' av b')(h:Ref sites o s p)(hp:aW o=D o->p->j5):Ref bU o s j5:=by
 obtain⟨ae,h1,h2,h3⟩:=h;obtain⟨bV,g1,g2,g3⟩:=G.ref o ae h1;refine⟨bV,g1,Nat.le_trans h2 g2,fun e=>?_⟩
 have:bV.cl=ae.cl:=by omega
 exact hp (g3 this) (h3 (by omega))
theorem dM.goes{l:aP}{v:Value}(G:hP D aW sites bU w w' av b')(hs:w.heap.size<=w'.heap.size)(b6:∀b,b' b->b<w'.heap.size)(h:dM D sites w av l v):dM aW bU w' b' l v:=by
 cases l with
 |d x=>exact bF.goes G hs b6 h
 |nil t=>exact h
 |own o s=>exact⟨h.1,Ref.goes G h.2 (fun e p=>p.trans e.symm)⟩
 |ptr o s off=>obtain⟨b,h1,h2⟩:=h;exact⟨b,h1,Ref.goes G h2 (fun e p=>by rw[e];exact p)⟩
 |er cells off=>
  obtain⟨b,B,hv,hb,hlt,cs,hl,hc,hr⟩:=h;refine⟨b,B,hv,G.av b hb hlt,Nat.lt_of_lt_of_le hlt hs,cs,hl,fun j u hu=>?_,fun j h1 h2=>(hr j h1 h2).goes G hs b6⟩
  have hcell:=hc j u hu;rw[World.cell?_of_block (w:=w) (a:=⟨b,B+j,none⟩) (G.bN b hb hlt)];exact hcell
 |eP o s t k off=>obtain⟨b,h1,h2⟩:=h;exact⟨b,h1,Ref.goes G h2 (fun e p=>by rw[e];exact p)⟩
 |clo g bA=>
  obtain⟨vs,hv,hl,hr⟩:=h;exact⟨vs,hv,hl,fun i h1 h2=>Ref.goes G (hr i h1 h2) (fun e p=>p.trans e.symm)⟩
 |cH u=>exact h
 |fresh t xs=>exact h
 |dh=>trivial
 |any=>trivial
theorem gL.goes{a:bP}{v:Value}(G:hP D aW sites bU w w' av b')(hs:w.heap.size<=w'.heap.size)(b6:∀b,b' b->b<w'.heap.size)(h:gL D sites w av a v):gL aW bU w' b' a v:=by
 cases a with
 |am l=>exact dM.goes G hs b6 h
 |agg ai=>
  obtain⟨vs,hv,hl,hr⟩:=h;exact⟨vs,hv,hl,fun j h1 h2=>(hr j h1 h2).goes G hs b6⟩
theorem b_.goes{a:aZ}{v:Value}(G:hP D aW sites bU w w' av b')(hs:w.heap.size<=w'.heap.size)(b6:∀b,b' b->b<w'.heap.size)(h:b_ D sites w av a v):b_ aW bU w' b' a v:=by
 cases a with
 |av a=>exact gL.goes G hs b6 h
 |ju as=>
  obtain⟨vs,hv,hl,hr⟩:=h;exact⟨vs,hv,hl,fun j h1 h2=>(hr j h1 h2).goes G hs b6⟩
theorem jM.goes{o:Nat}{ae:Site}(G:hP D aW sites bU w w' av b')(hs:w.heap.size<=w'.heap.size)(b6:∀b,b' b->b<w'.heap.size)(cG:aW o=D o)
  (hb:ae.live=true->∀b,Jk.bN (D o)=some b->w'.heap[b]? =w.heap[b]?) (h:jM D sites w av o ae):jM aW bU w' b' o ae:=by
 cases ae with
 |box s cells=>
  obtain⟨b,T,cur,h1,h2,h3,aE,nW,bi⟩:=h;have:=hb rfl b (by rw[h1];rfl)
  exact⟨b,T,cur,cG.trans h1,this.trans h2,h3,aE,nW,fun j g1 g2=>(bi j g1 g2).goes G hs b6⟩
 |row s t xs=>
  obtain⟨e,cs,h1,h2⟩:=h;refine⟨e,cs,?_,fun j g1 g2=>(h2 j g1 g2).goes G hs b6⟩
  rw[cG];refine⟨h1.1,?_⟩;rcases h1.2 with hn|⟨g,cap,cur,fz,hv,r1,r2,c_⟩
  ·exact .inl hn
  ·refine .inr ⟨g,cap,cur,fz,hv,r1,?_,c_⟩;rw[hb rfl g (by rw[hv];rfl)];exact r2
 |c8 s t xs=>exact⟨by rw[cG];exact bF.goes G hs b6 h.1,by rw[cG];exact h.2⟩
 |map s t es=>
  obtain⟨b,h1,h2⟩:=h;exact⟨b,cG.trans h1,h2.of (hb rfl b (by rw[h1];rfl))⟩
 |dead s=>trivial
end
theorem aq.qc{U:World}{Y:List Nat}{X:Nat->Prop}{D aW:Nat->Value}{st:al}{bU:List (Nat×Site)}{M:Array Value}{w w':World}
  (S:aq U Y X D st M w)
  (qj:∀o ae,look st.sites o=some ae->∃bV,look bU o=some bV/\ae.cl<=bV.cl/\(bV.cl=ae.cl->aW o=D o))
  (is:∀b,¬aH X D st.sites b->b<w.heap.size->w'.heap[b]? =w.heap[b]?)
  (b6:∀b,¬aH X D st.sites b->b<w.heap.size->¬aH X aW bU b)
  (arf:(∀{a v},b_ D st.sites w (aH X D st.sites) a v->b_ aW bU w' (aH X aW bU) a v)->∀o bV,look bU o=some bV->
   (look st.sites o=some bV/\aW o=D o/\(bV.live=true->∀b,bN (D o)=some b->w'.heap[b]? =w.heap[b]?))\/jM aW bU w' (aH X aW bU) o bV)
  (ao0:∀o ab b,ce bU o->ce bU ab->bN (aW o)=some b->bN (aW ab)=some b->o=ab)
  (aoV:∀o b,ce bU o->bN (aW o)=some b->¬X b/\(b∈Y\/U.heap.size<=b))
  (hlt:∀o b,ce bU o->bN (aW o)=some b->b<w'.heap.size)
  (am4:Fr Y U w') (hs:w.heap.size<=w'.heap.size):
  aq U Y X aW {st with sites:=bU} M w':=by
 have G:hP D aW st.sites bU w w' (aH X D st.sites) (aH X aW bU):=⟨qj,is,b6⟩;have vk:∀b,aH X aW bU b->b<w'.heap.size:=by
  rintro b (hx|⟨o,h1,h2⟩)
  ·exact Nat.lt_of_lt_of_le (S.old b hx) hs
  ·exact hlt o b h1 h2
 refine⟨S.nt,fun t=>(S.cA t).goes G hs vk,fun o bV br=>?_,ao0,aoV,am4,fun b h=>Nat.lt_of_lt_of_le (S.old b h) hs,S.eU⟩
 rcases arf (fun h=>h.goes G hs vk) o bV br with⟨h1,h2,h3⟩|h
 ·exact(S.sites o bV h1).goes G hs vk h2 h3
 ·exact h
def cr(M:Array Value)(dst:Option Nat)(v:Value):Array Value:=
 match dst with
 |some d=>M.setIfInBounds d v
 |none=>M
section
variable {P:Program}{K:Act->World->Prop}{Q:Exit->Act->World->Prop}{B:Oper}{M:Array Value}{w w':World}{vv:Value}
theorem oy(h:(execOp (Act.eval ⟨M,[]⟩) B).run P w=.ok (.value vv) w')(hk:K ⟨cr M B.dst vv,[]⟩ w'):B.wp P ⟨M,[]⟩ w K Q:=by
 unfold Oper.wp;rw[h,Oper.upon_value];cases Z:B.dst with
 |none=>simp only[Z,cr] at hk;simpa[Act.put] using hk
 |some d=>simp only[Z,cr] at hk;simpa[Act.put] using hk
theorem amc(h:(execOp (Act.eval ⟨M,[]⟩) B).run P w=.ok .skip w')(hk:K ⟨cr M B.dst undef,[]⟩ w'):B.wp P ⟨M,[]⟩ w K Q:=by
 unfold Oper.wp;rw[h,Oper.upon_skip];cases Z:B.dst with
 |none=>simp only[Z,cr] at hk;simpa[Act.put] using hk
 |some d=>simp only[Z,cr] at hk;simpa[Act.put] using hk
end
def bp(sites:List (Nat×Site)):List (Nat×Site)->List (Nat×Site)
 |[]=>sites
 |(o,s)::r=>bp (ci sites o s) r
theorem al.ua(st:al)(us:List (Nat×Site)):st.hN us={st with sites:=bp st.sites us}:=by
 induction us generalizing st with
 |nil=>rfl
 |cons p us ih=>obtain⟨o,s⟩:=p;simp only[al.hN,bp];rw[ih];rfl
theorem kK(sites:List (Nat×Site))(us vs:List (Nat×Site)):bp sites (us++vs)=bp (bp sites us) vs:=by
 induction us generalizing sites with
 |nil=>rfl
 |cons p us ih=>obtain⟨o,s⟩:=p;simp only[List.cons_append,bp];exact ih _
section
variable {U:World}{Y:List Nat}{X:Nat->Prop}{D:Nat->Value}{st:al}{M:Array Value}{w:World}
theorem aq.put(S:aq U Y X D st M w){t:Nat}{v:aZ}{vv:Value}(aw:t<st.nt)(hv:b_ D st.sites w (aH X D st.sites) v vv):
  aq U Y X D (st.set t v) (M.setIfInBounds t vv) w:=by
 refine⟨by simpa using S.nt,fun u=>?_,S.sites,S.dW,S.cg,S.frame,S.old,S.eU⟩
 rw[al.Hc];by_cases h:t=u
 ·subst h;simp only[if_true];have:(M.setIfInBounds t vv).getD t undef=vv:=by
   have h1:t<M.size:=by rw[S.nt];exact aw
   simp[Array.getD,h1]
  rw[this];exact hv
 ·simp only[h,if_false];have:(M.setIfInBounds t vv).getD u undef=M.getD u undef:=by
   simp only[Array.getD_eq_getD_getElem?,Array.getElem?_setIfInBounds,h,if_false]
  rw[this];exact S.cA u
theorem aq.cW{dst:Option Nat}{v:aZ}{vv:Value}{us:List (Nat×Site)}(S:aq U Y X D {st with sites:=bp st.sites us} M w)
  (Z:cf st dst=true) (hv:b_ D (bp st.sites us) w (aH X D (bp st.sites us)) v vv):aq U Y X D (st.cW dst v us) (cr M dst vv) w:=by
 cases dst with
 |none=>simp only[al.cW,al.ua,cr];exact S
 |some t=>
  simp only[al.cW,al.ua,cr];have aw:t<st.nt:=by simpa[cf] using Z
  exact aq.put (st:={st with sites:=bp st.sites us}) S aw hv
theorem dn(S:aq U Y X D st M w)(C:Ctx)(T:TypeId)(x:Operand):b_ D st.sites w (aH X D st.sites) (bd C st T x) (Act.eval ⟨M,[]⟩ x):=by
 cases x with
 |tmp t=>exact S.cA t
 |const v=>
  show b_ _ _ _ _ (ur (C.tt T) v) v;unfold ur;split
  ·exact .int _ _
  ·exact .bool _
  ·exact .str _ _ rfl
  ·split<;>exact rfl
  ·split
   ·exact .u' _
   ·exact rfl
  ·trivial
  ·trivial
  ·exact rfl
 |global g=>exact rfl
 |func f=>
  refine⟨[],rfl,rfl,fun i h=>?_⟩
  simp at h
variable {P:Program}{C:Ctx}{B:Oper}{K:Act->World->Prop}{Q:Exit->Act->World->Prop}
def cz(P:Program)(U:World)(Y:List Nat)(X:Nat->Prop)(st:al)(M:Array Value)(w:World)(B:Oper)(v:aZ)(us:List (Nat×Site)):Prop:=
 ∀(K:Act->World->Prop) (Q:Exit->Act->World->Prop),(∀aW bW w',aq U Y X aW (st.cW B.dst v us) bW w'->K ⟨bW,[]⟩ w')->B.wp P ⟨M,[]⟩ w K Q
theorem dy(S:aq U Y X D st M w)(Z:cf st B.dst=true){v:aZ}{vv:Value}
  (h:(execOp (Act.eval ⟨M,[]⟩) B).run P w=.ok (.value vv) w) (hv:b_ D st.sites w (aH X D st.sites) v vv):cz P U Y X st M w B v []:=
 fun _ _ bR=>oy h (bR _ _ _ (aq.cW (us:=[]) S Z hv))
end
section
variable {P:Program}{w:World}
theorem aci(op:BinOp)(t:TypeId)(x y:Operand)(k k':IntKind)(a b:Int):(eqGuard op t x y (.int k a) (.int k' b)).run P w=.ok () w:=by
 unfold eqGuard;cases op<;>rfl
theorem ab6(op:BinOp)(t:TypeId)(x y:Operand)(a b:ByteArray):(eqGuard op t x y (.string a) (.string b)).run P w=.ok () w:=by
 unfold eqGuard;cases op<;>rfl
theorem Mv(op:BinOp)(t:TypeId)(x y:Operand)(a b:Bool):(eqGuard op t x y (.bool a) (.bool b)).run P w=.ok () w:=by
 unfold eqGuard;cases op<;>rfl
def Holds(r:cZ)(dQ:aZ->List (Nat×Site)->Prop):Prop:=∀y,r.comp=some y->r.qO y=true->dQ (r.val y) (r.us y)
theorem Holds.fail{dQ:aZ->List (Nat×Site)->Prop}:Holds .fail dQ:=fun _ h _=>by cases h
theorem Holds.ok{v:aZ}{dQ:aZ->List (Nat×Site)->Prop}(h:dQ v []):Holds (.ok v) dQ:=fun _ _ _=>h
theorem Holds.fk{v:aZ}{us:List (Nat×Site)}{dQ:aZ->List (Nat×Site)->Prop}(h:dQ v us):Holds (.fk v us) dQ:=fun _ _ _=>h
theorem Holds.ei{F:Type}{c:Option F}{f:F->aZ}{dQ:aZ->List (Nat×Site)->Prop}(h:∀y,c=some y->dQ (f y) []):Holds (.ei c f) dQ:=fun y hy _=>h y hy
theorem Holds.g_{F:Type}{c:Option F}{f:F->aZ}{us:F->List (Nat×Site)}{dQ:aZ->List (Nat×Site)->Prop}(h:∀y,c=some y->dQ (f y) (us y)):Holds (.g_ c f us) dQ:=fun y hy _=>h y hy
def Plain(P:Program)(w:World)(s:Sem Value)(v:aZ)(us:List (Nat×Site)):Prop:=
 ∃vv d,s.run P w=.ok vv w/\us=[]/\v=one d/\∀av,bF w av d vv
theorem Plain.mk{s:Sem Value}{vv:Value}{d:be}(h:s.run P w=.ok vv w)(hr:∀av,bF w av d vv):Plain P w s (one d) []:=⟨vv,d,h,rfl,rfl,hr⟩
theorem af5(op:BinOp)(T:TypeId)(k:IntKind)(a b:Int)(hs:op≠.shl)(fu:op≠.shr):
  Holds (UK op k a b) (Plain P w (binOp op T (.int k a) (.int k b))):=by
 cases op with
 |shl=>exact absurd rfl hs
 |shr=>exact absurd rfl fu
 |andNot=>exact .fail
 |quo=>
  refine Holds.ei fun y hy=>?_
  unfold lc at hy;split at hy
  ·cases hy
  ·rename_i hb;cases hy;exact .mk (by simp[binOp,Op.intDiv,hb]) fun av=>.int _ _
 |rem=>
  refine Holds.ei fun y hy=>?_
  unfold h' at hy;split at hy
  ·cases hy
  ·rename_i hb;cases hy;exact .mk (by simp[binOp,Op.intDiv,hb]) fun av=>.int _ _
 |add=>exact Holds.ok (.mk (by simp[binOp,Op.intArith]) fun av=>.int _ _)
 |sub=>exact Holds.ok (.mk (by simp[binOp,Op.intArith]) fun av=>.int _ _)
 |mul=>exact Holds.ok (.mk (by simp[binOp,Op.intArith]) fun av=>.int _ _)
 |and=>exact Holds.ok (.mk (by simp[binOp,Op.intBits,et]) fun av=>.int _ _)
 |or=>exact Holds.ok (.mk (by simp[binOp,Op.intBits,hq]) fun av=>.int _ _)
 |xor=>exact Holds.ok (.mk (by simp[binOp,Op.intBits,c4]) fun av=>.int _ _)
 |eql=>exact Holds.ok (.mk (by simp[binOp,Op.intCmp]) fun av=>.bool _)
 |neq=>exact Holds.ok (.mk (by simp[binOp,Op.intCmp]) fun av=>.bool _)
 |lss=>exact Holds.ok (.mk (by simp[binOp,Op.intCmp]) fun av=>.bool _)
 |leq=>exact Holds.ok (.mk (by simp[binOp,Op.intCmp]) fun av=>.bool _)
 |gtr=>exact Holds.ok (.mk (by simp[binOp,Op.intCmp]) fun av=>.bool _)
 |geq=>exact Holds.ok (.mk (by simp[binOp,Op.intCmp]) fun av=>.bool _)
theorem af3(op:BinOp)(T:TypeId)(a b:ByteArray):
  Holds (Up op a.data.toList b.data.toList) (Plain P w (binOp op T (.string a) (.string b))):=by
 have e1:a.toList=a.data.toList:=ByteArray.toList_eq a;have e2:b.toList=b.data.toList:=ByteArray.toList_eq b;have dF:a.data.toList.length=a.size:=rfl;have fw:b.data.toList.length=b.size:=rfl;cases op with
 |add=>
  refine Holds.ei fun y hy=>?_
  simp only[bX,dF,fw] at hy;split at hy
  ·cases hy
  ·rename_i hc;cases hy;refine .mk (vv:=.string (a++b)) ?_ fun av=>.str _ _ (by simp[ByteArray.data_append])
   simp only[binOp,Op.stringOp,hc,if_false,Sem.run_pure]
 |eql=>exact Holds.ok (.mk (by rw[<-e1,<-e2];rfl) fun av=>.bool _)
 |neq=>exact Holds.ok (.mk (by rw[<-e1,<-e2];rfl) fun av=>.bool _)
 |lss=>exact Holds.ok (.mk (by rw[<-e1,<-e2];rfl) fun av=>.bool _)
 |leq=>exact Holds.ok (.mk (by rw[<-e1,<-e2];rfl) fun av=>.bool _)
 |gtr=>exact Holds.ok (.mk (by rw[<-e1,<-e2];rfl) fun av=>.bool _)
 |geq=>exact Holds.ok (.mk (by rw[<-e1,<-e2];rfl) fun av=>.bool _)
 |_=>exact .fail
end
def pL:aP->Option Value
 |.d (.int k n)=>some (.int k n)
 |.d (.bool b)=>some (.bool b)
 |.d (.str [])=>some (.string ⟨#[]⟩)
 |.nil _=>some (.slice none 0 0)
 |.cH (.pointer none)=>some (.pointer none)
 |.cH .nilFunc=>some .nilFunc
 |.cH (.map none)=>some (.map none)
 |.cH .nilIface=>some .nilIface
 |_=>none
def kR:List aP->Option (List Value)
 |[]=>some []
 |l::ai=>match pL l,kR ai with
  |some v,some vs=>some (v::vs)
  |_,_=>none
theorem Ns{l:aP}{v:Value}(h:pL l=some v)(D:Nat->Value)(sites:List (Nat×Site))(w:World)(av:Nat->Prop):dM D sites w av l v/\v.oneCell'=true:=by
 unfold pL at h;split at h<;>first|cases h|skip
 ·exact⟨.int _ _,rfl⟩
 ·exact⟨.bool _,rfl⟩
 ·exact⟨.str _ _ rfl,rfl⟩
 ·exact⟨rfl,rfl⟩
 ·exact⟨rfl,rfl⟩
 ·exact⟨rfl,rfl⟩
 ·exact⟨rfl,rfl⟩
 ·exact⟨rfl,rfl⟩
theorem tI:∀{ai:List aP} {vs:List Value},kR ai=some vs->vs.length=ai.length/\(∀u∈vs,u.oneCell'=true)/\
  ∀(D:Nat->Value) (sites:List (Nat×Site)) (w:World) (av:Nat->Prop) j (h:j<ai.length) (aj:j<vs.length),dM D sites w av (ai[j]) (vs[j]):=by
 intro ai;induction ai with
 |nil=>intro vs h;simp[kR] at h;subst h;exact⟨rfl,fun u hu=>by simp at hu,fun _ _ _ _ j h=>by simp at h⟩
 |cons l ai ih=>
  intro vs h;simp only[kR] at h;split at h
  ·rename_i v cS h1 h2;cases h;obtain⟨g1,g2,g3⟩:=ih h2;refine⟨by simp[g1],fun u hu=>?_,fun D sites w av j hj jy=>?_⟩
   ·rcases List.mem_cons.1 hu with rfl|hu
    ·exact(Ns h1 (fun _=>undef) [] default (fun _=>False)).2
    ·exact g2 u hu
   ·cases j with
    |zero=>exact(Ns h1 _ _ _ _).1
    |succ j=>exact g3 D sites w av j (by simpa using hj) (by simpa using jy)
  ·cases h
def nn:Value->Value->Option Bool
 |.int k a,.int k' b=>if k=k' then some (a==b) else none
 |.bool a,.bool b=>some (a==b)
 |.string a,.string b=>some (a==b)
 |_,_=>none
def jd:List Value->List Value->Option Bool
 |[a],[b]=>nn a b
 |a::as,b::bs=>match nn a b,jd as bs with
  |some x,some y=>some (x&&y)
  |_,_=>none
 |_,_=>none
def oX:List aP->List Value->Bool
 |[],[]=>true
 |.d (.int _ _)::z,.int _ _::l=>oX z l
 |.d (.bool _)::z,.bool _::l=>oX z l
 |.d (.str _)::z,.string _::l=>oX z l
 |_,_=>false
def iS(P:Program)(T:TypeId)(d:TypeDesc)(z:Value):Prop:=
 P.underlying T=some d/\(∀bO,d≠.struct bO)/\(∀n e,d≠.array n e)/\(P.info? T).map (fun i=>(i.size,i.zero))=some (1,some z)
def mapElem(P:Program)(e:TypeId):bc->Prop
 |.i64=>iS P e (.int .i64) (.int .i64 0)
 |.bool=>iS P e .bool (.bool false)
 |_=>False
def Hv(P:Program)(e:TypeId):bc->Prop
 |.i64=>iS P e (.int .i64) (.int .i64 0)
 |.u32=>iS P e (.int .u32) (.int .u32 0)
 |.bool=>iS P e .bool (.bool false)
 |.str=>iS P e .string (.string ⟨#[]⟩)
 |_=>False
def b7.ok(P:Program)(T:TypeId):b7->Prop
 |.none=>True
 |.int k=>iS P T (.int k) (.int k 0)
 |.bool=>iS P T .bool (.bool false)
 |.str=>iS P T .string (.string ⟨#[]⟩)
 |.ptr=>∃e,iS P T (.pointer e) (.pointer Option.none)
 |.func=>∃ps kz v,iS P T (.func ps kz v) .nilFunc
 |.slice e t bytes=>iS P T (.slice e) (.slice Option.none 0 0)/\∃z,(P.info? e).map (fun i=>(i.size,i.bytes,i.zero))=some (bb t,bytes,some z)/\z.cells.size=bb t/\(t.jw=true->e=mb)
 |.struct bO n z eq=>∃fields:Array Field,P.underlying T=some (.struct fields)/\
   (fields.toList.mapM (fun f=>(P.info? f.type).map fun i=>(f.offset,i.size))=some bO/\∀p∈bO,p.2≠0)/\
   (∃fG,(P.info? T).map (fun i=>(i.size,i.zero))=some (n,some (.agg fG))/\kR z=some fG.toList/\z.length=n)/\
   (eq=true->P.eqGuardType P.depth T=false/\∀(vs us:List Value) (b:Bool) (w:World),jd vs us=some b->oX z vs=true->(Op.equal T (.agg vs.toArray) (.agg us.toArray)).run P w=.ok b w)
 |.map k e t=>iS P T (.map k e) (.map Option.none)/\P.underlying k=some .string/\mapElem P e t
 |.iface=>∃iC,iS P T (.interface iC) .nilIface
 |.arr e t n=>P.underlying T=some (.array n e)/\(∃fG z,(P.info? T).map (fun i=>(i.size,i.zero))=some (n,some (.agg fG))/\sU t=some z/\kR (List.replicate n z)=some fG.toList)/\Hv P e t
section
variable {P:Program}{T:TypeId}{w:World}
theorem kJ{i:TypeInfo}(h:P.info? T=some i):(typeInfo T).run P w=.ok i w:=by
 simp[typeInfo,h]
theorem b7.P6{ti:b7}(h:ti.ok P T)(hn:ti≠.none):(sizeOf T).run P w=.ok ti.size w:=by
 have key:∀{z:Option Value} {n:Nat},(P.info? T).map (fun i=>(i.size,i.zero))=some (n,z)->(sizeOf T).run P w=.ok n w:=by
  intro z n h;cases hi:P.info? T with
  |none=>simp[hi] at h
  |some i=>
   simp only[hi,Option.map_some,Option.some.injEq,Prod.mk.injEq] at h;simp[sizeOf,kJ hi,h.1]
 cases ti with
 |none=>exact absurd rfl hn
 |int k=>exact key h.2.2.2
 |bool=>exact key h.2.2.2
 |str=>exact key h.2.2.2
 |ptr=>obtain⟨e,h⟩:=h;exact key h.2.2.2
 |func=>obtain⟨_,_,_,h⟩:=h;exact key h.2.2.2
 |iface=>obtain⟨_,h⟩:=h;exact key h.2.2.2
 |slice e t b=>exact key h.1.2.2.2
 |map k e t=>exact key h.1.2.2.2
 |struct bO n z eq=>obtain⟨fields,_,_,⟨fG,h,_⟩,_⟩:=h;exact key h
 |arr e t n=>obtain⟨_,⟨fG,z,h,_⟩,_⟩:=h;exact key h
theorem b7.E_{ti:b7}(h:ti.ok P T){z:List aP}(hz:ti.zero=some z):∃v,(zeroValue T).run P w=.ok v w/\kR z=some v.cells.toList:=by
 have key:∀{z:Value} {n:Nat},(P.info? T).map (fun i=>(i.size,i.zero))=some (n,some z)->(zeroValue T).run P w=.ok z w:=by
  intro z n h;cases hi:P.info? T with
  |none=>simp[hi] at h
  |some i=>
   simp only[hi,Option.map_some,Option.some.injEq,Prod.mk.injEq] at h;simp[zeroValue,kJ hi,h.2]
 cases ti with
 |none=>cases hz
 |int k=>cases hz;exact⟨_,key h.2.2.2,rfl⟩
 |bool=>cases hz;exact⟨_,key h.2.2.2,rfl⟩
 |str=>cases hz;exact⟨_,key h.2.2.2,rfl⟩
 |ptr=>cases hz;obtain⟨e,h⟩:=h;exact⟨_,key h.2.2.2,rfl⟩
 |func=>cases hz;obtain⟨_,_,_,h⟩:=h;exact⟨_,key h.2.2.2,rfl⟩
 |iface=>cases hz;obtain⟨_,h⟩:=h;exact⟨_,key h.2.2.2,rfl⟩
 |slice e t b=>cases hz;exact⟨_,key h.1.2.2.2,rfl⟩
 |map k e t=>cases hz;exact⟨_,key h.1.2.2.2,rfl⟩
 |struct bO n eK eq=>cases hz;obtain⟨fields,_,_,⟨fG,h,h2,_⟩,_⟩:=h;exact⟨_,key h,h2⟩
 |arr e t n=>
  obtain⟨_,⟨fG,z0,h,h1,h2⟩,_⟩:=h;simp only[b7.zero,h1,Option.map_some,Option.some.injEq] at hz;subst hz;exact⟨_,key h,h2⟩
theorem b7.OQ{ti:b7}(h:ti.ok P T)(hn:ti≠.none):(isAgg T).run P w=.ok ti.agg w:=by
 have key:∀{d:TypeDesc},P.underlying T=some d->(∀bO,d≠.struct bO)->(∀n e,d≠.array n e)->(isAgg T).run P w=.ok false w:=by
  intro d h h1 h2;simp only[isAgg,Sem.run_bind,run_underlying h,Result.andThen_ok];cases d<;>first|rfl|exact absurd rfl (h1 _)|exact absurd rfl (h2 _ _)
 cases ti with
 |none=>exact absurd rfl hn
 |int k=>exact key h.1 h.2.1 h.2.2.1
 |bool=>exact key h.1 h.2.1 h.2.2.1
 |str=>exact key h.1 h.2.1 h.2.2.1
 |ptr=>obtain⟨e,h⟩:=h;exact key h.1 h.2.1 h.2.2.1
 |func=>obtain⟨_,_,_,h⟩:=h;exact key h.1 h.2.1 h.2.2.1
 |iface=>obtain⟨_,h⟩:=h;exact key h.1 h.2.1 h.2.2.1
 |slice e t b=>exact key h.1.1 h.1.2.1 h.1.2.2.1
 |map k e t=>exact key h.1.1 h.1.2.1 h.1.2.2.1
 |struct bO n z eq=>
  obtain⟨fields,h,_⟩:=h;simp only[isAgg,Sem.run_bind,run_underlying h,Result.andThen_ok];rfl
 |arr e t n=>
  obtain⟨h,_⟩:=h;simp only[isAgg,Sem.run_bind,run_underlying h,Result.andThen_ok];rfl
def sn(agg:Bool)(cs:List Value):Value:=bif agg then .agg cs.toArray else cs.headD undef
theorem tG{ti:b7}(h:ti.ok P T)(hn:ti≠.none)(a:Addr)(cs:List Value)(hl:cs.length=ti.size)(hc:∀j u,cs[j]? =some u->w.cell? (a.add j)=some u):
  (loadVar T a).run P w=.ok (sn ti.agg cs) w:=by
 simp only[loadVar,Sem.run_bind,b7.OQ h hn,Result.andThen_ok];cases Jv:ti.agg with
 |true=>
  simp only[if_true,Sem.run_bind,b7.P6 h hn,Result.andThen_ok,sn,cond_true];rw[<-hl,run_loadCells_list w a cs hc];rfl
 |false=>
  have h1:ti.size=1:=by cases ti<;>first|rfl|cases Jv
  rw[h1] at hl;match cs,hl with
  |[c],_=>
   have h0:=hc 0 c rfl;have ha:a.add 0=a:=by unfold Addr.add;simp
   rw[ha] at h0;simp[sn,h0]
end
section
variable {D:Nat->Value}{sites:List (Nat×Site)}{w:World}{av:Nat->Prop}
def cm(D:Nat->Value)(sites:List (Nat×Site))(w:World)(av:Nat->Prop)(ai:List aP)(vs:List Value):Prop:=
 vs.length=ai.length/\∀j (h:j<ai.length) (aj:j<vs.length),dM D sites w av (ai[j]) (vs[j])
theorem cm.nil:cm D sites w av [] []:=⟨rfl,fun j h=>by simp at h⟩
theorem cm.cons{l:aP}{ai:List aP}{v:Value}{vs:List Value}(h:dM D sites w av l v)(hs:cm D sites w av ai vs):cm D sites w av (l::ai) (v::vs):=
 ⟨by simp[hs.1],fun j h1 h2=>by
  cases j with
  |zero=>exact h
  |succ j=>exact hs.2 j (by simpa using h1) (by simpa using h2)⟩
theorem cm.inv{l:aP}{ai:List aP}{vs:List Value}(h:cm D sites w av (l::ai) vs):∃v cS,vs=v::cS/\dM D sites w av l v/\cm D sites w av ai cS:=by
 obtain⟨h1,h2⟩:=h;match vs,h1 with
 |v::cS,h1=>
  exact⟨v,cS,rfl,h2 0 (by simp) (by simp),by simpa using h1,fun j g1 g2=>h2 (j+1) (by simpa using g1) (by simpa using g2)⟩
theorem cm.nq{vs:List Value}(h:cm D sites w av [] vs):vs=[]:=List.eq_nil_of_length_eq_zero h.1
theorem cm.drop{ai:List aP}{vs:List Value}(n:Nat)(h:cm D sites w av ai vs):cm D sites w av (ai.drop n) (vs.drop n):=
 ⟨by simp[h.1],fun j h1 h2=>by simp only[List.getElem_drop];exact h.2 _ (by simp at h1;omega) (by simp at h2;omega)⟩
theorem cm.take{ai:List aP}{vs:List Value}(n:Nat)(h:cm D sites w av ai vs):cm D sites w av (ai.take n) (vs.take n):=
 ⟨by simp[h.1],fun j h1 h2=>by simp only[List.getElem_take];exact h.2 _ (by simp at h1;omega) (by simp at h2;omega)⟩
theorem cm.append{ai fX:List aP}{vs cS:List Value}(h:cm D sites w av ai vs)(aj:cm D sites w av fX cS):cm D sites w av (ai++fX) (vs++cS):=by
 induction ai generalizing vs with
 |nil=>rw[h.nq];exact aj
 |cons l ai ih=>
  obtain⟨v,aAe,rfl,h1,h2⟩:=h.inv;exact .cons h1 (ih h2)
theorem cm.bM{ai fX:List aP}{vs cS:List Value}(off:Nat)(h:cm D sites w av ai vs)(aj:cm D sites w av fX cS):cm D sites w av (Jk.bM ai off fX) (Jk.bM vs off cS):=by
 unfold Jk.bM;rw[aj.1];exact((h.take off).append aj).append (h.drop _)
theorem dM.je{l:aP}{u:Value}(h:dM D sites w av l u)(dB:l.storable=true):u.oneCell'=true:=by
 cases l with
 |d x=>exact bF.je h
 |nil t=>rw[show u=_ from h];rfl
 |own o s=>exact h.1
 |ptr o s off=>obtain⟨b,rfl,_⟩:=h;rfl
 |er c B=>cases dB
 |eP _ _ _ _ _=>cases dB
 |clo g bA=>obtain⟨vs,rfl,_⟩:=h;rfl
 |cH x=>rw[show u=x from h];cases x<;>first|rfl|cases dB
 |fresh t xs=>cases dB
 |dh=>cases dB
 |any=>cases dB
theorem cm.je{ai:List aP}{vs:List Value}(h:cm D sites w av ai vs)(dB:gU ai=true):∀u∈vs,u.oneCell'=true:=by
 induction ai generalizing vs with
 |nil=>rw[h.nq];intro u hu;simp at hu
 |cons l ai ih=>
  obtain⟨v,cS,rfl,h1,h2⟩:=h.inv;simp only[gU,Bool.and_eq_true] at dB;intro u hu;rcases List.mem_cons.1 hu with rfl|hu
  ·exact h1.je dB.1
  ·exact ih h2 dB.2 u hu
theorem gL.cells{a:bP}{v:Value}(h:gL D sites w av a v)(dB:gU a.cells=true):cm D sites w av a.cells v.cells.toList:=by
 cases a with
 |am l=>
  have h1:v.oneCell'=true:=dM.je h (by simpa[bP.cells,gU] using dB)
  have:v.cells=#[v]:=by cases v<;>first|rfl|cases h1
  rw[this];exact .cons h .nil
 |agg ai=>
  obtain⟨vs,rfl,h1,h2⟩:=h;exact⟨h1,h2⟩
theorem TW{agg:Bool}{off n:Nat}{ai:List aP}{vs:List Value}{v:aZ}(hc:cut agg off n ai=some v)(h1:agg=false->n=1)(h:cm D sites w av ai vs):
  off+n<=vs.length/\b_ D sites w av v (sn agg ((vs.drop off).take n)):=by
 unfold cut at hc;cases agg with
 |true=>
  simp only[cond_true] at hc;cases hb:Nat.ble (off+n) ai.length with
  |false=>simp[hb] at hc
  |true=>
   simp only[hb,cond_true,Option.some.injEq] at hc;subst hc;have hle:off+n<=ai.length:=Nat.le_of_ble_eq_true hb;have:=(h.drop off).take n;exact⟨by rw[h.1];exact hle,_,rfl,this.1,this.2⟩
 |false=>
  simp only[cond_false] at hc;have hn:=h1 rfl;subst hn;cases Z:ai.drop off with
  |nil=>simp[Z] at hc
  |cons l r=>
   simp only[Z,Option.some.injEq] at hc;subst hc;have aal:=h.drop off;rw[Z] at aal;obtain⟨u,us,hu,hl,_⟩:=aal.inv;have hlen:off<ai.length:=by
    rcases Nat.lt_or_ge off ai.length with h|h
    ·exact h
    ·rw[List.drop_eq_nil_of_le h] at Z;cases Z
   refine⟨by rw[h.1];omega,?_⟩
   rw[hu];exact hl
theorem gX{ds:List be}{vs:List Value}(hl:vs.length=ds.length)(h:∀j (h:j<ds.length) (aj:j<vs.length),bF w av (ds[j]) (vs[j])):cm D sites w av (cv ds) vs:=
 ⟨by simp[cv,hl],fun j h1 h2=>by simp only[cv,List.getElem_map];exact h j (by simpa[cv] using h1) h2⟩
end
theorem gC(b B j:Nat):(⟨b,B,none⟩:Addr).add j=⟨b,B+j,none⟩:=by
 unfold Addr.add;split<;>simp_all
def hJ(w:World)(b B:Nat)(cs:List Value):Prop:=∀j u,cs[j]? =some u->w.cell? ⟨b,B+j,none⟩=some u
theorem hJ.drop{w:World}{b B:Nat}{cs:List Value}(h:hJ w b B cs)(m:Nat):hJ w b (B+m) (cs.drop m):=by
 intro j u hu;rw[List.getElem?_drop] at hu;have:=h _ _ hu;rwa[Nat.add_assoc]
theorem hJ.take{w:World}{b B:Nat}{cs:List Value}(h:hJ w b B cs)(m:Nat):hJ w b B (cs.take m):=by
 intro j u hu;rw[List.getElem?_take] at hu;split at hu
 ·exact h _ _ hu
 ·cases hu
theorem hJ.row{w:World}{b:Nat}{cur:List Value}{T:TypeId}{cx:Nat×Nat}(h:w.heap[b]? =some (.cells cur.toArray T cx)):hJ w b 0 cur:=by
 intro j u hu;rw[Nat.zero_add,cell_of_row w b j _ T cx h];simpa using hu
theorem tN(t:bc)(xs:List (den t))(k:Nat)(x:den t)(hx:xs[k]? =some x):((flat t xs).drop (k*bb t)).take (bb t)=enc t x:=by
 apply List.ext_getElem?;intro j;rw[List.getElem?_take,List.getElem?_drop];split
 ·rename_i hj;exact flat_get t xs k j x hx hj
 ·rename_i hj;rw[List.getElem?_eq_none (by rw[iH];omega)]
section
variable {P:Program}{C:g'}{U:World}{Y:List Nat}{X:Nat->Prop}{D:Nat->Value}{st:al}{M:Array Value}{w:World}
theorem gx{o s:Nat}{cells:List aP}(h:fs st o s=some cells):look st.sites o=some (.box s cells):=by
 unfold fs al.ae at h;split at h
 ·rename_i aM jh hl;cases hb:aM.beq s with
  |false=>simp[hb] at h
  |true=>
   simp only[hb,cond_true,Option.some.injEq] at h;have:=Nat.eq_of_beq_eq_true hb;subst this h;exact hl
 ·cases h
theorem jG{o s:Nat}{t:bc}{xs:List (den t)}(h:rowOf st o s=some ⟨t,xs⟩):look st.sites o=some (.row s t xs)\/look st.sites o=some (.c8 s t xs):=by
 unfold rowOf al.ae at h;split at h
 ·rename_i aM bz iv hl;cases hb:aM.beq s with
  |false=>simp[hb] at h
  |true=>
   simp only[hb,cond_true,Option.some.injEq] at h;have:=Nat.eq_of_beq_eq_true hb;subst this;cases h;exact .inl hl
 ·rename_i aM bz iv hl;cases hb:aM.beq s with
  |false=>simp[hb] at h
  |true=>
   simp only[hb,cond_true,Option.some.injEq] at h;have:=Nat.eq_of_beq_eq_true hb;subst this;cases h;exact .inr hl
 ·cases h
theorem Ref.at{sites:List (Nat×Site)}{o s:Nat}{p:Prop}{ae:Site}(h:Ref sites o s p)(hl:look sites o=some ae)(hs:ae.cl=s):p:=by
 obtain⟨bV,h1,_,h3⟩:=h;rw[hl] at h1;cases h1;exact h3 hs
theorem Ref.mk{sites:List (Nat×Site)}{o s:Nat}{p:Prop}{ae:Site}(hl:look sites o=some ae)(hs:ae.cl=s)(hp:p):Ref sites o s p:=
 ⟨ae,hl,by omega,fun _=>hp⟩
theorem aq.box(S:aq U Y X D st M w){o s off:Nat}{cells:List aP}(h:look st.sites o=some (.box s cells)){v:Value}(hv:dM D st.sites w (aH X D st.sites) (.ptr o s off) v):
  ∃b T cur,D o=.pointer (some ⟨b,0,none⟩)/\v=.pointer (some ⟨b,off,none⟩)/\w.heap[b]? =some (.cells (List.toArray cur) T (0,0))/\(∀u∈cur,u.oneCell'=true)/\cm D st.sites w (aH X D st.sites) cells cur:=by
 obtain⟨b,T,cur,h1,h2,h3,aE,_,bi⟩:=S.sites o _ h;obtain⟨bG,g2,g3⟩:=hv;have g1:=Ref.at g3 h rfl;rw[h1] at g1;cases g1;exact⟨b,T,cur,h1,g2,h2,aE,h3,bi⟩
theorem aq.row(S:aq U Y X D st M w){o s:Nat}{t:bc}{xs:List (den t)}(h:rowOf st o s=some ⟨t,xs⟩):
  ∃cs:List Value,cm D st.sites w (aH X D st.sites) (cv (flat t xs)) cs/\
   ((D o=.slice none 0 0/\xs=[])\/∃b c,D o=.slice (some ⟨b,0,none⟩) xs.length c/\hJ w b 0 cs/\xs.length<=c):=by
 rcases jG h with h|h
 ·obtain⟨e,cs,h1,h2⟩:=S.sites o _ h;have hl:cs.length=(flat t xs).length:=by rw[eS];exact h1.1
  refine⟨cs,gX hl h2,?_⟩;rcases h1.2 with⟨hn,h0⟩|⟨g,cap,cur,fz,hv,_,hg,hnc,_,_,htk⟩
  ·exact .inl ⟨hn,List.eq_nil_of_length_eq_zero h0⟩
  ·refine .inr ⟨_,_,hv,fun j u hu=>?_,hnc⟩
   rw[Nat.zero_add,cell_of_row w g j cur e fz hg];rw[<-htk,List.getElem?_take] at hu;split at hu
   ·simpa using hu
   ·cases hu
 ·obtain⟨h1,bJ⟩:bF w (aH X D st.sites) (.sl t xs) (D o)/\BZ (D o):=S.sites o _ h;generalize hv:D o=v at h1 bJ;cases h1 with
  |nil t=>exact⟨[],⟨rfl,fun j h=>by simp[cv,flat] at h⟩,.inl ⟨rfl,rfl⟩⟩
  |sl t xs a cap cs n hn hcap hb hl hc hr=>
   subst hn;rcases bJ with bJ|⟨b,n,c,bJ⟩
   ·cases bJ
   ·cases bJ;exact⟨cs,gX hl hr,.inr ⟨b,cap,rfl,fun j u hu=>by have:=hc j u hu;rwa[gC] at this,hcap⟩⟩
def B0(g:Nat)(t:bc)(xs:List (den t)):Prop:=g∈ku/\∀w (av:Nat->Prop),mV w->∃T fz,∃cs:List Value,w.heap[g]? =some (.cells cs.toArray T fz)/\cs.length=(flat t xs).length/\∀j (h:j<(flat t xs).length) (aj:j<cs.length),bF w av ((flat t xs)[j]) (cs[j])
structure CtxOk(P:Program)(C:Ctx):Prop where
 tt:∀T,(C.tt T).ok P T
 gt:∀g t xs,C.gt g=some ⟨t,xs⟩->B0 g t xs
theorem Fv{ti:b7}(h:ti.known=true):ti≠.none:=by rintro rfl;cases h
theorem FN{ti:b7}(h:ti.agg=false):ti.size=1:=by cases ti<;>first|rfl|cases h
theorem ajr{agg:Bool}{off n:Nat}{ai:List aP}(h:off+n<=ai.length)(h1:agg=false->n=1):cut agg off n ai≠none:=by
 unfold cut;cases agg with
 |true=>
  have:Nat.ble (off+n) ai.length=true:=Nat.ble_eq_true_of_le h;simp[this]
 |false=>
  have:=h1 rfl;simp only[cond_false];cases Z:ai.drop off with
  |nil=>have:=congrArg List.length Z;simp at this;omega
  |cons l r=>simp
theorem alc(S:aq U Y X D st M w){C:Ctx}(H:CtxOk P C){B:Oper}{T:TypeId}{x:Operand}(aL:B.op=.load T x)(Z:cf st B.dst=true)(hk:(C.tt T).known=true):
  Holds (sr (C.tt T).agg (C.tt T).size st (bd C st T x)) (cz P U Y X st M w B):=by
 have hn:=Fv hk;have bw:=dn S C T x;have fin:∀{b p:Nat} {ai:List aP} {vs:List Value} {off:Nat} {v:aZ},Act.eval ⟨M,[]⟩ x=.pointer (some ⟨b,p+off,none⟩)->hJ w b p vs->cm D st.sites w (aH X D st.sites) ai vs->
   cut (C.tt T).agg off (C.tt T).size ai=some v->cz P U Y X st M w B v []:=by
  intro b p ai vs off v hx hc hl gH;obtain⟨hle,avK⟩:=TW gH FN hl;refine dy S Z (vv:=sn (C.tt T).agg ((vs.drop off).take (C.tt T).size)) ?_ avK;have df:=tG (P:=P) (w:=w) (H.tt T) hn ⟨b,p+off,none⟩ ((vs.drop off).take (C.tt T).size) (by simp;omega) (fun j u hu=>by rw[gC];exact(hc.drop off).take _ j u hu)
  unfold execOp;simp only[aL,Instr.loadAt,Instr.sureAddr,hx,Sem.run_bind,Sem.run_pure,Result.andThen_ok,df]
 unfold sr;split
 ·rename_i o s off b0;rw[b0] at bw;split
  ·rename_i cells hb;split
   ·rename_i v gH;obtain⟨b,gg,cur,_,hv,hg,_,hl⟩:=S.box (gx hb) bw;exact Holds.ok (fin (p:=0) (by rw[Nat.zero_add];exact hv) (hJ.row hg) hl gH)
   ·exact .fail
  ·exact .fail
 ·rename_i cells off b0;rw[b0] at bw;split
  ·rename_i v gH;obtain⟨b,p,hv,_,_,cs,hl,hc,hr⟩:=bw;exact Holds.ok (fin hv hc (gX hl hr) gH)
  ·exact .fail
 ·rename_i o s u k off b0;rw[b0] at bw;split
  ·rename_i t xs hrow;split
   ·rename_i nP;obtain⟨rfl,hle⟩:=nP;refine Holds.ei fun y hy=>?_
    have dN:xs[k]? =some y:=hy;obtain⟨cs,hl,hcell⟩:=S.row hrow;have dB:∃ae,look st.sites o=some ae/\ae.cl=s:=by
     rcases jG hrow with h|h<;>exact⟨_,h,rfl⟩
    obtain⟨ae,ib,lp⟩:=dB;obtain⟨b,hv,vj⟩:=bw;obtain⟨n,c,cG⟩:=Ref.at vj ib lp;cases gH:cut (C.tt T).agg off (C.tt T).size (cv (enc t y)) with
    |none=>exact absurd gH (ajr (by simpa[cv,iH] using hle) FN)
    |some v=>
     rcases hcell with⟨qm,_⟩|⟨bG,fb,jT,hcs,_⟩
     ·rw[cG] at qm;cases qm
     ·rw[cG] at jT;cases jT;have e1:cv (enc t y)=((cv (flat t xs)).drop (k*bb t)).take (bb t):=by
       rw[<-tN t xs k y dN];simp[cv,List.map_drop,List.map_take]
      rw[e1] at gH;refine fin (p:=k*bb t) hv ?_ ((hl.drop (k*bb t)).take (bb t)) gH;have:=(hcs.drop (k*bb t)).take (bb t);rwa[Nat.zero_add] at this
   ·exact .fail
  ·exact .fail
 ·exact .fail
end
section
variable {P:Program}{U:World}{Y:List Nat}{X:Nat->Prop}{D:Nat->Value}{st:al}{M:Array Value}{w:World}
theorem aq.fp(S:aq U Y X D st M w){o b:Nat}(hl:ce st.sites o)(hb:bN (D o)=some b):b<w.heap.size:=by
 obtain⟨ae,h1,h2⟩:=hl;have:=S.sites o ae h1;cases ae with
 |box s cells=>
  obtain⟨bG,T,cur,g1,g2,_⟩:=this;rw[g1] at hb;cases hb;exact(Array.getElem?_eq_some_iff.1 g2).1
 |row s t xs=>
  obtain⟨e,cs,g1,_⟩:=this;rcases g1.2 with⟨hn,_⟩|⟨g,cap,cur,fz,hv,_,hg,_⟩
  ·rw[hn] at hb;cases hb
  ·rw[hv] at hb;cases hb;exact(Array.getElem?_eq_some_iff.1 hg).1
 |map s t es=>
  obtain⟨bG,g1,g2⟩:=this;rw[g1] at hb;cases hb;exact g2.lt
 |c8=>cases h2
 |dead=>cases h2
theorem Ap{D aW:Nat->Value}{sites bU:List (Nat×Site)}{w w':World}{av b':Nat->Prop}(go:∀{a:aZ} {v:Value},b_ D sites w av a v->b_ aW bU w' b' a v){ai:List aP}{vs:List Value}
  (h:cm D sites w av ai vs):cm aW bU w' b' ai vs:=by
 obtain⟨cS,h1,h2,h3⟩:=go (a:=.av (.agg ai)) (v:=.agg vs.toArray) ⟨vs,rfl,h.1,h.2⟩;have:vs=cS:=by simpa using h1
 subst this;exact⟨h2,h3⟩
theorem oK{D aW:Nat->Value}{sites bU:List (Nat×Site)}{w w':World}{av b':Nat->Prop}(go:∀{a:aZ} {v:Value},b_ D sites w av a v->b_ aW bU w' b' a v){d:be}{v:Value}
  (h:bF w av d v):bF w' b' d v:=go (a:=one d) (v:=v) h
theorem NO{sites:List (Nat×Site)}{o:Nat}{ae bV:Site}(hl:look sites o=some ae)(h:bV.live=ae.live)(ab:Nat):ce (ci sites o bV) ab <-> ce sites ab:=by
 unfold ce;rw[cR];by_cases e:o=ab
 ·subst e;simp only[if_true,hl,Option.some.injEq];constructor
  ·rintro⟨s,rfl,h2⟩;exact⟨ae,rfl,h▸h2⟩
  ·rintro⟨s,rfl,h2⟩;exact⟨bV,rfl,h▸h2⟩
 ·simp only[e,if_false]
theorem aq.write(S:aq U Y X D st M w){o b:Nat}{ae bV:Site}{cur cur':Array Value}{T:TypeId}{cx:Nat×Nat}(hl:look st.sites o=some ae)(lO:ae.live=true)(am3:bV.live=true)(hs:bV.cl=ae.cl)
  (cG:bN (D o)=some b) (hg:w.heap[b]? =some (.cells cur T cx))
  (fl:∀{bU:List (Nat×Site)} {w':World},bU=ci st.sites o bV->w'=w.setRow b cur'->w'.heap[b]? =some (.cells cur' T cx)->
   (∀{a v},b_ D st.sites w (aH X D st.sites) a v->b_ D bU w' (aH X D bU) a v)->jM D bU w' (aH X D bU) o bV):
  aq U Y X D {st with sites:=ci st.sites o bV} M (w.setRow b cur'):=by
 have cB:ce st.sites o:=⟨ae,hl,lO⟩;have lV:∀ab,ce (ci st.sites o bV) ab <-> ce st.sites ab:=NO hl (am3.trans lO.symm);have b6:∀bG,aH X D (ci st.sites o bV) bG <-> aH X D st.sites bG:=by
  intro bG;unfold aH;simp only[lV]
 have hne:∀bG,¬aH X D st.sites bG->bG≠b:=by
  rintro bG h rfl;exact h (.inr ⟨o,cB,cG⟩)
 refine S.qc (fun ab s bS=>?_) (fun bG h _=>setRow_other w b bG _ (hne bG h)) (fun bG h _=>by rw[b6];exact h) (fun go ab s bS=>?_) (fun ab ρ bG h1 h2=>S.dW ab ρ bG ((lV ab).1 h1) ((lV ρ).1 h2))
  (fun ab bG h=>S.cg ab bG ((lV ab).1 h)) (fun ab bG h hb=>by rw[setRow_size];exact S.fp ((lV ab).1 h) hb) ?_ (by rw[setRow_size];exact Nat.le_refl _)
 ·rw[cR];by_cases e:o=ab
  ·subst e;rw[hl] at bS;cases bS;exact⟨bV,by simp,by omega,fun _=>rfl⟩
  ·exact⟨s,by simp[e,bS],Nat.le_refl _,fun _=>rfl⟩
 ·rw[cR] at bS;by_cases e:o=ab
  ·subst e;simp only[if_true,Option.some.injEq] at bS;subst bS;exact .inr (fl rfl rfl (setRow_heap w b cur cur' T cx hg) go)
  ·simp only[e,if_false] at bS;refine .inl ⟨bS,rfl,fun sK bG dP=>setRow_other w b bG _ ?_⟩
   rintro rfl;exact e (S.dW o ab _ cB ⟨s,bS,sK⟩ cG dP)
 ·have aR:=S.frame;refine⟨aR.os,aR.tape,aR.output,by rw[setRow_size];exact aR.size,fun bG h1 h2=>?_⟩
  rw[setRow_other w b bG _ ?_]
  ·exact aR.block bG h1 h2
  ·rintro rfl;rcases(S.cg o _ cB cG).2 with h|h
   ·exact h2 h
   ·omega
theorem aq.freeze(S:aq U Y X D st M w){o s:Nat}{t:bc}{xs:List (den t)}(hl:look st.sites o=some (.row s t xs)):
  aq U Y X D {st with sites:=ci st.sites o (.c8 s t xs)} M w:=by
 have cB:ce st.sites o:=⟨_,hl,rfl⟩;have d_:∀ab,ce (ci st.sites o (.c8 s t xs)) ab->ce st.sites ab/\ab≠o:=by
  rintro ab ⟨ae,h1,h2⟩;rw[cR] at h1;by_cases e:o=ab
  ·subst e;simp at h1;subst h1;cases h2
  ·simp only[e,if_false] at h1;exact⟨⟨ae,h1,h2⟩,fun h=>e h.symm⟩
 have b6:∀bG,aH X D (ci st.sites o (.c8 s t xs)) bG->aH X D st.sites bG:=by
  rintro bG (h|⟨ab,h1,h2⟩)
  ·exact .inl h
  ·exact .inr ⟨ab,(d_ ab h1).1,h2⟩
 refine S.qc (fun ab ae bS=>?_) (fun _ _ _=>rfl) (fun bG h _ aj=>h (b6 bG aj)) (fun go ab ae bS=>?_) (fun ab ρ bG h1 h2=>S.dW ab ρ bG (d_ ab h1).1 (d_ ρ h2).1)
  (fun ab bG h=>S.cg ab bG (d_ ab h).1) (fun ab bG h hb=>S.fp (d_ ab h).1 hb) S.frame (Nat.le_refl _)
 ·rw[cR];by_cases e:o=ab
  ·subst e;rw[hl] at bS;cases bS;exact⟨.c8 s t xs,by simp,Nat.le_refl _,fun _=>rfl⟩
  ·exact⟨ae,by simp[e,bS],Nat.le_refl _,fun _=>rfl⟩
 ·rw[cR] at bS;by_cases e:o=ab
  ·subst e;simp only[if_true,Option.some.injEq] at bS;subst bS;refine .inr ?_
   show bF _ _ (.sl t xs) (D o)/\BZ (D o);obtain⟨cy,cs,h1,h2⟩:=S.sites o _ hl;rcases h1.2 with⟨hn,h0⟩|⟨g,cap,cur,fz,hv,_,hg,hnc,_,_,htk⟩
   ·have:xs=[]:=List.eq_nil_of_length_eq_zero h0;subst this;rw[hn];exact⟨.nil t,.inl rfl⟩
   ·rw[hv];refine⟨?_,.inr ⟨_,_,_,rfl⟩⟩;have hlen:cs.length=(flat t xs).length:=by rw[eS];exact h1.1
    refine .sl t xs _ cap cs xs.length rfl hnc (fun _=>?_) hlen (fun j u hu=>?_) (fun j g1 g2=>oK go (h2 j g1 g2))
    ·rintro(hx|⟨ab,g1,g2⟩)
     ·exact(S.cg o g cB (by rw[hv];rfl)).1 hx
     ·obtain⟨g3,g4⟩:=d_ ab g1;exact g4 (S.dW ab o g g3 cB g2 (by rw[hv];rfl))
    ·rw[gC,Nat.zero_add,cell_of_row w g j cur cy fz hg];rw[<-htk,List.getElem?_take] at hu;split at hu
     ·simpa using hu
     ·cases hu
  ·simp only[e,if_false] at bS;exact .inl ⟨bS,rfl,fun _ _ _=>rfl⟩
theorem Pw{aI:Type}(l:List (Nat×aI))(n:Nat)(v:aI)(h:look l n=some v):ci l n v=l:=by
 induction l with
 |nil=>simp[look] at h
 |cons p l ih=>
  obtain⟨k,u⟩:=p;simp only[look] at h;simp only[ci];cases hb:k.beq n with
  |true=>simp only[hb,cond_true,Option.some.injEq] at h;subst h;simp
  |false=>simp only[hb,cond_false] at h;simp[ih h]
def dz(sites:List (Nat×Site))(us:List (Nat×Site)):Prop:=
 ∀o ae,(o,ae)∈us->∃s t,∃xs:List (den t),ae=.c8 s t xs/\(look sites o=some (.row s t xs)\/look sites o=some (.c8 s t xs))
theorem dz.nil{sites:List (Nat×Site)}:dz sites []:=fun _ _ h=>by simp at h
theorem dz.append{sites us vs:List (Nat×Site)}(h:dz sites us)(aj:dz sites vs):dz sites (us++vs):=by
 intro o ae hm;rcases List.mem_append.1 hm with hm|hm
 ·exact h o ae hm
 ·exact aj o ae hm
theorem dz.step{sites us:List (Nat×Site)}{o:Nat}{ae:Site}(h:dz sites ((o,ae)::us)):dz (ci sites o ae) us:=by
 obtain⟨s,t,xs,rfl,hl⟩:=h o ae (by simp)
 intro ab bV hm;obtain⟨aM,bz,iv,rfl,fY⟩:=h ab bV (by simp[hm])
 refine⟨aM,bz,iv,rfl,?_⟩;rw[cR];by_cases e:o=ab
 ·subst e;simp only[if_true];right;rcases hl with hl|hl<;>rcases fY with fY|fY<;>rw[hl] at fY<;>cases fY<;>rfl
 ·simp only[e,if_false];exact fY
theorem aq.zM{us:List (Nat×Site)}:∀{st:al},aq U Y X D st M w->dz st.sites us->aq U Y X D {st with sites:=bp st.sites us} M w:=by
 induction us with
 |nil=>intro st S _;exact S
 |cons p us ih=>
  obtain⟨o,ae⟩:=p;intro st S h;have aj:=h.step;obtain⟨s,t,xs,rfl,hl⟩:=h o ae (by simp)
  simp only[bp];rcases hl with hl|hl
  ·exact ih (S.freeze hl) aj
  ·rw[Pw _ _ _ hl] at aj ⊢;exact ih S aj
theorem lB{us:List (Nat×Site)}:∀{sites:List (Nat×Site)},dz sites us->∀o,(look (bp sites us) o=look sites o)\/(∃s t,∃xs:List (den t),(look sites o=some (.row s t xs)\/look sites o=some (.c8 s t xs))/\look (bp sites us) o=some (.c8 s t xs)):=by
 induction us with
 |nil=>intro sites _ o;exact .inl rfl
 |cons p us ih=>
  obtain⟨ab,ae⟩:=p;intro sites h o;obtain⟨s,t,xs,rfl,hl⟩:=h ab ae (by simp)
  simp only[bp];have hc:=cR sites ab o (.c8 s t xs);rcases ih h.step o with h1|⟨aM,bz,iv,h1,h2⟩
  ·by_cases e:ab=o
   ·subst e;simp only[if_true] at hc;exact .inr ⟨s,t,xs,hl,h1.trans hc⟩
   ·simp only[e,if_false] at hc;exact .inl (h1.trans hc)
  ·by_cases e:ab=o
   ·subst e;simp only[if_true] at hc;rw[hc] at h1;rcases h1 with h1|h1
    ·cases h1
    ·cases h1;exact .inr ⟨s,t,xs,hl,h2⟩
   ·simp only[e,if_false] at hc;rw[hc] at h1;exact .inr ⟨aM,bz,iv,h1,h2⟩
theorem Df{us:List (Nat×Site)}:∀{sites:List (Nat×Site)},dz sites us->∀{o s:Nat} {t:bc} {xs:List (den t)},(o,Site.c8 s t xs)∈us->look (bp sites us) o=some (.c8 s t xs):=by
 intro sites h o s t xs hm;obtain⟨iB,t0,Cb,he,hl⟩:=h o _ hm;cases he;rcases lB h o with h1|⟨aM,bz,iv,h1,h2⟩
 ·-- named,and aAI azB
  induction us generalizing sites with
  |nil=>simp at hm
  |cons p us ih=>
   obtain⟨ab,ae⟩:=p;simp only[bp] at h1 ⊢;rcases List.mem_cons.1 hm with hm|hm
   ·cases hm;rcases lB h.step o with h2|⟨aM,bz,iv,h2,h3⟩
    ·rw[h2,cR];simp
    ·rw[cR] at h2;simp at h2;obtain⟨rfl,rfl,h2⟩:=h2;rw[h3];cases h2;rfl
   ·have hc:=cR sites ab o ae;by_cases e:ab=o
    ·subst e;obtain⟨s1,t1,auz,rfl,gO⟩:=h ab ae (by simp)
     have:Site.c8 s1 t1 auz=Site.c8 s t xs:=by
      rcases hl with hl|hl<;>rcases gO with gO|gO<;>rw[hl] at gO<;>cases gO<;>rfl
     cases this;simp only[if_true] at hc;rcases lB h.step ab with h2|⟨aM,bz,iv,h2,h3⟩
     ·rw[h2,hc]
     ·rw[hc] at h2;rcases h2 with h2|h2
      ·cases h2
      ·cases h2;exact h3
    ·simp only[e,if_false] at hc;refine ih h.step hm (by rw[hc];exact hl) ?_
     rw[h1,hc]
 ·rcases hl with hl|hl<;>rcases h1 with h1|h1<;>rw[hl] at h1<;>cases h1<;>exact h2
end
section
variable {P:Program}{U:World}{Y:List Nat}{X:Nat->Prop}{D:Nat->Value}{st:al}{M:Array Value}{w:World}
structure kI(U:World)(Y:List Nat)(X:Nat->Prop)(D:Nat->Value)(st:al)(M:Array Value)(w:World)(vs:List (Nat×Site)):Prop where
 old:aq U Y X D st M w
 fz:dz st.sites vs
theorem kI.new{vs:List (Nat×Site)}(aR:kI U Y X D st M w vs):aq U Y X D {st with sites:=bp st.sites vs} M w:=aR.old.zM aR.fz
theorem kI.go{vs:List (Nat×Site)}(aR:kI U Y X D st M w vs){a:aZ}{v:Value}(h:b_ D st.sites w (aH X D st.sites) a v):b_ D (bp st.sites vs) w (aH X D (bp st.sites vs)) a v:=by
 have d_:∀ab,ce (bp st.sites vs) ab->ce st.sites ab:=by
  rintro ab ⟨ae,h1,h2⟩;rcases lB aR.fz ab with h|⟨s,t,xs,_,h⟩
  ·exact⟨ae,h▸h1,h2⟩
  ·rw[h] at h1;cases h1;cases h2
 refine h.goes ⟨fun o ae br=>?_,fun _ _ _=>rfl,fun b hb _ dP=>hb ?_⟩ (Nat.le_refl _) ?_
 ·rcases lB aR.fz o with h|⟨s,t,xs,h1,h2⟩
  ·exact⟨ae,h.trans br,Nat.le_refl _,fun _=>rfl⟩
  ·refine⟨_,h2,?_,fun _=>rfl⟩
   rw[br] at h1;rcases h1 with h1|h1<;>cases h1<;>exact Nat.le_refl _
 ·rcases dP with h|⟨ab,h1,h2⟩
  ·exact .inl h
  ·exact .inr ⟨ab,d_ ab h1,h2⟩
 ·rintro b (h|⟨ab,h1,h2⟩)
  ·exact aR.old.old b h
  ·exact aR.old.fp (d_ ab h1) h2
theorem alx{o s:Nat}{t:bc}{xs:List (den t)}(hr:rowOf st o s=some ⟨t,xs⟩):dz st.sites (lY st o s t xs):=by
 unfold lY;split
 ·exact .nil
 ·intro ab ae hm;simp only[List.mem_singleton,Prod.mk.injEq] at hm;obtain⟨rfl,rfl⟩:=hm;exact⟨s,t,xs,rfl,jG hr⟩
theorem Qu{o s:Nat}{t:bc}{xs:List (den t)}(hr:rowOf st o s=some ⟨t,xs⟩):bp st.sites (lY st o s t xs)=bp st.sites [(o,.c8 s t xs)]:=by
 unfold lY;split
 ·rename_i iB t0 Cb h0;have h0:look st.sites o=some (.c8 iB t0 Cb):=h0;simp only[bp];rcases jG hr with h|h
  ·rw[h0] at h;cases h
  ·exact(Pw _ _ _ h).symm
 ·rfl
theorem ag7{sites us:List (Nat×Site)}(h:dz sites us){o s:Nat}{t:bc}{xs:List (den t)}(hl:look sites o=some (.c8 s t xs)):look (bp sites us) o=some (.c8 s t xs):=by
 rcases lB h o with h1|⟨aM,bz,iv,h1,h2⟩
 ·rw[h1];exact hl
 ·rw[hl] at h1;rcases h1 with h1|h1
  ·cases h1
  ·cases h1;exact h2
theorem TV{l:aP}{d:be}{us:List (Nat×Site)}(h:jA st l=some (d,us)):dz st.sites us:=by
 unfold jA at h;split at h
 ·cases h;exact .nil
 ·cases h;exact .nil
 ·rename_i o s;split at h
  ·rename_i t xs hr;cases h;exact alx hr
  ·cases h
 ·cases h;exact .nil
 ·cases h
theorem TU{l:aP}{d:be}{us vs:List (Nat×Site)}{v:Value}(h:jA st l=some (d,us))(hv:dM D st.sites w (aH X D st.sites) l v)
  (aR:kI U Y X D st M w vs) (d_:∀p,p∈us->p∈vs):bF w (aH X D (bp st.sites vs)) d v:=by
 unfold jA at h;split at h
 ·cases h;exact oK aR.go hv
 ·cases h;rw[show v=_ from hv];exact .nil _
 ·rename_i o s;split at h
  ·rename_i t xs hr;cases h;have hl:look (bp st.sites vs) o=some (.c8 s t xs):=by
    unfold lY at d_;split at d_
    ·rename_i iB t0 Cb h0;have h0:look st.sites o=some (.c8 iB t0 Cb):=h0;rcases jG hr with h|h
     ·rw[h0] at h;cases h
     ·exact ag7 aR.fz h
    ·exact Df aR.fz (d_ _ (List.mem_singleton.2 rfl))
   have:=aR.new.sites o _ hl;have mQ:v=D o:=by
    rcases jG hr with h1|h1<;>exact Ref.at hv.2 h1 rfl
   rw[mQ];exact this.1
  ·cases h
 ·rename_i g;cases h;obtain⟨ai,rfl,hl,_⟩:=hv;have:ai=[]:=List.eq_nil_of_length_eq_zero (by simpa using hl)
  subst this;exact .fn g [] [] (fun _=>[]) _ rfl rfl (fun b hb=>by simp at hb) (fun b hb=>by simp at hb) (fun i hi=>by simp at hi) (fun i hi=>by simp at hi) (fun i hi=>by simp at hi)
 ·cases h
theorem Hs:∀{ai:List aP} {ds:List be} {us:List (Nat×Site)},fE st ai=some (ds,us)->dz st.sites us:=by
 intro ai;induction ai with
 |nil=>intro ds us h;simp only[fE] at h;cases h;exact .nil
 |cons l ai ih=>
  intro ds us h;simp only[fE] at h;split at h
  ·rename_i d u1 kv u2 h1 h2;cases h;exact(TV h1).append (ih h2)
  ·cases h
def cO(w:World)(av:Nat->Prop)(ds:List be)(vs:List Value):Prop:=vs.length=ds.length/\∀j (h:j<ds.length) (aj:j<vs.length),bF w av (ds[j]) (vs[j])
theorem zR:∀{ai:List aP} {ds:List be} {us vs:List (Nat×Site)} {cs:List Value},fE st ai=some (ds,us)->cm D st.sites w (aH X D st.sites) ai cs->
  kI U Y X D st M w vs->(∀p,p∈us->p∈vs)->cO w (aH X D (bp st.sites vs)) ds cs:=by
 intro ai;induction ai with
 |nil=>intro ds us vs cs h hl _ _;simp only[fE] at h;cases h;rw[hl.nq];exact⟨rfl,fun j h=>by simp at h⟩
 |cons l ai ih=>
  intro ds us vs cs h hl aR d_;simp only[fE] at h;split at h
  ·rename_i d u1 kv u2 h1 h2;cases h;obtain⟨c,nY,rfl,hc,hcs⟩:=hl.inv;have r1:=TU h1 hc aR (fun p hp=>d_ p (List.mem_append.2 (.inl hp)))
   obtain⟨r2,c_⟩:=ih h2 hcs aR (fun p hp=>d_ p (List.mem_append.2 (.inr hp)))
   refine⟨by simp[r2],fun j g1 g2=>?_⟩
   cases j with
   |zero=>exact r1
   |succ j=>exact c_ j (by simpa using g1) (by simpa using g2)
  ·cases h
theorem mI.run{P:Program}{u:Bool}(g B:Nat)(t:TypeId)(fz:Nat×Nat):∀(vs:List Value) (i:Nat) (cur:Array Value) (w:World),w.heap[g]? =some (.cells cur t fz)->mI u t cur fz->B+i+vs.length<=cur.size->(∀v∈vs,v.oneCell'=true)->
  (storeCells ⟨g,B,none⟩ vs i).run P w=.ok () (w.setRow g (cur.toList.take (B+i)++vs++cur.toList.drop (B+i+vs.length)).toArray)
 |[],i,cur,w,hg,_,_,_=>by
  simp only[storeCells,List.append_nil,List.length_nil,Nat.add_zero,List.take_append_drop,Array.toArray_toList];rw[setRow_self w g cur t fz hg];rfl
 |v::rest,i,cur,w,hg,hz,hl,h1=>by
  have hi:B+i<cur.size:=by simp at hl;omega
  have arC:(⟨g,B,none⟩:Addr).add i=⟨g,B+i,none⟩:=by unfold Addr.add;split<;>simp_all
  have hcell:w.cell? ⟨g,B+i,none⟩=some cur[B+i]:=by simp[World.cell?,hg,hi]
  have aru:w.frozen? ⟨g,B+i,none⟩=false:=by
   rcases hz.2 with rfl|⟨_,hz⟩
   ·simp[World.frozen?,hg]
   ·simp only[World.frozen?,hg];have:¬fz.1<=B+i:=by omega
    simp[this]
  have dB:(store ((⟨g,B,none⟩:Addr).add i) v).run P w=.ok () (w.setRow g (cur.setIfInBounds (B+i) v)):=by
   rw[arC,run_store P w _ v _ (h1 v (by simp)),hcell]
   simp[aru,setCell_eq_setRow w g (B+i) cur t fz v hg]
  have ih:=mI.run (P:=P) (u:=u) g B t fz rest (i+1) (cur.setIfInBounds (B+i) v) (w.setRow g (cur.setIfInBounds (B+i) v)) (setRow_heap w g cur _ t _ hg)
   ⟨hz.1,hz.2.imp id fun h=>⟨h.1,by simpa using h.2⟩⟩ (by simp at hl ⊢;omega) (fun x hx=>h1 x (by simp[hx]))
  simp only[storeCells,Sem.run_bind,dB,Result.andThen_ok,ih,setRow_setRow];congr 3
  have e:=list_seg_step cur.toList (B+i) v rest (by simp at hl ⊢;omega)
  simpa[Array.toList_setIfInBounds,Nat.add_assoc] using e
theorem Mx{u:Bool}{fz:Nat×Nat}{T:TypeId}{ti:b7}(h:ti.ok P T)(hn:ti≠.none){b off:Nat}{vv:Value}{cur:List Value}{gg:TypeId}(hg:w.heap[b]? =some (.cells cur.toArray gg fz))(hz:mI u gg cur.toArray fz)
  (hsz:vv.cells.toList.length=ti.size) (hle:off+vv.cells.toList.length<=cur.length) (h1:∀u∈vv.cells.toList,u.oneCell'=true):
  (storeVar T ⟨b,off,none⟩ vv).run P w=.ok () (w.setRow b (bM cur off vv.cells.toList).toArray):=by
 have hs:vv.cells.size=ti.size:=by simpa using hsz
 have:=mI.run (P:=P) b off gg fz vv.cells.toList 0 cur.toArray w hg hz (by simpa using hle) h1
 simp only[storeVar,Sem.run_bind,b7.P6 h hn,Result.andThen_ok,hs,ne_eq,not_true_eq_false,if_false];rw[this];simp[bM]
variable {B:Oper}
theorem w4{aW:Nat->Value}{w':World}{us:List (Nat×Site)}(S:aq U Y X aW {st with sites:=bp st.sites us} M w')(Z:cf st B.dst=true)
  (h:(execOp (Act.eval ⟨M,[]⟩) B).run P w=.ok .skip w'):cz P U Y X st M w B (bZ (.cH undef)) us:=
 fun _ _ bR=>amc h (bR _ _ _ (aq.cW S Z rfl))
theorem kL{aW:Nat->Value}{w':World}{us:List (Nat×Site)}{v:aZ}{vv:Value}(S:aq U Y X aW {st with sites:=bp st.sites us} M w')(Z:cf st B.dst=true)
  (h:(execOp (Act.eval ⟨M,[]⟩) B).run P w=.ok (.value vv) w') (hv:b_ aW (bp st.sites us) w' (aH X aW (bp st.sites us)) v vv):cz P U Y X st M w B v us:=
 fun _ _ bR=>oy h (bR _ _ _ (aq.cW S Z hv))
theorem q_{aI:Type}(a:List aI)(off:Nat)(b:List aI)(h:off+b.length<=a.length):(bM a off b).length=a.length:=by
 unfold bM;simp only[List.length_append,List.length_take,List.length_drop];omega
theorem adM{aI:Type}(a:List aI)(off n:Nat)(b:List aI)(h:off+b.length<=n)(hn:n<=a.length):(bM a off b).take n=bM (a.take n) off b:=by
 unfold bM;apply List.ext_getElem?;intro j;simp only[List.getElem?_take,List.getElem?_append,List.length_append,List.length_take,List.getElem?_drop];have m1:min off a.length=off:=by omega
 have m2:min off (min n a.length)=off:=by omega
 simp only[m1,m2];by_cases c1:j<off
 ·have c2:j<n:=by omega
  have c3:j<off+b.length:=by omega
  simp[c1,c2,c3]
 ·by_cases c3:j<off+b.length
  ·have c2:j<n:=by omega
   simp[c1,c2,c3]
  ·have e:off+b.length+(j-(off+b.length))=j:=by omega
   simp[c1,c3,e]
theorem aeF{cells ai:List aP}{T:TypeId}{cur vs:List Value}{b off:Nat}(h:mB cells T cur b)(hl:vs.length=ai.length)(hns:gU ai=true):mB (bM cells off ai) T (bM cur off vs) b:=by
 intro bJ;unfold bM at bJ ⊢;cases off with
 |zero=>
  cases ai with
  |nil=>
   cases vs with
   |nil=>simpa using h (by simpa using bJ)
   |cons=>cases hl
  |cons l ai=>
   simp only[List.take_zero,List.nil_append,List.cons_append,List.head?_cons,Option.some.injEq] at bJ;subst bJ;cases hns
 |succ n=>
  cases cells with
  |nil=>
   cases ai with
   |nil=>simp at bJ
   |cons l ai=>
    simp only[List.take_nil,List.nil_append,List.cons_append,List.head?_cons,Option.some.injEq] at bJ;subst bJ;cases hns
  |cons c cells=>
   simp only[List.take_succ_cons,List.cons_append,List.head?_cons,Option.some.injEq] at bJ;subst bJ;have:=h rfl;cases cur with
   |nil=>simp at this
   |cons v cur=>simpa using this
theorem aq.ahV(S:aq U Y X D st M w){o s off:Nat}{cells ai:List aP}{v:Value}{vs:List Value}(hb:look st.sites o=some (.box s cells))(hv:dM D st.sites w (aH X D st.sites) (.ptr o s off) v)
  (hl:cm D st.sites w (aH X D st.sites) ai vs) (hle:off+ai.length<=cells.length) (h1:∀u∈vs,u.oneCell'=true) (hns:gU ai=true):
  ∃b T cur,v=.pointer (some ⟨b,off,none⟩)/\w.heap[b]? =some (.cells (List.toArray cur) T (0,0))/\off+vs.length<=cur.length/\
   aq U Y X D {st with sites:=ci st.sites o (.box s (bM cells off ai))} M (w.setRow b (bM cur off vs).toArray):=by
 obtain⟨b,T,cur,cG,vQ,hg,kk,jx⟩:=S.box hb hv;have oV:off+vs.length<=cur.length:=by rw[hl.1,jx.1];exact hle
 refine⟨b,T,cur,vQ,hg,oV,?_⟩;have ib:mB cells T cur b:=by
  obtain⟨b2,eo,XR,aD,aF,_,_,bI,_⟩:=S.sites o _ hb;rw[cG] at aD;cases aD;rw[hg] at aF;cases aF;exact bI
 refine S.write hb rfl rfl rfl (by rw[cG];rfl) hg (fun hs hw hg' go=>?_)
 have XC:=Ap go (jx.bM off hl);refine⟨b,T,_,cG,hg',XC.1,fun u hu=>?_,aeF ib hl.1 hns,XC.2⟩
 unfold bM at hu;simp only[List.mem_append] at hu;rcases hu with(hu|hu)|hu
 ·exact kk u (List.mem_of_mem_take hu)
 ·exact h1 u hu
 ·exact kk u (List.mem_of_mem_drop hu)
theorem iL{D:Nat->Value}{sites:List (Nat×Site)}{w:World}{av:Nat->Prop}{ds:List be}{vs:List Value}(h:cm D sites w av (cv ds) vs):cO w av ds vs:=
 ⟨by simpa[cv] using h.1,fun j g1 g2=>by
  have:=h.2 j (by simpa[cv] using g1) g2
  simp only[cv,List.getElem_map] at this;exact this⟩
theorem ac6{w:World}{av:Nat->Prop}{t:bc}{xs:List (den t)}{k:Nat}{hU:den t}{cs ns:List Value}(hk:k<xs.length)(h:cO w av (flat t xs) cs)(aj:cO w av (enc t hU) ns):
  cO w av (flat t (xs.set k hU)) (bM cs (k*bb t) ns):=by
 have e:flat t (xs.set k hU)=bM (flat t xs) (k*bb t) (enc t hU):=by
  rw[ajh,if_pos hk];unfold bM;rw[iH,Nat.add_mul,Nat.one_mul]
 rw[e];have a:=gX (D:=fun _=>undef) (sites:=[]) h.1 h.2
 have b:=gX (D:=fun _=>undef) (sites:=[]) aj.1 aj.2
 have c:=a.bM (k*bb t) b;have e2:bM (cv (flat t xs)) (k*bb t) (cv (enc t hU))=cv (bM (flat t xs) (k*bb t) (enc t hU)):=by
  simp[bM,cv,List.map_append,List.map_take,List.map_drop]
 rw[e2] at c;exact iL c
theorem aq.ahU(S:aq U Y X D st M w){o s k off:Nat}{t:bc}{xs:List (den t)}{x hU:den t}{v:Value}{ds:List be}{vs:List Value}(hb:look st.sites o=some (.row s t xs))
  (hv:dM D st.sites w (aH X D st.sites) (.eP o s t k off) v) (hx:xs[k]? =some x) (o5:enc t hU=bM (enc t x) off ds)
  (hl:cO w (aH X D st.sites) ds vs) (hle:off+ds.length<=bb t) (h1:∀u∈vs,u.oneCell'=true):
  ∃b T cur fz,v=.pointer (some ⟨b,k*bb t+off,none⟩)/\w.heap[b]? =some (.cells (List.toArray cur) T fz)/\mI t.jw T cur.toArray fz/\k*bb t+off+vs.length<=cur.length/\
   aq U Y X D {st with sites:=ci st.sites o (.row s t (xs.set k hU))} M (w.setRow b (bM cur (k*bb t+off) vs).toArray):=by
 obtain⟨b,vQ,o6⟩:=hv;obtain⟨n,c,cG⟩:=Ref.at o6 hb rfl;obtain⟨e,cs,lf,dO⟩:=S.sites o _ hb;have hk:k<xs.length:=by
  rcases Nat.lt_or_ge k xs.length with h|h
  ·exact h
  ·rw[List.getElem?_eq_none h] at hx;cases hx
 obtain⟨KO,h⟩:=lf;rcases h with⟨hn,_⟩|⟨g,cap,cur,fz,nU,K1,hg,hnc,hcm,hcs,htk⟩
 ·rw[cG] at hn;cases hn
 ·rw[cG] at nU;cases nU;have qG:(k+1)*bb t<=xs.length*bb t:=Nat.mul_le_mul_right _ hk;have hk2:xs.length*bb t<=c*bb t:=Nat.mul_le_mul_right _ hnc;rw[Nat.add_mul,Nat.one_mul] at qG;have l5:vs.length=ds.length:=hl.1;have kk:cur.toList.length=c*bb t:=by simpa using hcs
  have oV:k*bb t+off+vs.length<=cur.toList.length:=by omega
  refine⟨b,e,cur.toList,fz,vQ,by simpa using hg,by simpa using K1,oV,?_⟩
  refine S.write hb rfl rfl rfl (by rw[cG];rfl) hg (fun hs hw hg' go=>?_)
  have az5:cs.length=xs.length*bb t:=KO;refine⟨e,bM cs (k*bb t+off) vs,⟨?_,.inr ⟨b,c,_,fz,?_,?_,hg',?_,hcm,?_,?_⟩⟩,?_⟩
  ·rw[q_ _ _ _ (by omega),List.length_set];exact KO
  ·rw[cG,List.length_set]
  ·refine⟨K1.1,?_⟩;rcases K1.2 with h|⟨h,aj⟩
   ·exact .inl h
   ·refine .inr ⟨h,?_⟩;rw[List.size_toArray,q_ _ _ _ oV];simpa using aj
  ·rw[List.length_set];exact hnc
  ·rw[List.size_toArray,q_ _ _ _ oV];exact kk
  ·rw[<-htk,List.length_set,List.toList_toArray];exact adM _ _ _ _ (by omega) (by rw[kk];omega)
  ·have r0:cO w (aH X D st.sites) (flat t xs) cs:=⟨by rw[eS];exact KO,dO⟩
   have ib:=tN t xs k x hx;have r1:cO w (aH X D st.sites) (enc t x) ((cs.drop (k*bb t)).take (bb t)):=by
    have a:=gX (D:=fun _=>undef) (sites:=[]) r0.1 r0.2
    have bG:=(a.drop (k*bb t)).take (bb t);have e2:((cv (flat t xs)).drop (k*bb t)).take (bb t)=cv (enc t x):=by
     rw[<-ib];simp[cv,List.map_drop,List.map_take]
    rw[e2] at bG;exact iL bG
   have r2:cO w (aH X D st.sites) (enc t hU) (bM ((cs.drop (k*bb t)).take (bb t)) off vs):=by
    rw[o5];have a:=gX (D:=fun _=>undef) (sites:=[]) r1.1 r1.2
    have bG:=gX (D:=fun _=>undef) (sites:=[]) hl.1 hl.2
    have fb:=a.bM off bG;have e2:bM (cv (enc t x)) off (cv ds)=cv (bM (enc t x) off ds):=by
     simp[bM,cv,List.map_append,List.map_take,List.map_drop]
    rw[e2] at fb;exact iL fb
   have c_:=ac6 hk r0 r2;have bv:bM cs (k*bb t) (bM ((cs.drop (k*bb t)).take (bb t)) off vs)=bM cs (k*bb t+off) vs:=by
    unfold bM;apply List.ext_getElem?;intro j;simp only[List.getElem?_append,List.length_append,List.length_take,List.length_drop,List.getElem?_take,List.getElem?_drop];have m1:min (k*bb t) cs.length=k*bb t:=by omega
    have m2:min (k*bb t+off) cs.length=k*bb t+off:=by omega
    have m3:min (bb t) (cs.length-k*bb t)=bb t:=by omega
    have m4:min off (bb t)=off:=by omega
    simp only[m1,m2,m3,m4];by_cases c1:j<k*bb t
    ·have c2:j<k*bb t+off:=by omega
     have c3:j<k*bb t+off+vs.length:=by omega
     have dk:j<k*bb t+(off+vs.length+(bb t-(off+vs.length))):=by omega
     simp[c1,c2,c3,dk]
    ·by_cases c2:j<k*bb t+off
     ·have d1:j-k*bb t<off:=by omega
      have d2:j-k*bb t<off+vs.length:=by omega
      have d3:j-k*bb t<bb t:=by omega
      have c3:j<k*bb t+off+vs.length:=by omega
      have dk:j<k*bb t+(off+vs.length+(bb t-(off+vs.length))):=by omega
      have fa:k*bb t+(j-k*bb t)=j:=by omega
      simp[c1,c2,c3,dk,d1,d2,d3,fa]
     ·by_cases c3:j<k*bb t+off+vs.length
      ·have d1:¬j-k*bb t<off:=by omega
       have d2:j-k*bb t<off+vs.length:=by omega
       have dk:j<k*bb t+(off+vs.length+(bb t-(off+vs.length))):=by omega
       have fa:j-k*bb t-off=j-(k*bb t+off):=by omega
       simp[c1,c2,c3,dk,d1,d2,fa]
      ·by_cases dk:j<k*bb t+(off+vs.length+(bb t-(off+vs.length)))
       ·have d2:¬j-k*bb t<off+vs.length:=by omega
        have d1:¬j-k*bb t<off:=by omega
        have d5:off+vs.length+(j-k*bb t-(off+vs.length))<bb t:=by omega
        have fa:k*bb t+(off+vs.length+(j-k*bb t-(off+vs.length)))=k*bb t+off+vs.length+(j-(k*bb t+off+vs.length)):=by omega
        simp[c1,c2,c3,dk,d1,d2,d5,fa]
       ·have fa:k*bb t+(off+vs.length+(bb t-(off+vs.length)))+(j-(k*bb t+(off+vs.length+(bb t-(off+vs.length)))))=k*bb t+off+vs.length+(j-(k*bb t+off+vs.length)):=by omega
        simp[c1,c2,c3,dk,fa]
   rw[bv] at c_;exact fun j g1 g2=>oK go (c_.2 j g1 g2)
end
section
variable {P:Program}{U:World}{Y:List Nat}{X:Nat->Prop}{D:Nat->Value}{st:al}{M:Array Value}{w:World}
theorem lC{o:Nat}{ae:Site}(h:look st.sites o=some ae):ae.cl<bq st o:=by
 unfold bq al.ae;rw[h];exact Nat.lt_succ_self _
theorem aq.make(S:aq U Y X D st M w){o:Nat}{bV:Site}{nv:Value}{w':World}
  (hw:∀b,b<w.heap.size->w'.heap[b]? =w.heap[b]?) (hos:w'.os=w.os) (aoQ:w'.tape=w.tape) (Ji:w'.output=w.output) (oL:w.heap.size<=w'.heap.size)
  (uB:∀ae,look st.sites o=some ae->ae.cl<bV.cl) (is:∀b,bN nv=some b->w.heap.size<=b/\b<w'.heap.size)
  (fl:∀{bU:List (Nat×Site)} {aW:Nat->Value},bU=ci st.sites o bV->aW o=nv->(∀{a v},b_ D st.sites w (aH X D st.sites) a v->b_ aW bU w' (aH X aW bU) a v)->
   (∀b,w.heap.size<=b->bN nv≠some b->¬aH X aW bU b)->(bV.live=false->∀b,bN nv=some b->¬aH X aW bU b)->jM aW bU w' (aH X aW bU) o bV):
  aq U Y X (fun ab=>if ab=o then nv else D ab) {st with sites:=ci st.sites o bV} M w':=by
 have cB:∀ab,ce (ci st.sites o bV) ab->(ab=o/\bV.live=true)\/(ab≠o/\ce st.sites ab):=by
  rintro ab ⟨ae,h1,h2⟩;rw[cR] at h1;by_cases e:o=ab
  ·subst e;simp at h1;subst h1;exact .inl ⟨rfl,h2⟩
  ·simp only[e,if_false] at h1;exact .inr ⟨fun h=>e h.symm,ae,h1,h2⟩
 have b6:∀b,aH X (fun ab=>if ab=o then nv else D ab) (ci st.sites o bV) b->aH X D st.sites b\/(bN nv=some b/\bV.live=true):=by
  rintro b (h|⟨ab,h1,h2⟩)
  ·exact .inl (.inl h)
  ·rcases cB ab h1 with⟨rfl,h3⟩|⟨h3,aE⟩
   ·simp at h2;exact .inr ⟨h2,h3⟩
   ·simp only[h3,if_false] at h2;exact .inl (.inr ⟨ab,aE,h2⟩)
 have hlt:∀b,aH X D st.sites b->b<w.heap.size:=by
  rintro b (h|⟨ab,h1,h2⟩)
  ·exact S.old b h
  ·exact S.fp h1 h2
 refine S.qc (fun ab ae bS=>?_) (fun b _ hb=>hw b hb) (fun b h hb aj=>?_) (fun go ab ae bS=>?_) (fun ab ρ b h1 h2 g1 g2=>?_) (fun ab b h1 g1=>?_) (fun ab b h1 g1=>?_) ?_ oL
 ·rw[cR];by_cases e:o=ab
  ·subst e;exact⟨bV,by simp,Nat.le_of_lt (uB ae bS),fun h=>by have:=uB ae bS;omega⟩
  ·have cy:¬ab=o:=fun h=>e h.symm
   exact⟨ae,by simp[e,bS],Nat.le_refl _,fun _=>by simp[cy]⟩
 ·rcases b6 b aj with aj|⟨aj,_⟩
  ·exact h aj
  ·have:=(is b aj).1;omega
 ·rw[cR] at bS;by_cases e:o=ab
  ·subst e;simp only[if_true,Option.some.injEq] at bS;subst bS;refine .inr (fl rfl (by simp) go (fun b hb hne aj=>?_) (fun hl b hb aj=>?_))
   ·rcases b6 b aj with aj|⟨aj,_⟩
    ·have:=hlt b aj;omega
    ·exact hne aj
   ·rcases b6 b aj with aj|⟨_,aj⟩
    ·have:=hlt b aj;have:=(is b hb).1;omega
    ·rw[hl] at aj;cases aj
  ·have cy:¬ab=o:=fun h=>e h.symm
   simp only[e,if_false] at bS;exact .inl ⟨bS,by simp[cy],fun hl b hb=>hw b (S.fp ⟨ae,bS,hl⟩ hb)⟩
 ·rcases cB ab h1 with⟨rfl,_⟩|⟨n1,dF⟩<;>rcases cB ρ h2 with⟨rfl,_⟩|⟨n2,fw⟩
  ·rfl
  ·simp only[if_true] at g1;simp only[n2,if_false] at g2;have:=S.fp fw g2;have:=(is b g1).1;omega
  ·simp only[if_true] at g2;simp only[n1,if_false] at g1;have:=S.fp dF g1;have:=(is b g2).1;omega
  ·simp only[n1,if_false] at g1;simp only[n2,if_false] at g2;exact S.dW ab ρ b dF fw g1 g2
 ·rcases cB ab h1 with⟨rfl,_⟩|⟨n1,dF⟩
  ·simp only[if_true] at g1;have hb:=(is b g1).1;exact⟨fun hx=>by have:=S.old b hx;have:=S.frame.size;omega,.inr (Nat.le_trans S.frame.size hb)⟩
  ·simp only[n1,if_false] at g1;exact S.cg ab b dF g1
 ·rcases cB ab h1 with⟨rfl,_⟩|⟨n1,dF⟩
  ·simp only[if_true] at g1;exact(is b g1).2
  ·simp only[n1,if_false] at g1;exact Nat.lt_of_lt_of_le (S.fp dF g1) oL
 ·have aR:=S.frame;exact⟨hos.trans aR.os,aoQ.trans aR.tape,Ji.trans aR.output,Nat.le_trans aR.size oL,fun b h1 h2=>(hw b (Nat.lt_of_lt_of_le h1 aR.size)).trans (aR.block b h1 h2)⟩
theorem aq.append(S:aq U Y X D st M w){o dst s:Nat}{t:bc}{xs r:List (den t)}(hl:look st.sites o=some (.row s t xs)){nv:Value}{w':World}
  (hg:w.grownBy w' (D o).ownBlock) (is:∀b,bN nv=some b->b<w'.heap.size/\(bN (D o)=some b\/w.heap.size<=b))
  (fl:∀{bU:List (Nat×Site)} {aW:Nat->Value},aW dst=nv->(∀{a v},b_ D st.sites w (aH X D st.sites) a v->b_ aW bU w' (aH X aW bU) a v)->
   jM aW bU w' (aH X aW bU) dst (.row (bq (st.hY o (.dead s)) dst) t r)):
  aq U Y X (fun ab=>if ab=dst then nv else D ab) {st with sites:=bp st.sites [(o,.dead s),(dst,.row (bq (st.hY o (.dead s)) dst) t r)]} M w':=by
 have br:ce st.sites o:=⟨_,hl,rfl⟩;have jm:∀ab,look (bp st.sites [(o,.dead s),(dst,.row (bq (st.hY o (.dead s)) dst) t r)]) ab=
   if dst=ab then some (.row (bq (st.hY o (.dead s)) dst) t r) else if o=ab then some (.dead s) else look st.sites ab:=by
  intro ab;simp only[bp,cR]
 have uB:∀ae,look st.sites dst=some ae->ae.cl<bq (st.hY o (.dead s)) dst:=by
  intro ae h;unfold bq;rw[al.wV];by_cases e:o=dst
  ·subst e;rw[hl] at h;cases h;simp[Site.cl]
  ·simp only[e,if_false,al.ae,h];exact Nat.lt_succ_self _
 have cB:∀ab,ce (bp st.sites [(o,.dead s),(dst,.row (bq (st.hY o (.dead s)) dst) t r)]) ab->ab=dst\/(ab≠dst/\ab≠o/\ce st.sites ab):=by
  rintro ab ⟨ae,h1,h2⟩;rw[jm] at h1;by_cases e:dst=ab
  ·exact .inl e.symm
  ·simp only[e,if_false] at h1;by_cases e2:o=ab
   ·simp only[e2,if_true,Option.some.injEq] at h1;subst h1;cases h2
   ·simp only[e2,if_false] at h1;exact .inr ⟨fun h=>e h.symm,fun h=>e2 h.symm,ae,h1,h2⟩
 have aAq:∀b,bN (D o)=some b->(D o).ownBlock=some b:=by
  intro b hb;obtain⟨e,cs,g1,_⟩:=S.sites o _ hl;rcases g1.2 with⟨hn,_⟩|⟨g,cap,cur,fz,hv,_⟩
  ·rw[hn] at hb;cases hb
  ·rw[hv] at hb ⊢;exact hb
 have ard:∀b,(D o).ownBlock=some b->bN (D o)=some b:=by
  intro b hb;cases hv:D o<;>rw[hv] at hb<;>first|cases hb|skip
  rename_i a n c;cases a<;>first|exact hb|cases hb
 have ID:∀b,b<w.heap.size->bN (D o)≠some b->w'.heap[b]? =w.heap[b]? :=fun b hb hne=>hg.block b hb (fun e=>hne (ard b e.symm))
 refine S.qc (fun ab ae bS=>?_) (fun b h hb=>ID b hb (fun e=>h (.inr ⟨o,br,e⟩))) (fun b h hb aj=>?_) (fun go ab ae bS=>?_) (fun ab ρ b h1 h2 g1 g2=>?_) (fun ab b h1 g1=>?_) (fun ab b h1 g1=>?_) ?_ hg.size
 ·rw[jm];by_cases e:dst=ab
  ·subst e;refine⟨.row (bq (st.hY o (.dead s)) dst) t r,by simp,?_,fun h=>?_⟩
   ·exact Nat.le_of_lt (uB ae bS)
   ·have:=uB ae bS;simp only[Site.cl] at h this;omega
  ·have cy:¬ab=dst:=fun h=>e h.symm
   by_cases e2:o=ab
   ·subst e2;rw[hl] at bS;cases bS;exact⟨.dead s,by simp[e],Nat.le_refl _,fun _=>by simp[cy]⟩
   ·exact⟨ae,by simp[e,e2,bS],Nat.le_refl _,fun _=>by simp[cy]⟩
 ·rcases aj with aj|⟨ab,h1,h2⟩
  ·exact h (.inl aj)
  ·rcases cB ab h1 with rfl|⟨n1,_,dF⟩
   ·simp only[if_true] at h2;rcases(is b h2).2 with h3|h3
    ·exact h (.inr ⟨o,br,h3⟩)
    ·omega
   ·simp only[n1,if_false] at h2;exact h (.inr ⟨ab,dF,h2⟩)
 ·rw[jm] at bS;by_cases e:dst=ab
  ·subst e;simp only[if_true,Option.some.injEq] at bS;subst bS;exact .inr (fl (by simp) go)
  ·have cy:¬ab=dst:=fun h=>e h.symm
   simp only[e,if_false] at bS;by_cases e2:o=ab
   ·simp only[e2,if_true,Option.some.injEq] at bS;subst bS;exact .inr trivial
   ·simp only[e2,if_false] at bS;refine .inl ⟨bS,by simp[cy],fun fY b hb=>?_⟩
    have _X:ce st.sites ab:=⟨ae,bS,fY⟩;exact ID b (S.fp _X hb) (fun h=>e2 (S.dW o ab b br _X h hb))
 ·have key:∀ab b,ab≠dst->ab≠o->ce st.sites ab->bN (D ab)=some b->bN nv≠some b:=by
   intro ab b n1 n2 dF hb hn;rcases(is b hn).2 with h3|h3
   ·exact n2 (S.dW ab o b dF br hb h3)
   ·have:=S.fp dF hb;omega
  rcases cB ab h1 with rfl|⟨n1,m1,dF⟩<;>rcases cB ρ h2 with rfl|⟨n2,m2,fw⟩
  ·rfl
  ·simp only[if_true] at g1;simp only[n2,if_false] at g2;exact absurd g1 (key ρ b n2 m2 fw g2)
  ·simp only[if_true] at g2;simp only[n1,if_false] at g1;exact absurd g2 (key ab b n1 m1 dF g1)
  ·simp only[n1,if_false] at g1;simp only[n2,if_false] at g2;exact S.dW ab ρ b dF fw g1 g2
 ·rcases cB ab h1 with rfl|⟨n1,_,dF⟩
  ·simp only[if_true] at g1;rcases(is b g1).2 with h3|h3
   ·exact S.cg o b br h3
   ·exact⟨fun hx=>by have:=S.old b hx;have:=S.frame.size;omega,.inr (Nat.le_trans S.frame.size h3)⟩
  ·simp only[n1,if_false] at g1;exact S.cg ab b dF g1
 ·rcases cB ab h1 with rfl|⟨n1,_,dF⟩
  ·simp only[if_true] at g1;exact(is b g1).1
  ·simp only[n1,if_false] at g1;exact Nat.lt_of_lt_of_le (S.fp dF g1) hg.size
 ·have aR:=S.frame;refine⟨hg.os.trans aR.os,hg.tape.trans aR.tape,hg.output.trans aR.output,Nat.le_trans aR.size hg.size,fun b h1 h2=>?_⟩
  rw[ID b (Nat.lt_of_lt_of_le h1 aR.size) (fun e=>?_)]
  ·exact aR.block b h1 h2
  ·rcases(S.cg o b br e).2 with h|h
   ·exact h2 h
   ·omega
end
def Src(w:World)(size:Nat)(x:Value)(m:Nat)(news:List Value):Prop:=
 news.length=m*size/\(∀u∈news,u.oneCell'=true)/\((x=.slice none 0 0/\m=0)\/(∃a c,x=.slice (some a) m c/\∀j u,news[j]? =some u->w.cell? (a.add j)=some u)\/∃s:ByteArray,x=.string s/\m=s.size/\size=1/\news=s.data.toList.map fun b=>Value.int .u8 b.toNat)
theorem Src.run{P:Program}{w w2:World}{size m:Nat}{x:Value}{news:List Value}(h:Src w size x m news)(hw:w2.heap=w.heap):(Builtin.firstCells size m x).run P w2=.ok news.toArray w2:=by
 obtain⟨h1,_,h2⟩:=h;rcases h2 with⟨rfl,rfl⟩|⟨a,c,rfl,h3⟩|⟨s,rfl,rfl,rfl,rfl⟩
 ·have:news=[]:=List.eq_nil_of_length_eq_zero (by simpa using h1)
  subst this;exact run_firstCells_none w2 size 0 0 0
 ·refine run_firstCells_some w2 size m a m c news h1 (fun j u hu=>?_)
  have:=h3 j u hu;unfold World.cell? at this ⊢;rw[hw];exact this
 ·have e:s.extract 0 s.size=s:=by simp
  show Result.ok ((s.extract 0 s.size).data.map fun b=>Value.int .u8 b.toNat) w2=_
  rw[e];congr 1
  apply Array.ext';simp
theorem Src.len{P:Program}{w w2:World}{size m:Nat}{x:Value}{news:List Value}(h:Src w size x m news):(Builtin.lenOf x).run P w2=.ok m w2:=by
 obtain⟨_,_,h2⟩:=h;rcases h2 with⟨rfl,rfl⟩|⟨a,c,rfl,_⟩|⟨s,rfl,rfl,_⟩<;>rfl
theorem Dh{P:Program}{u:Bool}(w:World)(T LO ty e:TypeId)(gu:u=true->e=mb)(i:TypeInfo)(z:Value)(size bytes:Nat)(aw:P.underlying T=some (.slice e))(iV:(∃ex,P.underlying LO=some (.slice ex))\/P.underlying LO=some .string)(hi:P.info? e=some i)
  (hz:i.zero=some z) (oL:i.size=size) (jz:i.bytes=bytes) (hzs:z.cells.size=size) (hsz:0<size)
  (v:Value) (n:Nat) (xs:List Value) (lf:∃cy,rowAt w u cy size v n xs) (x:Value) (m:Nat) (news:List Value) (e4:Src w size x m news)
  (h63:n+m<=maxLen) (TN:(n+m)*bytes<=140737488355328):
  ∃v' w',(Builtin.append_ #[T,LO] ty #[v,x]).run P w=.ok v' w'/\(∃cy,rowAt w' u cy size v' (n+m) (xs++news))/\w.grownBy w' v.ownBlock/\
   ∀b,bN v'=some b->b<w'.heap.size/\(bN v=some b\/w.heap.size<=b):=by
 subst oL jz;obtain⟨cy,hl0,lf⟩:=lf;have am0:n+m<=9223372036854775807:=by simp only[maxLen] at h63;omega
 have hlen:(xs++news).length=(n+m)*i.size:=by rw[List.length_append,hl0,e4.1,Nat.add_mul]
 have grown:∀(old:Nat),old<n+m->∀(row:Option Nat),
   rowAt (w.drew.alloc (.cells (xs.toArray++news.toArray++Builtin.zeroCells z.cells (grownCap w (n+m) old e-(n+m))) e)) u e i.size
    (.slice (some ⟨w.heap.size,0,none⟩) (n+m) (grownCap w (n+m) old e)) (n+m) (xs++news)/\
   w.grownBy (w.drew.alloc (.cells (xs.toArray++news.toArray++Builtin.zeroCells z.cells (grownCap w (n+m) old e-(n+m))) e)) row:=by
  intro old aL row;have hge:=grownCap_ge w (n+m) old e;have hcm:grownCap w (n+m) old e<=maxLen:=grownCap_le_maxLen w (n+m) old e h63;refine⟨⟨hlen,.inr ⟨w.heap.size,_,_,(0,0),rfl,⟨gu,.inl rfl⟩,heap_alloc_new w.drew _,hge,hcm,?_,?_⟩⟩,⟨rfl,rfl,rfl,by simp,fun k hk _=>RowKit.Below.heap_alloc w.drew _ k hk⟩⟩
  ·simp only[Array.size_append,List.size_toArray,size_zeroCells,hzs,hl0,e4.1,<-Nat.add_mul];congr 1
   omega
  ·simp only[Array.toList_append,List.append_assoc];rw[<-List.append_assoc,<-hlen];exact List.take_left
 have Tf:∀{c:Nat} {B:Obj} {v:Value} b,bN (.slice (some ⟨w.heap.size,0,none⟩) (n+m) c)=some b->b<(w.drew.alloc B).heap.size/\(bN v=some b\/w.heap.size<=b):=by
  intro c B v b hb;cases hb;exact⟨by simp,.inr (Nat.le_refl _)⟩
 rcases lf with⟨rfl,rfl⟩|⟨g,cap,cur,fz,rfl,hfz,hg,hnc,hcm,hcs,lN⟩
 ·have hx:xs=[]:=List.eq_nil_of_length_eq_zero (by simpa using hl0)
  subst hx;by_cases hm:m=0
  ·subst hm;have hn:news=[]:=List.eq_nil_of_length_eq_zero (by simpa using e4.1)
   subst hn;refine⟨.slice none 0 0,w,?_,⟨e,Ed w u e i.size⟩,⟨rfl,rfl,rfl,Nat.le_refl _,fun _ _ _=>rfl⟩,fun b hb=>by cases hb⟩
   rcases iV with⟨ex,iV⟩|iV<;>simp[Builtin.append_,run_underlying aw,run_underlying iV,sizeOf,typeInfo,hi,e4.len,e4.run (w2:=w) rfl]
  ·have v7:=grown 0 (by omega) (Value.ownBlock (.slice none 0 0))
   refine⟨_,_,?_,⟨e,v7.1⟩,v7.2,Tf⟩;have h63':¬(9223372036854775807<(m:Int)):=by omega
   have hb:=TN;simp only[Nat.zero_add] at hb;have Jw:¬(281474976710656<Builtin.nextslicecap m 0*i.bytes):=by rw[nextslicecap_zero (by omega)];omega
   rcases iV with⟨ex,iV⟩|iV<;>simp[Builtin.append_,run_underlying aw,run_underlying iV,sizeOf,typeInfo,zeroValue,hi,hz,e4.len,hm,h63',Jw,Question.forced,run_firstCells_none,e4.run (w2:=w.drew) rfl,newRow,grownCap]
 ·by_cases hroom:n+m<=cap
  ·have lg:n*i.size+news.length<=cur.size:=by rw[e4.1,hcs,<-Nat.add_mul];exact Nat.mul_le_mul_right _ hroom
   have dB:=mI.run (P:=P) g (n*i.size) cy fz news 0 cur w hg hfz (by simpa using lg) e4.2.1
   simp only[Nat.add_zero] at dB;refine⟨.slice (some ⟨g,0,none⟩) (n+m) cap,w.setRow g (cur.toList.take (n*i.size)++news++cur.toList.drop (n*i.size+news.length)).toArray,?_,
    ⟨cy,hlen,.inr ⟨g,cap,_,fz,rfl,⟨hfz.1,hfz.2.imp id (fun h=>⟨h.1,?_⟩)⟩,setRow_heap w g cur _ cy _ hg,hroom,hcm,?_,?_⟩⟩,⟨rfl,rfl,rfl,by simp,fun k _ hk=>setRow_other w g k _ (fun e=>hk (by simp[Value.ownBlock,e]))⟩,fun b hb=>?_⟩
   ·rcases iV with⟨ex,iV⟩|iV<;>simp[Builtin.append_,run_underlying aw,run_underlying iV,sizeOf,typeInfo,hi,e4.len,hroom,e4.run (w2:=w) rfl,Addr.add_lit,dB]
   ·have:=h.2;simp only[List.size_toArray,List.length_append,List.length_take,List.length_drop,Array.length_toList];omega
   ·simp only[List.size_toArray,List.length_append,List.length_take,List.length_drop,Array.length_toList];omega
   ·rw[lN,<-hlen];exact List.take_left
   ·cases hb;exact⟨by rw[setRow_size];exact(Array.getElem?_eq_some_iff.1 hg).1,.inl rfl⟩
  ·have v7:=grown cap (by omega) (Value.ownBlock (.slice (some ⟨g,0,none⟩) n cap))
   refine⟨_,_,?_,⟨e,v7.1⟩,v7.2,Tf⟩;have holds:∀j u,xs[j]? =some u->w.drew.cell? ((⟨g,0,none⟩:Addr).add j)=some u:=by
    intro j u hu;rw[gC,Nat.zero_add,World.cell?_drew,cell_of_row w g j cur cy fz hg];rw[<-lN,List.getElem?_take] at hu;split at hu
    ·simpa using hu
    ·cases hu
   have h63':¬(9223372036854775807<((n:Int)+(m:Int))):=by omega
   have lg:=growslice_fits (need:=n+m) (old:=cap) (bytes:=i.bytes) (by omega) TN
   have Jw:¬(281474976710656<Builtin.nextslicecap (n+m) cap*i.bytes):=by omega
   have CE:=run_firstCells_some (P:=P) w.drew i.size n ⟨g,0,none⟩ n cap xs hl0 holds;rcases iV with⟨ex,iV⟩|iV<;>simp[Builtin.append_,run_underlying aw,run_underlying iV,sizeOf,typeInfo,zeroValue,hi,hz,e4.len,hroom,h63',Jw,Question.forced,e4.run (w2:=w.drew) rfl,CE,newRow,grownCap]
   all_goals
    congr 2
    apply Array.ext';simp[List.append_assoc]
section
variable {P:Program}{U:World}{Y:List Nat}{X:Nat->Prop}{D:Nat->Value}{st:al}{M:Array Value}{w:World}{B:Oper}
theorem ahX(S:aq U Y X D st M w){x:aZ}{v:Value}{t:bc}{bg:List (den t)}(hx:b_ D st.sites w (aH X D st.sites) x v)(h:sj st x=some (.sl t bg)):
  ∃news,Src w (bb t) v bg.length news/\cO w (aH X D st.sites) (flat t bg) news:=by
 have one:∀{news:List Value},cm D st.sites w (aH X D st.sites) (cv (flat t bg)) news->(∀u∈news,u.oneCell'=true):=by
  intro news h;refine h.je ?_
  unfold cv;generalize flat t bg=l;induction l with
  |nil=>rfl
  |cons d l ih=>simpa[gU,aP.storable] using ih
 unfold sj at h;split at h
 ·rename_i bz iv;cases h;have hx:bF w (aH X D st.sites) (.sl t bg) v:=hx;cases hx with
  |nil t=>exact⟨[],⟨by simp,fun u hu=>by simp at hu,.inl ⟨rfl,rfl⟩⟩,rfl,fun j h=>by simp[flat] at h⟩
  |sl t xs a cap cs n hn hcap hb hl hc hr=>
   subst hn;have jx:=gX (D:=D) (sites:=st.sites) hl hr;exact⟨cs,⟨by rw[hl,eS],one jx,.inr (.inl ⟨a,cap,rfl,hc⟩)⟩,hl,hr⟩
 ·cases h
 ·rename_i bz;cases h;rw[show v=_ from hx]
  exact⟨[],⟨by simp,fun u hu=>by simp at hu,.inl ⟨rfl,rfl⟩⟩,rfl,fun j h=>by simp[flat] at h⟩
 ·rename_i o s;split at h
  ·rename_i bz iv hr;cases h;obtain⟨cs,hl,hc⟩:=S.row hr;have hv:v=D o:=by
    rcases jG hr with h1|h1<;>exact Ref.at hx.2 h1 rfl
   have c9:=iL hl;refine⟨cs,⟨by rw[c9.1,eS],one hl,?_⟩,c9⟩
   rw[hv];rcases hc with⟨h1,h2⟩|⟨b,c,h1,h2,_⟩
   ·subst h2;exact .inl ⟨h1,rfl⟩
   ·exact .inr (.inl ⟨⟨b,0,none⟩,c,h1,fun j u hu=>by rw[gC];exact h2 j u hu⟩)
  ·cases h
 ·cases h
theorem NZ(S:aq U Y X D st M w){C:Ctx}(H:CtxOk P C){T dL:TypeId}{s x:Operand}{e:TypeId}{t:bc}{bytes:Nat}{dst:Nat}(bh:C.tt T=.slice e t bytes)(US:(∃ex,P.underlying dL=some (.slice ex))\/P.underlying dL=some .string)
  (aL:B.op=.call {callee:=.builtin .append,args:=#[s,x],argTypes:=#[T,dL]}) (dp:B.dst=some dst) (Z:cf st B.dst=true) {bg:List (den t)} {news:List Value} (e4:Src w (bb t) (Act.eval ⟨M,[]⟩ x) bg.length news)
  (dO:cO w (aH X D st.sites) (flat t bg) news):Holds (pS bytes t dst st (bd C st T s) bg) (cz P U Y X st M w B):=by
 have bL:=H.tt T;rw[bh] at bL;obtain⟨⟨fi,_⟩,z,hinfo,hzs,gu⟩:=bL;obtain⟨i,hi,v6⟩:∃i,P.info? e=some i/\(i.size,i.bytes,i.zero)=(bb t,bytes,some z):=by
  cases aC:P.info? e with
  |none=>simp[aC] at hinfo
  |some i=>exact⟨i,rfl,by simpa[aC] using hinfo⟩
 simp only[Prod.mk.injEq] at v6;obtain⟨v6,aag,KY⟩:=v6;have BL:=dn S C T s;have runs:∀{v':Value} {w':World},(Builtin.append_ #[T,dL] B.type #[Act.eval ⟨M,[]⟩ s,Act.eval ⟨M,[]⟩ x]).run P w=.ok v' w'->
   (execOp (Act.eval ⟨M,[]⟩) B).run P w=.ok (.value v') w':=by
  intro v' w' h;unfold execOp;simp only[aL,resolve,invoke,builtin,Sem.run_bind,Sem.run_pure,Result.andThen_ok,List.map_toArray,List.map_cons,List.map_nil,h]
 have one:∀{u:Bool} {cy:TypeId} {v':Value} {n m:Nat} {l:List Value} {w':World},rowAt w' u cy n v' m l->v'.oneCell'=true:=by
  intro u cy v' n m l w' h;rcases h.2 with⟨rfl,_⟩|⟨g,cap,cur,fz,rfl,_⟩<;>rfl
 unfold pS;split
 ·-- a nil slice
  rename_i t2 b0;rw[b0] at BL;have qm:Act.eval ⟨M,[]⟩ s=.slice none 0 0:=BL;refine Holds.g_ fun r hr=>?_
  have c9:cj bytes [] bg=some r:=hr;unfold cj at c9;split at c9
  ·rename_i hb;cases c9;simp only[List.length_nil,Nat.zero_add,room] at hb;obtain⟨v',w',h1,⟨cy,h2⟩,h3,aE⟩:=Dh (P:=P) (u:=t.jw) w T dL B.type e gu i z (bb t) bytes fi US hi KY v6 aag hzs (lI _) (.slice none 0 0) 0 [] ⟨e,Ed w _ e _⟩ _ _ news e4
    (by rw[Nat.zero_add];exact hb.2) (by rw[Nat.zero_add];exact hb.1)
   rw[Nat.zero_add,List.nil_append] at h2;have cc:=S.make (o:=dst) (bV:=.row (bq st dst) t ([]++bg)) (nv:=v') (w':=w') (fun b hb=>h3.block b hb (by simp[Value.ownBlock])) h3.os h3.tape h3.output h3.size
    (fun ae hs=>lC hs) (fun b hb=>by
     obtain⟨g1,g2⟩:=aE b hb;rcases g2 with g2|g2
     ·cases g2
     ·exact⟨g2,g1⟩) (fun hs cG go _ _=>by
     refine⟨cy,news,by rw[cG];simpa using h2,?_⟩
     intro j g1 g2;have awJ:j<(flat t bg).length:=by simpa using g1
     simpa using oK go (dO.2 j awJ g2))
   refine kL (us:=[(dst,.row (bq st dst) t ([]++bg))]) cc Z (runs (by rw[qm];exact h1)) ?_
   refine⟨one h2,Ref.mk (ae:=.row (bq st dst) t ([]++bg)) ?_ rfl (by simp)⟩
   simp only[bp,cR];simp
  ·cases c9
 ·-- a row of A9 own
  rename_i o s2 b0;rw[b0] at BL;split
  ·rename_i hV t2 xs gl;have r3:look st.sites o=some (.row hV t2 xs):=gl;cases awf:hV.beq s2 with
   |false=>simp only[cond_false];exact .fail
   |true=>
    have lp:=Nat.eq_of_beq_eq_true awf;subst lp;simp only[cond_true];split
    ·rename_i iW;subst iW;refine Holds.g_ fun r hr=>?_
     have c9:cj bytes xs bg=some r:=hr;unfold cj at c9;split at c9
     ·rename_i hb;cases c9;simp only[room] at hb;have hv:Act.eval ⟨M,[]⟩ s=D o:=Ref.at BL.2 r3 rfl;obtain⟨gT,cs,lf,hcs⟩:=S.sites o _ r3;obtain⟨v',w',h1,⟨cy,h2⟩,h3,aE⟩:=Dh (P:=P) w T dL B.type e gu i z (bb t2) bytes fi US hi KY v6 aag hzs (lI _) (D o) xs.length cs ⟨gT,lf⟩ _ _ news e4 hb.2 hb.1;have cc:=S.append (dst:=dst) (r:=xs++bg) r3 (nv:=v') (w':=w') h3 aE (fun cG go=>by
       refine⟨cy,cs++news,by rw[cG,List.length_append];exact h2,?_⟩
       have sZ:cO w (aH X D st.sites) (flat t2 xs) cs:=⟨by rw[eS];exact lf.1,hcs⟩
       have mH:=iL ((gX (D:=D) (sites:=st.sites) sZ.1 sZ.2).append (gX (D:=D) (sites:=st.sites) dO.1 dO.2)|>fun h=>by
        rw[show cv (flat t2 xs)++cv (flat t2 bg)=cv (flat t2 (xs++bg)) from by simp[cv,ra]] at h
        exact h)
       intro j g1 g2;exact oK go (mH.2 j g1 g2))
      refine kL (us:=[(o,.dead hV),(dst,.row (bq (st.hY o (.dead hV)) dst) t2 (xs++bg))]) cc Z (runs (by rw[hv];exact h1)) ?_
      refine⟨one h2,Ref.mk (ae:=.row (bq (st.hY o (.dead hV)) dst) t2 (xs++bg)) ?_ rfl (by simp)⟩
      simp only[bp,cR];simp
     ·cases c9
    ·exact .fail
  ·exact .fail
 ·exact .fail
theorem ahm(S:aq U Y X D st M w){C:Ctx}(H:CtxOk P C){T dL:TypeId}{s x:Operand}{e ex:TypeId}{t u:bc}{bytes b2:Nat}{dst:Nat}(bh:C.tt T=.slice e t bytes)(gu:C.tt dL=.slice ex u b2)
  (aL:B.op=.call {callee:=.builtin .append,args:=#[s,x],argTypes:=#[T,dL]}) (dp:B.dst=some dst) (Z:cf st B.dst=true):
  Holds (rO bytes t dst st (bd C st T s) (bd C st dL x)) (cz P U Y X st M w B):=by
 have wa:=H.tt dL;rw[gu] at wa;unfold rO;split
 ·exact .fail
 ·rename_i d qJ;split
  ·rename_i bz bg;split
   ·rename_i iW;subst iW;obtain⟨news,e4,dO⟩:=ahX S (dn S C dL x) qJ;exact NZ S H bh (.inl ⟨_,wa.1.1⟩) aL dp Z e4 dO
   ·exact .fail
  ·exact .fail
theorem afq(S:aq U Y X D st M w){C:Ctx}(H:CtxOk P C){T dL:TypeId}{s x:Operand}{e:TypeId}{t:bc}{bytes:Nat}{dst:Nat}(bh:C.tt T=.slice e t bytes)(gu:C.tt dL=.str)
  (aL:B.op=.call {callee:=.builtin .append,args:=#[s,x],argTypes:=#[T,dL]}) (dp:B.dst=some dst) (Z:cf st B.dst=true):
  Holds (rP bytes t dst st (bd C st T s) (bd C st dL x)) (cz P U Y X st M w B):=by
 have wa:=H.tt dL;rw[gu] at wa;have bw:=dn S C dL x;unfold rP;split
 ·rename_i y hx;rw[hx] at bw;split
  ·rename_i iW;subst iW;have bw:bF w (aH X D st.sites) (.str y) (Act.eval ⟨M,[]⟩ x):=bw;generalize hv:Act.eval ⟨M,[]⟩ x=v at bw;cases bw with
   |str _ b hb=>
    subst hb;refine NZ S H bh (.inr wa.1) aL dp Z (news:=b.data.toList.map fun b=>Value.int .u8 b.toNat) ?_ ?_
    ·rw[hv];refine⟨by simp[bytesOf,bb],fun u hu=>?_,.inr (.inr ⟨b,rfl,?_,rfl,rfl⟩)⟩
     ·obtain⟨c,_,rfl⟩:=List.mem_map.1 hu;rfl
     ·simp only[bytesOf,List.length_map,Array.length_toList];rfl
    ·have e1:flat .u8 (bytesOf b.data.toList)=(b.data.toList.map fun b=>be.int .u8 b.toNat):=by
      unfold flat bytesOf;rw[List.flatMap_map];generalize b.data.toList=l;induction l with
      |nil=>rfl
      |cons a l ih=>simp only[List.flatMap_cons,List.map_cons,ih];rfl
     rw[e1];refine⟨by simp,fun j g1 g2=>?_⟩
     simp only[List.getElem_map];exact .int _ _
  ·exact .fail
 ·exact .fail
end
theorem foldl_set:∀(vs:List Value) (off k:Nat) (arr:Array Value),off+k+vs.length<=arr.size->
  (vs.zipIdx k).foldl (fun cs (x:Value×Nat)=>cs.setIfInBounds (off+x.2) x.1) arr=(bM arr.toList (off+k) vs).toArray:=by
 intro vs;induction vs with
 |nil=>intro off k arr h;simp[bM]
 |cons v vs ih=>
  intro off k arr h;simp only[List.zipIdx_cons,List.foldl_cons];rw[ih off (k+1) _ (by simp at h ⊢;omega)]
  congr 1
  simp only[List.length_cons] at h;unfold bM;rw[Array.toList_setIfInBounds];apply List.ext_getElem?;intro j;simp only[List.getElem?_append,List.length_append,List.length_take,List.length_set,List.getElem?_take,List.getElem?_drop,List.getElem?_set,List.length_cons,Array.length_toList];have m1:min (off+k) arr.size=off+k:=by omega
  have m2:min (off+(k+1)) arr.size=off+(k+1):=by omega
  simp only[m1,m2];by_cases c1:j<off+k
  ·have c2:j<off+(k+1):=by omega
   have c3:j<off+(k+1)+vs.length:=by omega
   have dk:j<off+k+(vs.length+1):=by omega
   have gv:¬off+k=j:=by omega
   simp[c1,c2,c3,dk,gv]
  ·by_cases c0:j=off+k
   ·subst c0;have c2:off+k<off+(k+1):=by omega
    have c3:off+k<off+(k+1)+vs.length:=by omega
    have dk:off+k<off+k+(vs.length+1):=by omega
    have gv:off+k<arr.size:=by omega
    simp[c2,c3,dk,gv]
   ·by_cases dk:j<off+k+(vs.length+1)
    ·have c2:¬j<off+(k+1):=by omega
     have c3:j<off+(k+1)+vs.length:=by omega
     have e:j-(off+k)=(j-(off+(k+1)))+1:=by omega
     simp[c1,c2,c3,dk,e]
    ·have c3:¬j<off+(k+1)+vs.length:=by omega
     have gv:¬off+k=off+(k+1)+vs.length+(j-(off+(k+1)+vs.length)):=by omega
     have e:off+(k+1)+vs.length+(j-(off+(k+1)+vs.length))=off+k+(vs.length+1)+(j-(off+k+(vs.length+1))):=by omega
     simp[c3,dk,gv,e];try(intro bi;exfalso;omega)
theorem Nn(v:Value)(off:Nat)(arr:Array Value)(h:off+v.cells.size<=arr.size):
  v.cells.zipIdx.foldl (fun cs (x:Value×Nat)=>cs.setIfInBounds (off+x.2) x.1) arr=(bM arr.toList off v.cells.toList).toArray:=by
 rw[<-Array.foldl_toList,Array.toList_zipIdx];exact foldl_set v.cells.toList off 0 arr (by simpa using h)
theorem NU(s:Nat):∀(vs:List (Nat×Value)) (n:Nat) (cells:Array Value),(∀j (h:j<vs.length),(vs[j]).1=n+j)->(∀p,p∈vs->p.2.cells.size=s)->(n+vs.length)*s<=cells.size->
  Instr.fill (fun i=>some (i*s,s)) cells vs=some (bM cells.toList (n*s) (vs.flatMap fun p=>p.2.cells.toList)).toArray:=by
 intro vs;induction vs with
 |nil=>intro n cells _ _ _;simp[Instr.fill,bM]
 |cons p vs ih=>
  obtain⟨i,v⟩:=p;intro n cells hi hs hle;have h0:i=n:=hi 0 (Nat.zero_lt_succ _);subst h0;have hv:v.cells.size=s:=hs (i,v) (by simp)
  have oV:i*s+s<=cells.size:=by
   have:(i+1)*s<=(i+(vs.length+1))*s:=Nat.mul_le_mul_right _ (by omega)
   simp only[List.length_cons] at hle;rw[Nat.add_mul,Nat.one_mul] at this;omega
  simp only[Instr.fill,hv];rw[if_neg (by simp;omega)]
  have oN:=Nn v (i*s) cells (by omega)
  rw[oN];have hlen:v.cells.toList.length=s:=by simpa using hv
  have ara:(bM cells.toList (i*s) v.cells.toList).length=cells.toList.length:=q_ _ _ _ (by simp;omega)
  rw[ih (i+1) _ (fun j h=>by have:=hi (j+1) (by simpa using h);simp at this;omega) (fun p hp=>hs p (by simp[hp])) (by
   simp only[List.length_cons] at hle;simp only[List.size_toArray,ara,Array.length_toList];have e:i+1+vs.length=i+(vs.length+1):=by omega
   rw[e];exact hle)]
  congr 2
  simp only[List.flatMap_cons,List.toList_toArray];have pb:(vs.flatMap fun p=>p.2.cells.toList).length=vs.length*s:=by
   clear ih hi hle;induction vs with
   |nil=>simp
   |cons q vs avt=>
    have:q.2.cells.toList.length=s:=by simpa using hs q (by simp)
    rw[List.flatMap_cons,List.length_append,this,avt (fun p hp=>hs p (by rcases List.mem_cons.1 hp with h|h<;>simp[h])),List.length_cons,Nat.add_mul];omega
  have arn:(i+(vs.length+1))*s<=cells.size:=by simpa using hle
  rw[Nat.add_mul,Nat.add_mul] at arn;unfold bM;apply List.ext_getElem?;intro j;have e1:(i+1)*s=i*s+s:=by rw[Nat.add_mul,Nat.one_mul]
  simp only[List.getElem?_append,List.length_append,List.length_take,List.getElem?_take,List.getElem?_drop,List.length_drop,Array.length_toList,hlen,pb,e1];have m1:min (i*s) cells.size=i*s:=by omega
  have m2:min (i*s+s) (i*s+s+(cells.size-(i*s+s)))=i*s+s:=by omega
  simp only[m1,m2];by_cases c1:j<i*s
  ·have c2:j<i*s+s:=by omega
   have c3:j<i*s+s+vs.length*s:=by omega
   have dk:j<i*s+(s+vs.length*s):=by omega
   simp[c1,c2,c3,dk]
  ·by_cases c2:j<i*s+s
   ·have c3:j<i*s+s+vs.length*s:=by omega
    have dk:j<i*s+(s+vs.length*s):=by omega
    have gv:j-i*s<s:=by omega
    simp[c1,c2,c3,dk,gv]
   ·by_cases c3:j<i*s+s+vs.length*s
    ·have dk:j<i*s+(s+vs.length*s):=by omega
     have gv:¬j-i*s<s:=by omega
     have e:j-i*s-s=j-(i*s+s):=by omega
     simp[c1,c2,c3,dk,gv,e]
    ·have dk:¬j<i*s+(s+vs.length*s):=by omega
     have gv:¬i*s+s+vs.length*s+(j-(i*s+s+vs.length*s))<i*s:=by omega
     have c6:¬i*s+s+vs.length*s+(j-(i*s+s+vs.length*s))<i*s+s:=by omega
     have e:i*s+s+(i*s+s+vs.length*s+(j-(i*s+s+vs.length*s))-(i*s+s))=i*s+(s+vs.length*s)+(j-(i*s+(s+vs.length*s))):=by omega
     simp[c3,dk,gv,c6,e]
theorem ae8:∀(l:List (Nat×Operand)) (n:Nat),rH n l=true->∀j (h:j<l.length),(l[j]).1=n+j:=by
 intro l;induction l with
 |nil=>intro n _ j h;simp at h
 |cons p l ih=>
  obtain⟨i,x⟩:=p;intro n h j hj;simp only[rH,Bool.and_eq_true] at h;cases j with
  |zero=>simpa using Nat.eq_of_beq_eq_true h.1
  |succ j=>have:=ih (n+1) h.2 j (by simpa using hj);simp;omega
section
variable {P:Program}{U:World}{Y:List Nat}{X:Nat->Prop}{D:Nat->Value}{st:al}{M:Array Value}{w:World}{B:Oper}
theorem acA{ai:List aP}(h:gU ai=true):ai.head?≠some .dh:=by
 intro bJ;cases ai with
 |nil=>cases bJ
 |cons l r=>
  simp only[List.head?_cons,Option.some.injEq] at bJ;subst bJ;cases h
theorem aq.Rw(S:aq U Y X D st M w){o:Nat}{cells:List aP}{vs:List Value}{T:TypeId}(hl:cm D st.sites w (aH X D st.sites) cells vs)(h1:∀u∈vs,u.oneCell'=true)(hns:mB cells T vs w.heap.size):
  aq U Y X (fun ab=>if ab=o then .pointer (some ⟨w.heap.size,0,none⟩) else D ab) {st with sites:=ci st.sites o (.box (bq st o) cells)} M (w.alloc (.cells vs.toArray T (0,0))):=
 S.make (fun b hb=>RowKit.Below.heap_alloc w _ b hb) rfl rfl rfl (by simp) (fun ae hs=>lC hs) (fun b hb=>by cases hb;exact⟨Nat.le_refl _,by simp⟩)
  (fun hs cG go _ _=>⟨w.heap.size,T,vs,cG,heap_alloc_new w _,hl.1,h1,hns,fun j g1 g2=>(Ap go hl).2 j g1 g2⟩)
theorem ah2{D:Nat->Value}{sites:List (Nat×Site)}{av:Nat->Prop}{cells:List aP}{T:TypeId}{cur:List Value}{b:Nat}(bh:T=qN)(h:cm D sites w av cells cur)(hs:cells.head?≠some .dh):cm D sites w av (uO cells) cur/\mB (uO cells) T cur b:=by
 unfold uO;split
 ·obtain⟨v,vs,rfl,h1,h2⟩:=h.inv;exact⟨.cons (show dM D sites w av .dh v from trivial) h2,fun _=>⟨bh,.inl (by rw[show v=_ from h1];rfl)⟩⟩
 ·exact⟨h,fun aj=>absurd aj hs⟩
theorem ajE(S:aq U Y X D st M w){C:Ctx}(H:CtxOk P C){elem:TypeId}{z:List aP}{o:Nat}(aL:B.op=.alloc elem)(dp:B.dst=some o)(hz:(C.tt elem).zero=some z)(Z:cf st B.dst=true):
  cz P U Y X st M w B (bZ (.ptr o (bq st o) 0)) [(o,.box (bq st o) (bif elem.beq qN then uO z else z))]:=by
 obtain⟨v,hv,nM⟩:=b7.E_ (w:=w) (H.tt elem) hz;obtain⟨h1,h2,h3⟩:=tI nM;have hns:z.head?≠some .dh:=by
  intro bJ;cases z with
  |nil=>cases bJ
  |cons l r=>
   simp only[List.head?_cons,Option.some.injEq] at bJ;subst bJ;simp[kR,pL] at nM
 have df:(execOp (Act.eval ⟨M,[]⟩) B).run P w=.ok (.value (.pointer (some ⟨w.heap.size,0,none⟩))) (w.alloc (.cells v.cells.toList.toArray elem (0,0))):=by
  unfold execOp;simp[aL,Instr.alloc,hv,newVar,newRow]
 have key:∀cells,cm D st.sites w (aH X D st.sites) cells v.cells.toList->mB cells elem v.cells.toList w.heap.size->
   cz P U Y X st M w B (bZ (.ptr o (bq st o) 0)) [(o,.box (bq st o) cells)]:=by
  intro cells hl hs;have cc:=S.Rw (o:=o) (T:=elem) hl h2 hs;refine kL (us:=[(o,.box (bq st o) cells)]) cc Z (vv:=.pointer (some ⟨w.heap.size,0,none⟩)) df ?_
  refine⟨_,rfl,Ref.mk (ae:=.box (bq st o) cells) ?_ rfl (by simp)⟩
  simp only[bp,cR];simp
 cases bh:elem.beq qN with
 |false=>exact key z ⟨h1,h3 _ _ _ _⟩ fun h=>absurd h hns
 |true=>
  obtain⟨aD,aF⟩:=ah2 (b:=w.heap.size) (Nat.eq_of_beq_eq_true bh) (⟨h1,h3 D st.sites w (aH X D st.sites)⟩:cm D st.sites w (aH X D st.sites) z v.cells.toList) hns;exact key _ aD aF
theorem anl(S:aq U Y X D st M w){elem:TypeId}{x:Operand}{a:bP}{o:Nat}(aL:B.op=.box elem x)(dp:B.dst=some o)(ha:gL D st.sites w (aH X D st.sites) a (Act.eval ⟨M,[]⟩ x))
  (dB:gU a.cells=true) (Z:cf st B.dst=true):cz P U Y X st M w B (bZ (.ptr o (bq st o) 0)) [(o,.box (bq st o) a.cells)]:=by
 have hl:=ha.cells dB;have cc:=S.Rw (o:=o) (T:=elem) hl (hl.je dB) (fun h=>absurd h (acA dB))
 refine kL (us:=[(o,.box (bq st o) a.cells)]) cc Z (vv:=.pointer (some ⟨w.heap.size,0,none⟩)) ?_ ?_
 ·unfold execOp;simp[aL,Instr.box,newVar,newRow]
 ·refine⟨_,rfl,Ref.mk (ae:=.box (bq st o) a.cells) ?_ rfl (by simp)⟩
  simp only[bp,cR];simp
theorem aq.GD(S:aq U Y X D st M w){o:Nat}{t:bc}{xs:List (den t)}{cs rest:List Value}{T:TypeId}{cap:Nat}(hl:cO w (aH X D st.sites) (flat t xs) cs)(hcap:cs.length+rest.length=cap*bb t)(hm:cap<=maxLen)(gu:t.jw=true->T=mb):
  aq U Y X (fun ab=>if ab=o then .slice (some ⟨w.heap.size,0,none⟩) xs.length cap else D ab) {st with sites:=ci st.sites o (.row (bq st o) t xs)} M (w.alloc (.cells (cs++rest).toArray T (0,0))):=by
 have hcl:cs.length=xs.length*bb t:=by rw[hl.1,eS]
 have hle:xs.length<=cap:=by
  have:xs.length*bb t<=cap*bb t:=by omega
  exact Nat.le_of_mul_le_mul_right this (lI t)
 refine S.make (fun b hb=>RowKit.Below.heap_alloc w _ b hb) rfl rfl rfl (by simp) (fun ae hs=>lC hs) (fun b hb=>by cases hb;exact⟨Nat.le_refl _,by simp⟩)
  (fun hs cG go _ _=>⟨T,cs,⟨hcl,.inr ⟨w.heap.size,cap,_,(0,0),cG,⟨gu,.inl rfl⟩,heap_alloc_new w _,hle,hm,?_,?_⟩⟩,fun j g1 g2=>oK go (hl.2 j g1 g2)⟩)
 ·simp[hcap]
 ·rw[<-hcl];simp
theorem alB:∀{as:List bP} {t:bc} {xs:List (den t)} {us vs:List (Nat×Site)} {ws:List Value},lk t st as=some (xs,us)->ws.length=as.length->
  (∀j (h:j<as.length) (aj:j<ws.length),gL D st.sites w (aH X D st.sites) (as[j]) (ws[j]))->kI U Y X D st M w vs->(∀p,p∈us->p∈vs)->
  xs.length=as.length/\cO w (aH X D (bp st.sites vs)) (flat t xs) (ws.flatMap fun v=>v.cells.toList)/\∀v,v∈ws->v.cells.size=bb t:=by
 intro as;induction as with
 |nil=>
  intro t xs us vs ws h hl _ _ _;simp only[lk] at h;cases h;have:ws=[]:=List.eq_nil_of_length_eq_zero hl;subst this;exact⟨rfl,⟨rfl,fun j h=>by simp[flat] at h⟩,fun v hv=>by simp at hv⟩
 |cons a as ih=>
  intro t xs us vs ws h hl fl aR d_;match ws,hl with
  |v::ws,hl=>
  simp only[lk] at h;split at h
  ·rename_i ds u1 oW;split at h
   ·rename_i x iv u2 jV oM;cases h;have b6:=fl 0 (by simp) (by simp)
    simp only[List.getElem_cons_zero] at b6;have dB:gU a.cells=true:=by
     clear oM ih fl b6 hl jV;generalize a.cells=ai at oW;induction ai generalizing ds u1 with
     |nil=>rfl
     |cons l ai ih=>
      simp only[fE] at oW;split at oW
      ·rename_i d abD kv qV h1 h2;simp only[gU,Bool.and_eq_true];refine⟨?_,ih _ _ (fun p hp=>d_ p (by cases oW;rcases List.mem_append.1 hp with h|h<;>simp[h])) h2⟩
       unfold jA at h1;split at h1<;>first|rfl|cases h1
      ·cases oW
    have gO:=b6.cells dB;have KL:=zR oW gO aR (fun p hp=>d_ p (List.mem_append.2 (.inl hp)))
    obtain⟨g1,g2,g3⟩:=ih oM (by simpa using hl) (fun j h1 h2=>fl (j+1) (by simpa using h1) (by simpa using h2)) aR (fun p hp=>d_ p (List.mem_append.2 (.inr hp)))
    have XI:=zQ _ _ _ jV;refine⟨by simp[g1],?_,fun u hu=>?_⟩
    ·simp only[flat,List.flatMap_cons];rw[XI];have:=iL ((gX (D:=D) (sites:=st.sites) KL.1 KL.2).append (gX (D:=D) (sites:=st.sites) g2.1 g2.2)|>fun h=>by
      rw[show cv ds++cv (flat t iv)=cv (ds++flat t iv) from by simp[cv]] at h
      exact h)
     exact this
    ·rcases List.mem_cons.1 hu with rfl|hu
     ·have:u.cells.toList.length=ds.length:=KL.1;rw[<-XI,iH] at this;simpa using this
     ·exact g3 u hu
   ·cases h
  ·cases h
theorem alC:∀{as:List bP} {t:bc} {xs:List (den t)} {us:List (Nat×Site)},lk t st as=some (xs,us)->dz st.sites us:=by
 intro as;induction as with
 |nil=>intro t xs us h;simp only[lk] at h;cases h;exact .nil
 |cons a as ih=>
  intro t xs us h;simp only[lk] at h;split at h
  ·rename_i ds u1 oW;split at h
   ·rename_i x iv u2 jV oM;cases h;exact(Hs oW).append (ih oM)
   ·cases h
  ·cases h
theorem aca{us:List (Nat×Site)}(h:dz st.sites us)(o:Nat):bq {st with sites:=bp st.sites us} o=bq st o:=by
 unfold bq al.ae;simp only;rcases lB h o with h1|⟨s,t,xs,h1,h2⟩
 ·rw[h1]
 ·rw[h2];rcases h1 with h1|h1<;>rw[h1]<;>rfl
end
section
variable {P:Program}{U:World}{Y:List Nat}{X:Nat->Prop}{D:Nat->Value}{st:al}{M:Array Value}{w:World}{B:Oper}
theorem px{v:aZ}{a:bP}(h:l0 v=some a):v=.av a:=by
 cases v with
 |av b=>cases h;rfl
 |ju _=>cases h
theorem afo:∀{vs:List aZ} {as:List bP},nD vs=some as->vs.length=as.length/\∀j (h:j<vs.length) (aj:j<as.length),vs[j]=.av (as[j]):=by
 intro vs;induction vs with
 |nil=>intro as h;simp only[nD] at h;cases h;exact⟨rfl,fun j h=>by simp at h⟩
 |cons v vs ih=>
  intro as h;simp only[nD] at h;split at h
  ·rename_i a n3 h1 h2;cases h;obtain⟨g1,g2⟩:=ih h2;refine⟨by simp[g1],fun j aD aF=>?_⟩
   cases j with
   |zero=>exact px h1
   |succ j=>exact g2 j (by simpa using aD) (by simpa using aF)
  ·cases h
theorem w5{C:Ctx}(H:CtxOk P C){T e:TypeId}{t:bc}{bytes:Nat}(bh:C.tt T=.slice e t bytes):
  P.underlying T=some (.slice e)/\∃i z,P.info? e=some i/\i.size=bb t/\i.bytes=bytes/\i.zero=some z/\z.cells.size=bb t/\(t.jw=true->e=mb):=by
 have bL:=H.tt T;rw[bh] at bL;obtain⟨⟨fi,_⟩,z,hinfo,hzs⟩:=bL;refine⟨fi,?_⟩;cases aC:P.info? e with
 |none=>simp[aC] at hinfo
 |some i=>
  simp only[aC,Option.map_some,Option.some.injEq,Prod.mk.injEq] at hinfo;exact⟨i,z,rfl,hinfo.1,hinfo.2.1,hinfo.2.2,hzs⟩
theorem acK(S:aq U Y X D st M w){C:Ctx}(H:CtxOk P C){T e:TypeId}{t:bc}{bytes len o:Nat}{parts:Array (Nat×Operand)}(bh:C.tt T=.slice e t bytes)(aL:B.op=.buildSlice T len parts)
  (dp:B.dst=some o) (Z:cf st B.dst=true) (hlen:parts.toList.length=len) (qk:rH 0 parts.toList=true) (am0:len*bb t<=1000) {as:List bP} {xs:List (den t)} {us:List (Nat×Site)}
  (has:nD (parts.toList.map fun p=>bd C st e p.2)=some as) (jV:lk t st as=some (xs,us)):
  cz P U Y X st M w B (bZ (.own o (bq st o))) (us++[(o,.row (bq st o) t xs)]):=by
 obtain⟨fi,i,z,hi,jq,KX,tf,hzs,gu⟩:=w5 H bh;have hfz:=alC jV;have aR:kI U Y X D st M w us:=⟨S,hfz⟩;obtain⟨tk,l'⟩:=afo has;let ws:List Value:=parts.toList.map fun p=>Act.eval ⟨M,[]⟩ p.2
 have _5:ws.length=as.length:=by rw[<-tk];simp[ws]
 have aq6:∀j (h:j<as.length) (aj:j<ws.length),gL D st.sites w (aH X D st.sites) (as[j]) (ws[j]):=by
  intro j h1 h2;have hj:j<(parts.toList.map fun p=>bd C st e p.2).length:=by rw[tk];exact h1
  have:=l' j hj h1;simp only[List.getElem_map] at this;have bw:=dn S C e (parts.toList[j]'(by simpa using hj)).2
  rw[this] at bw;have h3:b_ D st.sites w (aH X D st.sites) (.av (as[j])) (ws[j]):=by simpa[ws] using bw
  exact h3
 obtain⟨hxl,dO,hcs⟩:=alB jV _5 aq6 aR (fun p hp=>hp)
 have Bg:xs.length=len:=by rw[hxl,<-_5];simpa[ws] using hlen
 have am1:(parts.map fun(x:Nat×Operand)=>(x.1,Act.eval ⟨M,[]⟩ x.2)).toList=parts.toList.map fun p=>(p.1,Act.eval ⟨M,[]⟩ p.2):=by simp
 have aoY:((parts.toList.map fun p=>(p.1,Act.eval ⟨M,[]⟩ p.2)).flatMap fun p:Nat×Value=>p.2.cells.toList)=ws.flatMap fun v=>v.cells.toList:=by
  simp[ws,List.flatMap_map]
 have hcl:(ws.flatMap fun v=>v.cells.toList).length=len*bb t:=by rw[dO.1,eS,Bg]
 have hm:len<=maxLen:=by
  have:len*1<=len*bb t:=Nat.mul_le_mul_left _ (lI t);unfold maxLen;omega
 have cc:=aR.new.GD (o:=o) (xs:=xs) (cs:=ws.flatMap fun v=>v.cells.toList) (rest:=[]) (T:=e) (cap:=len) (by exact dO) (by simp[hcl]) hm gu
 rw[aca hfz,Bg,List.append_nil] at cc;have uC:bp st.sites (us++[(o,.row (bq st o) t xs)])=ci (bp st.sites us) o (.row (bq st o) t xs):=by rw[kK];rfl
 have df:(Instr.buildSlice T len (parts.map fun(x:Nat×Operand)=>(x.1,Act.eval ⟨M,[]⟩ x.2))).run P w=
   .ok (.slice (some ⟨w.heap.size,0,none⟩) len len) (w.alloc (.cells (ws.flatMap fun v=>v.cells.toList).toArray e)):=by
  by_cases h0:len*i.size=0
  ·have hl0:len=0:=by
    rcases Nat.mul_eq_zero.1 h0 with h|h
    ·exact h
    ·have:=lI t;omega
   subst hl0;have qB:parts.toList=[]:=List.eq_nil_of_length_eq_zero hlen;have Cs:ws=[]:=by simp[ws,qB]
   have avT:parts=#[]:=by simpa using qB
   rw[Cs];have lq:∀f:Nat->Value,Array.map f (Array.range 0)=#[]:=fun f=>by apply Array.ext';simp
   simp[Instr.buildSlice,run_underlying fi,sizeOf,typeInfo,hi,avT,Instr.fill,newRow,lq]
  ·refine run_buildSlice w T e len _ _ i z fi hi tf (by rw[jq];omega) h0 ?_
   rw[am1];have aoM:(((Array.range (len*i.size)).map fun x=>z.cells[x%z.cells.size]!)).size=len*i.size:=by simp
   have:=NU (bb t) (parts.toList.map fun p=>(p.1,Act.eval ⟨M,[]⟩ p.2)) 0 ((Array.range (len*i.size)).map fun x=>z.cells[x%z.cells.size]!)
    (fun j h=>by have:=ae8 _ 0 qk j (by simpa using h);simpa using this)
    (fun p hp=>by
     obtain⟨q,aC,rfl⟩:=List.mem_map.1 hp;exact hcs _ (List.mem_map.2 ⟨q,aC,rfl⟩))
    (by rw[aoM,jq];simp[hlen])
   rw[jq] at this ⊢;rw[this,aoY];congr 2
   unfold bM;rw[Nat.zero_mul,List.take_zero,List.nil_append,Nat.zero_add,hcl,List.drop_eq_nil_of_le (by simp),List.append_nil]
 refine kL (us:=us++[(o,.row (bq st o) t xs)]) (by rw[uC];exact cc) Z (vv:=.slice (some ⟨w.heap.size,0,none⟩) len len) ?_ ?_
 ·unfold execOp;simp only[aL,Sem.run_bind];have aoR:=df;simp only[aoR,Result.andThen_ok,Sem.run_pure]
 ·rw[uC];refine⟨rfl,Ref.mk (ae:=.row (bq st o) t xs) ?_ rfl (by simp)⟩
  simp only[cR];simp
theorem acB{w:World}{av:Nat->Prop}{t:bc}{z:den t}{zs:List Value}(h:cO w av (enc t z) zs)(n:Nat):cO w av (flat t (List.replicate n z)) ((List.replicate n zs).flatten):=by
 induction n with
 |zero=>exact⟨rfl,fun j h=>by simp[flat] at h⟩
 |succ n ih=>
  have:=iL ((gX (D:=fun _=>undef) (sites:=[]) h.1 h.2).append (gX (D:=fun _=>undef) (sites:=[]) ih.1 ih.2)|>fun h=>by
   rw[show cv (enc t z)++cv (flat t (List.replicate n z))=cv (enc t z++flat t (List.replicate n z)) from by simp[cv]] at h
   exact h)
  simpa[List.replicate_succ,flat,List.flatMap_cons] using this
theorem age(z:Array Value)(n:Nat)(hz:0<z.size):((Array.range (n*z.size)).map fun x=>z[x%z.size]!).toList=(List.replicate n z.toList).flatten:=by
 induction n with
 |zero=>simp
 |succ n ih=>
  rw[List.replicate_succ',List.flatten_append];rw[<-ih];apply List.ext_getElem?;intro j;have e:(n+1)*z.size=n*z.size+z.size:=by rw[Nat.add_mul,Nat.one_mul]
  simp only[Array.toList_map,Array.toList_range,List.getElem?_map,List.getElem?_append,List.length_map,List.length_range,List.flatten_cons,List.flatten_nil,List.append_nil,e];by_cases h1:j<n*z.size
  ·rw[List.getElem?_range (by omega)];simp[h1]
  ·by_cases h2:j<n*z.size+z.size
   ·rw[List.getElem?_range h2];have h3:j-n*z.size<z.size:=by omega
    have aE:j%z.size=j-n*z.size:=by
     have:j=z.size*n+(j-n*z.size):=by rw[Nat.mul_comm];omega
     conv=>lhs;rw[this]
     rw[Nat.mul_add_mod,Nat.mod_eq_of_lt h3]
    simp[h1,aE,h3]
   ·rw[List.getElem?_eq_none (by simp;omega)]
    have h3:¬j-n*z.size<z.size:=by omega
    simp[h1,h3]
theorem adt{l:aP}{v:Value}{d:be}{us:List (Nat×Site)}(h:pL l=some v)(k:jA st l=some (d,us)):us=[]:=by
 cases l with
 |d x=>simp[jA] at k;exact k.2
 |nil t=>simp[jA] at k;exact k.2
 |own o s=>simp[pL] at h
 |clo g bA=>simp[pL] at h
 |_=>simp[jA] at k
theorem adb(S:aq U Y X D st M w){C:Ctx}(H:CtxOk P C){T e:TypeId}{t:bc}{bytes o:Nat}{l c:Operand}{wE wF:IntKind}{n m:Int}{z:List aP}{ds:List be}{us:List (Nat×Site)}{eK:den t}(bh:C.tt T=.slice e t bytes)(aL:B.op=.makeSlice T l c)
  (dp:B.dst=some o) (Z:cf st B.dst=true) (hl:bd C st 0 l=.av (.am (.d (.int wE n)))) (hc:bd C st 0 c=.av (.am (.d (.int wF m)))) (hz:(C.tt e).zero=some z) (gr:fE st z=some (ds,us)) (jV:dec t ds=some eK):
  ∀r,jv bytes n m eK=some r->cz P U Y X st M w B (bZ (.own o (bq st o))) [(o,.row (bq st o) t r)]:=by
 intro r hr;obtain⟨fi,i,fG,hi,jq,KX,tf,hzs,gu⟩:=w5 H bh;obtain⟨v,hv,nM⟩:=b7.E_ (w:=w) (H.tt e) hz;have avD:v=fG:=by
  simp[zeroValue,typeInfo,hi,tf] at hv;exact hv.symm
 subst avD;obtain⟨h1,h2,h3⟩:=tI nM;have gM:us=[]:=by
  clear jV hz h3 h2 h1;have key:∀{ai:List aP} {vs:List Value} {ds:List be} {us:List (Nat×Site)},kR ai=some vs->fE st ai=some (ds,us)->us=[]:=by
   intro ai;induction ai with
   |nil=>intro vs ds us _ h;simp only[fE] at h;cases h;rfl
   |cons l ai ih=>
    intro vs ds us h1 h2;simp only[kR] at h1;split at h1
    ·rename_i v cS g1 g2;simp only[fE] at h2;split at h2
     ·rename_i d abD kv qV aD aF;cases h2;rw[ih g2 aF,List.append_nil];exact adt g1 aD
     ·cases h2
    ·cases h1
  exact key nM gr
 subst gM;have aR:kI U Y X D st M w []:=⟨S,.nil⟩;have hrz:cO w (aH X D st.sites) ds v.cells.toList:=zR gr ⟨h1,h3 _ _ _ _⟩ aR (fun p hp=>hp)
 rw[<-zQ _ _ _ jV] at hrz;unfold jv at hr;split at hr
 ·rename_i hb;obtain⟨b1,b2,b3,wN⟩:=hb;cases hr;have e1:Act.eval ⟨M,[]⟩ l=.int wE n:=by
   have:=dn S C 0 l;rw[hl] at this;have this:bF _ _ (.int wE n) _:=this;generalize Act.eval ⟨M,[]⟩ l=u at this;cases this;rfl
  have e2:Act.eval ⟨M,[]⟩ c=.int wF m:=by
   have:=dn S C 0 c;rw[hc] at this;have this:bF _ _ (.int wF m) _:=this;generalize Act.eval ⟨M,[]⟩ c=u at this;cases this;rfl
  have Xx:=acB hrz n.toNat;have hlen:((List.replicate n.toNat v.cells.toList).flatten).length=n.toNat*bb t:=by
   rw[Xx.1,eS,List.length_replicate]
  have TL:(List.replicate m.toNat v.cells.toList).flatten=(List.replicate n.toNat v.cells.toList).flatten++(List.replicate (m.toNat-n.toNat) v.cells.toList).flatten:=by
   rw[<-List.flatten_append,List.replicate_append_replicate];congr 2;omega
  have hcap:((List.replicate n.toNat v.cells.toList).flatten).length+((List.replicate (m.toNat-n.toNat) v.cells.toList).flatten).length=m.toNat*bb t:=by
   rw[<-List.length_append,<-TL];simp[hzs]
  have hmax:m.toNat<=maxLen:=by omega
  have cc:=S.GD (o:=o) (T:=e) Xx hcap hmax gu;rw[List.length_replicate,<-TL] at cc;refine kL (us:=[(o,.row (bq st o) t (List.replicate n.toNat eK))]) cc Z (vv:=.slice (some ⟨w.heap.size,0,none⟩) n.toNat m.toNat) ?_ ?_
  ·unfold maxLen at wN;have bB:IntKind.i64.wrap n=n:=IntWalk.i64_in n (by omega)
   have w2:IntKind.i64.wrap m=m:=IntWalk.i64_in m (by omega)
   have Jn:(decide (m<0)||decide (((i.bytes:Nat):Int)*m>2^48))=false:=by
    unfold room at b3;rw[KX];have:(bytes:Int)*m<=140737488355328:=by rw[Int.mul_comm];exact b3
    simp;omega
   have Aw:((Array.range (m.toNat*i.size)).map fun x=>v.cells[x%v.cells.size]!)=((List.replicate m.toNat v.cells.toList).flatten).toArray:=by
    rw[<-age v.cells m.toNat (by rw[hzs];exact lI t),hzs,jq]
   unfold execOp;simp only[aL,e1,e2,Sem.run_bind];have df:(Instr.makeSlice T (.int wE n) (.int wF m)).run P w=.ok (.slice (some ⟨w.heap.size,0,none⟩) n.toNat m.toNat) (w.alloc (.cells ((List.replicate m.toNat v.cells.toList).flatten).toArray e)):=by
    have qD:¬n<0:=by omega
    have kr:¬n>m:=by omega
    unfold Instr.makeSlice;simp only[Sem.run_bind,run_underlying fi,Result.andThen_ok,asInt,asIntOf,Sem.run_pure,kJ hi,bB,w2,Jn,Bool.false_eq_true,qD,kr,decide_false,Bool.or_false,Bool.or_self,if_false,
     run_askRoom,sizeOf]
    by_cases hz0:m.toNat*i.size=0
    ·have s':m.toNat=0:=by
      rcases Nat.mul_eq_zero.1 hz0 with h|h
      ·exact h
      ·have:=lI t;omega
     have lq:∀f:Nat->Value,Array.map f (Array.range 0)=#[]:=fun f=>by apply Array.ext';simp
     simp[s',newRow,lq]
    ·simp[hz0,tf,zeroValue,kJ hi,newRow,Aw]
   simp only[df,Result.andThen_ok,Sem.run_pure]
  ·refine⟨rfl,Ref.mk (ae:=.row (bq st o) t (List.replicate n.toNat eK)) ?_ rfl (by simp)⟩
   simp only[bp,cR];simp
 ·cases hr
end
theorem agO{aI me:Type}(g:aI->Option me):∀{l:List aI} {r:List me},l.mapM g=some r->∀{i:Nat} {y:me},r[i]? =some y->∃x,l[i]? =some x/\g x=some y:=by
 intro l;induction l with
 |nil=>intro r h i y hy;simp at h;subst h;simp at hy
 |cons x l ih=>
  intro r h i y hy;simp only[List.mapM_cons,Option.bind_eq_bind,Option.pure_def] at h;cases hx:g x with
  |none=>simp[hx] at h
  |some z=>
   cases hl:l.mapM g with
   |none=>simp[hx,hl] at h
   |some fK=>
    simp only[hx,hl,Option.bind_some,Option.some.injEq] at h;subst h;cases i with
    |zero=>simp at hy;subst hy;exact⟨x,by simp,hx⟩
    |succ i=>simp at hy;simpa using ih hl hy
section
variable {P:Program}{U:World}{Y:List Nat}{X:Nat->Prop}{D:Nat->Value}{st:al}{M:Array Value}{w:World}{B:Oper}
theorem h4{k:IntKind}{n:Int}{v:Value}{av:Nat->Prop}(h:bF w av (.int k n) v):v=.int k n:=by cases h;rfl
theorem jg{b:Bool}{v:Value}{av:Nat->Prop}(h:bF w av (.bool b) v):v=.bool b:=by cases h;rfl
theorem gh{s:J}{v:Value}{av:Nat->Prop}(h:bF w av (.str s) v):∃b:ByteArray,v=.string b/\b.data.toList=s:=by
 cases h with
 |str l s h=>exact⟨s,rfl,h⟩
theorem jL(S:aq U Y X D st M w){C:Ctx}{T:TypeId}{x:Operand}{k:IntKind}{n:Int}(h:bd C st T x=.av (.am (.d (.int k n)))):Act.eval ⟨M,[]⟩ x=.int k n:=by
 have:=dn S C T x;rw[h] at this;exact h4 this
theorem Hq(S:aq U Y X D st M w){C:Ctx}{T:TypeId}{x:Operand}{b:Bool}(h:bd C st T x=.av (.am (.d (.bool b)))):Act.eval ⟨M,[]⟩ x=.bool b:=by
 have:=dn S C T x;rw[h] at this;exact jg this
theorem anc(S:aq U Y X D st M w){C:Ctx}{T:TypeId}{x:Operand}{s:J}(h:bd C st T x=.av (.am (.d (.str s)))):∃b:ByteArray,Act.eval ⟨M,[]⟩ x=.string b/\b.data.toList=s:=by
 have:=dn S C T x;rw[h] at this;exact gh this
theorem adH{C:Ctx}(H:CtxOk P C){T:TypeId}{bO:List (Nat×Nat)}{n:Nat}{z:List aP}{eq:Bool}(bh:C.tt T=.struct bO n z eq):(b7.struct bO n z eq).ok P T:=by
 have:=H.tt T;rwa[bh] at this
theorem adp(S:aq U Y X D st M w){C:Ctx}(H:CtxOk P C){T:TypeId}{x:Operand}{f off LQ:Nat}{bO:List (Nat×Nat)}{n:Nat}{z:List aP}{eq:Bool}(bh:C.tt T=.struct bO n z eq)(aL:B.op=.fieldAddr T x f)
  (Z:cf st B.dst=true) (hf:bO[f]? =some (off,LQ)):Holds (DT off (bd C st 0 x)) (cz P U Y X st M w B):=by
 obtain⟨fields,fi,⟨ari,avV⟩,_⟩:=adH H bh;obtain⟨abQ,h1,h2⟩:=agO _ ari hf;have h1':fields[f]? =some abQ:=by simpa using h1
 cases hi:P.info? abQ.type with
 |none=>simp[hi] at h2
 |some i=>
  simp only[hi,Option.map_some,Option.some.injEq,Prod.mk.injEq] at h2;have hsz:i.size≠0:=by rw[h2.2];exact avV (off,LQ) (List.mem_of_getElem? hf)
  have bw:=dn S C 0 x;have run:∀{b p:Nat},Act.eval ⟨M,[]⟩ x=.pointer (some ⟨b,p,none⟩)->(execOp (Act.eval ⟨M,[]⟩) B).run P w=.ok (.value (.pointer (some ⟨b,p+off,none⟩))) w:=by
   intro b p hx;unfold execOp;simp only[aL,hx,Instr.fieldAt,Instr.sureAddr,Sem.run_bind,run_underlying fi,Result.andThen_ok,h1',Sem.run_pure,fieldPlace,sizeOf,kJ hi,hsz,if_false,h2.1,gC]
  unfold DT;split
  ·rename_i o s p b0;rw[b0] at bw;obtain⟨b,aD,aF⟩:=bw;exact Holds.ok (dy S Z (run aD) ⟨b,rfl,aF⟩)
  ·rename_i cells p b0;rw[b0] at bw;obtain⟨b,q,aD,aF⟩:=bw;refine Holds.ok (dy S Z (run aD) ⟨b,q,by rw[Nat.add_assoc],aF⟩)
  ·rename_i o s t k p b0;rw[b0] at bw;obtain⟨b,aD,aF⟩:=bw;exact Holds.ok (dy S Z (run aD) ⟨b,by rw[Nat.add_assoc],aF⟩)
  ·exact .fail
end
section
variable {P:Program}{U:World}{Y:List Nat}{X:Nat->Prop}{D:Nat->Value}{st:al}{M:Array Value}{w:World}{B:Oper}
theorem ahT(S:aq U Y X D st M w){C:Ctx}(H:CtxOk P C){T:TypeId}{a x:Operand}{v:bP}(aL:B.op=.store T a x)(Z:cf st B.dst=true)(hk:(C.tt T).known=true)(hv:l0 (bd C st T x)=some v):
  Holds (rR (C.tt T).size st (bd C st T a) v) (cz P U Y X st M w B):=by
 have hn:=Fv hk;have qI:=dn S C T a;have hex:=dn S C T x;rw[px hv] at hex;have hex:gL D st.sites w (aH X D st.sites) v (Act.eval ⟨M,[]⟩ x):=hex;have run:∀{b p:Nat} {cur:List Value} {gg:TypeId} {u:Bool} {fz:Nat×Nat},Act.eval ⟨M,[]⟩ a=.pointer (some ⟨b,p,none⟩)->w.heap[b]? =some (.cells cur.toArray gg fz)->mI u gg cur.toArray fz->(Act.eval ⟨M,[]⟩ x).cells.toList.length=(C.tt T).size->
   p+(Act.eval ⟨M,[]⟩ x).cells.toList.length<=cur.length->(∀u∈(Act.eval ⟨M,[]⟩ x).cells.toList,u.oneCell'=true)->
   (execOp (Act.eval ⟨M,[]⟩) B).run P w=.ok .skip (w.setRow b (bM cur p (Act.eval ⟨M,[]⟩ x).cells.toList).toArray):=by
  intro b p cur gg u fz h1 h2 hz h3 aE bi;unfold execOp;simp only[aL,h1,Instr.storeAt,Instr.sureAddr,Sem.run_bind,Sem.run_pure,Result.andThen_ok,Mx (H.tt T) hn h2 hz h3 aE bi]
 unfold rR;cases hlen:v.cells.length.beq (C.tt T).size with
 |false=>simp only[cond_false];exact .fail
 |true=>
  have uW:=Nat.eq_of_beq_eq_true hlen;simp only[cond_true];split
  ·rename_i o s off b0;rw[b0] at qI;split
   ·rename_i cells hb;cases hc:(Nat.ble (off+(C.tt T).size) cells.length&&gU v.cells) with
    |false=>simp only[cond_false];exact .fail
    |true=>
     simp only[cond_true];simp only[Bool.and_eq_true] at hc;have hle:=Nat.le_of_ble_eq_true hc.1;have hl:=hex.cells hc.2;obtain⟨b,gg,cur,h1,h2,h3,cc⟩:=S.ahV (gx hb) qI hl (by rw[uW];exact hle) (hl.je hc.2) hc.2
     exact Holds.fk (w4 (us:=[(o,.box s (bM cells off v.cells))]) cc Z (run (u:=false) h1 h2 ⟨(fun h=>by cases h),.inl rfl⟩ (by rw[hl.1];exact uW) h3 (hl.je hc.2)))
   ·exact .fail
  ·rename_i o s u k off b0;rw[b0] at qI;split
   ·rename_i aM t xs gl;have r3:look st.sites o=some (.row aM t xs):=gl;cases hc:(aM.beq s&&Nat.ble (off+(C.tt T).size) (bb t)&&decide (t=u)) with
    |false=>simp only[cond_false];exact .fail
    |true=>
     simp only[cond_true];simp only[Bool.and_eq_true,decide_eq_true_eq] at hc;obtain⟨⟨hc1,qK⟩,rfl⟩:=hc;have:=Nat.eq_of_beq_eq_true hc1;subst this;have hle:=Nat.le_of_ble_eq_true qK;split
     ·rename_i ds us gr;cases kr:(look us o).isNone with
      |false=>simp only[cond_false];exact .fail
      |true=>
       simp only[cond_true];refine Holds.g_ fun hU o5=>?_
       have vd:((xs[k]?).bind fun x=>dec t (bM (enc t x) off ds))=some hU:=o5
       cases KA:xs[k]? with
       |none=>rw[KA] at vd;cases vd
       |some wz=>
        rw[KA] at vd;have jV:dec t (bM (enc t wz) off ds)=some hU:=vd;have hfz:=Hs gr;have aR:kI U Y X D st M w us:=⟨S,hfz⟩;have dB:gU v.cells=true:=by
         clear hlen uW o5 vd jV kr hfz aR;revert gr
         generalize v.cells=ai;intro gr;induction ai generalizing ds us with
         |nil=>rfl
         |cons l ai ih=>
          simp only[fE] at gr;split at gr
          ·rename_i d abD kv qV h1 h2;simp only[gU,Bool.and_eq_true];refine⟨?_,ih _ _ h2⟩;unfold jA at h1;split at h1<;>first|rfl|cases h1
          ·cases gr
        have hl:=hex.cells dB;have hr:=zR gr hl aR (fun p hp=>hp)
        have hdl:ds.length=(C.tt T).size:=by
         have:=hr.1;rw[hl.1] at this;omega
        have Jn:look (bp st.sites us) o=some (.row aM t xs):=by
         rcases lB hfz o with h|⟨s2,t2,aAc,h,aj⟩
         ·rw[h];exact r3
         ·exfalso
          have:∀(us:List (Nat×Site)) (sites:List (Nat×Site)),look us o=none->look (bp sites us) o=look sites o:=by
           intro us;induction us with
           |nil=>intro sites _;rfl
           |cons p us ih=>
            obtain⟨ab,ae⟩:=p;intro sites Bf;simp only[look] at Bf;cases hb:ab.beq o with
            |true=>simp[hb] at Bf
            |false=>
             simp only[hb,cond_false] at Bf;simp only[bp];rw[ih _ Bf,cR,if_neg];rintro rfl;simp at hb
          have h3:=this us st.sites (by simpa using kr)
          rw[aj,r3] at h3;cases h3
        have arw:=aR.go (a:=.av (.am (.eP o aM t k off))) qI;obtain⟨b,gg,cur,fz,h1,h2,hz,h3,cc⟩:=aR.new.ahU Jn arw KA (zQ _ _ _ jV) hr (by rw[hdl];exact hle) (hl.je dB)
        refine w4 (aW:=D) (us:=us++[(o,.row aM t (xs.set k hU))]) ?_ Z (run h1 h2 hz (by rw[hl.1];exact uW) h3 (hl.je dB))
        rw[kK];exact cc
     ·exact .fail
   ·exact .fail
  ·exact .fail
theorem adl(S:aq U Y X D st M w){C:Ctx}(H:CtxOk P C){T e:TypeId}{t:bc}{bytes:Nat}{x i:Operand}{k:IntKind}{n:Int}(bh:C.tt T=.slice e t bytes)(hi:bd C st 0 i=.av (.am (.d (.int k n))))(aL:B.op=.indexAddr T x i)
  (Z:cf st B.dst=true):
  Holds (rc t st (bd C st T x) n) (cz P U Y X st M w B):=by
 obtain⟨fi,inf,z,kj,jq,KX,tf,hzs,_⟩:=w5 H bh;have vi:=jL S hi;have bw:=dn S C T x;have run:∀{a:Addr} {len cap:Nat},Act.eval ⟨M,[]⟩ x=.slice (some a) len cap->0<=n->n<len->(execOp (Act.eval ⟨M,[]⟩) B).run P w=.ok (.value (.pointer (some (a.add (n.toNat*bb t))))) w:=by
  intro a len cap hx h0 h1;unfold execOp;simp[aL,hx,vi,Instr.indexAt,asIntOf,run_underlying fi,h0,h1,sizeOf,kJ kj,jq]
 unfold rc;split
 ·rename_i u xs b0;split;case isFalse=>exact .fail
  rename_i nP;subst nP;rw[b0] at bw;have bw:bF w (aH X D st.sites) (.sl u xs) (Act.eval ⟨M,[]⟩ x):=bw;refine Holds.ei fun y hy=>?_
  have dN:aN xs n=some y:=hy;unfold aN at dN;split at dN
  ·rename_i h0;have hlt:n.toNat<xs.length:=by
    rcases Nat.lt_or_ge n.toNat xs.length with h|h
    ·exact h
    ·rw[List.getElem?_eq_none h] at dN;cases dN
   generalize hx:Act.eval ⟨M,[]⟩ x=v at bw;cases bw with
   |nil=>simp at hlt
   |sl _ _ a cap cs m hm hcap hb hl hc hr=>
    subst hm;have hne:xs≠[]:=by rintro rfl;simp at hlt
    have hrow:cO w (aH X D st.sites) (flat u xs) cs:=⟨hl,hr⟩;have kq:a.spot=none:=by
     have nI:0<cs.length:=by rw[hl,eS];exact Nat.mul_pos (List.length_pos_iff.mpr hne) (lI u)
     have h1:=hc 0 cs[0] (List.getElem?_eq_getElem nI);have h2:a.add 0=a:=by unfold Addr.add;simp
     rw[h2] at h1;unfold World.cell? at h1;split at h1
     ·cases hs:a.spot with
      |none=>rfl
      |some _=>simp[hs] at h1
     ·cases h1
    obtain⟨n',C_,aw0⟩:=a;simp only at kq;subst kq;have hcs:hJ w n' C_ cs:=fun j v hv=>by have:=hc j v hv;rwa[gC] at this
    refine dy S Z (run hx h0 (by omega)) ?_
    rw[gC];have ib:=tN u xs n.toNat y dN;have aoT:=(hcs.drop (n.toNat*bb u)).take (bb u);have jx:=((gX (D:=D) (sites:=st.sites) hl hr).drop (n.toNat*bb u)).take (bb u);have e2:((cv (flat u xs)).drop (n.toNat*bb u)).take (bb u)=cv (enc u y):=by
     rw[<-ib];simp[cv,List.map_drop,List.map_take]
    rw[e2] at jx;have dO:=iL jx;have hlt2:n'<w.heap.size:=by
     have nI:0<cs.length:=by rw[hl,eS];exact Nat.mul_pos (List.length_pos_iff.mpr hne) (lI u)
     exact World.block_lt_of_cell? w _ (hcs 0 cs[0] (List.getElem?_eq_getElem nI))
    exact⟨n',C_+n.toNat*bb u,by rw[Nat.add_zero],hb hne,hlt2,_,dO.1,aoT,dO.2⟩
  ·cases dN
 ·rename_i o s b0;rw[b0] at bw;split
  ·rename_i u xs hrow;split;case isFalse=>exact .fail
   rename_i nP;subst nP;refine Holds.ei fun y hy=>?_
   have dN:bk xs.length n=some y:=hy;unfold bk at dN;split at dN
   ·rename_i hb;cases dN;obtain⟨cs,hl,hcell⟩:=S.row hrow;have dB:∃ae,look st.sites o=some ae/\ae.cl=s:=by
     rcases jG hrow with h|h<;>exact⟨_,h,rfl⟩
    obtain⟨ae,ib,lp⟩:=dB;have hv:Act.eval ⟨M,[]⟩ x=D o:=Ref.at bw.2 ib lp;rcases hcell with⟨hn,nN⟩|⟨b,c,cG,aao,_⟩
    ·subst nN;simp at hb;omega
    ·refine dy S Z (run (by rw[hv];exact cG) hb.1 hb.2) ?_
     rw[gC,Nat.zero_add];exact⟨b,by rw[Nat.add_zero],Ref.mk ib lp ⟨_,_,cG⟩⟩
   ·cases dN
  ·exact .fail
 ·exact .fail
end
section
variable {P:Program}{U:World}{Y:List Nat}{X:Nat->Prop}{D:Nat->Value}{st:al}{M:Array Value}{w:World}{B:Oper}
theorem QB(S:aq U Y X D st M w){C:Ctx}{cI:Option Operand}{lj l:Int}(h:im lj (cI.map (bd C st 0))=some l):
  (cI=none/\l=lj)\/∃x k,cI=some x/\Act.eval ⟨M,[]⟩ x=.int k l:=by
 cases cI with
 |none=>simp only[Option.map_none,im,Option.some.injEq] at h;exact .inl ⟨rfl,h.symm⟩
 |some x=>
  simp only[Option.map_some] at h;generalize hx:bd C st 0 x=v at h;unfold im at h;split at h
  ·rename_i b0;cases b0
  ·rename_i k n b0;cases h;cases b0;exact .inr ⟨x,k,rfl,jL S hx⟩
  ·cases h
theorem ml(t:bc)(xs:List (den t))(n:Nat):flat t (xs.take n)=(flat t xs).take (n*bb t):=by
 rcases Nat.lt_or_ge xs.length n with h|h
 ·rw[List.take_of_length_le (Nat.le_of_lt h),List.take_of_length_le (by rw[eS];exact Nat.mul_le_mul_right _ (Nat.le_of_lt h))]
 ·have:=ra t (xs.take n) (xs.drop n);rw[List.take_append_drop] at this;rw[this,List.take_left' (by rw[eS,List.length_take,Nat.min_eq_left h])]
theorem Pa(t:bc)(xs:List (den t))(n:Nat):flat t (xs.drop n)=(flat t xs).drop (n*bb t):=by
 rcases Nat.lt_or_ge xs.length n with h|h
 ·rw[List.drop_eq_nil_of_le (Nat.le_of_lt h),List.drop_eq_nil_of_le (by rw[eS];exact Nat.mul_le_mul_right _ (Nat.le_of_lt h))]
  rfl
 ·have:=ra t (xs.take n) (xs.drop n);rw[List.take_append_drop] at this;rw[this,List.drop_left' (by rw[eS,List.length_take,Nat.min_eq_left h])]
theorem DK{P:Program}{w:World}(isSlice:Bool)(len cap:Nat)(cI hi:Option Value)(l h:Int)(fF:(cI=none/\l=0)\/∃k,cI=some (.int k l))(hhi:(hi=none/\h=len)\/∃k,hi=some (.int k h))
  (h0:0<=l) (h1:l<=h) (h2:h<=len) (hc:len<=cap):(Instr.sliceBounds isSlice len cap cI hi none).run P w=.ok (l.toNat,h.toNat,cap) w:=by
 have bJ:0<=h:=by omega
 have aah:h<=cap:=by omega
 have avI:((h.toNat:Nat):Int)=h:=Int.toNat_of_nonneg bJ;rcases fF with⟨rfl,rfl⟩|⟨k,rfl⟩<;>rcases hhi with⟨rfl,rfl⟩|⟨k',rfl⟩
 ·simp[Instr.sliceBounds]
 ·simp[Instr.sliceBounds,Instr.sliceBound,asIntOf,bJ,aah]
 ·simp[Instr.sliceBounds,Instr.sliceBound,asIntOf,h0,h1]
 ·simp[Instr.sliceBounds,Instr.sliceBound,asIntOf,bJ,aah,h0,avI,h1]
theorem ahS(s:ByteArray)(l h:Nat)(h2:h<=s.size):(s.extract l h).data.toList=(s.data.toList.take h).drop l:=by
 rw[ByteArray.data_extract,Array.toList_extract];simp[List.extract_eq_take_drop,List.drop_take]
theorem SO{w:World}{av:Nat->Prop}{t:bc}{xs:List (den t)}{b B:Nat}{cs:List Value}(hb:xs≠[]->¬av b)(hr:cO w av (flat t xs) cs)(hc:hJ w b B cs)(l h:Nat)(h1:l<=h)(h2:h<=xs.length)(a:Addr)(fb:Nat)(aaq:h-l<=fb)
  (ha:a=⟨b,B+l*bb t,none⟩\/l=h) (aar:a.block=b):bF w av (.sl t ((xs.take h).drop l)) (.slice (some a) (h-l) fb):=by
 have hlen:((xs.take h).drop l).length=h-l:=by simp;omega
 by_cases aab:l=h
 ·subst aab;have:(xs.take l).drop l=[]:=List.eq_nil_of_length_eq_zero (by rw[hlen];omega)
  rw[this];exact .sl t [] a fb [] _ (by simp) aaq (fun hx=>absurd rfl hx) rfl (fun j u hu=>by simp at hu) (fun j h=>by simp[flat] at h)
 ·rcases ha with ha|ha
  ·subst ha;have hf:flat t ((xs.take h).drop l)=((flat t xs).take (h*bb t)).drop (l*bb t):=by
    rw[Pa,ml]
   have jx:=((gX (D:=fun _=>undef) (sites:=[]) hr.1 hr.2).take (h*bb t)).drop (l*bb t)
   have e2:((cv (flat t xs)).take (h*bb t)).drop (l*bb t)=cv (flat t ((xs.take h).drop l)):=by
    rw[hf];simp[cv,List.map_drop,List.map_take]
   rw[e2] at jx;have c9:=iL jx;refine .sl t _ _ fb _ _ hlen.symm aaq (fun hx=>hb ?_) c9.1 (fun j u hu=>?_) c9.2
   ·rintro rfl;simp at hx
   ·rw[gC];exact((hc.take (h*bb t)).drop (l*bb t)) j u hu
  ·exact absurd ha aab
theorem GB{w:World}{av:Nat->Prop}{t:bc}{xs:List (den t)}{a:Addr}{cs:List Value}(hb:xs≠[]->¬av a.block)(hr:cO w av (flat t xs) cs)(hc:∀j u,cs[j]? =some u->w.cell? (a.add j)=some u)
  (l h cap:Nat) (h1:l<=h) (h2:h<=xs.length) (hcap:xs.length<=cap):
  bF w av (.sl t ((xs.take h).drop l)) (.slice (if cap=l then some a else(some a).map (·.add (l*bb t))) (h-l) (cap-l)):=by
 by_cases hx:xs=[]
 ·subst hx;have:h=0:=by simpa using h2
  subst this;have hl0:l=0:=by omega
  subst hl0;have:((if cap=0 then some a else(some a).map (·.add (0*bb t))):Option Addr)=some a:=by
   split
   ·rfl
   ·simp[Addr.add]
  rw[this];exact .sl t [] a (cap-0) [] 0 rfl (by omega) (fun hx=>absurd rfl hx) rfl (fun j u hu=>by simp at hu) (fun j h=>by simp[flat] at h)
 ·have kq:a.spot=none:=by
   have nI:0<cs.length:=by rw[hr.1,eS];exact Nat.mul_pos (List.length_pos_iff.mpr hx) (lI t)
   have h1:=hc 0 cs[0] (List.getElem?_eq_getElem nI);have h2:a.add 0=a:=by unfold Addr.add;simp
   rw[h2] at h1;unfold World.cell? at h1;split at h1
   ·cases hs:a.spot with
    |none=>rfl
    |some _=>simp[hs] at h1
   ·cases h1
  obtain⟨n',C_,aw0⟩:=a;simp only at kq;subst kq;have hcs:hJ w n' C_ cs:=fun j v hv=>by have:=hc j v hv;rwa[gC] at this
  split
  ·rename_i e;exact SO hb hr hcs l h h1 h2 _ _ (by omega) (.inr (by omega)) rfl
  ·simp only[Option.map_some,gC];exact SO hb hr hcs l h h1 h2 _ _ (by omega) (.inl rfl) rfl
theorem Ox{v:aZ}{us mK:List (Nat×Site)}(e:bp st.sites us=bp st.sites mK)(h:cz P U Y X st M w B v us):cz P U Y X st M w B v mK:=by
 have:st.cW B.dst v mK=st.cW B.dst v us:=by cases B.dst<;>simp only[al.cW,al.ua,e]
 intro K Q bR;rw[this] at bR;exact h K Q bR
theorem ahZ(S:aq U Y X D st M w){C:Ctx}(H:CtxOk P C){T:TypeId}{x:Operand}{cI hi:Option Operand}(aL:B.op=.slice T x cI hi none)(Z:cf st B.dst=true):
  Holds (rU (C.tt T) st (bd C st T x) (cI.map (bd C st 0)) (hi.map (bd C st 0))) (cz P U Y X st M w B):=by
 have bw:=dn S C T x;have ql:∀{cI:Option Operand} {lj l:Int},im lj (cI.map (bd C st 0))=some l->(cI.map (Act.eval ⟨M,[]⟩)=none/\l=lj)\/∃k,cI.map (Act.eval ⟨M,[]⟩)=some (.int k l):=by
  intro cI lj l h;rcases QB S h with⟨rfl,aj⟩|⟨x,k,rfl,aj⟩
  ·exact .inl ⟨rfl,aj⟩
  ·exact .inr ⟨k,by simp[aj]⟩
 have runs:∀{vv:Value},(Instr.sliceAt T (Act.eval ⟨M,[]⟩ x) (cI.map (Act.eval ⟨M,[]⟩)) (hi.map (Act.eval ⟨M,[]⟩)) none).run P w=.ok vv w->(execOp (Act.eval ⟨M,[]⟩) B).run P w=.ok (.value vv) w:=by
  intro vv h;unfold execOp;simp only[aL,Option.map_none,Sem.run_bind,h,Result.andThen_ok,Sem.run_pure]
 have uP:∀{e:TypeId} {t:bc} {bytes:Nat} {a:Option Addr} {len cap:Nat} {l h:Int},C.tt T=.slice e t bytes->Act.eval ⟨M,[]⟩ x=.slice a len cap->im 0 (cI.map (bd C st 0))=some l->im len (hi.map (bd C st 0))=some h->
   0<=l->l<=h->h<=len->len<=cap->(execOp (Act.eval ⟨M,[]⟩) B).run P w=.ok (.value (.slice (if cap=l.toNat then a else a.map (·.add (l.toNat*bb t))) (h.toNat-l.toNat) (cap-l.toNat))) w:=by
  intro e t bytes a len cap l h bh hx fF hhi h0 h1 h2 hc;obtain⟨fi,inf,z,kj,jq,_⟩:=w5 H bh;refine runs ?_
  have hb:=DK (P:=P) (w:=w) true len cap (cI.map (Act.eval ⟨M,[]⟩)) (hi.map (Act.eval ⟨M,[]⟩)) l h (ql fF) (ql hhi) h0 h1 h2 hc;simp only[Instr.sliceAt,Instr.slice,Sem.run_bind,run_underlying fi,Result.andThen_ok,hx,hb,sizeOf,kJ kj,jq,Sem.run_pure]
 unfold rU;split
 ·rename_i s b0;rw[b0] at bw;obtain⟨b,hx,hs⟩:=gh bw;split
  ·rename_i l h bh fF hhi;have bL:=H.tt T;rw[bh] at bL;refine Holds.ei fun r hr=>?_
   have c9:bu s l h=some r:=hr;unfold bu at c9;split at c9
   ·rename_i hb;obtain⟨h0,h1,h2⟩:=hb;cases c9;have hsz:s.length=b.size:=by rw[<-hs];rfl
    rw[hsz] at h2 hhi;refine dy S Z (vv:=.string (b.extract l.toNat h.toNat)) (runs ?_) (.str _ _ ?_)
    ·have hb:=DK (P:=P) (w:=w) false b.size b.size (cI.map (Act.eval ⟨M,[]⟩)) (hi.map (Act.eval ⟨M,[]⟩)) l h (ql fF) (ql hhi) h0 h1 h2 (Nat.le_refl _);simp[Instr.sliceAt,Instr.slice,run_underlying bL.1,hx,hb]
    ·rw[ahS b _ _ (by omega),hs]
   ·cases c9
  ·exact .fail
 ·rename_i t xs b0;rw[b0] at bw;have bw:bF w (aH X D st.sites) (.sl t xs) (Act.eval ⟨M,[]⟩ x):=bw;split
  ·rename_i e u bytes l h bh fF hhi;split;case isFalse=>exact .fail
   rename_i nP;subst nP;refine Holds.ei fun r hr=>?_
   have c9:bu xs l h=some r:=hr;unfold bu at c9;split at c9
   ·rename_i hb;obtain⟨h0,h1,h2⟩:=hb;cases c9;generalize hx:Act.eval ⟨M,[]⟩ x=v at bw;cases bw with
    |nil=>
     have bJ:h=0:=by simp at h2;omega
     have hl:l=0:=by omega
     subst bJ hl;refine dy S Z (uP bh hx fF hhi h0 h1 h2 (Nat.le_refl _)) ?_
     simp only[List.take_nil,List.drop_nil];exact bF.nil t
    |sl _ _ a cap cs m hm hcap hb hl hc hr=>
     subst hm;refine dy S Z (uP bh hx fF hhi h0 h1 h2 hcap) ?_
     exact GB hb ⟨hl,hr⟩ hc l.toNat h.toNat cap (by omega) (by omega) hcap
   ·cases c9
  ·exact .fail
 ·rename_i t b0;rw[b0] at bw;have hx:Act.eval ⟨M,[]⟩ x=.slice none 0 0:=bw;split
  ·rename_i e u bytes l h bh fF hhi;refine Holds.ei fun r hr=>?_
   have c9:bu ([]:List (den t)) l h=some r:=hr;unfold bu at c9;split at c9
   ·rename_i hb;obtain⟨h0,h1,h2⟩:=hb;cases c9;have bJ:h=0:=by simp at h2;omega
    have hl:l=0:=by omega
    subst bJ hl;refine dy S Z (uP bh hx fF hhi h0 h1 h2 (Nat.le_refl _)) ?_
    simp only[List.take_nil,List.drop_nil];exact bF.nil t
   ·cases c9
  ·exact .fail
 ·rename_i o s b0;rw[b0] at bw;split
  ·rename_i t xs hrow;split
   ·rename_i e u bytes l h bh fF hhi;split;case isFalse=>exact .fail
    rename_i nP;subst nP;refine Holds.g_ fun r hr=>?_
    have c9:bu xs l h=some r:=hr;unfold bu at c9;split at c9
    ·rename_i hb;obtain⟨h0,h1,h2⟩:=hb;cases c9;refine Ox (us:=[(o,.c8 s t xs)]) (Qu hrow).symm ?_
     have hfz:dz st.sites [(o,.c8 s t xs)]:=by
      intro ab ae hm;simp only[List.mem_singleton,Prod.mk.injEq] at hm;obtain⟨rfl,rfl⟩:=hm;exact⟨s,t,xs,rfl,jG hrow⟩
     have aR:kI U Y X D st M w [(o,.c8 s t xs)]:=⟨S,hfz⟩;have KS:=Df hfz (List.mem_singleton.2 rfl);obtain⟨dO,UW⟩:=aR.new.sites o _ KS;have hv:Act.eval ⟨M,[]⟩ x=D o:=by
      rcases jG hrow with h1|h1<;>exact Ref.at bw.2 h1 rfl
     generalize hx:D o=v at dO UW;rw[hx] at hv;cases dO with
     |nil=>
      have bJ:h=0:=by simp at h2;omega
      have hl:l=0:=by omega
      subst bJ hl;refine kL (us:=[(o,.c8 s t [])]) aR.new Z (uP bh hv fF hhi h0 h1 h2 (Nat.le_refl _)) ?_
      simp only[List.take_nil,List.drop_nil];exact bF.nil t
     |sl _ _ a cap cs m hm hcap hb hl hc hr=>
      subst hm;refine kL (us:=[(o,.c8 s t xs)]) aR.new Z (uP bh hv fF hhi h0 h1 h2 hcap) ?_
      exact GB hb ⟨hl,hr⟩ hc l.toNat h.toNat cap (by omega) (by omega) hcap
    ·cases c9
   ·exact .fail
  ·exact .fail
 ·exact .fail
end
section
variable {P:Program}{U:World}{Y:List Nat}{X:Nat->Prop}{D:Nat->Value}{st:al}{M:Array Value}{w:World}{B:Oper}
theorem Ro{av:Nat->Prop}{o s:Nat}{t:bc}{xs:List (den t)}{v:Value}(h:b_ D st.sites w av (bZ (.own o s)) v)(hr:rowOf st o s=some ⟨t,xs⟩):v=D o:=by
 rcases jG hr with h1|h1<;>exact Ref.at h.2 h1 rfl
theorem Rv(S:aq U Y X D st M w){l:aP}{v:Value}{t:bc}{es:List (J×den t)}(h:dM D st.sites w (aH X D st.sites) l v)(hm:mapOf st l=some ⟨t,es⟩):
  (v=.map none/\es=[])\/∃b,v=.map (some b)/\lS w b t es:=by
 unfold mapOf at hm;split at hm
 ·cases hm;have h:bF w (aH X D st.sites) (.map t es) v:=h;cases h with
  |u'=>exact .inl ⟨rfl,rfl⟩
  |map _ _ b hb hm=>exact .inr ⟨b,rfl,hm⟩
 ·rename_i o s;split at hm
  ·rename_i aM u tn hl;cases hb:aM.beq s with
   |false=>rw[hb] at hm;cases hm
   |true=>
    rw[hb] at hm;have hs:=Nat.eq_of_beq_eq_true hb;subst hs;cases hm;have hl:look st.sites o=some (.map aM _ es):=hl;have hv:v=D o:=Ref.at h.2 hl rfl;obtain⟨b,h1,h2⟩:=S.sites o _ hl;exact .inr ⟨b,hv.trans h1,h2⟩
  ·cases hm
 ·cases hm
theorem lS.size{b:Nat}{t:bc}{es:List (J×den t)}{arr:Array MapEntry}(h:mu arr=jP t es):arr.size=es.length:=by
 have:=congrArg List.length h;simpa[mu,jP] using this
theorem amX(S:aq U Y X D st M w){C:Ctx}(H:CtxOk P C){T:TypeId}{x:Operand}(aL:B.op=.call {callee:=.builtin .len,args:=#[x],argTypes:=#[T]})(Z:cf st B.dst=true):
  Holds (sH (C.tt T) st (bd C st T x)) (cz P U Y X st M w B):=by
 have bw:=dn S C T x;have bL:=H.tt T;have run:∀{vv:Value},(Builtin.len_ #[T] B.type #[Act.eval ⟨M,[]⟩ x]).run P w=.ok vv w->(execOp (Act.eval ⟨M,[]⟩) B).run P w=.ok (.value vv) w:=by
  intro vv h;unfold execOp;simp only[aL,resolve,invoke,builtin,Sem.run_bind,Sem.run_pure,Result.andThen_ok,List.map_toArray,List.map_cons,List.map_nil,h]
 unfold sH;split
 ·rename_i s bh b0;rw[b0] at bw;rw[bh] at bL;obtain⟨b,hx,hs⟩:=gh bw;refine Holds.ok (dy S Z (run (vv:=.int .i64 s.length) ?_) (.int _ _));have:s.length=b.size:=by rw[<-hs];rfl
  simp[Builtin.len_,hx,run_underlying bL.1,goInt,this]
 ·rename_i e t b u xs bh b0;rw[b0] at bw;rw[bh] at bL;have bw:bF w (aH X D st.sites) (.sl u xs) (Act.eval ⟨M,[]⟩ x):=bw;refine Holds.ok (dy S Z (run (vv:=.int .i64 xs.length) ?_) (.int _ _));generalize Act.eval ⟨M,[]⟩ x=v at bw;cases bw with
  |nil=>simp[Builtin.len_,run_underlying bL.1.1,goInt]
  |sl _ _ a cap cs n hn hcap hb hl hc hr=>simp[Builtin.len_,run_underlying bL.1.1,goInt,hn]
 ·rename_i e t b u bh b0;rw[b0] at bw;rw[bh] at bL;have hx:Act.eval ⟨M,[]⟩ x=.slice none 0 0:=bw;exact Holds.ok (dy S Z (run (vv:=.int .i64 0) (by simp[Builtin.len_,hx,run_underlying bL.1.1,goInt])) (.int _ _))
 ·rename_i e t b o s bh b0;rw[b0] at bw;rw[bh] at bL;split
  ·rename_i u xs hrow;have hv:=Ro bw hrow;refine Holds.ok (dy S Z (run (vv:=.int .i64 xs.length) ?_) (.int _ _));obtain⟨cs,_,hc⟩:=S.row hrow;rcases hc with⟨h1,h2⟩|⟨bG,c,h1,_⟩
   ·subst h2;simp[Builtin.len_,hv,h1,run_underlying bL.1.1,goInt]
   ·simp[Builtin.len_,hv,h1,run_underlying bL.1.1,goInt]
  ·exact .fail
 ·rename_i hF kE u l bh b0;rw[b0] at bw;rw[bh] at bL;split
  ·rename_i bT es hm;refine Holds.ok (dy S Z (run (vv:=.int .i64 es.length) ?_) (.int _ _));rcases Rv S bw hm with⟨h1,rfl⟩|⟨b,h1,arr,c,h2,h3⟩
   ·simp[Builtin.len_,h1,run_underlying bL.1.1,goInt]
   ·have hsz:=lS.size (b:=b) h3;simp[Builtin.len_,h1,run_underlying bL.1.1,goInt,MapKept.run_getObj_map h2,hsz,Result.andThen]
  ·exact .fail
 ·exact .fail
theorem ai4(S:aq U Y X D st M w){C:Ctx}(H:CtxOk P C){T:TypeId}{x i:Operand}{s:J}{k:IntKind}{n:Int}(aL:B.op=.index T x i)(Z:cf st B.dst=true)(bh:C.tt T=.str)
  (hx:bd C st T x=.av (.am (.d (.str s)))) (hi:bd C st 0 i=.av (.am (.d (.int k n)))):Holds (.ei (aN s n) fun b=>one (.int .u8 b.toNat)) (cz P U Y X st M w B):=by
 have bL:=H.tt T;rw[bh] at bL;obtain⟨b,hb,hs⟩:=anc S hx;have hn:=jL S hi;refine Holds.ei fun y hy=>?_
 have dN:aN s n=some y:=hy;unfold aN at dN;split at dN
 ·rename_i h0;refine dy S Z (vv:=.int .u8 y.toNat) ?_ (.int _ _);have sL:b[n.toNat]? =some y:=by
   have:n.toNat<s.length:=by
    rcases Nat.lt_or_ge n.toNat s.length with h|h
    ·exact h
    ·rw[List.getElem?_eq_none h] at dN;cases dN
   rw[<-hs] at dN this;have hsz:n.toNat<b.size:=this;rw[getElem?_pos b n.toNat hsz];rw[List.getElem?_eq_getElem this] at dN;have h3:b.data[n.toNat]=y:=by simpa using dN
   rw[<-h3];rfl
  unfold execOp;simp[aL,hb,hn,Instr.index,asIntOf,run_underlying bL.1,h0,sL]
 ·cases dN
theorem bytes_beq(x y:ByteArray):(x==y)=(x.data.toList==y.data.toList):=by
 obtain⟨a⟩:=x;obtain⟨b⟩:=y;have h:((⟨a⟩:ByteArray)==⟨b⟩)=(a==b):=rfl;rw[h,Bool.eq_iff_iff];simp
theorem aji:∀{z ai:List aP} {vs:List Value},qn z ai=true->cm D st.sites w (aH X D st.sites) ai vs->oX z vs=true:=by
 intro z;induction z with
 |nil=>
  intro ai vs h h1;cases ai with
  |nil=>rw[h1.nq];rfl
  |cons l ai=>cases h
 |cons c z ih=>
  intro ai vs h h1;unfold qn at h;split at h
  ·rename_i hz;cases hz
  ·rename_i b0;cases b0;obtain⟨v,cS,rfl,a1,a2⟩:=h1.inv;rw[h4 a1];exact ih h a2
  ·rename_i b0;cases b0;obtain⟨v,cS,rfl,a1,a2⟩:=h1.inv;rw[jg a1];exact ih h a2
  ·rename_i b0;cases b0;obtain⟨v,cS,rfl,a1,a2⟩:=h1.inv;obtain⟨x,rfl,hx⟩:=gh a1;exact ih h a2
  ·cases h
theorem aei:∀{ai iC:List aP} {vs us:List Value} {b:Bool},ut ai iC=some b->cm D st.sites w (aH X D st.sites) ai vs->cm D st.sites w (aH X D st.sites) iC us->jd vs us=some b:=by
 have leaf:∀{d e:be} {v u:Value} {b:Bool} {av:Nat->Prop},Aq d e=some b->bF w av d v->bF w av e u->nn v u=some b:=by
  intro d e v u b av h h1 h2;unfold Aq at h;split at h
  ·rw[h4 h1,h4 h2];exact h
  ·rw[jg h1,jg h2];exact h
  ·obtain⟨x,rfl,hx⟩:=gh h1;obtain⟨y,rfl,hy⟩:=gh h2;subst hx hy;cases h;show some (x==y)=some (x.data.toList==y.data.toList);rw[bytes_beq]
  ·cases h
 intro ai;induction ai with
 |nil=>intro iC vs us b h _ _;cases iC<;>simp[ut] at h
 |cons l ai ih=>
  intro iC vs us b h h1 h2;obtain⟨v,cS,rfl,a1,a2⟩:=h1.inv;unfold ut at h;split at h
  ·rename_i d e b0;cases b0;obtain⟨u,mK,rfl,b1,b2⟩:=h2.inv;rw[a2.nq,b2.nq];exact leaf h a1 b1
  ·rename_i d ds e es hne b0;cases b0;obtain⟨u,mK,rfl,b1,b2⟩:=h2.inv;split at h
   ·rename_i x y hx hy;cases h;have e1:=leaf hx a1 b1;have e2:=ih hy a2 b2;match cS,mK,e2 with
    |[],[],e2=>simp[jd] at e2
    |[],_::_,e2=>simp[jd] at e2
    |_::_,[],e2=>simp[jd] at e2
    |v2::aAd,u2::aAf,e2=>rw[jd,e1,e2];simp
   ·cases h
  ·cases h
theorem run_equal_bool{T:TypeId}(h:P.underlying T=some .bool)(a b:Bool):(Op.equal T (.bool a) (.bool b)).run P w=.ok (a==b) w:=by
 have e:Op.maxDepth=9999+1:=rfl;unfold Op.equal;rw[e];unfold Op.equalIn;simp only[Sem.run_bind,run_underlying h,Result.andThen_ok,Sem.run_pure]
theorem run_eql_bool{T:TypeId}(h:P.underlying T=some .bool)(a b:Bool):(binOp .eql T (.bool a) (.bool b)).run P w=.ok (.bool (a==b)) w:=by
 show((do pure (.bool (<-Op.equal T (.bool a) (.bool b)))):Sem Value).run P w=_
 simp only[Sem.run_bind,run_equal_bool h,Result.andThen_ok,Sem.run_pure]
theorem run_neq_bool{T:TypeId}(h:P.underlying T=some .bool)(a b:Bool):(binOp .neq T (.bool a) (.bool b)).run P w=.ok (.bool (!(a==b))) w:=by
 show((do pure (.bool (!(<-Op.equal T (.bool a) (.bool b))))):Sem Value).run P w=_
 simp only[Sem.run_bind,run_equal_bool h,Result.andThen_ok,Sem.run_pure]
theorem alI(S:aq U Y X D st M w){C:Ctx}(H:CtxOk P C){op:BinOp}{T mY:TypeId}{x y:Operand}(aL:B.op=.binOp op T x y mY)(Z:cf st B.dst=true):
  Holds (JB op (C.tt T) (bd C st T x) (bd C st T y)) (cz P U Y X st M w B):=by
 have hx:=dn S C T x;have hy:=dn S C T y;have bL:=H.tt T;have run:∀{vv:Value},(eqGuard op T x y (Act.eval ⟨M,[]⟩ x) (Act.eval ⟨M,[]⟩ y)).run P w=.ok () w->(binOp op T (Act.eval ⟨M,[]⟩ x) (Act.eval ⟨M,[]⟩ y)).run P w=.ok vv w->
   (execOp (Act.eval ⟨M,[]⟩) B).run P w=.ok (.value vv) w:=by
  intro vv h1 h2;unfold execOp;simp only[aL,Sem.run_bind,h1,h2,Result.andThen_ok,Sem.run_pure]
 have plain:∀{r:cZ},(eqGuard op T x y (Act.eval ⟨M,[]⟩ x) (Act.eval ⟨M,[]⟩ y)).run P w=.ok () w->Holds r (Plain P w (binOp op T (Act.eval ⟨M,[]⟩ x) (Act.eval ⟨M,[]⟩ y)))->Holds r (cz P U Y X st M w B):=by
  intro r h1 h2 z hz hc;obtain⟨vv,d,g1,g2,g3,g4⟩:=h2 z hz hc;rw[g2,g3];exact dy S Z (run h1 g1) (g4 _)
 unfold JB;split
 ·rename_i k a k' b hxe hye;rw[hxe] at hx;rw[hye] at hy;refine plain (by rw[h4 hx,h4 hy];exact aci _ _ _ _ _ _ _ _) ?_
  rw[h4 hx,h4 hy];unfold Tm;split
  ·refine Holds.ei fun n hn=>?_
   have ic:la k a b=some n:=hn;unfold la at ic;split at ic
   ·cases ic
   ·rename_i hb;cases ic;exact .mk (by simp[binOp,Op.shift,hb]) fun av=>.int _ _
  ·refine Holds.ei fun n hn=>?_
   have ic:eZ k a b=some n:=hn;unfold eZ at ic;split at ic
   ·cases ic
   ·rename_i hb;cases ic;exact .mk (by simp[binOp,Op.shift,hb]) fun av=>.int _ _
  ·rename_i h1 h2;split
   ·rename_i hk;subst hk;exact af5 _ T k a b h1 h2
   ·exact .fail
 ·rename_i s t hxe hye;rw[hxe] at hx;rw[hye] at hy;obtain⟨a,ha,hs⟩:=gh hx;obtain⟨b,hb,aw⟩:=gh hy;subst hs aw;refine plain (by rw[ha,hb];exact ab6 _ _ _ _ _ _) ?_
  rw[ha,hb];exact af3 op T a b
 ·rename_i a b hxe hye;rw[hxe] at hx;rw[hye] at hy;unfold TX;split
  ·rename_i bh;rw[bh] at bL;split
   ·refine plain (by rw[jg hx,jg hy];exact Mv _ _ _ _ _ _) (Holds.ok ?_)
    rw[jg hx,jg hy];exact .mk (run_eql_bool bL.1 _ _) fun av=>.bool _
   ·refine plain (by rw[jg hx,jg hy];exact Mv _ _ _ _ _ _) (Holds.ok ?_)
    rw[jg hx,jg hy];exact .mk (run_neq_bool bL.1 _ _) fun av=>.bool _
   ·exact .fail
  ·exact .fail
 ·rename_i xs bg hxe hye;rw[hxe] at hx;rw[hye] at hy;unfold U1;split
  ·rename_i bO n z bh;rw[bh] at bL;cases hl:xs.length.beq n&&qn z xs with
   |false=>exact .fail
   |true=>
    simp only[cond_true];simp only[Bool.and_eq_true] at hl;have fY:=Nat.eq_of_beq_eq_true hl.1;split
    ·rename_i b hb;obtain⟨vs,hv,o7,o6⟩:=hx;obtain⟨us,hu,KF,KE⟩:=hy;have th:=aei hb ⟨o7,o6⟩ ⟨KF,KE⟩;obtain⟨fields,fi,_,⟨fG,hz,_,_⟩,b0⟩:=bL;obtain⟨hg,Jo⟩:=b0 rfl;have:=Jo vs us b w th (aji hl.2 ⟨o7,o6⟩);split
     ·refine plain ?_ (Holds.ok ?_)
      ·rw[hv,hu];simp[eqGuard,hg]
      ·rw[hv,hu];refine .mk (vv:=.bool b) ?_ fun av=>.bool _
       show((do pure (.bool (<-Op.equal T (.agg vs.toArray) (.agg us.toArray)))):Sem Value).run P w=_
       simp only[Sem.run_bind,this,Result.andThen_ok,Sem.run_pure]
     ·refine plain ?_ (Holds.ok ?_)
      ·rw[hv,hu];simp[eqGuard,hg]
      ·rw[hv,hu];refine .mk (vv:=.bool (!b)) ?_ fun av=>.bool _
       show((do pure (.bool (!(<-Op.equal T (.agg vs.toArray) (.agg us.toArray))))):Sem Value).run P w=_
       simp only[Sem.run_bind,this,Result.andThen_ok,Sem.run_pure]
     ·exact .fail
    ·exact .fail
  ·exact .fail
 ·exact .fail
theorem ac5{T:TypeId}{iC:Array (String×TypeId)}(aw:P.underlying T=some (.interface iC))(gg:TypeId)(cP:Option Int)(v:Value)(hv:v=match cP with|none=>.nilIface|some n=>.iface gg (.agg #[.int .i64 n])):
  (Op.equal T v .nilIface).run P w=.ok cP.isNone w:=by
 have h:∀d:Nat,(Op.equalIn (d+1) T v .nilIface).run P w=.ok cP.isNone w:=fun d=>by
  subst hv;cases cP<;>simp[Op.equalIn,run_underlying aw]
 exact h 9999
theorem ag9(S:aq U Y X D st M w){C:Ctx}(H:CtxOk P C){op:BinOp}{T mY:TypeId}{x y:Operand}(aL:B.op=.binOp op T x y mY)(Z:cf st B.dst=true)(hn:Au y=true):
  Holds (Ik op (C.tt T) (bd C st T x)) (cz P U Y X st M w B):=by
 have hy:y=.const .nilIface:=by
  unfold Au at hn;split at hn
  ·rfl
  ·cases hn
 subst hy;have hx:=dn S C T x;have bL:=H.tt T;have key:∀(gg:TypeId) (cP:Option Int),(Act.eval ⟨M,[]⟩ x=match cP with|none=>.nilIface|some n=>.iface gg (.agg #[.int .i64 n]))->Holds (Bl op (C.tt T) cP) (cz P U Y X st M w B):=by
  intro gg cP hv;unfold Bl;split
  ·rename_i bh;rw[bh] at bL;obtain⟨iC,bL⟩:=bL;have he:=ac5 (P:=P) (w:=w) bL.1 gg cP _ hv;have hg:(eqGuard op T x (.const .nilIface) (Act.eval ⟨M,[]⟩ x) .nilIface).run P w=.ok () w:=by
    rw[hv];cases cP<;>cases op<;>simp[eqGuard]
   split
   ·refine Holds.ok (dy S Z (vv:=.bool cP.isNone) ?_ (.bool _));unfold execOp;simp only[aL,Act.eval,Sem.run_bind,Result.andThen_ok,Sem.run_pure] at hg ⊢;rw[hg];simp only[Result.andThen_ok];have:(binOp .eql T (Act.eval ⟨M,[]⟩ x) .nilIface).run P w=.ok (.bool cP.isNone) w:=by
     have e:binOp .eql T (Act.eval ⟨M,[]⟩ x) .nilIface=(do pure (.bool (<-Op.equal T (Act.eval ⟨M,[]⟩ x) .nilIface))):=by rw[hv];cases cP<;>rfl
     rw[e];simp only[Sem.run_bind,he,Result.andThen_ok,Sem.run_pure]
    simp only[Act.eval] at this;rw[this];rfl
   ·refine Holds.ok (dy S Z (vv:=.bool cP.isSome) ?_ (.bool _));unfold execOp;simp only[aL,Act.eval,Sem.run_bind,Result.andThen_ok,Sem.run_pure] at hg ⊢;rw[hg];simp only[Result.andThen_ok];have:(binOp .neq T (Act.eval ⟨M,[]⟩ x) .nilIface).run P w=.ok (.bool cP.isSome) w:=by
     have e:binOp .neq T (Act.eval ⟨M,[]⟩ x) .nilIface=(do pure (.bool (!(<-Op.equal T (Act.eval ⟨M,[]⟩ x) .nilIface)))):=by rw[hv];cases cP<;>rfl
     rw[e];simp only[Sem.run_bind,he,Result.andThen_ok,Sem.run_pure];cases cP<;>rfl
    simp only[Act.eval] at this;rw[this];rfl
   ·exact .fail
  ·exact .fail
 unfold Ik;split
 ·rename_i gg cP hxe;rw[hxe] at hx;have hx:bF w (aH X D st.sites) (.err gg cP) (Act.eval ⟨M,[]⟩ x):=hx;exact key gg cP (by revert hx;generalize Act.eval ⟨M,[]⟩ x=vv;intro hx;cases hx<;>rfl)
 ·rename_i hxe;rw[hxe] at hx;exact key 0 none hx
 ·exact .fail
theorem acb(S:aq U Y X D st M w){C:Ctx}(H:CtxOk P C){T:TypeId}{x:Operand}{n:Int}{bO z q e}(aL:B.op=.makeInterface T x)(Z:cf st B.dst=true)(bh:C.tt T=.struct bO q z e)
  (hx:bd C st T x=.av (.agg [.d (.int .i64 n)])):cz P U Y X st M w B (one (.err T (some n))) []:=by
 have bL:=H.tt T;rw[bh] at bL;obtain⟨fields,hu,_⟩:=bL;have bw:=dn S C T x;rw[hx] at bw;obtain⟨vs,h1,h2,h3⟩:=bw;match vs,h2,h1,h3 with
 |[v],_,h1,h3=>
  have hv:=h4 (h3 0 (by simp) (by simp))
  simp only[List.getElem_cons_zero] at hv;subst hv;refine dy S Z (vv:=.iface T (.agg #[.int .i64 n])) ?_ (.err _ _);unfold execOp;simp[aL,Instr.makeInterface,run_underlying hu,h1]
end
section
variable {P:Program}{U:World}{Y:List Nat}{X:Nat->Prop}{D:Nat->Value}{st:al}{M:Array Value}{w:World}{B:Oper}
theorem rM(xs:List Int):flat .u8 xs=xs.map (be.int .u8):=by
 unfold flat;induction xs with
 |nil=>rfl
 |cons x xs ih=>simp only[List.flatMap_cons,List.map_cons,ih];rfl
theorem SN{w:World}{av:Nat->Prop}{xs:List Int}{cs:List Value}(h:cO w av (flat .u8 xs) cs):cs=xs.map (Value.int .u8):=by
 obtain⟨h1,h2⟩:=h;rw[rM] at h1;apply List.ext_getElem
 ·rw[h1];simp
 ·intro j g1 g2;have g3:j<xs.length:=by simpa using g2
  have:=h2 j (by rw[rM];simpa using g3) g1
  have e:(flat .u8 xs)[j]'(by rw[rM];simpa using g3)=be.int .u8 xs[j]:=by simp[rM]
  rw[e] at this;rw[h4 this];simp
theorem MI{src dst e:TypeId}{a:Addr}{len cap:Nat}{xs:List Int}(hs:P.underlying src=some (.slice e))(he:P.underlying e=some (.int .u8))(Z:P.underlying dst=some .string)
  (hlen:xs.length=len) (hc:∀j u,(xs.map (Value.int .u8))[j]? =some u->w.cell? (a.add j)=some u):
  ∃b:ByteArray,(convert src dst (.slice (some a) len cap)).run P w=.ok (.string b) w/\b.data.toList=strOf xs:=by
 have hl:(loadCells a len).run P w=.ok (xs.map (Value.int .u8)).toArray w:=by
  have:=run_loadCells_list (P:=P) w a (xs.map (Value.int .u8)) hc;simpa[hlen] using this
 rw[run_convert_bytes_string w src dst e _ len cap hs he Z,run_bytesToString w a len cap xs hl,foldl_push_bytes];exact⟨_,rfl,by simp[strOf]⟩
theorem xb{ti:b7}(h:isByte ti=true):ti=.int .u8:=by
 unfold isByte at h;split at h
 ·rfl
 ·cases h
theorem ahj(s:J):(bytesOf s).length=s.length:=by simp[bytesOf]
theorem aju(S:aq U Y X D st M w){C:Ctx}(H:CtxOk P C){src dst:TypeId}{x:Operand}{o:Nat}(aL:B.op=.convert src dst x)(dp:B.dst=some o)(Z:cf st B.dst=true):
  Holds (sz C src dst o st (bd C st src x)) (cz P U Y X st M w B):=by
 have bw:=dn S C src x;have hs:=H.tt src;have aw:=H.tt dst;have run:∀{vv:Value} {w':World},(convert src dst (Act.eval ⟨M,[]⟩ x)).run P w=.ok vv w'->(execOp (Act.eval ⟨M,[]⟩) B).run P w=.ok (.value vv) w':=by
  intro vv w' h;unfold execOp;simp only[aL,Sem.run_bind,h,Result.andThen_ok,Sem.run_pure]
 have qt:∀{ti:b7},ti.ok P src->ti≠.none->∃d,P.underlying src=some d:=by
  intro ti h hn;cases ti with
  |none=>exact absurd rfl hn
  |int k=>exact⟨_,h.1⟩
  |bool=>exact⟨_,h.1⟩
  |str=>exact⟨_,h.1⟩
  |ptr=>obtain⟨_,h⟩:=h;exact⟨_,h.1⟩
  |func=>obtain⟨_,_,_,h⟩:=h;exact⟨_,h.1⟩
  |iface=>obtain⟨_,h⟩:=h;exact⟨_,h.1⟩
  |slice e t b=>exact⟨_,h.1.1⟩
  |map k e t=>exact⟨_,h.1.1⟩
  |struct bO n z eq=>obtain⟨f,h,_⟩:=h;exact⟨_,h⟩
  |arr e t n=>exact⟨_,h.1⟩
 unfold sz;split
 ·exact .fail
 ·rename_i k k' n hk hx hn;rw[hx] at bw;rw[hk] at aw;obtain⟨d,qJ⟩:=qt hs (by rintro h;exact absurd h (by simpa using hn))
  refine Holds.ok (dy S Z (run (vv:=.int k (k.wrap n)) ?_) (.int _ _));rw[h4 bw];simp[convert,run_underlying qJ,run_underlying aw.1,Conv.intToInt]
 ·rename_i s hk hx hn;rw[hx] at bw;rw[hk] at aw;obtain⟨b,hb,ej⟩:=gh bw;obtain⟨d,qJ⟩:=qt hs (by rintro h;exact absurd h (by simpa using hn))
  refine Holds.ok (dy S Z (run (vv:=.string b) ?_) (.str _ _ ej));rw[hb];simp[convert,run_underlying qJ,run_underlying aw.1]
 ·rename_i e b xs e4 p_ hx;cases jz:isByte (C.tt e) with
  |false=>exact .fail
  |true=>
   rw[hx] at bw;rw[p_] at aw;rw[e4] at hs;have he:=H.tt e;rw[xb jz] at he;have bw:bF w (aH X D st.sites) (.sl .u8 xs) (Act.eval ⟨M,[]⟩ x):=bw;have:∃b:ByteArray,(convert src dst (Act.eval ⟨M,[]⟩ x)).run P w=.ok (.string b) w/\b.data.toList=strOf xs:=by
    generalize Act.eval ⟨M,[]⟩ x=v at bw;cases bw with
    |nil=>exact⟨_,run_convert_bytes_nil w src e hs.1.1 he.1 _ _ dst aw.1,rfl⟩
    |sl _ _ a cap cs n hn hcap hb hl hc hr=>
     have:=SN (xs:=xs) ⟨hl,hr⟩;subst this;exact MI hs.1.1 he.1 aw.1 hn.symm hc
   obtain⟨b,h1,h2⟩:=this;exact Holds.ok (dy S Z (run h1) (.str _ _ h2))
 ·rename_i e b u e4 p_ hx;cases jz:isByte (C.tt e) with
  |false=>exact .fail
  |true=>
   rw[hx] at bw;rw[p_] at aw;rw[e4] at hs;have he:=H.tt e;rw[xb jz] at he;have bw:Act.eval ⟨M,[]⟩ x=.slice none 0 0:=bw;refine Holds.ok (dy S Z (run (vv:=.string ByteArray.empty) ?_) (.str _ _ rfl));rw[bw];exact run_convert_bytes_nil w src e hs.1.1 he.1 _ _ dst aw.1
 ·rename_i e b ab s e4 p_ hx;split
  ·rename_i xs hrow;cases jz:isByte (C.tt e) with
   |false=>exact .fail
   |true=>
    rw[hx] at bw;rw[p_] at aw;rw[e4] at hs;have he:=H.tt e;rw[xb jz] at he;have hv:=Ro bw hrow;have:∃b:ByteArray,(convert src dst (Act.eval ⟨M,[]⟩ x)).run P w=.ok (.string b) w/\b.data.toList=strOf xs:=by
     rw[hv];obtain⟨cs,h1,hc⟩:=S.row hrow;rcases hc with⟨h2,h3⟩|⟨bG,c,h2,h3,aE⟩
     ·subst h3;rw[h2];exact⟨_,run_convert_bytes_nil w src e hs.1.1 he.1 _ _ dst aw.1,rfl⟩
     ·have:=SN (xs:=xs) (iL h1);subst this;rw[h2];exact MI hs.1.1 he.1 aw.1 rfl (fun j u hu=>by rw[gC];exact h3 j u hu)
    obtain⟨b,h1,h2⟩:=this;exact Holds.ok (dy S Z (run h1) (.str _ _ h2))
  ·exact .fail
 ·rename_i e b s e4 p_ hx;cases jz:isByte (C.tt e) with
  |false=>exact .fail
  |true=>
   rw[hx] at bw;rw[p_] at aw;rw[e4] at hs;have he:=H.tt e;rw[xb jz] at he;obtain⟨gw,hb,ej⟩:=gh bw;have df:(convert src dst (Act.eval ⟨M,[]⟩ x)).run P w=.ok (.slice (some ⟨w.heap.size,0,none⟩) gw.size (grownCap w gw.size 0 e)) (Go.Lib.bytesWorld w e gw):=by
    rw[hb];exact Go.Lib.run_convert_string_bytes w src dst e gw hs.1 aw.1.1 he.1
   have hcap:gw.size<=grownCap w gw.size 0 e:=grownCap_ge w gw.size 0 e;refine Holds.g_ fun r hr=>?_
   have hmax:gw.size<=maxLen:=by
    have hr:(if s.length<=maxLen then some () else none)=some r:=hr
    split at hr
    ·rename_i h;rw[<-ej] at h;simpa using h
    ·cases hr
   have hsz:(Go.Lib.bytesCells w e gw).size=grownCap w gw.size 0 e:=by
    simp only[Go.Lib.bytesCells,Array.size_append,Array.size_map,Array.size_replicate];have:gw.data.size=gw.size:=rfl;omega
   have hlen:gw.size=(bytesOf s).length:=by rw[ahj,<-ej];rfl
   have eD:aq U Y X (fun ab=>if ab=o then .slice (some ⟨w.heap.size,0,none⟩) gw.size (grownCap w gw.size 0 e) else D ab) {st with sites:=ci st.sites o (.row (bq st o) .u8 (bytesOf s))} M (Go.Lib.bytesWorld w e gw):=by
    refine S.make (fun b hb=>Go.Lib.bytesWorld_at_old w e gw b hb) rfl rfl rfl (by rw[Go.Lib.bytesWorld_size];omega) (fun ae hs=>lC hs)
     (fun b hb=>by cases hb;exact⟨Nat.le_refl _,by rw[Go.Lib.bytesWorld_size];exact Nat.lt_succ_self _⟩) ?_
    intro bU aW fu jT go azF azM;refine⟨e,gw.data.toList.map fun b=>Value.int .u8 b.toNat,⟨?_,.inr ⟨_,_,Go.Lib.bytesCells w e gw,_,jT.trans (by rw[hlen]),⟨(fun h=>by obtain⟨_,z,_,_,gu⟩:=aw;exact gu h),.inr ⟨rfl,Nat.le_refl _⟩⟩,Go.Lib.bytesWorld_at_new w e gw,by rw[<-hlen];exact hcap,grownCap_le_maxLen w gw.size 0 e hmax,?_,?_⟩⟩,fun j g1 g2=>?_⟩
    ·rw[List.length_map,<-hlen];exact(Nat.mul_one _).symm
    ·rw[hsz];exact(Nat.mul_one _).symm
    ·have h1:(bytesOf s).length*bb .u8=(gw.data.toList.map fun b=>Value.int .u8 b.toNat).length:=by rw[List.length_map,<-hlen];exact Nat.mul_one _
     rw[h1];simp only[Go.Lib.bytesCells,Array.toList_append,Array.toList_map];exact List.take_left
    ·subst ej;simp only[rM,bytesOf,List.getElem_map];exact .int _ _
   refine kL (us:=[(o,.row (bq st o) .u8 (bytesOf s))]) eD Z (run df) ?_
   refine⟨rfl,Ref.mk (ae:=.row (bq st o) .u8 (bytesOf s)) ?_ rfl (by simp)⟩
   simp only[bp,cR];simp
 ·exact .fail
end
section
variable {P:Program}{U:World}{Y:List Nat}{X:Nat->Prop}{D:Nat->Value}{st:al}{M:Array Value}{w:World}{B:Oper}
theorem Rt(S:aq U Y X D st M w){C:Ctx}{x:Operand}(aL:B.op=.move x\/B.op=.assign x)(Z:cf st B.dst=true)(T:TypeId):cz P U Y X st M w B (bd C st T x) []:=by
 refine dy S Z (vv:=Act.eval ⟨M,[]⟩ x) ?_ (dn S C T x);unfold execOp;rcases aL with h|h<;>simp only[h,Sem.run_pure]
theorem Rl(S:aq U Y X D st M w){C:Ctx}{c a b:Operand}{t:Bool}{T:TypeId}(aL:B.op=.pick c a b)(Z:cf st B.dst=true)(hc:bd C st T c=.av (.am (.d (.bool t)))):
  cz P U Y X st M w B (bd C st T (if t then a else b)) []:=by
 refine dy S Z (vv:=Act.eval ⟨M,[]⟩ (if t then a else b)) ?_ (dn S C T _)
 unfold execOp;have:=Hq S hc;cases t<;>simp[aL,this,asBool]
theorem adD(S:aq U Y X D st M w){C:Ctx}{x:Operand}{t:Bool}{T dL:TypeId}(aL:B.op=.unOp .not dL x)(Z:cf st B.dst=true)(hc:bd C st T x=.av (.am (.d (.bool t)))):
  cz P U Y X st M w B (one (.bool (!t))) []:=by
 refine dy S Z (vv:=.bool (!t)) ?_ (.bool _);unfold execOp;simp[aL,Hq S hc,Op.unary]
theorem adE(S:aq U Y X D st M w){C:Ctx}{x:Operand}{k:IntKind}{n:Int}{T dL:TypeId}(aL:B.op=.unOp .neg dL x)(Z:cf st B.dst=true)(hc:bd C st T x=.av (.am (.d (.int k n)))):
  cz P U Y X st M w B (one (.int k (k.wrap (0-n)))) []:=by
 refine dy S Z (vv:=.int k (k.wrap (0-n))) ?_ (.int _ _);unfold execOp;simp[aL,jL S hc,Op.unary,Op.intArith]
theorem Dw(S:aq U Y X D st M w){C:Ctx}{x:Operand}{v:aZ}{T:TypeId}(aL:B.op=.nilCheck x)(Z:cf st B.dst=true)(hc:bd C st T x=v)
  (hv:∀vv,b_ D st.sites w (aH X D st.sites) v vv->∃a,vv=.pointer (some a)):cz P U Y X st M w B v []:=by
 have:=dn S C T x;rw[hc] at this;obtain⟨a,ha⟩:=hv _ this;refine dy S Z (vv:=Act.eval ⟨M,[]⟩ x) ?_ this;unfold execOp;simp[aL,ha]
theorem afa(S:aq U Y X D st M w){C:Ctx}{x:Operand}{i:Nat}{as:List bP}{a:bP}{T:TypeId}(aL:B.op=.extract x i)(Z:cf st B.dst=true)(hc:bd C st T x=.ju as)(ha:as[i]? =some a):
  cz P U Y X st M w B (.av a) []:=by
 have bw:=dn S C T x;rw[hc] at bw;obtain⟨vs,h1,h2,h3⟩:=bw;obtain⟨hi,av5⟩:=List.getElem?_eq_some_iff.1 ha;have iX:i<vs.length:=by omega
 refine dy S Z (vv:=vs[i]) ?_ (by rw[<-av5];exact h3 i hi iX)
 unfold execOp;simp[aL,h1,Instr.extract,iX]
theorem OY(S:aq U Y X D st M w){C:Ctx}{x y:Operand}{k k':IntKind}{a b:Int}{T:TypeId}{sv:Bool}{cL:Array TypeId}(aL:B.op=.call {callee:=.builtin (if sv then .max else .min),args:=#[x,y],argTypes:=cL})(Z:cf st B.dst=true)
  (hx:bd C st T x=.av (.am (.d (.int k a)))) (hy:bd C st T y=.av (.am (.d (.int k' b)))):cz P U Y X st M w B (one (.int k (if sv then gp a b else ld a b))) []:=by
 refine dy S Z (vv:=.int k (if sv then gp a b else ld a b)) ?_ (.int _ _)
 unfold execOp;cases sv<;>simp[aL,resolve,invoke,builtin,jL S hx,jL S hy,Builtin.max_,Builtin.min_,Builtin.max2,Builtin.min2,gp,ld]
theorem ala(S:aq U Y X D st M w){C:Ctx}{x y z u v:Operand}{k aD aF bI cJ:IntKind}{a b c d e:Int}{T:TypeId}{cL:Array TypeId}(aL:B.op=.call {callee:=.builtin .max,args:=#[x,y,z,u,v],argTypes:=cL})(Z:cf st B.dst=true)
  (hx:bd C st T x=.av (.am (.d (.int k a)))) (hy:bd C st T y=.av (.am (.d (.int aD b)))) (hz:bd C st T z=.av (.am (.d (.int aF c)))) (hu:bd C st T u=.av (.am (.d (.int bI d)))) (hv:bd C st T v=.av (.am (.d (.int cJ e)))):
  cz P U Y X st M w B (one (.int k (gp (gp (gp (gp a b) c) d) e))) []:=by
 refine dy S Z (vv:=.int k (gp (gp (gp (gp a b) c) d) e)) ?_ (.int _ _);unfold execOp;simp[aL,resolve,invoke,builtin,jL S hx,jL S hy,jL S hz,jL S hu,jL S hv,Builtin.max_,Builtin.max2,gp]
theorem ajv(S:aq U Y X D st M w){C:Ctx}:∀{xs:List Operand} {bA:List (Nat×Nat)},step.nC C st xs=some bA->xs.length=bA.length/\
  ∀i (h:i<bA.length) (aj:i<xs.length),Ref st.sites (bA[i]).1 (bA[i]).2 (Act.eval ⟨M,[]⟩ (xs[i])=D (bA[i]).1):=by
 intro xs;induction xs with
 |nil=>intro bA h;simp only[step.nC] at h;cases h;exact⟨rfl,fun i h=>by simp at h⟩
 |cons x xs ih=>
  intro bA h;simp only[step.nC] at h;split at h
  ·rename_i o s l hx hl;cases h;obtain⟨h1,h2⟩:=ih hl;refine⟨by simp[h1],fun i g1 g2=>?_⟩
   cases i with
   |zero=>
    have:=dn S C 0 x;rw[hx] at this;obtain⟨b,hb,ae,r1,r2,c_⟩:=this;exact⟨ae,r1,r2,fun e=>by simp only[List.getElem_cons_zero];rw[hb,c_ e]⟩
   |succ i=>simpa using h2 i (by simpa using g1) (by simpa using g2)
  ·cases h
theorem ad1(S:aq U Y X D st M w){C:Ctx}{g:FuncId}{first captured:Array Operand}{bA:List (Nat×Nat)}(aL:B.op=.makeFunc (.func g) first captured)(Z:cf st B.dst=true)(hf:first.toList.isEmpty=true)
  (hc:step.nC C st captured.toList=some bA):cz P U Y X st M w B (bZ (.clo g bA)) []:=by
 obtain⟨h1,h2⟩:=ajv S hc;refine dy S Z (vv:=.func (.func g) #[] (captured.toList.map (Act.eval ⟨M,[]⟩)).toArray) ?_ ⟨captured.toList.map (Act.eval ⟨M,[]⟩),rfl,by simpa using h1,fun i g1 g2=>?_⟩
 ·have:first=#[]:=by simpa using hf
  unfold execOp;simp only[aL,Instr.makeFunc,Sem.run_bind,Sem.run_pure,Result.andThen_ok,this];simp;apply Array.ext';simp
 ·have:=h2 i g1 (by simpa using g2)
  simpa using this
theorem Ph(S:aq U Y X D st M w){C:Ctx}{bO:List (Nat×Nat)}:∀(parts:List (Nat×Operand)) (z:List aP) (cells:Array Value),cm D st.sites w (aH X D st.sites) z cells.toList->
  Holds (step.mv C st bO z parts) (fun v us=>us=[]/\∃jh,Instr.fill (bO.toArray[·]?) cells (parts.map fun p=>(p.1,Act.eval ⟨M,[]⟩ p.2))=some jh/\b_ D st.sites w (aH X D st.sites) v (.agg jh)):=by
 intro parts;induction parts with
 |nil=>intro z cells h;exact Holds.ok ⟨rfl,cells,rfl,cells.toList,by simp,h.1,h.2⟩
 |cons p parts ih=>
  obtain⟨i,x⟩:=p;intro z cells h;simp only[step.mv];split
  ·rename_i off n a hf ha;cases hb:(a.cells.length.beq n&&gU a.cells&&Nat.ble (off+n) z.length) with
   |false=>exact .fail
   |true=>
    simp only[cond_true];simp only[Bool.and_eq_true] at hb;obtain⟨⟨b1,b2⟩,b3⟩:=hb;have b1:=Nat.eq_of_beq_eq_true b1;have b3:=Nat.le_of_ble_eq_true b3;have bw:=dn S C 0 x;rw[px ha] at bw;have Aw:=gL.cells (bw:gL D st.sites w _ a _) b2;have hsz:(Act.eval ⟨M,[]⟩ x).cells.size=n:=by rw[<-b1,<-Aw.1];simp
    have hle:off+(Act.eval ⟨M,[]⟩ x).cells.size<=cells.size:=by
     have:=h.1;simp at this;omega
    have:=ih (Jk.bM z off a.cells) (Jk.bM cells.toList off (Act.eval ⟨M,[]⟩ x).cells.toList).toArray (by simpa using cm.bM off h Aw)
    intro y hy hc;obtain⟨g1,jh,g2,g3⟩:=this y hy hc;refine⟨g1,jh,?_,g3⟩;simp only[List.map_cons,Instr.fill];have K4:bO.toArray[i]? =some (off,n):=by simpa using hf
    simp only[K4];have c1:¬((Act.eval ⟨M,[]⟩ x).cells.size≠n\/off+(Act.eval ⟨M,[]⟩ x).cells.size>cells.size):=by omega
    have c2:(decide ((Act.eval ⟨M,[]⟩ x).cells.size≠n)||decide (off+(Act.eval ⟨M,[]⟩ x).cells.size>cells.size))=false:=by
     simp;omega
    have oV:off+n<=cells.size:=by omega
    rw[Nn _ _ _ hle];simp only[Bool.decide_or,hsz] at*;simpa[c2,oV] using g2
  ·exact .fail
theorem ajx(S:aq U Y X D st M w){C:Ctx}(H:CtxOk P C){T:TypeId}{parts:Array (Nat×Operand)}{bO:List (Nat×Nat)}{n:Nat}{z:List aP}{eq:Bool}(bh:C.tt T=.struct bO n z eq)(aL:B.op=.build T parts)
  (Z:cf st B.dst=true):Holds (step.mv C st bO z parts.toList) (cz P U Y X st M w B):=by
 have bL:=H.tt T;rw[bh] at bL;obtain⟨fields,fi,⟨hf,_⟩,⟨fG,hz,hzz,Cp⟩,_⟩:=bL;obtain⟨aD,aF,bI⟩:=tI hzz;intro y hy hc;obtain⟨g1,jh,g2,g3⟩:=Ph S parts.toList z fG ⟨aD,fun j h aj=>bI _ _ _ _ j h aj⟩ y hy hc
 rw[g1];refine dy S Z (vv:=.agg jh) ?_ g3;cases hi:P.info? T with
 |none=>simp[hi] at hz
 |some it=>
  simp only[hi,Option.map_some,Option.some.injEq,Prod.mk.injEq] at hz;have hb:P.built T (parts.toList.map fun p=>(p.1,Act.eval ⟨M,[]⟩ p.2))=some jh:=by
   unfold Program.built;simp only[hi,fi,hz.2,hf];exact g2
  have dP:P.built T (parts.map fun p=>(p.1,Act.eval ⟨M,[]⟩ p.2)).toList=some jh:=by simpa using hb
  unfold execOp;simp only[aL,Sem.run_bind,run_build w T _ jh dP,Result.andThen_ok,Sem.run_pure]
end
def mr(w:World)(b:Nat)(B:Obj):World:={w with heap:=w.heap.setIfInBounds b B}
theorem Q0{b:ByteArray}{l:J}(h:b.data.toList=l):Value.string b=gG l:=by
 subst h;rfl
def k0{aI:Type}:List (J×aI)->J->Nat->Option (Nat×aI)
 |[],_,_=>none
 |(k,v)::r,n,i=>bif k==n then some (i,v) else k0 r n (i+1)
theorem agP{aI:Type}(n:J):∀(es:List (J×aI)) (i:Nat),(k0 es n i).map (·.2)=kb es n:=by
 intro es;induction es with
 |nil=>intro i;rfl
 |cons p es ih=>
  intro i;simp only[k0,kb];cases p.1==n with
  |true=>rfl
  |false=>exact ih (i+1)
theorem ad0{aI:Type}(n:J)(v:aI):∀(es:List (J×aI)) (i:Nat),k0 es n i=none->oE es n v=es++[(n,v)]:=by
 intro es;induction es with
 |nil=>intro i _;rfl
 |cons p es ih=>
  intro i h;simp only[k0] at h;simp only[oE];cases hp:(p.1==n) with
  |true=>rw[hp] at h;cases h
  |false=>rw[hp] at h;simp only[cond_false,ih (i+1) h,List.cons_append]
theorem ae5{aI:Type}(n:J)(v:aI):∀(es:List (J×aI)) (i j:Nat) (v0:aI),k0 es n i=some (j,v0)->i<=j/\(∃p,es[j-i]? =some p/\p.1=n)/\oE es n v=es.modify (j-i) fun p=>(p.1,v):=by
 intro es;induction es with
 |nil=>intro i j v0 h;cases h
 |cons p es ih=>
  intro i j v0 h;simp only[k0] at h;simp only[oE];cases hp:(p.1==n) with
  |true=>
   rw[hp] at h;cases h;refine⟨Nat.le_refl _,⟨p,by simp,eq_of_beq hp⟩,?_⟩
   simp
  |false=>
   rw[hp] at h;obtain⟨h1,⟨q,h2,h3⟩,aE⟩:=ih (i+1) j v0 h;have e:j-i=(j-(i+1))+1:=by omega
   refine⟨by omega,⟨q,by rw[e];simpa using h2,h3⟩,?_⟩
   rw[e,cond_false,aE,List.modify_succ_cons]
theorem No{t:bc}(n:J):∀(es:List (J×den t)) (iC:List MapEntry) (i:Nat),iC.map (fun e=>(e.key,e.val))=jP t es->
  Instr.findNow .string (gG n) iC i=some ((k0 es n i).map fun p=>(p.1,m_ t p.2))
 |[],iC,i,h=>by
  have:iC=[]:=by simpa[jP] using h
  subst this;rfl
 |(k,v)::es,[],i,h=>by simp[jP] at h
 |(k,v)::es,m::iC,i,h=>by
  simp only[jP,List.map_cons,List.cons.injEq,Prod.mk.injEq] at h;obtain⟨⟨h1,h2⟩,h3⟩:=h;have ih:=No n es iC (i+1) h3;have hs:Instr.sameNow .string (gG n) m.key=some (k==n):=by
   rw[h1];show some ((⟨n.toArray⟩:ByteArray)==⟨k.toArray⟩)=_;rw[bytes_beq];congr 1
   rw[Bool.eq_iff_iff];simp only[beq_iff_eq];exact eq_comm
  unfold Instr.findNow k0;rw[hs];cases k==n with
  |true=>simp only[cond_true,Option.map_some,h2]
  |false=>simp only[cond_false];exact ih
section
variable {P:Program}{w:World}{hF kE T:TypeId}{t:bc}
theorem aeI{hF:TypeId}(hk:P.underlying hF=some .string)(c:Bool)(s:J)(n:Nat):(Instr.checkKey c (n+1) hF (gG s)).run P w=.ok () w:=by
 simp[Instr.checkKey,run_underlying hk,gG,Result.andThen]
theorem tP{hF:TypeId}(hk:P.underlying hF=some .string)(c:Bool)(s:J):(Instr.checkKey c 10000 hF (gG s)).run P w=.ok () w:=aeI hk c s 9999
theorem x_{hF:TypeId}(hk:P.underlying hF=some .string){es:List (J×den t)}{arr:Array MapEntry}(h:mu arr=jP t es)(n:J):
  (Instr.findKey hF (gG n) arr.toList).run P w=.ok ((k0 es n 0).map fun p=>(p.1,m_ t p.2)) w:=by
 simp[Instr.findKey,run_underlying hk,No n es arr.toList 0 h,Result.andThen]
theorem af4(s:J):(Instr.keyThatStays (gG s) (gG s)).run P w=.ok (gG s) w:=by
 have:Instr.sameBits 10000 (gG s) (gG s)=true:=by
  show((⟨s.toArray⟩:ByteArray)==⟨s.toArray⟩)=true;rw[bytes_beq];simp
 simp[Instr.keyThatStays,this]
theorem aoE{t:bc}{d:be}{x:den t}{v:Value}{av:Nat->Prop}(h:IU t d=some x)(hr:bF w av d v):v=m_ t x:=by
 unfold IU at h;split at h
 ·cases h;cases hr;rfl
 ·cases h;cases hr;rfl
 ·cases h
theorem aeG(bh:P.underlying T=some (.map hF kE))(hk:P.underlying hF=some .string){b:Nat}{arr:Array MapEntry}{clock:Nat}{es:List (J×den t)}(hb:w.heap[b]? =some (.map arr clock))(he:mu arr=jP t es)(n:J)(x:den t):
  ∃oY oH,(Instr.mapUpdate T (.map (some b)) (gG n) (m_ t x)).run P w=.ok () (mr w b (.map oY oH))/\mu oY=jP t (oE es n x):=by
 cases hm:k0 es n 0 with
 |none=>
  refine⟨arr.push ⟨gG n,m_ t x,clock⟩,clock+1,?_,?_⟩
  ·have hf:=x_ (w:=w) hk he n;rw[hm] at hf;simp[Instr.mapUpdate,run_underlying bh,MapKept.run_getObj_map hb,tP hk,hf,MapKept.run_setObj_map _ hb,Result.andThen,mr]
  ·rw[ad0 n x es 0 hm];unfold mu jP at he ⊢;simp[he]
 |some p=>
  obtain⟨j,v0⟩:=p;obtain⟨_,⟨q,h2,h3⟩,aE⟩:=ae5 n x es 0 j v0 hm;rw[Nat.sub_zero] at h2 aE;have hlen:arr.size=es.length:=lS.size (b:=b) he;have hj:j<arr.size:=by rw[hlen];exact(List.getElem?_eq_some_iff.1 h2).1
  have arq:((arr[j]?).map (·.key)).getD (gG n)=gG n:=by
   have bi:=congrArg (fun l=>l[j]?) he
   simp only[mu,jP,List.getElem?_map,h2,Option.map_some,Array.getElem?_toList] at bi;cases ha:arr[j]? with
   |none=>rfl
   |some e=>
    rw[ha] at bi;simp only[Option.map_some,Option.some.injEq,Prod.mk.injEq] at bi;simp[bi.1,h3]
  refine⟨arr.modify j fun e=>{e with key:=gG n,val:=m_ t x},clock,?_,?_⟩
  ·have hf:=x_ (w:=w) hk he n;rw[hm] at hf;simp[Instr.mapUpdate,run_underlying bh,MapKept.run_getObj_map hb,tP hk,hf,MapKept.run_setObj_map _ hb,Result.andThen,mr,arq,af4]
  ·rw[aE];unfold mu jP at he ⊢;apply List.ext_getElem?;intro i;have bi:=congrArg (fun l=>l[i]?) he
   simp only[List.getElem?_map,Array.getElem?_toList] at bi;simp only[List.getElem?_map,Array.getElem?_toList,Array.getElem?_modify,List.getElem?_modify];by_cases pa:j=i
   ·subst pa;simp only[if_true,h2,Option.map_some,<-h3];cases ha:arr[j]? with
    |none=>rw[ha,h2] at bi;cases bi
    |some e=>rfl
   ·simp only[pa,if_false];cases ha:arr[i]? <;>cases dP:es[i]? <;>rw[ha,dP] at bi<;>simp_all
end
section
variable {P:Program}{U:World}{Y:List Nat}{X:Nat->Prop}{D:Nat->Value}{st:al}{M:Array Value}{w:World}{B:Oper}
theorem DQ(w:World)(b bG:Nat)(B:Obj)(h:bG≠b):(mr w b B).heap[bG]? =w.heap[bG]? :=by
 simp only[mr,Array.getElem?_setIfInBounds];rw[if_neg (fun e=>h e.symm)]
theorem ack(w:World)(b:Nat)(B cP:Obj)(h:w.heap[b]? =some cP):(mr w b B).heap[b]? =some B:=by
 have:=(Array.getElem?_eq_some_iff.1 h).1;simp[mr,Array.getElem?_setIfInBounds,this]
theorem aq.amR(S:aq U Y X D st M w){o s b:Nat}{t:bc}{es tn:List (J×den t)}{B:Obj}{oY:Array MapEntry}{oH:Nat}(hl:look st.sites o=some (.map s t es))(cG:D o=.map (some b))(hg:w.heap[b]? =some B)
  (he:mu oY=jP t tn):aq U Y X D {st with sites:=ci st.sites o (.map s t tn)} M (mr w b (.map oY oH)):=by
 have hbk:bN (D o)=some b:=by rw[cG];rfl
 have cB:ce st.sites o:=⟨_,hl,rfl⟩;have lV:∀ab,ce (ci st.sites o (.map s t tn)) ab <-> ce st.sites ab:=NO hl rfl;have b6:∀bG,aH X D (ci st.sites o (.map s t tn)) bG <-> aH X D st.sites bG:=by
  intro bG;unfold aH;simp only[lV]
 have hne:∀bG,¬aH X D st.sites bG->bG≠b:=by
  rintro bG h rfl;exact h (.inr ⟨o,cB,hbk⟩)
 have hsz:(mr w b (.map oY oH)).heap.size=w.heap.size:=by simp[mr]
 refine S.qc (fun ab aM bS=>?_) (fun bG h _=>DQ w b bG _ (hne bG h)) (fun bG h _=>by rw[b6];exact h) (fun go ab aM bS=>?_) (fun ab ρ bG h1 h2=>S.dW ab ρ bG ((lV ab).1 h1) ((lV ρ).1 h2))
  (fun ab bG h=>S.cg ab bG ((lV ab).1 h)) (fun ab bG h hb=>by rw[hsz];exact S.fp ((lV ab).1 h) hb) ?_ (by rw[hsz];exact Nat.le_refl _)
 ·rw[cR];by_cases e:o=ab
  ·subst e;rw[hl] at bS;cases bS;exact⟨.map s t tn,by simp,Nat.le_refl _,fun _=>rfl⟩
  ·exact⟨aM,by simp[e,bS],Nat.le_refl _,fun _=>rfl⟩
 ·rw[cR] at bS;by_cases e:o=ab
  ·subst e;simp only[if_true,Option.some.injEq] at bS;subst bS;exact .inr ⟨b,cG,oY,oH,ack w b _ _ hg,he⟩
  ·simp only[e,if_false] at bS;refine .inl ⟨bS,rfl,fun sK bG dP=>DQ w b bG _ ?_⟩
   rintro rfl;exact e (S.dW o ab _ cB ⟨aM,bS,sK⟩ hbk dP)
 ·have aR:=S.frame;refine⟨aR.os,aR.tape,aR.output,by rw[hsz];exact aR.size,fun bG h1 h2=>?_⟩
  rw[DQ w b bG _ ?_]
  ·exact aR.block bG h1 h2
  ·rintro rfl;rcases(S.cg o _ cB hbk).2 with h|h
   ·exact h2 h
   ·omega
theorem aq.makeMap(S:aq U Y X D st M w){o:Nat}{t:bc}:
  aq U Y X (fun ab=>if ab=o then .map (some w.heap.size) else D ab) {st with sites:=ci st.sites o (.map (bq st o) t [])} M (w.alloc (.map #[] 0)):=
 S.make (fun b hb=>RowKit.Below.heap_alloc w _ b hb) rfl rfl rfl (by simp) (fun ae hs=>lC hs) (fun b hb=>by cases hb;exact⟨Nat.le_refl _,by simp⟩)
  (fun hs cG go _ _=>⟨w.heap.size,cG,#[],0,heap_alloc_new w _,rfl⟩)
end
section
variable {P:Program}{U:World}{Y:List Nat}{X:Nat->Prop}{D:Nat->Value}{st:al}{M:Array Value}{w:World}{B:Oper}
theorem NJ(S:aq U Y X D st M w){T:TypeId}{hF kE:TypeId}{t:bc}{r:Option Operand}{o:Nat}(aL:B.op=.makeMap T r)(dp:B.dst=some o)(Z:cf st B.dst=true)(bh:P.underlying T=some (.map hF kE))
  (hr:∀x,r=some x->∃k n,Act.eval ⟨M,[]⟩ x=.int k n):cz P U Y X st M w B (bZ (.own o (bq st o))) [(o,.map (bq st o) t [])]:=by
 have cc:=S.makeMap (o:=o) (t:=t);refine kL (us:=[(o,.map (bq st o) t [])]) cc Z (vv:=.map (some w.heap.size)) ?_ ?_
 ·unfold execOp;cases r with
  |none=>simp[aL,Instr.makeMap]
  |some x=>
   obtain⟨k,n,hx⟩:=hr x rfl;simp[aL,Instr.makeMap,hx,run_underlying bh,asInt,asIntOf,Result.andThen]
 ·refine⟨rfl,Ref.mk (ae:=.map (bq st o) t []) ?_ rfl (by simp)⟩
  simp only[bp,cR];simp
theorem OZ(S:aq U Y X D st M w){C:Ctx}(H:CtxOk P C){T:TypeId}{m k x:Operand}(aL:B.op=.mapUpdate T m k x\/B.op=.insert T m k x)(Z:cf st B.dst=true):
  Holds (kS.rZ C st T m k x) (cz P U Y X st M w B):=by
 have bL:=H.tt T;unfold kS.rZ;split
 ·rename_i hF kE t o s n d bh hm hk hx;rw[bh] at bL;split
  ·rename_i aM u es hl;cases hb:(aM.beq s&&decide (u=t)) with
   |false=>exact .fail
   |true=>
    simp only[cond_true];simp only[Bool.and_eq_true,decide_eq_true_eq] at hb;have hs:=Nat.eq_of_beq_eq_true hb.1;subst hs;split
    ·rename_i v hv;refine Holds.fk ?_
     have em:=dn S C T m;rw[hm] at em;have q3:=dn S C 0 k;rw[hk] at q3;have ex:=dn S C 0 x;rw[hx] at ex;have hl:look st.sites o=some (.map aM u es):=hl;have _':Act.eval ⟨M,[]⟩ m=D o:=Ref.at em.2 hl rfl;obtain⟨b,h1,arr,clock,h2,h3⟩:=S.sites o _ hl;obtain⟨bs,KT,hkl⟩:=gh (s:=n) q3;have CB:Act.eval ⟨M,[]⟩ k=gG n:=by rw[KT];exact Q0 hkl
     have _4:Act.eval ⟨M,[]⟩ x=m_ u v:=aoE hv (av:=aH X D st.sites) ex;obtain⟨oY,oH,r1,r2⟩:=aeG (T:=T) bL.1.1 bL.2.1 h2 h3 n v;have cc:=S.amR hl h1 h2 (oH:=oH) r2;refine w4 (us:=[(o,.map aM u (oE es n v))]) cc Z ?_
     unfold execOp;rcases aL with aL|aL
     ·simp only[aL,_',h1,CB,_4,Sem.run_bind,r1,Result.andThen_ok,Sem.run_pure]
     ·simp only[aL,_',h1,CB,_4,Sem.run_bind,r1,Result.andThen_ok,Sem.run_pure]
    ·exact .fail
  ·exact .fail
 ·exact .fail
theorem agS(S:aq U Y X D st M w){C:Ctx}(H:CtxOk P C){T hF kE:TypeId}{t:bc}{m k:Operand}{c:Bool}{l:aP}{n:J}{es:List (J×den t)}{d:be}(aL:B.op=.lookup T m k c)(Z:cf st B.dst=true)
  (bh:C.tt T=.map hF kE t) (hm:bd C st T m=.av (.am l)) (hk:bd C st 0 k=.av (.am (.d (.str n)))) (K5:mapOf st l=some ⟨t,es⟩) (K6:uY t (kb es n)=some d):
  cz P U Y X st M w B (bif c then .ju [.am (.d d),.am (.d (.bool (kb es n).isSome))] else one d) []:=by
 have bL:=H.tt T;rw[bh] at bL;have em:=dn S C T m;rw[hm] at em;have q3:=dn S C 0 k;rw[hk] at q3;obtain⟨bs,KT,hkl⟩:=gh (s:=n) q3;have CB:Act.eval ⟨M,[]⟩ k=gG n:=by rw[KT];exact Q0 hkl
 have hz:∀cP:Option (den t),uY t cP=some d->(∀x,cP=some x->∀av,bF w av d (m_ t x))/\(cP=none->∃z,(zeroValue kE).run P w=.ok z w/\∀av,bF w av d z):=by
  intro cP h;have he:=bL.2.2;have key:∀{abR:TypeDesc} {z:Value},iS P kE abR z->(zeroValue kE).run P w=.ok z w:=by
   intro abR z h;obtain⟨_,_,_,h⟩:=h;cases hi:P.info? kE with
   |none=>simp[hi] at h
   |some i=>
    simp only[hi,Option.map_some,Option.some.injEq,Prod.mk.injEq] at h;simp[zeroValue,kJ hi,h.2]
  cases t<;>first|(exact he.elim)|skip
  ·simp only[uY,Option.some.injEq] at h;subst h;refine⟨fun x hx av=>by subst hx;exact .int _ _,fun hn=>?_⟩
   subst hn;exact⟨_,key he,fun av=>.int _ _⟩
  ·simp only[uY,Option.some.injEq] at h;subst h;refine⟨fun x hx av=>by subst hx;exact .bool _,fun hn=>?_⟩
   subst hn;exact⟨_,key he,fun av=>.bool _⟩
 obtain⟨hz1,hz2⟩:=hz _ K6;have main:∃v,(Instr.lookup T (Act.eval ⟨M,[]⟩ m) (Act.eval ⟨M,[]⟩ k) c).run P w=.ok (if c then .tuple #[v,.bool (kb es n).isSome] else v) w/\∀av,bF w av d v:=by
  rw[CB];rcases Rv S em K5 with⟨h1,rfl⟩|⟨b,h1,arr,clock,h2,h3⟩
  ·obtain⟨z,eX,z2⟩:=hz2 rfl;refine⟨z,?_,z2⟩;have hf:=x_ (w:=w) (t:=t) bL.2.1 (es:=[]) (arr:=#[]) rfl n;have K4:(Instr.findKey hF (gG n) []).run P w=.ok none w:=hf;simp[Instr.lookup,run_underlying bL.1.1,h1,tP bL.2.1,K4,eX,kb,Result.andThen]
  ·have hf:=x_ (w:=w) bL.2.1 h3 n;have hg:=agP n es 0;cases ha:k0 es n 0 with
   |none=>
    rw[ha] at hf hg;have hg:kb es n=none:=hg.symm;obtain⟨z,eX,z2⟩:=hz2 hg;refine⟨z,?_,z2⟩;simp[Instr.lookup,run_underlying bL.1.1,h1,MapKept.run_getObj_map h2,tP bL.2.1,hf,eX,hg,Result.andThen]
   |some p=>
    rw[ha] at hf hg;have hg:kb es n=some p.2:=hg.symm;refine⟨m_ t p.2,?_,hz1 p.2 hg⟩;simp[Instr.lookup,run_underlying bL.1.1,h1,MapKept.run_getObj_map h2,tP bL.2.1,hf,hg,Result.andThen]
 obtain⟨v,r1,r2⟩:=main;refine dy S Z (vv:=if c then .tuple #[v,.bool (kb es n).isSome] else v) ?_ ?_
 ·unfold execOp;simp only[aL,Sem.run_bind,r1,Result.andThen_ok,Sem.run_pure]
 ·cases c with
  |true=>
   refine⟨[v,.bool (kb es n).isSome],rfl,rfl,fun j g1 g2=>?_⟩
   match j,g1 with
   |0,_=>exact r2 _
   |1,_=>exact bF.bool _
  |false=>exact r2 _
theorem ae4(S:aq U Y X D st M w){C:Ctx}(H:CtxOk P C)(Z:cf st B.dst=true):Holds (kS C st B) (cz P U Y X st M w B):=by
 unfold kS;split
 ·rename_i t r aL;split
  ·rename_i o hF kE ty dp bh;have bL:=H.tt t;rw[bh] at bL;split
   ·exact Holds.fk (NJ S aL dp Z bL.1.1 (fun x h=>by cases h))
   ·rename_i x;split
    ·rename_i k n hx;refine Holds.fk (NJ S aL dp Z bL.1.1 (fun y h=>?_))
     cases h;have ex:=dn S C 0 x;rw[hx] at ex;exact⟨k,n,h4 ex⟩
    ·exact .fail
  ·exact .fail
 ·rename_i t m k x aL;exact OZ S H (.inl aL) Z
 ·rename_i t m k x aL;exact OZ S H (.inr aL) Z
 ·rename_i t m k c aL;split
  ·rename_i hF kE ty l n bh hm hk;split
   ·rename_i u es K5;cases hu:decide (u=ty) with
    |false=>exact .fail
    |true=>
     have hu:=of_decide_eq_true hu;subst hu;simp only[cond_true];split
     ·rename_i d K6;exact Holds.ok (agS S H aL Z bh hm hk K5 K6)
     ·exact .fail
   ·exact .fail
  ·exact .fail
 ·rename_i t x aL;split
  ·rename_i bO q z e n bh hx;exact Holds.ok (acb S H aL Z bh hx)
  ·exact .fail
 ·exact .fail
end
theorem nd{P:Program}{e:TypeId}{t:bc}(h:Hv P e t):bb t=1/\(∃d z,iS P e d z)/\∃l eK,sU t=some l/\wy t=some eK/\cv (enc t eK)=[l]:=by
 cases t<;>first|exact h.elim|exact⟨rfl,⟨_,_,h⟩,_,_,rfl,rfl,rfl⟩
theorem NY{P:Program}{e:TypeId}{t:bc}{T:TypeId}(h:Hv P e t):t.jw=true->T=mb:=by intro aj;cases t<;>first|exact h.elim|cases aj
theorem EE(t:bc)(x:den t)(xs:List (den t)):flat t (x::xs)=enc t x++flat t xs:=by simp[flat]
theorem Hu(a b:List be):cv (a++b)=cv a++cv b:=by simp[cv]
theorem Sc{t:bc}{z:den t}(hz:wy t=some z)(xs:List (den t)):BR t xs xs.length=cv (flat t xs):=by
 unfold BR;rw[hz];suffices h:∀(bg zs:List (den t)),xs=zs++bg->((List.range' zs.length bg.length).flatMap fun j=>cv (enc t (xs.getD j z)))=cv (flat t bg) by
  have:=h xs [] rfl;rw[List.length_nil,<-List.range_eq_range'] at this;exact this
 intro bg;induction bg with
 |nil=>intro zs _;rfl
 |cons y bg ih=>
  intro zs hx;rw[List.length_cons,List.range'_succ,List.flatMap_cons,EE,Hu];have e1:xs.getD zs.length z=y:=by rw[hx];simp[List.getD]
  have e2:=ih (zs++[y]) (by rw[hx];simp)
  rw[List.length_append,List.length_singleton] at e2;rw[e1,e2]
theorem Hr{t:bc}:∀{ai:List aP} {xs:List (den t)},sP t ai=some xs->ai=cv (flat t xs):=by
 intro ai;induction ai with
 |nil=>intro xs h;cases h;rfl
 |cons l ai ih=>
  intro xs h;cases l<;>try(cases h;done)
  rename_i d;simp only[sP] at h;split at h
  ·rename_i x bg h1 h2;cases h;rw[EE,Hu,<-ih h2,zQ _ _ _ h1];rfl
  ·cases h
theorem tQ{aI:Type}{n:Nat}{xs bg:List aI}(h:long n xs=some bg):bg=xs/\xs.length=n:=by
 unfold long at h;split at h
 ·cases h;exact⟨rfl,by assumption⟩
 ·cases h
section
variable {P:Program}{U:World}{Y:List Nat}{X:Nat->Prop}{D:Nat->Value}{st:al}{M:Array Value}{w:World}{B:Oper}
theorem aq.kC(S:aq U Y X D st M w):mV w/\∀b,b∈ku->¬aH X D st.sites b/\b<w.heap.size:=by
 have G:=S.eU;refine⟨ao4 (fun b hb=>S.frame.block b (G.lt b hb) (G.Y b hb)) G.ok,fun b hb=>⟨?_,Nat.lt_of_lt_of_le (G.lt b hb) S.frame.size⟩⟩
 rintro(h|⟨o,h1,h2⟩)
 ·exact G.X b hb h
 ·rcases(S.cg o b h1 h2).2 with h|h
  ·exact G.Y b hb h
  ·have:=G.lt b hb;omega
theorem amV{ds:List be}{vs:List Value}{av:Nat->Prop}(h:cO w av ds vs):∀u∈vs,u.oneCell'=true:=by
 intro u hu;obtain⟨j,hj,rfl⟩:=List.getElem_of_mem hu;exact(h.2 j (by rw[<-h.1];exact hj) hj).je
theorem Rs(S:aq U Y X D st M w){T:TypeId}{o n:Nat}{t:bc}{xs:List (den t)}{vs:List Value}(he:bb t=1)(gu:t.jw=true->T=mb)(hv:cO w (aH X D st.sites) (flat t xs) vs)(Z:cf st B.dst=true)
  (df:(execOp (Act.eval ⟨M,[]⟩) B).run P w=.ok (.value (.pointer (some ⟨w.heap.size,0,none⟩))) (w.alloc (.cells vs.toArray T (0,0)))):Holds (qg o st t n xs) (cz P U Y X st M w B):=by
 unfold qg;cases hc:(xs.length.beq n&&Nat.ble n 1000) with
 |false=>exact .fail
 |true=>
  simp only[Bool.and_eq_true] at hc;have h1:=Nat.eq_of_beq_eq_true hc.1;have h2:=Nat.le_of_ble_eq_true hc.2;simp only[cond_true];have hl:vs.length=xs.length:=by rw[hv.1,eS,he,Nat.mul_one]
  have cc:=S.GD (o:=o) (T:=T) (rest:=[]) (cap:=n) hv (by rw[he,hl,h1];simp) (by unfold maxLen;omega) gu
  rw[List.append_nil] at cc;refine Holds.fk (kL (us:=[(o,.row (bq st o) t xs)]) cc Z df ?_);refine⟨w.heap.size,by simp,Ref.mk (ae:=.row (bq st o) t xs) ?_ rfl ⟨xs.length,n,by simp⟩⟩
  simp only[bp,cR];simp
theorem ahn(S:aq U Y X D st M w){C:Ctx}(H:CtxOk P C){elem e:TypeId}{t:bc}{n o:Nat}(bh:C.tt elem=.arr e t n)(aL:B.op=.alloc elem)(Z:cf st B.dst=true):Holds (sf o st t n) (cz P U Y X st M w B):=by
 have bL:=H.tt elem;rw[bh] at bL;obtain⟨_,_,l9⟩:=id bL;obtain⟨he,_,l,eK,Cp,mO,hzz⟩:=nd l9;unfold sf;rw[mO];obtain⟨v,hv,nM⟩:=b7.E_ (w:=w) bL (z:=List.replicate n l) (by simp only[b7.zero,Cp,Option.map_some])
 obtain⟨h1,h2,h3⟩:=tI nM;have hr:cO w (aH X D st.sites) (flat t (List.replicate n eK)) v.cells.toList:=by
  have:=h3 D st.sites w (aH X D st.sites);have e1:∀n,cv (flat t (List.replicate n eK))=List.replicate n l:=by
   intro n;induction n with
   |zero=>rfl
   |succ n ih=>rw[List.replicate_succ,EE,Hu,hzz,List.replicate_succ,ih];rfl
  refine iL (D:=D) (sites:=st.sites) ?_
  rw[e1];exact⟨h1,this⟩
 refine Rs (T:=elem) S he (NY l9) hr Z ?_
 unfold execOp;simp[aL,Instr.alloc,hv,newVar,newRow]
theorem alF(S:aq U Y X D st M w){C:Ctx}(H:CtxOk P C){elem e:TypeId}{t:bc}{n o:Nat}{x:Operand}(bh:C.tt elem=.arr e t n)(aL:B.op=.box elem x)(Z:cf st B.dst=true):Holds (sR o st t n (bd C st elem x)) (cz P U Y X st M w B):=by
 have bL:=H.tt elem;rw[bh] at bL;have he:=(nd bL.2.2).1;have bw:=dn S C elem x;unfold sR;split
 ·rename_i ai hx;rw[hx] at bw;split
  ·rename_i xs sZ;obtain⟨vs,hv,hl,hr⟩:∃vs:List Value,Act.eval ⟨M,[]⟩ x=.agg vs.toArray/\vs.length=ai.length/\∀j (h:j<ai.length) (aj:j<vs.length),dM D st.sites w (aH X D st.sites) (ai[j]) (vs[j]):=bw;have o9:cm D st.sites w (aH X D st.sites) ai vs:=⟨hl,hr⟩;rw[Hr sZ] at o9;refine Rs (T:=elem) S he (NY bL.2.2) (iL o9) Z ?_
   unfold execOp;simp[aL,Instr.box,newVar,newRow,hv,Value.cells]
  ·exact .fail
 ·exact .fail
theorem aq.arr(S:aq U Y X D st M w){o s:Nat}{t:bc}{xs:List (den t)}{v:Value}(hr:rowOf st o s=some ⟨t,xs⟩)(hv:dM D st.sites w (aH X D st.sites) (.eP o s t 0 0) v):
  ∃b c,∃cs:List Value,v=.pointer (some ⟨b,0,none⟩)/\D o=.slice (some ⟨b,0,none⟩) xs.length c/\hJ w b 0 cs/\cO w (aH X D st.sites) (flat t xs) cs:=by
 obtain⟨cs,hl,hcell⟩:=S.row hr;obtain⟨ae,ib,lp⟩:∃ae,look st.sites o=some ae/\ae.cl=s:=by
  rcases jG hr with h|h<;>exact⟨_,h,rfl⟩
 obtain⟨b,hv,vj⟩:=hv;obtain⟨n,c,cG⟩:=Ref.at vj ib lp;rcases hcell with⟨qm,_⟩|⟨bG,fb,jT,hcs,_⟩
 ·rw[cG] at qm;cases qm
 ·rw[cG] at jT;cases jT;exact⟨b,c,cs,by simpa using hv,cG,hcs,iL hl⟩
theorem aiU(S:aq U Y X D st M w){C:Ctx}(H:CtxOk P C){T e:TypeId}{t:bc}{n:Nat}{x:Operand}(bh:C.tt T=.arr e t n)(aL:B.op=.load T x)(Z:cf st B.dst=true):Holds (ss st t n (bd C st T x)) (cz P U Y X st M w B):=by
 have bL:=H.tt T;rw[bh] at bL;obtain⟨he,_,_,eK,_,mO,_⟩:=nd bL.2.2;have bw:=dn S C T x;unfold ss;split
 ·rename_i o s u hx;rw[hx] at bw;split
  ·rename_i bz xs hrow;split
   ·rename_i iW;obtain⟨rfl,rfl⟩:=iW;refine Holds.ei fun y hy=>?_
    obtain⟨rfl,hlen⟩:=tQ (hy:long n xs=some y);obtain⟨b,c,cs,hv,_,hc,hr⟩:=S.arr hrow bw;have hcl:cs.length=n:=by rw[hr.1,eS,he,hlen,Nat.mul_one]
    refine dy S Z (vv:=.agg cs.toArray) ?_ ?_
    ·have df:=tG (P:=P) (w:=w) bL (by rintro h;cases h) ⟨b,0,none⟩ cs hcl (fun j u hu=>by rw[gC];exact hc j u hu)
     unfold execOp;simp only[aL,Instr.loadAt,Instr.sureAddr,hv,Sem.run_bind,Sem.run_pure,Result.andThen_ok,df];rfl
    ·subst hlen;have:=gX (D:=D) (sites:=st.sites) hr.1 hr.2;rw[<-Sc mO] at this;exact⟨cs,rfl,this.1,this.2⟩
   ·exact .fail
  ·exact .fail
 ·exact .fail
theorem afW(S:aq U Y X D st M w){C:Ctx}(H:CtxOk P C){T e:TypeId}{t:bc}{n:Nat}{a x:Operand}{v:bP}(bh:C.tt T=.arr e t n)(aL:B.op=.store T a x)(Z:cf st B.dst=true)(hv:l0 (bd C st T x)=some v):
  Holds (rS st t n (bd C st T a) v) (cz P U Y X st M w B):=by
 have bL:=H.tt T;rw[bh] at bL;have he:=(nd bL.2.2).1;have qI:=dn S C T a;have hex:=dn S C T x;rw[px hv] at hex;unfold rS;split
 ·rename_i o s u ai hx;rw[hx] at qI;split
  ·rename_i aM bz xs gl;have gl:look st.sites o=some (.row aM bz xs):=gl;split
   ·rename_i iW;obtain⟨rfl,rfl,rfl⟩:=iW;split
    ·rename_i bg avx;cases hc:bg.length.beq n with
     |false=>exact .fail
     |true=>
      have Cq:=Nat.eq_of_beq_eq_true hc;refine Holds.g_ fun r hr=>?_
      obtain⟨_,hlen⟩:=tQ (hr:long n xs=some r);obtain⟨vs,vQ,hl,dO⟩:∃vs:List Value,Act.eval ⟨M,[]⟩ x=.agg vs.toArray/\vs.length=ai.length/\∀j (h:j<ai.length) (aj:j<vs.length),dM D st.sites w (aH X D st.sites) (ai[j]) (vs[j]):=hex;have o9:cm D st.sites w (aH X D st.sites) ai vs:=⟨hl,dO⟩;rw[Hr avx] at o9;have s7:=iL o9;have l5:vs.length=n:=by rw[s7.1,eS,he,Cq,Nat.mul_one]
      obtain⟨b,Cw,vj⟩:=qI;obtain⟨m,c,cG⟩:=Ref.at vj gl rfl;obtain⟨cy,cs,lf,hcs⟩:=S.sites o _ gl;rcases lf.2 with⟨hn,_⟩|⟨g,cap,cur,fz,nU,hz,hg,hnc,hcm,kk,htk⟩
      ·rw[cG] at hn;cases hn
      ·rw[cG] at nU;cases nU;have awc:cur.size=c:=by rw[kk,he,Nat.mul_one]
       have lg:0+vs.length<=cur.toList.length:=by
        have:cur.toList.length=cur.size:=Array.length_toList;omega
       have cc:aq U Y X D {st with sites:=ci st.sites o (.row aM bz bg)} M (w.setRow b (bM cur.toList 0 vs).toArray):=by
        refine S.write gl rfl rfl rfl (by rw[cG];rfl) hg (fun hs hw hg' go=>?_)
        refine⟨cy,vs,⟨by rw[he,Cq,Nat.mul_one];exact l5,.inr ⟨b,c,_,fz,by rw[cG,hlen,Cq],?_,hg',by omega,hcm,?_,?_⟩⟩,fun j g1 g2=>oK go (s7.2 j g1 g2)⟩
        ·refine⟨hz.1,hz.2.imp id fun h=>⟨h.1,?_⟩⟩
         rw[List.size_toArray,q_ _ _ _ lg];simpa using h.2
        ·rw[List.size_toArray,q_ _ _ _ lg,Array.length_toList,awc,he,Nat.mul_one]
        ·rw[he,Nat.mul_one,Cq,<-l5];simp[bM]
       refine w4 (us:=[(o,.row aM bz bg)]) cc Z ?_
       have df:=Mx (P:=P) (w:=w) bL (by rintro h;cases h) (vv:=.agg vs.toArray) (cur:=cur.toList) (off:=0) (by simpa using hg) (by simpa using hz) (by simpa[Value.cells,b7.size] using l5) (by simpa[Value.cells] using lg) (by simpa[Value.cells] using amV s7)
       unfold execOp;simp only[aL,Cw,vQ,Instr.storeAt,Instr.sureAddr,Sem.run_bind,Sem.run_pure,Result.andThen_ok,Nat.zero_mul,Nat.zero_add,df];simp[Value.cells]
    ·exact .fail
   ·exact .fail
  ·exact .fail
 ·exact .fail
theorem acG(S:aq U Y X D st M w){C:Ctx}(H:CtxOk P C){T e:TypeId}{t:bc}{m:Nat}{x i:Operand}{k:IntKind}{n:Int}(bh:C.tt T=.arr e t m)(hi:bd C st 0 i=.av (.am (.d (.int k n))))(aL:B.op=.indexAddr T x i)(Z:cf st B.dst=true):
  Holds (re C st t m (bd C st T x) n) (cz P U Y X st M w B):=by
 have bL:=H.tt T;rw[bh] at bL;obtain⟨fi,_,l9⟩:=bL;obtain⟨he,⟨d,z0,mT⟩,_⟩:=nd l9;have vi:=jL S hi;have bw:=dn S C T x;obtain⟨inf,kj,jq⟩:∃inf,P.info? e=some inf/\inf.size=1:=by
  have:=mT.2.2.2;cases aC:P.info? e with
  |none=>simp[aC] at this
  |some i=>simp only[aC,Option.map_some,Option.some.injEq,Prod.mk.injEq] at this;exact⟨i,rfl,this.1⟩
 have run:∀{b:Nat},Act.eval ⟨M,[]⟩ x=.pointer (some ⟨b,0,none⟩)->0<=n->n<m->(execOp (Act.eval ⟨M,[]⟩) B).run P w=.ok (.value (.pointer (some ⟨b,n.toNat,none⟩))) w:=by
  intro b hx h0 h1;unfold execOp;simp[aL,hx,vi,Instr.indexAt,Instr.sureAddr,asIntOf,run_underlying fi,h0,h1,sizeOf,kJ kj,jq,gC]
 unfold re;split
 ·rename_i o s u hx;rw[hx] at bw;split
  ·rename_i bz xs hrow;split
   ·rename_i iW;obtain⟨rfl,rfl⟩:=iW;refine Holds.ei fun y hy=>?_
    obtain⟨zs,hz1,hz2⟩:=Option.bind_eq_some_iff.1 (hy:(long m xs).bind (fun xs=>bk xs.length n)=some y)
    obtain⟨rfl,hlen⟩:=tQ hz1;unfold bk at hz2;split at hz2
    ·rename_i hb;cases hz2;obtain⟨b,c,cs,hv,cG,_⟩:=S.arr hrow bw;refine dy S Z (run hv hb.1 (by rw[<-hlen];exact hb.2)) ⟨b,?_,?_⟩
     ·rw[he,Nat.mul_one,Nat.add_zero]
     ·rcases jG hrow with h|h<;>exact Ref.mk h rfl ⟨_,_,cG⟩
    ·cases hz2
   ·exact .fail
  ·exact .fail
 ·rename_i g hx;rw[hx] at bw;split
  ·rename_i bz xs qH;cases hc:(decide (bz=t)&&xs.length.beq m) with
   |false=>exact .fail
   |true=>
    simp only[Bool.and_eq_true,decide_eq_true_eq] at hc;obtain⟨rfl,hlen⟩:=hc;have hlen:=Nat.eq_of_beq_eq_true hlen;refine Holds.ei fun y hy=>?_
    have dN:aN xs n=some y:=hy;unfold aN at dN;split at dN
    ·rename_i h0;have hlt:n.toNat<xs.length:=by
      rcases Nat.lt_or_ge n.toNat xs.length with h|h
      ·exact h
      ·rw[List.getElem?_eq_none h] at dN;cases dN
     obtain⟨aai,tg⟩:=H.gt g _ _ qH;obtain⟨fl,b6⟩:=S.kC;obtain⟨gg,fz',cs,hg,dO⟩:=tg w (aH X D st.sites) fl;have hv:Act.eval ⟨M,[]⟩ x=.pointer (some ⟨g,0,none⟩):=bw;refine dy S Z (run hv h0 (by omega)) ⟨g,n.toNat,rfl,(b6 g aai).1,(b6 g aai).2,(cs.drop n.toNat).take 1,?_,fun j u hu=>?_,?_⟩
     ·have:cs.length=xs.length:=by rw[dO.1,eS,he,Nat.mul_one]
      rw[iH,he];simp;omega
     ·exact(((hJ.row hg).drop n.toNat).take 1) j u hu|>fun h=>by simpa using h
     ·have hs:=tN bz xs n.toNat y dN;rw[he,Nat.mul_one] at hs;have mH:cO w (aH X D st.sites) (flat bz xs) cs:=dO;have ao2:=gX (D:=D) (sites:=st.sites) mH.1 mH.2;have h2:=iL (ds:=((flat bz xs).drop n.toNat).take 1) (by
       have:=(ao2.drop n.toNat).take 1;simpa[cv,List.map_drop,List.map_take] using this)
      rw[hs] at h2;exact h2.2
    ·cases dN
  ·exact .fail
 ·exact .fail
theorem ag1(S:aq U Y X D st M w){C:Ctx}(H:CtxOk P C){T e:TypeId}{t:bc}{m:Nat}{x i:Operand}{k:IntKind}{n:Int}(bh:C.tt T=.arr e t m)(hi:bd C st 0 i=.av (.am (.d (.int k n))))(aL:B.op=.index T x i)(Z:cf st B.dst=true):
  Holds (Ib t m (bd C st T x) n) (cz P U Y X st M w B):=by
 have bL:=H.tt T;rw[bh] at bL;obtain⟨fi,_,l9⟩:=bL;obtain⟨he,⟨d,z0,mT⟩,_⟩:=nd l9;have vi:=jL S hi;have bw:=dn S C T x;obtain⟨inf,kj,jq⟩:∃inf,P.info? e=some inf/\inf.size=1:=by
  have:=mT.2.2.2;cases aC:P.info? e with
  |none=>simp[aC] at this
  |some i=>simp only[aC,Option.map_some,Option.some.injEq,Prod.mk.injEq] at this;exact⟨i,rfl,this.1⟩
 unfold Ib;split
 ·rename_i ai hx;rw[hx] at bw;split
  ·rename_i xs sZ;cases hc:xs.length.beq m with
   |false=>exact .fail
   |true=>
    have hlen:=Nat.eq_of_beq_eq_true hc;refine Holds.ei fun y hy=>?_
    have dN:aN xs n=some y:=hy;unfold aN at dN;split at dN
    ·rename_i h0;have hlt:n.toNat<xs.length:=by
      rcases Nat.lt_or_ge n.toNat xs.length with h|h
      ·exact h
      ·rw[List.getElem?_eq_none h] at dN;cases dN
     obtain⟨vs,hv,hl,hr⟩:∃vs:List Value,Act.eval ⟨M,[]⟩ x=.agg vs.toArray/\vs.length=ai.length/\∀j (h:j<ai.length) (aj:j<vs.length),dM D st.sites w (aH X D st.sites) (ai[j]) (vs[j]):=bw;have o9:cm D st.sites w (aH X D st.sites) ai vs:=⟨hl,hr⟩;rw[Hr sZ] at o9;have s7:=iL o9;have l5:vs.length=xs.length:=by rw[s7.1,eS,he,Nat.mul_one]
     obtain⟨d1,hd1⟩:∃d1,enc t y=[d1]:=by
      have:=iH t y;rw[he] at this;match h:enc t y,this with
      |[d1],_=>exact⟨d1,rfl⟩
     simp only[hd1];have cB:n.toNat<vs.length:=by omega
     refine dy S Z (vv:=vs[n.toNat]) ?_ ?_
     ·have Jv:(isAgg e).run P w=.ok false w:=by
       have h1:=mT.1;simp only[isAgg,Sem.run_bind,run_underlying h1,Result.andThen_ok];have g1:=mT.2.1;have g2:=mT.2.2.1;cases d<;>first|rfl|exact absurd rfl (g1 _)|exact absurd rfl (g2 _ _)
      have h1:n<(m:Int):=by omega
      unfold execOp;simp[aL,hv,vi,Instr.index,asIntOf,run_underlying fi,h0,h1,sizeOf,kJ kj,jq,part,Jv,cB]
     ·have hs:=tN t xs n.toNat y dN;rw[he,Nat.mul_one,hd1] at hs;have pb:n.toNat<(flat t xs).length:=by rw[eS,he,Nat.mul_one];exact hlt
      have e1:(flat t xs)[n.toNat]=d1:=by
       have:=congrArg (fun l=>l[0]?) hs
       simp only[List.getElem?_take,List.getElem?_drop] at this;rw[if_pos (by decide),Nat.add_zero,List.getElem?_eq_getElem pb] at this
       simpa using this
      have:=s7.2 n.toNat pb cB;rw[e1] at this;exact this
    ·cases dN
  ·exact .fail
 ·exact .fail
theorem af0(S:aq U Y X D st M w){C:Ctx}(H:CtxOk P C){T e:TypeId}{t:bc}{m:Nat}{x:Operand}{cI hi:Option Operand}(bh:C.tt T=.arr e t m)(aL:B.op=.slice T x cI hi none)(Z:cf st B.dst=true):
  Holds (rV st t m (bd C st T x) (cI.map (bd C st 0)) (hi.map (bd C st 0))) (cz P U Y X st M w B):=by
 have bL:=H.tt T;rw[bh] at bL;obtain⟨fi,_,l9⟩:=bL;obtain⟨he,⟨d,z0,mT⟩,_⟩:=nd l9;have bw:=dn S C T x;obtain⟨inf,kj,jq⟩:∃inf,P.info? e=some inf/\inf.size=1:=by
  have:=mT.2.2.2;cases aC:P.info? e with
  |none=>simp[aC] at this
  |some i=>simp only[aC,Option.map_some,Option.some.injEq,Prod.mk.injEq] at this;exact⟨i,rfl,this.1⟩
 have ql:∀{cI:Option Operand} {lj l:Int},im lj (cI.map (bd C st 0))=some l->(cI.map (Act.eval ⟨M,[]⟩)=none/\l=lj)\/∃k,cI.map (Act.eval ⟨M,[]⟩)=some (.int k l):=by
  intro cI lj l h;rcases QB S h with⟨rfl,aj⟩|⟨x,k,rfl,aj⟩
  ·exact .inl ⟨rfl,aj⟩
  ·exact .inr ⟨k,by simp[aj]⟩
 unfold rV;split
 ·rename_i o s u hx;rw[hx] at bw;split
  ·rename_i bz xs l h hrow fF hhi;split
   ·rename_i iW;obtain⟨rfl,rfl⟩:=iW;refine Holds.g_ fun r hr=>?_
    obtain⟨zs,hz1,hz2⟩:=Option.bind_eq_some_iff.1 (hr:(long m xs).bind (fun xs=>bu xs l h)=some r)
    obtain⟨rfl,hlen⟩:=tQ hz1;unfold bu at hz2;split at hz2
    ·rename_i hb;obtain⟨h0,h1,h2⟩:=hb;cases hz2;obtain⟨b,c,cs,hv,cG,_⟩:=S.arr hrow bw;refine Ox (us:=[(o,.c8 s bz zs)]) (Qu hrow).symm ?_
     have hfz:dz st.sites [(o,.c8 s bz zs)]:=by
      intro ab ae hm;simp only[List.mem_singleton,Prod.mk.injEq] at hm;obtain⟨rfl,rfl⟩:=hm;exact⟨s,bz,zs,rfl,jG hrow⟩
     have aR:kI U Y X D st M w [(o,.c8 s bz zs)]:=⟨S,hfz⟩;have KS:=Df hfz (List.mem_singleton.2 rfl);obtain⟨dO,UW⟩:=aR.new.sites o _ KS;rw[cG] at dO;generalize _3:Value.slice (some ⟨b,0,none⟩) zs.length c=v at dO;cases dO with
     |nil=>cases _3
     |sl _ _ a cap nY k hk hcap dP hl hc hr=>
      cases _3;have awh:=DK (P:=P) (w:=w) false m m (cI.map (Act.eval ⟨M,[]⟩)) (hi.map (Act.eval ⟨M,[]⟩)) l h (ql fF) (ql hhi) h0 h1 (by omega) (Nat.le_refl _)
      refine kL (us:=[(o,.c8 s bz zs)]) aR.new Z (vv:=.slice (if m=l.toNat then some ⟨b,0,none⟩ else(some (⟨b,0,none⟩:Addr)).map (·.add (l.toNat*bb bz))) (h.toNat-l.toNat) (m-l.toNat)) ?_ ?_
      ·unfold execOp;simp only[aL,Option.map_none,Sem.run_bind,Instr.sliceAt,run_underlying fi,Result.andThen_ok,hv,Instr.sureAddr,Sem.run_pure,awh,sizeOf,kJ kj,jq,he];split<;>simp
      ·exact GB dP ⟨hl,hr⟩ hc l.toNat h.toNat m (by omega) (by omega) (by omega)
    ·cases hz2
   ·exact .fail
  ·exact .fail
 ·exact .fail
theorem ag8{f g:Nat->Option (Nat×Nat)}(h:∀i p,f i=some p->g i=some p):∀(l:List (Nat×Value)) (cs nY:Array Value),Instr.fill f cs l=some nY->Instr.fill g cs l=some nY:=by
 intro l;induction l with
 |nil=>intro cs nY k;exact k
 |cons p l ih=>
  obtain⟨i,v⟩:=p;intro cs nY k;simp only[Instr.fill] at k ⊢;cases hf:f i with
  |none=>simp[hf] at k
  |some q=>
   obtain⟨off,size⟩:=q;rw[h i _ hf];rw[hf] at k;simp only at k ⊢;split at k
   ·cases k
   ·rename_i hn;rw[if_neg hn];exact ih _ _ k
theorem ahk(S:aq U Y X D st M w){C:Ctx}(H:CtxOk P C){T e:TypeId}{t:bc}{n:Nat}{z:aP}{parts:Array (Nat×Operand)}(bh:C.tt T=.arr e t n)(hz:sU t=some z)(aL:B.op=.build T parts)(Z:cf st B.dst=true):
  Holds (step.mv C st ((List.range n).map fun j=>(j,1)) (List.replicate n z) parts.toList) (cz P U Y X st M w B):=by
 have bL:=H.tt T;rw[bh] at bL;obtain⟨fi,⟨fG,eX,kj,hz1,hzz⟩,l9⟩:=bL;rw[hz] at hz1;cases hz1;obtain⟨he,⟨d,z0,mT⟩,_⟩:=nd l9;obtain⟨aAN,av4,ars⟩:∃inf,P.info? e=some inf/\inf.size=1:=by
  have:=mT.2.2.2;cases aC:P.info? e with
  |none=>simp[aC] at this
  |some i=>simp only[aC,Option.map_some,Option.some.injEq,Prod.mk.injEq] at this;exact⟨i,rfl,this.1⟩
 obtain⟨aD,aF,bI⟩:=tI hzz;intro y hy hc;obtain⟨g1,jh,g2,g3⟩:=Ph S parts.toList (List.replicate n z) fG ⟨aD,fun j h aj=>bI _ _ _ _ j h aj⟩ y hy hc
 rw[g1];refine dy S Z (vv:=.agg jh) ?_ g3;cases hi:P.info? T with
 |none=>simp[hi] at kj
 |some it=>
  simp only[hi,Option.map_some,Option.some.injEq,Prod.mk.injEq] at kj;have hb:P.built T (parts.toList.map fun p=>(p.1,Act.eval ⟨M,[]⟩ p.2))=some jh:=by
   unfold Program.built;simp only[hi,fi,kj.2,av4,ars];refine ag8 (fun i p hp=>?_) _ _ _ g2
   simp only[List.getElem?_toArray,List.getElem?_map,Option.map_eq_some_iff] at hp;obtain⟨a,ha,rfl⟩:=hp;have:=List.getElem?_eq_some_iff.1 ha;obtain⟨h1,h2⟩:=this;simp at h2;subst h2;simp
  have dP:P.built T (parts.map fun p=>(p.1,Act.eval ⟨M,[]⟩ p.2)).toList=some jh:=by simpa using hb
  unfold execOp;simp only[aL,Sem.run_bind,run_build w T _ jh dP,Result.andThen_ok,Sem.run_pure]
theorem adC(S:aq U Y X D st M w){C:Ctx}{x:Operand}{k:IntKind}{n:Int}{T dL:TypeId}(aL:B.op=.unOp .xor dL x)(Z:cf st B.dst=true)(hc:bd C st T x=.av (.am (.d (.int k n)))):
  cz P U Y X st M w B (one (.int k (c4 k (if k.signed then-1 else k.max) n))) []:=by
 refine dy S Z (vv:=.int k (c4 k (if k.signed then-1 else k.max) n)) ?_ (.int _ _)
 unfold execOp;simp[aL,jL S hc,Op.unary,Op.intBits,c4]
end
def lT:Nat->Value:=fun _=>undef
def mC(w:World)(av:Nat->Prop)(l:aP)(v:Value)(bs:List Nat):Prop:=
 match l with
 |.fresh t xs=>bs=(bN v).toList/\∃e,∃cs:List Value,rowAt w t.jw e (bb t) v xs.length cs/\cO w av (flat t xs) cs
 |l=>bs=[]/\dM lT [] w av l v
def k8(w:World)(av:Nat->Prop):List aP->List Value->List Nat->Prop
 |[],[],bs=>bs=[]
 |l::ai,v::vs,bs=>∃b1 b2,bs=b1++b2/\mC w av l v b1/\k8 w av ai vs b2
 |_,_,_=>False
def Bq(w:World)(av:Nat->Prop):bP->Value->List Nat->Prop
 |.am l,v,bs=>mC w av l v bs
 |.agg ai,v,bs=>∃vs:List Value,v=.agg vs.toArray/\k8 w av ai vs bs
def kV(w:World)(av:Nat->Prop):List bP->List Value->List Nat->Prop
 |[],[],bs=>bs=[]
 |l::ai,v::vs,bs=>∃b1 b2,bs=b1++b2/\Bq w av l v b1/\kV w av ai vs b2
 |_,_,_=>False
def Hw(w:World)(av:Nat->Prop)(b:Nat)(cells:List aP)(bs:List Nat):Prop:=
 ∃T,∃cur:List Value,∃nZ,bs=b::nZ/\w.heap[b]? =some (.cells cur.toArray T (0,0))/\(∀u∈cur,u.oneCell'=true)/\mB cells T cur b/\k8 w av cells cur nZ
def Sd(w:World)(av:Nat->Prop):Arg->Value->List Nat->Prop
 |.av a,v,bs=>Bq w av a v bs
 |.e8 cells,v,bs=>∃b,v=.pointer (some ⟨b,0,none⟩)/\Hw w av b cells bs
def iJ(w:World)(av:Nat->Prop):List Arg->List Value->List Nat->Prop
 |[],[],bs=>bs=[]
 |l::ai,v::vs,bs=>∃b1 b2,bs=b1++b2/\Sd w av l v b1/\iJ w av ai vs b2
 |_,_,_=>False
def dI:List Arg->List Value->List Nat
 |.e8 _::as,.pointer (some a)::vs=>a.block::dI as vs
 |_::as,_::vs=>dI as vs
 |_,_=>[]
def iN(w:World)(av:Nat->Prop):List Nat->List (List aP)->List Nat->Prop
 |[],[],bs=>bs=[]
 |b::dl,cs::cC,bs=>∃b1 b2,bs=b1++b2/\Hw w av b cs b1/\iN w av dl cC b2
 |_,_,_=>False
def nw:List Value->Value
 |[v]=>v
 |vs=>.tuple vs.toArray
def Enters(P:Program)(g:FuncId)(vs:Array Value)(w:World)(R:Value->World->Prop):Prop:=
 ((callFunc g vs).run P w=.ok (.enter g vs) w/\Calls P g vs w fun|.returned v,w'=>R v w'|_,_=>False)\/(∃v w',(callFunc g vs).run P w=.ok (.value v) w'/\R v w')
def ay(P:Program)(g:FuncId)(S:aB):Prop:=
 ∀as y,(S as).comp=some y->∀(w:World) (X:Nat->Prop) (vs:List Value) (dj:List Nat),iJ w (fun b=>X b\/b∈dj) as vs dj->dj.Nodup->(∀b,b∈dj->¬X b)->(∀b,X b->b<w.heap.size)->ij w dj X->
  Enters P g vs.toArray w fun v w'=>∃ee ed rv,Fr dj w w'/\iN w' (fun b=>X b\/b∈ee++ed) (dI as vs) ((S as).e8 y) ee/\kV w' (fun b=>X b\/b∈ee++ed) ((S as).e5 y) rv ed/\
   v=nw rv/\(ee++ed).Nodup/\∀b,b∈ee++ed->¬X b/\(b∈dj\/w.heap.size<=b)
section
variable {U:World}{Y:List Nat}{X:Nat->Prop}{D:Nat->Value}{st:al}{M:Array Value}{w:World}
theorem b_.gK{sites:List (Nat×Site)}{av b':Nat->Prop}(h:∀b,b' b->av b)(hlt:∀b,b' b->b<w.heap.size){a:aZ}{v:Value}(k:b_ D sites w av a v):b_ D sites w b' a v:=by
 have G:hP D D sites sites w w av b':=⟨fun o ae hs=>⟨ae,hs,Nat.le_refl _,fun _=>rfl⟩,fun _ _ _=>rfl,fun b hb _ aj=>hb (h b aj)⟩
 exact k.goes G (Nat.le_refl _) hlt
theorem jM.gK{sites:List (Nat×Site)}{av b':Nat->Prop}(h:∀b,b' b->av b)(hlt:∀b,b' b->b<w.heap.size){o:Nat}{ae:Site}(k:jM D sites w av o ae):jM D sites w b' o ae:=by
 have G:hP D D sites sites w w av b':=⟨fun o ae hs=>⟨ae,hs,Nat.le_refl _,fun _=>rfl⟩,fun _ _ _=>rfl,fun b hb _ aj=>hb (h b aj)⟩
 exact k.goes G (Nat.le_refl _) hlt rfl (fun _ _ _=>rfl)
theorem aq.lt(S:aq U Y X D st M w){b:Nat}(h:aH X D st.sites b):b<w.heap.size:=by
 rcases h with h|⟨o,h1,h2⟩
 ·exact S.old b h
 ·exact S.fp h1 h2
theorem aq.shrink(S:aq U Y X D st M w){X':Nat->Prop}(h:∀b,X' b->X b):aq U Y X' D st M w:=by
 have b6:∀b,aH X' D st.sites b->aH X D st.sites b:=by
  rintro b (hb|hb)
  ·exact .inl (h b hb)
  ·exact .inr hb
 have hlt:=fun b hb=>S.lt (b6 b hb)
 exact⟨S.nt,fun t=>(S.cA t).gK b6 hlt,fun o ae hs=>(S.sites o ae hs).gK b6 hlt,S.dW,fun o b h1 h2=>⟨fun hx=>(S.cg o b h1 h2).1 (h b hx),(S.cg o b h1 h2).2⟩,S.frame,fun b hb=>S.old b (h b hb),S.eU.less fun b _=>h b⟩
theorem aq.kill(S:aq U Y X D st M w){o:Nat}{ae:Site}(hl:look st.sites o=some ae)(lO:ae.live=true):
  aq U Y (fun b=>X b\/bN (D o)=some b) D {st with sites:=ci st.sites o (.dead ae.cl)} M w:=by
 have cB:∀ab,ce (ci st.sites o (.dead ae.cl)) ab->ab≠o/\ce st.sites ab:=by
  rintro ab ⟨s,h1,h2⟩;rw[cR] at h1;by_cases e:o=ab
  ·subst e;simp at h1;subst h1;cases h2
  ·simp only[e,if_false] at h1;exact⟨fun h=>e h.symm,s,h1,h2⟩
 have b6:∀b,aH (fun b=>X b\/bN (D o)=some b) D (ci st.sites o (.dead ae.cl)) b->aH X D st.sites b:=by
  rintro b ((h|h)|⟨ab,h1,h2⟩)
  ·exact .inl h
  ·exact .inr ⟨o,⟨ae,hl,lO⟩,h⟩
  ·exact .inr ⟨ab,(cB ab h1).2,h2⟩
 have hlt:=fun b hb=>S.lt (b6 b hb)
 have cc:aq U Y X D {st with sites:=ci st.sites o (.dead ae.cl)} M w:=by
  have vk:∀b,aH X D (ci st.sites o (.dead ae.cl)) b->aH X D st.sites b:=by
   rintro b (h|⟨ab,h1,h2⟩)
   ·exact .inl h
   ·exact .inr ⟨ab,(cB ab h1).2,h2⟩
  refine S.qc (fun ab s hs=>?_) (fun _ _ _=>rfl) (fun b hb _ aj=>hb (vk b aj)) (fun go ab s hs=>?_) (fun ab ρ b h1 h2 g1 g2=>S.dW ab ρ b (cB ab h1).2 (cB ρ h2).2 g1 g2) (fun ab b h1 h2=>S.cg ab b (cB ab h1).2 h2)
   (fun ab b h1 h2=>S.fp (cB ab h1).2 h2) S.frame (Nat.le_refl _)
  ·rw[cR];by_cases e:o=ab
   ·subst e;rw[hl] at hs;cases hs;exact⟨.dead ae.cl,by simp,Nat.le_refl _,fun _=>rfl⟩
   ·exact⟨s,by simp[e,hs],Nat.le_refl _,fun _=>rfl⟩
  ·rw[cR] at hs;by_cases e:o=ab
   ·simp only[e,if_true,Option.some.injEq] at hs;subst hs;exact .inr trivial
   ·simp only[e,if_false] at hs;exact .inl ⟨hs,rfl,fun _ _ _=>rfl⟩
 refine⟨cc.nt,fun t=>?_,fun ab s hs=>?_,cc.dW,fun ab b h1 h2=>⟨?_,(cc.cg ab b h1 h2).2⟩,cc.frame,?_,S.eU.less fun b hb hx=>hx.elim id fun e=>absurd (.inr ⟨o,⟨ae,hl,lO⟩,e⟩) (S.kC.2 b hb).1⟩
 ·have G:hP D D st.sites (ci st.sites o (.dead ae.cl)) w w (aH X D st.sites) (aH (fun b=>X b\/bN (D o)=some b) D (ci st.sites o (.dead ae.cl))):=
   ⟨fun ab s hs=>by
    rw[cR];by_cases e:o=ab
    ·subst e;rw[hl] at hs;cases hs;exact⟨.dead ae.cl,by simp,Nat.le_refl _,fun _=>rfl⟩
    ·exact⟨s,by simp[e,hs],Nat.le_refl _,fun _=>rfl⟩,fun _ _ _=>rfl,fun b hb _ aj=>hb (b6 b aj)⟩
  exact(S.cA t).goes G (Nat.le_refl _) hlt
 ·have fu:look (ci st.sites o (.dead ae.cl)) ab=some s:=hs;rw[cR] at fu;by_cases e:o=ab
  ·simp only[e,if_true,Option.some.injEq] at fu;subst fu;trivial
  ·simp only[e,if_false] at fu;have G:hP D D st.sites (ci st.sites o (.dead ae.cl)) w w (aH X D st.sites) (aH (fun b=>X b\/bN (D o)=some b) D (ci st.sites o (.dead ae.cl))):=
    ⟨fun ab s hs=>by
     rw[cR];by_cases e:o=ab
     ·subst e;rw[hl] at hs;cases hs;exact⟨.dead ae.cl,by simp,Nat.le_refl _,fun _=>rfl⟩
     ·exact⟨s,by simp[e,hs],Nat.le_refl _,fun _=>rfl⟩,fun _ _ _=>rfl,fun b hb _ aj=>hb (b6 b aj)⟩
   exact(S.sites ab s fu).goes G (Nat.le_refl _) hlt rfl (fun _ _ _=>rfl)
 ·rintro(hx|hx)
  ·exact(cc.cg ab b h1 h2).1 hx
  ·exact(cB ab h1).1 (S.dW ab o b (cB ab h1).2 ⟨ae,hl,lO⟩ h2 hx)
 ·rintro b (hb|hb)
  ·exact S.old b hb
  ·exact S.fp ⟨ae,hl,lO⟩ hb
theorem aq.jump(S:aq U Y X D st M w){w':World}(h:∀b,¬X b->b<w.heap.size->w'.heap[b]? =w.heap[b]?)(hs:w.heap.size<=w'.heap.size)(hf:Fr Y U w'):
  aq U Y (fun b=>X b\/(w.heap.size<=b/\b<w'.heap.size)) D st M w':=by
 have hlt:∀b,aH (fun b=>X b\/(w.heap.size<=b/\b<w'.heap.size)) D st.sites b->b<w'.heap.size:=by
  rintro b ((hb|hb)|⟨ab,h1,h2⟩)
  ·exact Nat.lt_of_lt_of_le (S.old b hb) hs
  ·exact hb.2
  ·exact Nat.lt_of_lt_of_le (S.fp h1 h2) hs
 have G:hP D D st.sites st.sites w w' (aH X D st.sites) (aH (fun b=>X b\/(w.heap.size<=b/\b<w'.heap.size)) D st.sites):=
  ⟨fun ab s h=>⟨s,h,Nat.le_refl _,fun _=>rfl⟩,fun b hb dP=>h b (fun hx=>hb (.inl hx)) dP,fun b hb dP aj=>by
   rcases aj with(aj|aj)|aj
   ·exact hb (.inl aj)
   ·omega
   ·exact hb (.inr aj)⟩
 refine⟨S.nt,fun t=>(S.cA t).goes G hs hlt,fun o s h1=>(S.sites o s h1).goes G hs hlt rfl (fun hl b hb=>?_),S.dW,fun o b h1 h2=>⟨?_,(S.cg o b h1 h2).2⟩,hf,?_,S.eU.less fun b hb hx=>hx.elim id fun e=>absurd (S.kC.2 b hb).2 (by omega)⟩
 ·exact h b (S.cg o b ⟨s,h1,hl⟩ hb).1 (S.fp ⟨s,h1,hl⟩ hb)
 ·rintro(hx|hx)
  ·exact(S.cg o b h1 h2).1 hx
  ·have:=S.fp h1 h2;omega
 ·rintro b (hb|hb)
  ·exact Nat.lt_of_lt_of_le (S.old b hb) hs
  ·exact hb.2
theorem aq.u0(S:aq U Y X D st M w){X':Nat->Prop}{n:Nat}{bV:Site}{nv:Value}(gd:∀b,X' b->X b)
  (dB:(∀ae,look st.sites n=some ae->ae.cl<bV.cl)\/(D n=nv/\∀ae,look st.sites n=some ae->ae.cl=bV.cl/\ae.live=false))
  (hb:∀b,bN nv=some b->X b/\¬X' b/\(b∈Y\/U.heap.size<=b))
  (fl:∀{bU:List (Nat×Site)} {aW:Nat->Value},bU=ci st.sites n bV->aW n=nv->(∀{a v},b_ D st.sites w (aH X D st.sites) a v->b_ aW bU w (aH X' aW bU) a v)->
   (∀b,aH X' aW bU b->aH X D st.sites b)->jM aW bU w (aH X' aW bU) n bV):
  aq U Y X' (fun ab=>if ab=n then nv else D ab) {st with sites:=ci st.sites n bV} M w/\
   (∀b,aH X' (fun ab=>if ab=n then nv else D ab) (ci st.sites n bV) b->aH X D st.sites b)/\
   (∀{a v},b_ D st.sites w (aH X D st.sites) a v->b_ (fun ab=>if ab=n then nv else D ab) (ci st.sites n bV) w (aH X' (fun ab=>if ab=n then nv else D ab) (ci st.sites n bV)) a v):=by
 have cB:∀ab,ce (ci st.sites n bV) ab->ab=n\/(ab≠n/\ce st.sites ab):=by
  rintro ab ⟨s,h1,h2⟩;rw[cR] at h1;by_cases e:n=ab
  ·exact .inl e.symm
  ·simp only[e,if_false] at h1;exact .inr ⟨fun h=>e h.symm,s,h1,h2⟩
 have b6:∀b,aH X' (fun ab=>if ab=n then nv else D ab) (ci st.sites n bV) b->aH X D st.sites b:=by
  rintro b (h|⟨ab,h1,h2⟩)
  ·exact .inl (gd b h)
  ·rcases cB ab h1 with rfl|⟨h3,aE⟩
   ·simp at h2;exact .inl (hb b h2).1
   ·simp only[h3,if_false] at h2;exact .inr ⟨ab,aE,h2⟩
 have qj:∀o ae,look st.sites o=some ae->∃aM,look (ci st.sites n bV) o=some aM/\ae.cl<=aM.cl/\(aM.cl=ae.cl->(fun ab=>if ab=n then nv else D ab) o=D o):=by
  intro ab s hs;rw[cR];by_cases e:n=ab
  ·subst e;refine⟨bV,by simp,?_,fun h=>?_⟩
   ·rcases dB with h|⟨_,h⟩
    ·exact Nat.le_of_lt (h s hs)
    ·exact Nat.le_of_eq (h s hs).1
   ·rcases dB with aj|⟨aj,_⟩
    ·have:=aj s hs;omega
    ·simp[aj]
  ·have cy:¬ab=n:=fun h=>e h.symm
   exact⟨s,by simp[e,hs],Nat.le_refl _,fun _=>by simp[cy]⟩
 have G:hP D (fun ab=>if ab=n then nv else D ab) st.sites (ci st.sites n bV) w w (aH X D st.sites) (aH X' (fun ab=>if ab=n then nv else D ab) (ci st.sites n bV)):=
  ⟨qj,fun _ _ _=>rfl,fun b hb _ aj=>hb (b6 b aj)⟩
 have hlt:=fun b hb=>S.lt (b6 b hb)
 refine⟨⟨S.nt,fun t=>(S.cA t).goes G (Nat.le_refl _) hlt,fun ab s hs=>?_,fun ab ρ b h1 h2 g1 g2=>?_,fun ab b h1 h2=>?_,S.frame,fun b h=>S.old b (gd b h),S.eU.less fun b _=>gd b⟩,b6,fun h=>h.goes G (Nat.le_refl _) hlt⟩
 ·have fu:look (ci st.sites n bV) ab=some s:=hs;rw[cR] at fu;by_cases e:n=ab
  ·subst e;simp only[if_true,Option.some.injEq] at fu;subst fu;exact fl rfl (by simp) (fun h=>h.goes G (Nat.le_refl _) hlt) b6
  ·have cy:¬ab=n:=fun h=>e h.symm
   simp only[e,if_false] at fu;exact(S.sites ab s fu).goes G (Nat.le_refl _) hlt (by simp[cy]) (fun _ _ _=>rfl)
 ·rcases cB ab h1 with rfl|⟨n1,dF⟩<;>rcases cB ρ h2 with rfl|⟨n2,fw⟩
  ·rfl
  ·simp only[if_true] at g1;simp only[n2,if_false] at g2;exact absurd (hb b g1).1 (S.cg ρ b fw g2).1
  ·simp only[if_true] at g2;simp only[n1,if_false] at g1;exact absurd (hb b g2).1 (S.cg ab b dF g1).1
  ·simp only[n1,if_false] at g1;simp only[n2,if_false] at g2;exact S.dW ab ρ b dF fw g1 g2
 ·rcases cB ab h1 with rfl|⟨n1,dF⟩
  ·simp only[if_true] at h2;exact⟨(hb b h2).2.1,(hb b h2).2.2⟩
  ·simp only[n1,if_false] at h2;exact⟨fun hx=>(S.cg ab b dF h2).1 (gd b hx),(S.cg ab b dF h2).2⟩
end
def kd(w:World)(av:Nat->Prop):List (List be)->List Value->Prop
 |[],[]=>True
 |ds::r,v::vs=>(∃b,∃cs:List Value,v=.pointer (some ⟨b,0,none⟩)/\¬av b/\b<w.heap.size/\hJ w b 0 cs/\cO w av ds cs)/\kd w av r vs
 |_,_=>False
theorem kd.fn{w:World}{av:Nat->Prop}{g:FuncId}:∀{bA:List (List be)} {vs:List Value},kd w av bA vs->bF w av (.fn g bA) (.func (.func g) #[] vs.toArray):=by
 intro bA vs h;have key:∀{bA:List (List be)} {vs:List Value},kd w av bA vs->∃na:List Nat,∃eV:List (List Value),vs=na.map (fun b=>Value.pointer (some ⟨b,0,none⟩))/\na.length=bA.length/\eV.length=bA.length/\
   (∀b,b∈na->¬av b/\b<w.heap.size)/\(∀i (h:i<na.length) (aj:i<eV.length),hJ w na[i] 0 eV[i])/\(∀i (h:i<bA.length) (aj:i<eV.length),cO w av bA[i] eV[i]):=by
  intro bA;induction bA with
  |nil=>
   intro vs h;match vs,h with
   |[],_=>exact⟨[],[],rfl,rfl,rfl,fun b h=>by simp at h,fun i h=>by simp at h,fun i h=>by simp at h⟩
  |cons ds bA ih=>
   intro vs h;match vs,h with
   |v::vs,⟨⟨b,cs,h1,h2,h3,aE,bi⟩,ca⟩=>
    obtain⟨na,eV,aD,aF,bI,cJ,fM,iD⟩:=ih ca;refine⟨b::na,cs::eV,by simp[h1,aD],by simp[aF],by simp[bI],fun c hc=>?_,fun i g1 g2=>?_,fun i g1 g2=>?_⟩
    ·rcases List.mem_cons.1 hc with rfl|hc
     ·exact⟨h2,h3⟩
     ·exact cJ c hc
    ·cases i with
     |zero=>exact aE
     |succ i=>exact fM i (by simpa using g1) (by simpa using g2)
    ·cases i with
     |zero=>exact bi
     |succ i=>exact iD i (by simpa using g1) (by simpa using g2)
 obtain⟨na,eV,aD,aF,bI,cJ,fM,iD⟩:=key h;refine .fn g bA na (fun i=>eV.getD i []) _ (by rw[aD]) aF (fun b hb=>(cJ b hb).1) (fun b hb=>(cJ b hb).2) (fun i hi=>?_) (fun i hi j u hu=>?_) (fun i hi j h1 h2=>?_)
 ·have aj:i<eV.length:=by omega
  have:=(iD i hi aj).1;simpa[List.getD,aj] using this
 ·have aj:i<eV.length:=by omega
  have:=fM i hi aj j u (by simpa[List.getD,aj] using hu)
  simpa using this
 ·have aj:i<eV.length:=by omega
  have h2':j<eV[i].length:=by simpa[List.getD,aj] using h2
  have:=(iD i hi aj).2 j h1 h2';simpa[List.getD,aj] using this
theorem kd.Uv{w:World}{av:Nat->Prop}{g:FuncId}{bA:List (List be)}{v:Value}(h:bF w av (.fn g bA) v):∃vs:List Value,v=.func (.func g) #[] vs.toArray/\kd w av bA vs:=by
 cases h with
 |fn _ _ bs iE lb hlb tj hb hlt hl hc hr=>
  refine⟨bs.map fun b=>Value.pointer (some ⟨b,0,none⟩),by rw[hlb],?_⟩
  have key:∀(bA:List (List be)) (bs:List Nat) (iE:Nat->List Value),bs.length=bA.length->(∀b,b∈bs->¬av b/\b<w.heap.size)->(∀i (h:i<bA.length),(iE i).length=(bA[i]).length)->
    (∀i (h:i<bs.length) j u,(iE i)[j]? =some u->w.cell? ⟨bs[i],j,none⟩=some u)->(∀i (h:i<bA.length) j (h1:j<(bA[i]).length) (h2:j<(iE i).length),bF w av ((bA[i])[j]) ((iE i)[j]))->
    kd w av bA (bs.map fun b=>Value.pointer (some ⟨b,0,none⟩)):=by
   intro bA;induction bA with
   |nil=>intro bs iE h _ _ _ _;rw[List.eq_nil_of_length_eq_zero h];trivial
   |cons ds bA ih=>
    intro bs iE h h1 h2 h3 aE;match bs,h with
    |b::bs,h=>
     refine⟨⟨b,iE 0,rfl,(h1 b List.mem_cons_self).1,(h1 b List.mem_cons_self).2,fun j u hu=>?_,h2 0 (by simp),fun j g1 g2=>aE 0 (by simp) j g1 g2⟩,?_⟩
     ·have:=h3 0 (by simp) j u hu
      simpa using this
     ·exact ih bs (fun i=>iE (i+1)) (by simpa using h) (fun c hc=>h1 c (List.mem_cons_of_mem _ hc)) (fun i hi=>h2 (i+1) (by simpa using hi)) (fun i hi j u hu=>h3 (i+1) (by simpa using hi) j u hu)
       (fun i hi j g1 g2=>aE (i+1) (by simpa using hi) j g1 g2)
  exact key bA bs iE tj (fun b h=>⟨hb b h,hlt b h⟩) hl hc hr
section
variable {U:World}{Y:List Nat}{X:Nat->Prop}{D:Nat->Value}{st:al}{M:Array Value}{w:World}
structure fg(U:World)(Y:List Nat)(X:Nat->Prop)(D:Nat->Value)(st:al)(M:Array Value)(w:World)(c7:List (Nat×Site))(eQ:List Nat)(av:Nat->Prop):Prop where
 fz:kI U Y X D st M w c7
 le:∀b,av b->aH X D (bp st.sites c7) b
 ayR:∀o,o∈eQ->∀b,bN (D o)=some b->¬av b
variable {c7:List (Nat×Site)}{eQ:List Nat}{av:Nat->Prop}
theorem fg.lt(L:fg U Y X D st M w c7 eQ av){b:Nat}(h:av b):b<w.heap.size:=L.fz.new.lt (L.le b h)
theorem fg.sub(L:fg U Y X D st M w c7 eQ av){b:Nat}(h:av b):aH X D st.sites b:=by
 rcases L.le b h with h|⟨o,⟨ae,h1,h2⟩,h3⟩
 ·exact .inl h
 ·refine .inr ⟨o,?_,h3⟩;rcases lB L.fz.fz o with h|⟨s,t,xs,aE,bi⟩
  ·exact⟨ae,h▸h1,h2⟩
  ·rw[bi] at h1;cases h1;cases h2
theorem fg.rd(L:fg U Y X D st M w c7 eQ av){d:be}{v:Value}(h:bF w (aH X D (bp st.sites c7)) d v):bF w av d v:=
 b_.gK (D:=D) (sites:=[]) (a:=one d) (v:=v) L.le (fun b hb=>L.lt hb) h
theorem fg.vF(L:fg U Y X D st M w c7 eQ av){d:be}{v:Value}(h:bF w (aH X D st.sites) d v):bF w av d v:=
 b_.gK (D:=D) (sites:=[]) (a:=one d) (v:=v) (fun b hb=>L.sub hb) (fun b hb=>L.lt hb) h
theorem Pf(L:fg U Y X D st M w c7 eQ av):∀{bA:List (Nat×Nat)} {cs:List (List be)} {us:List (Nat×Site)} {bs:List Nat} {vs:List Value},kU st bA=some (cs,us,bs)->
  (∀p,p∈us->p∈c7)->(∀o,o∈bs->o∈eQ)->vs.length=bA.length->(∀i (h:i<bA.length) (aj:i<vs.length),Ref st.sites (bA[i]).1 (bA[i]).2 (vs[i]=D (bA[i]).1))->kd w av cs vs:=by
 intro bA;induction bA with
 |nil=>
  intro cs us bs vs h _ _ hl _;simp only[kU] at h;cases h;rw[List.eq_nil_of_length_eq_zero hl];trivial
 |cons c bA ih=>
  obtain⟨o,s⟩:=c;intro cs us bs vs h gM ej hl hr;simp only[kU] at h;split at h
  ·rename_i cells lW;split at h
   ·rename_i ds u1 rest u2 b2 gr oM;cases h;match vs,hl with
    |v::vs,hl=>
     have jm:=gx lW;obtain⟨b,T,cur,h1,h2,h3,aE,_,bi⟩:=L.fz.old.sites o _ jm;have hv:v=D o:=Ref.at (hr 0 (by simp) (by simp)) jm rfl
     have dO:=zR gr ⟨h3,bi⟩ L.fz (fun p hp=>gM p (List.mem_append.2 (.inl hp)))
     refine⟨⟨b,cur,by rw[hv,h1],L.ayR o (ej o List.mem_cons_self) b (by rw[h1];rfl),L.fz.old.fp ⟨_,jm,rfl⟩ (by rw[h1];rfl),.row h2,dO.1,fun j g1 g2=>L.rd (dO.2 j g1 g2)⟩,?_⟩
     exact ih oM (fun p hp=>gM p (List.mem_append.2 (.inr hp))) (fun ab bS=>ej ab (List.mem_cons_of_mem _ bS)) (by simpa using hl) (fun i g1 g2=>hr (i+1) (by simpa using g1) (by simpa using g2))
   ·cases h
  ·cases h
theorem GF(L:fg U Y X D st M w c7 eQ av){l ga:aP}{us:List (Nat×Site)}{bs:List Nat}{v:Value}(h:mF st l=some (ga,us,bs))(gM:∀p,p∈us->p∈c7)(ej:∀o,o∈bs->o∈eQ)
  (hv:dM D st.sites w (aH X D st.sites) l v):mC w av ga v []:=by
 unfold mF at h;split at h
 ·rename_i cells;cases h;obtain⟨b,B,h1,h2,h3,cs,aE,bi,ca⟩:=hv;exact⟨rfl,b,B,h1,fun hx=>h2 (L.sub hx),h3,cs,aE,bi,fun j g1 g2=>L.vF (ca j g1 g2)⟩
 ·rename_i g c cs;split at h
  ·rename_i ds u b hc;cases h;obtain⟨vs,h1,h2,h3⟩:=hv;rw[h1];exact⟨rfl,(Pf L hc gM ej h2 h3).fn⟩
  ·cases h
 ·split at h
  ·rename_i d u Z;cases h;exact⟨rfl,L.rd (TU Z hv L.fz gM)⟩
  ·cases h
theorem aiX(L:fg U Y X D st M w c7 eQ av):∀{ai fX:List aP} {us:List (Nat×Site)} {bs:List Nat} {vs:List Value},lM st ai=some (fX,us,bs)->(∀p,p∈us->p∈c7)->(∀o,o∈bs->o∈eQ)->
  cm D st.sites w (aH X D st.sites) ai vs->k8 w av fX vs []:=by
 intro ai;induction ai with
 |nil=>intro fX us bs vs h _ _ hv;simp only[lM] at h;cases h;rw[hv.nq];rfl
 |cons l ai ih=>
  intro fX us bs vs h gM ej hv;simp only[lM] at h;split at h
  ·rename_i a u1 b1 as u2 b2 h1 h2;cases h;obtain⟨v,cS,rfl,o7,o6⟩:=hv.inv;exact⟨[],[],rfl,GF L h1 (fun p hp=>gM p (List.mem_append.2 (.inl hp))) (fun p hp=>ej p (List.mem_append.2 (.inl hp))) o7,
    ih h2 (fun p hp=>gM p (List.mem_append.2 (.inr hp))) (fun p hp=>ej p (List.mem_append.2 (.inr hp))) o6⟩
  ·cases h
def cY(D:Nat->Value)(fL:List Nat):List Nat:=fL.filterMap fun o=>bN (D o)
theorem jF{aI:Type}(a b:List (Nat×aI)):keys (a++b)=keys a++keys b:=by
 induction a with
 |nil=>rfl
 |cons p a ih=>simp[keys,ih]
theorem oe(a b:List Nat):cY D (a++b)=cY D a++cY D b:=by simp[cY]
def gF(sites:List (Nat×Site))(us:List (Nat×Site)):Prop:=∀o aM,(o,aM)∈us->∃ae,look sites o=some ae/\ae.live=true/\aM=.dead ae.cl
theorem gF.nil{sites:List (Nat×Site)}:gF sites []:=fun _ _ h=>by simp at h
theorem gF.append{sites us vs:List (Nat×Site)}(h:gF sites us)(aj:gF sites vs):gF sites (us++vs):=by
 intro o s hm;rcases List.mem_append.1 hm with hm|hm
 ·exact h o s hm
 ·exact aj o s hm
theorem ak7(L:fg U Y X D st M w c7 eQ av){o s:Nat}{t:bc}{xs:List (den t)}(hl:look st.sites o=some (.row s t xs)):
  ∃e,∃cs:List Value,rowAt w t.jw e (bb t) (D o) xs.length cs/\cO w av (flat t xs) cs:=by
 obtain⟨e,cs,h1,h2⟩:=L.fz.old.sites o _ hl;refine⟨e,cs,h1,by rw[eS];exact h1.1,fun j g1 g2=>L.vF (h2 j g1 g2)⟩
theorem ye(L:fg U Y X D st M w c7 eQ av){l ga:aP}{us:List (Nat×Site)}{v:Value}(h:nB st l=some (ga,us))(hv:dM D st.sites w (aH X D st.sites) l v):
  mC w av ga v (cY D (keys us))/\gF st.sites us:=by
 unfold nB at h;split at h
 ·cases h;exact⟨⟨rfl,L.vF hv⟩,.nil⟩
 ·rename_i t;cases h;have hv:v=.slice none 0 0:=hv;subst hv;exact⟨⟨rfl,0,[],⟨by simp,.inl ⟨rfl,rfl⟩⟩,rfl,fun j g=>by simp[flat] at g⟩,.nil⟩
 ·rename_i o s;split at h
  ·rename_i aM t xs hl;cases hb:aM.beq s with
   |false=>simp[hb] at h
   |true=>
    simp only[hb,cond_true,Option.some.injEq,Prod.mk.injEq] at h;obtain⟨rfl,rfl⟩:=h;have hs:=Nat.eq_of_beq_eq_true hb;subst hs;have hl:look st.sites o=some (.row aM t xs):=hl;have mQ:v=D o:=Ref.at hv.2 hl rfl;obtain⟨e,cs,h1,h2⟩:=ak7 L hl;refine⟨⟨?_,e,cs,by rw[mQ];exact h1,h2⟩,fun ab aAj hm=>?_⟩
    ·simp only[keys,cY,List.filterMap_cons,List.filterMap_nil,mQ];cases bN (D o)<;>rfl
    ·simp only[List.mem_singleton,Prod.mk.injEq] at hm;obtain⟨rfl,rfl⟩:=hm;exact⟨_,hl,rfl,rfl⟩
  ·rename_i aM t xs hl;cases hb:aM.beq s with
   |false=>simp[hb] at h
   |true=>
    simp only[hb,cond_true,Option.some.injEq,Prod.mk.injEq] at h;obtain⟨rfl,rfl⟩:=h;have hs:=Nat.eq_of_beq_eq_true hb;subst hs;have hl:look st.sites o=some (.c8 aM t xs):=hl;have mQ:v=D o:=Ref.at hv.2 hl rfl;refine⟨⟨rfl,?_⟩,.nil⟩;rw[mQ];exact L.vF (L.fz.old.sites o _ hl).1
  ·cases h
 ·cases h;exact⟨⟨rfl,trivial⟩,.nil⟩
 ·cases h;exact⟨⟨rfl,hv⟩,.nil⟩
 ·cases h
theorem O7{ai fX:List aP}{us:List (Nat×Site)}(h:kl st ai=some (fX,us))(bJ:fX.head?=some .dh):ai.head?=some .dh:=by
 cases ai with
 |nil=>simp only[kl] at h;cases h;cases bJ
 |cons l ai=>
  simp only[kl] at h;split at h
  ·rename_i a u1 as u2 h1 h2;cases h;simp only[List.head?_cons,Option.some.injEq] at bJ ⊢;subst bJ;unfold nB at h1;split at h1<;>try(cases h1;done)
   ·split at h1;all_goals first|cases h1;done|skip
    all_goals
     rename_i aM t xs _;revert h1
     generalize aM.beq _=q;intro h1;cases q<;>cases h1
   ·rfl
  ·cases h
theorem Hb(L:fg U Y X D st M w c7 eQ av):∀{ai fX:List aP} {us:List (Nat×Site)} {vs:List Value},kl st ai=some (fX,us)->cm D st.sites w (aH X D st.sites) ai vs->
  k8 w av fX vs (cY D (keys us))/\gF st.sites us:=by
 intro ai;induction ai with
 |nil=>intro fX us vs h hv;simp only[kl] at h;cases h;rw[hv.nq];exact⟨rfl,.nil⟩
 |cons l ai ih=>
  intro fX us vs h hv;simp only[kl] at h;split at h
  ·rename_i a u1 as u2 h1 h2;cases h;obtain⟨v,cS,rfl,o7,o6⟩:=hv.inv;obtain⟨aD,aF⟩:=ye L h1 o7;obtain⟨bI,cJ⟩:=ih h2 o6;exact⟨⟨_,_,by rw[jF,oe],aD,bI⟩,aF.append cJ⟩
  ·cases h
theorem iJ.append{as n3:List Arg}{vs cS:List Value}{bs nZ:List Nat}(h:iJ w av as vs bs)(aj:iJ w av n3 cS nZ):iJ w av (as++n3) (vs++cS) (bs++nZ):=by
 induction as generalizing vs bs with
 |nil=>
  match vs,h with
  |[],h=>have h:bs=[]:=h;subst h;exact aj
 |cons a as ih=>
  match vs,h with
  |v::vs,⟨b1,b2,h1,h2,h3⟩=>exact⟨b1,b2++nZ,by rw[h1,List.append_assoc],h2,ih h3⟩
theorem afk{cs:List (List be)}{vs:List Value}(h:kd w av cs vs):iJ w av (nu cs) vs []:=by
 induction cs generalizing vs with
 |nil=>
  match vs,h with
  |[],_=>rfl
 |cons ds cs ih=>
  match vs,h with
  |v::vs,⟨⟨b,cur,h1,h2,h3,aE,bi⟩,ca⟩=>
   refine⟨[],[],rfl,⟨rfl,b,0,by rw[h1],h2,h3,cur,by rw[bi.1],fun j u hu=>aE j u hu,bi.2⟩,ih ca⟩
theorem MR{as n3:List Arg}{vs cS:List Value}(hl:as.length=vs.length):dI (as++n3) (vs++cS)=dI as vs++dI n3 cS:=by
 induction as generalizing vs with
 |nil=>rw[List.eq_nil_of_length_eq_zero hl.symm];rfl
 |cons a as ih=>
  match vs,hl with
  |v::vs,hl=>
   have:=ih (vs:=vs) (by simpa using hl)
   cases a with
   |av a=>cases v<;>simp[dI,this]
   |e8 c=>
    cases v<;>try(simp[dI,this];done)
    rename_i p;cases p<;>simp[dI,this]
theorem afm(cs:List (List be))(vs:List Value):dI (nu cs) vs=[]:=by
 induction cs generalizing vs with
 |nil=>cases vs<;>rfl
 |cons c cs ih=>cases vs<;>simp[nu,dI,ih]
theorem iJ.length{as:List Arg}{vs:List Value}{bs:List Nat}(h:iJ w av as vs bs):as.length=vs.length:=by
 induction as generalizing vs bs with
 |nil=>
  match vs,h with
  |[],_=>rfl
 |cons a as ih=>
  match vs,h with
  |v::vs,⟨_,_,_,_,h⟩=>simp[ih h]
theorem agL(L:fg U Y X D st M w c7 eQ av):∀{cu:List aZ} {a:jX} {vs:List Value},iM st cu=some a->cu.length=vs.length->
  (∀i (h:i<cu.length) (aj:i<vs.length),b_ D st.sites w (aH X D st.sites) (cu[i]) (vs[i]))->(∀p,p∈a.eG->p∈c7)->(∀o,o∈a.fA->o∈eQ)->
  iJ w av a.as vs (cY D (keys a.gone))/\gF st.sites a.gone/\dI a.as vs=cY D (keys a.boxes)/\(∀o s,(o,s)∈a.boxes->(o,.dead s)∈a.gone/\∃b,D o=.pointer (some ⟨b,0,none⟩)):=by
 intro cu;induction cu with
 |nil=>
  intro a vs h hl _ _ _;simp only[iM] at h;cases h;rw[List.eq_nil_of_length_eq_zero hl.symm];exact⟨rfl,.nil,rfl,fun o s hm=>by simp at hm⟩
 |cons qW cu ih=>
  intro a vs h hl hv gM ej;match vs,hl with
  |v::vs,hl=>
   have mP:=hv 0 (by simp) (by simp)
   have hvs:∀i (h:i<cu.length) (aj:i<vs.length),b_ D st.sites w (aH X D st.sites) (cu[i]) (vs[i]):=fun i g1 g2=>hv (i+1) (by simpa using g1) (by simpa using g2)
   have fY:cu.length=vs.length:=by simpa using hl
   simp only[List.getElem_cons_zero] at mP;unfold iM at h;split at h
   ·cases ‹qW::cu=[]›
   ·rename_i o s cS b0;cases b0;split at h
    ·rename_i cells r lW hr;split at h
     ·rename_i cs gone hg;cases h;obtain⟨aD,aF,bI,cJ⟩:=ih hr fY hvs gM ej;have jm:=gx lW;obtain⟨b,T,cur,e1,e2,bv,dq,fa⟩:=L.fz.old.box jm mP;have Jg:mB cells T cur b:=by
       obtain⟨b2,eo,XR,q1,q2,_,_,eC,_⟩:=L.fz.old.sites o _ jm;rw[e1] at q1;cases q1;rw[bv] at q2;cases q2;exact eC
      obtain⟨g1,g2⟩:=Hb L hg fa;subst e2;refine⟨⟨b::cY D (keys gone),_,?_,⟨b,rfl,T,cur,_,rfl,bv,dq,fun bJ=>Jg (O7 hg bJ),g1⟩,aD⟩,?_,?_,?_⟩
      ·show cY D (keys (((o,Site.dead s)::gone)++r.gone))=_;rw[jF,oe];congr 1
       simp[keys,cY,e1,bN]
      ·refine gF.append ?_ aF;intro ab aM hm;rcases List.mem_cons.1 hm with hm|hm
       ·cases hm;exact⟨_,jm,rfl,rfl⟩
       ·exact g2 ab aM hm
      ·simp[dI,bI,keys,cY,e1,bN]
      ·intro ab aM hm;rcases List.mem_cons.1 hm with hm|hm
       ·cases hm;exact⟨by simp,b,e1⟩
       ·obtain⟨q1,q2⟩:=cJ ab aM hm;exact⟨List.mem_append.2 (.inr q1),q2⟩
     ·cases h
    ·cases h
   ·rename_i l cS _ b0;cases b0;split at h
    ·rename_i ga us bs r h1 hr;cases h;obtain⟨aD,aF,bI,cJ⟩:=ih hr fY hvs (fun p hp=>gM p (List.mem_append.2 (.inr hp))) (fun p hp=>ej p (List.mem_append.2 (.inr hp)))
     have:=GF L h1 (fun p hp=>gM p (List.mem_append.2 (.inl hp))) (fun p hp=>ej p (List.mem_append.2 (.inl hp))) mP
     refine⟨⟨[],_,rfl,this,aD⟩,aF,?_,cJ⟩;cases v<;>simp[dI,bI]
    ·cases h
   ·rename_i ai cS b0;cases b0;split at h
    ·rename_i fX us bs r h1 hr;cases h;obtain⟨aD,aF,bI,cJ⟩:=ih hr fY hvs (fun p hp=>gM p (List.mem_append.2 (.inr hp))) (fun p hp=>ej p (List.mem_append.2 (.inr hp)))
     obtain⟨mK,e1,e2,bv⟩:=mP;have:=aiX L h1 (fun p hp=>gM p (List.mem_append.2 (.inl hp))) (fun p hp=>ej p (List.mem_append.2 (.inl hp))) ⟨e2,bv⟩
     refine⟨⟨[],_,rfl,⟨mK,e1,this⟩,aD⟩,aF,?_,cJ⟩;cases v<;>simp[dI,bI]
    ·cases h
   ·cases h
theorem ag4(L:fg U Y X D st M w c7 eQ av){l ga:aP}{gs us:List (Nat×Site)}{bs:List Nat}{v:Value}(h:oF st l=some (ga,gs,us,bs))(gM:∀p,p∈us->p∈c7)(ej:∀o,o∈bs->o∈eQ)
  (hv:dM D st.sites w (aH X D st.sites) l v):mC w av ga v (cY D (keys gs))/\gF st.sites gs:=by
 unfold oF at h;split at h
 ·split at h
  ·rename_i hg;cases h;exact ye L hg hv
  ·cases h
 ·cases h;exact ye (l:=.nil _) (us:=[]) L rfl hv
 ·split at h
  ·rename_i hl;cases h;exact⟨GF L hl gM ej hv,.nil⟩
  ·cases h
theorem ae2(L:fg U Y X D st M w c7 eQ av):∀{cu:List aZ} {a:jX} {vs:List Value},lG st cu=some a->cu.length=vs.length->
  (∀i (h:i<cu.length) (aj:i<vs.length),b_ D st.sites w (aH X D st.sites) (cu[i]) (vs[i]))->(∀p,p∈a.eG->p∈c7)->(∀o,o∈a.fA->o∈eQ)->
  iJ w av a.as vs (cY D (keys a.gone))/\gF st.sites a.gone/\dI a.as vs=cY D (keys a.boxes)/\(∀o s,(o,s)∈a.boxes->(o,.dead s)∈a.gone/\∃b,D o=.pointer (some ⟨b,0,none⟩)):=by
 intro cu;induction cu with
 |nil=>
  intro a vs h hl _ _ _;simp only[lG] at h;cases h;rw[List.eq_nil_of_length_eq_zero hl.symm];exact⟨rfl,.nil,rfl,fun o s hm=>by simp at hm⟩
 |cons qW cu ih=>
  intro a vs h hl hv gM ej;match vs,hl with
  |v::vs,hl=>
   have mP:=hv 0 (by simp) (by simp)
   have hvs:∀i (h:i<cu.length) (aj:i<vs.length),b_ D st.sites w (aH X D st.sites) (cu[i]) (vs[i]):=fun i g1 g2=>hv (i+1) (by simpa using g1) (by simpa using g2)
   have fY:cu.length=vs.length:=by simpa using hl
   simp only[List.getElem_cons_zero] at mP;unfold lG at h;split at h
   ·cases ‹qW::cu=[]›
   ·rename_i l cS b0;cases b0;split at h
    ·rename_i ga gs us bs r h1 hr;cases h;obtain⟨aD,aF,bI,cJ⟩:=ih hr fY hvs (fun p hp=>gM p (List.mem_append.2 (.inr hp))) (fun p hp=>ej p (List.mem_append.2 (.inr hp)))
     obtain⟨g1,g2⟩:=ag4 L h1 (fun p hp=>gM p (List.mem_append.2 (.inl hp))) (fun p hp=>ej p (List.mem_append.2 (.inl hp))) mP
     refine⟨⟨_,_,by rw[jF,oe],g1,aD⟩,g2.append aF,?_,fun ab aM hm=>?_⟩
     ·cases v<;>simp[dI,bI]
     ·obtain⟨q1,q2⟩:=cJ ab aM hm;exact⟨List.mem_append.2 (.inr q1),q2⟩
    ·cases h
   ·cases h
theorem NI{b:Bool}(L:fg U Y X D st M w c7 eQ av){cu:List aZ}{a:jX}{vs:List Value}(h:rF b st cu=some a)(hl:cu.length=vs.length)
  (hv:∀i (h:i<cu.length) (aj:i<vs.length),b_ D st.sites w (aH X D st.sites) (cu[i]) (vs[i])) (h1:∀p,p∈a.eG->p∈c7) (h2:∀o,o∈a.fA->o∈eQ):
  iJ w av a.as vs (cY D (keys a.gone))/\gF st.sites a.gone/\dI a.as vs=cY D (keys a.boxes)/\(∀o s,(o,s)∈a.boxes->(o,.dead s)∈a.gone/\∃b,D o=.pointer (some ⟨b,0,none⟩)):=by
 cases b
 ·exact agL L h hl hv h1 h2
 ·exact ae2 L h hl hv h1 h2
end
end Go.Jk
