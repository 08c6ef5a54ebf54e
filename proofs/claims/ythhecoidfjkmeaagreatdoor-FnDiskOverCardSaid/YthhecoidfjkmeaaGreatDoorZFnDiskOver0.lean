/- FnDiskOver: the last complete root is recovered. (part 1 of 7: JkCore, JkGlob, JkState, JkExec, JkFoot, JkCode, JkTurn, JkOps1, JkOps2, JkOps3, JkOps4, JkOps5, JkOps6, JkOps7, JkOps8, JkOps9, JkOps10, JkOps11, JkOps12, JkOps13, JkOps14, JkOps15, JkOps16, JkOps17,) Conditions: none beyond the statement. -/
import Derived.Calls
import Derived.Below
import Derived.WalkKit
import Derived.Laws.AppendOwn
import Derived.Great.BuildSlice
import Derived.IntWalk
import Derived.Laws.Tables
import Derived.MapKept
import Derived.Laws.BytesArg
import Derived.Lib.ConvBytes
set_option linter.unusedSimpArgs false
set_option linter.unusedVariables false
namespace Go.Jk
universe u v
theorem Y{aD:Type u}{lu:Type v}(a:aD)(f:aD->Option lu):(some a).bind f=f a:=rfl
theorem ad{aD:Sort u}(a b:aD):(bif true then a else b)=a:=rfl
theorem ak{aD:Sort u}(a b:aD):(bif false then a else b)=b:=rfl
theorem bu:(!true)=false:=rfl
theorem bJ:(!false)=true:=rfl
theorem bE{aD:Type u}(a b:aD):(some a=some b)=(a=b):=Option.some.injEq a b
theorem bC(a b:Bool):((a&&b)=true)=(a=true/\b=true):=Bool.and_eq_true a b
theorem cg{a b:Nat}(h:a.beq b=true):a=b:=Nat.eq_of_beq_eq_true h
theorem cf{aD:Type u}(y:aD){a:aD}{l:List aD}(h:a∈l):a∈y::l:=List.mem_cons_of_mem y h
theorem ci{aD:Type u}{a:aD}{l:List aD}:a∈a::l:=List.mem_cons_self
theorem bp{aD:Type u}{a:aD}{s t:List aD}:a∈s++t <-> a∈s\/a∈t:=List.mem_append
theorem bO{aD:Type u}{b:aD}{l:List aD}{a:aD}:a∈b::l <-> a=b\/a∈l:=List.mem_cons
theorem cW{aD:Type u}{a:aD}{l:List aD}:(a::l).length=l.length+1:=rfl
theorem dx{aD:Type u}{a b:List aD}:(a++b).length=a.length+b.length:=List.length_append
theorem dZ{aD:Type u}{l:List aD}{i:Nat}(h:i<l.length):l[i]? =some l[i]:=List.getElem?_eq_getElem h
theorem dY{p:Prop}[Decidable p]:(decide p=true)=p:=decide_eq_true_eq
theorem eJ{aD:Type u}{l:List aD}{i:Nat}{a:aD}(h:l[i]? =some a):a∈l:=List.mem_of_getElem? h
theorem fP{aD:Type u}{l:List aD}(h:l.length=0):l=[]:=List.eq_nil_of_length_eq_zero h
abbrev B:=List UInt8
structure aB where
 path:B
 kind:Int
 mode:Int
 text:B
structure bF where
 name:B
 kind:Int
 a6:B
structure aK where
 name:B
 a6:B
 bl:List bF
 bI:List aB
structure awK where
 name:B
 text:B
structure aeD where
 name:B
 text:B
structure Source where
 name:B
 sum:B
structure Piece where
 name:B
 ft:B
structure aqh where
 name:B
 a6:B
 lets:List aeD
 builds:List bF
 runs:List bF
 sources:List Source
 pieces:List Piece
 steps:List B
structure av8 where
 at_:Int
 lines:List B
inductive bi where
 |i64|u8|u32|bool|str|entry|need|pack|file|lt|source|piece|recipe|hunk|uc
 deriving DecidableEq
@[reducible] def den:bi->Type
 |.i64|.u8|.u32=>Int
 |.bool=>Bool
 |.str=>B
 |.entry=>aB
 |.need=>bF
 |.pack=>aK
 |.file=>awK
 |.lt=>aeD
 |.source=>Source
 |.piece=>Piece
 |.recipe=>aqh
 |.hunk=>av8
 |.uc=>List Bool
inductive bk:Type where
 |int (k:IntKind) (n:Int)
 |bool (b:Bool)
 |str (s:B)
 |sl (t:bi) (xs:List (den t))
 |fn (g:FuncId) (bM:List (List bk))
 |map (t:bi) (es:List (B×den t))
 |err (T:Nat) (D:Option Int)
def enc:(t:bi)->den t->List bk
 |.i64,n=>[.int .i64 n]
 |.u8,n=>[.int .u8 n]
 |.u32,n=>[.int .u32 n]
 |.bool,b=>[.bool b]
 |.str,s=>[.str s]
 |.entry,e=>[.str e.path,.int .i64 e.kind,.int .i64 e.mode,.str e.text]
 |.need,n=>[.str n.name,.int .i64 n.kind,.str n.a6]
 |.pack,p=>[.str p.name,.str p.a6,.sl .need p.bl,.sl .entry p.bI]
 |.file,f=>[.str f.name,.str f.text]
 |.lt,f=>[.str f.name,.str f.text]
 |.source,f=>[.str f.name,.str f.sum]
 |.piece,f=>[.str f.name,.str f.ft]
 |.recipe,r=>[.str r.name,.str r.a6,.sl .lt r.lets,.sl .need r.builds,.sl .need r.runs,.sl .source r.sources,.sl .piece r.pieces,.sl .str r.steps]
 |.hunk,h=>[.int .i64 h.at_,.sl .str h.lines]
 |.uc,b=>[.sl .bool b]
def bg:bi->Nat
 |.i64|.u8|.u32|.bool|.str|.uc=>1
 |.entry=>4
 |.need=>3
 |.pack=>4
 |.file|.lt|.source|.piece|.hunk=>2
 |.recipe=>8
def dec:(t:bi)->List bk->Option (den t)
 |.i64,[.int .i64 n]=>some n
 |.u8,[.int .u8 n]=>some n
 |.u32,[.int .u32 n]=>some n
 |.bool,[.bool b]=>some b
 |.str,[.str s]=>some s
 |.entry,[.str a,.int .i64 k,.int .i64 m,.str b]=>some ⟨a,k,m,b⟩
 |.need,[.str a,.int .i64 k,.str b]=>some ⟨a,k,b⟩
 |.pack,[.str a,.str b,.sl .need ns,.sl .entry es]=>some ⟨a,b,ns,es⟩
 |.file,[.str a,.str b]=>some ⟨a,b⟩
 |.lt,[.str a,.str b]=>some ⟨a,b⟩
 |.source,[.str a,.str b]=>some ⟨a,b⟩
 |.piece,[.str a,.str b]=>some ⟨a,b⟩
 |.recipe,[.str a,.str b,.sl .lt al,.sl .need bs,.sl .need lx,.sl .source bf,.sl .piece ps,.sl .str cv]=>some ⟨a,b,al,bs,lx,bf,ps,cv⟩
 |.hunk,[.int .i64 n,.sl .str al]=>some ⟨n,al⟩
 |.uc,[.sl .bool b]=>some b
 |_,_=>none
theorem jC:∀(t:bi) (x:den t),(enc t x).length=bg t:=by
 intro t x;cases t<;>rfl
theorem mC(t:bi):0<bg t:=by cases t<;>decide
theorem BY:∀(t:bi) (ds:List bk) (x:den t),dec t ds=some x->enc t x=ds:=by
 intro t ds x h;unfold dec at h;split at h<;>first|(cases h;rfl)|cases h
def flat(t:bi)(xs:List (den t)):List bk:=xs.flatMap (enc t)
theorem fr(t:bi)(xs:List (den t)):(flat t xs).length=xs.length*bg t:=by
 unfold flat;induction xs with
 |nil=>simp
 |cons x xs ih=>simp[List.flatMap_cons,jC,ih,Nat.add_mul,Nat.add_comm]
theorem sO(t:bi)(xs bm:List (den t)):flat t (xs++bm)=flat t xs++flat t bm:=by
 simp[flat,List.flatMap_append]
theorem flat_get(t:bi)(xs:List (den t))(i j:Nat)(x:den t)(hx:xs[i]? =some x)(hj:j<bg t):
  (flat t xs)[i*bg t+j]? =(enc t x)[j]? :=by
 induction xs generalizing i with
 |nil=>simp at hx
 |cons y bm ih=>
  cases i with
  |zero=>
   simp only[List.getElem?_cons_zero,bE] at hx;subst hx;simp only[Nat.zero_mul,Nat.zero_add,flat,List.flatMap_cons];rw[List.getElem?_append_left (by rw[jC];exact hj)]
  |succ i=>
   simp only[List.getElem?_cons_succ] at hx;have:=ih i hx;simp only[flat,List.flatMap_cons] at this ⊢;rw[List.getElem?_append_right (by rw[jC,Nat.add_mul];omega),jC]
   rw[<-this];congr 1
   rw[Nat.add_mul];omega
theorem alX(t:bi)(xs:List (den t))(i:Nat)(x:den t):
  flat t (xs.set i x)=(flat t xs).take (i*bg t)++(if i<xs.length then enc t x else [])++(flat t xs).drop ((i+1)*bg t):=by
 induction xs generalizing i with
 |nil=>simp[flat]
 |cons y bm ih=>
  cases i with
  |zero=>
   simp only[List.set_cons_zero,flat,List.flatMap_cons,Nat.zero_mul,List.take_zero,List.nil_append,cW,Nat.zero_lt_succ,if_true,Nat.zero_add,Nat.one_mul];rw[List.drop_append_of_le_length (by rw[jC];omega)]
   rw[show List.drop (bg t) (enc t y)=[] from List.drop_eq_nil_of_le (by rw[jC];exact Nat.le_refl _)]
   rfl
  |succ i=>
   have h:=ih i;simp only[flat] at h;simp only[List.set_cons_succ,flat,List.flatMap_cons,cW];rw[h];have e1:List.take ((i+1)*bg t) (enc t y++bm.flatMap (enc t))=enc t y++(bm.flatMap (enc t)).take (i*bg t):=by
    rw[List.take_append,List.take_of_length_le (by rw[jC,Nat.add_mul];omega),jC]
    congr 2
    rw[Nat.add_mul];omega
   have e2:List.drop ((i+1+1)*bg t) (enc t y++bm.flatMap (enc t))=(bm.flatMap (enc t)).drop ((i+1)*bg t):=by
    rw[List.drop_append,List.drop_eq_nil_of_le (by rw[jC,Nat.add_mul,Nat.add_mul];omega),jC,List.nil_append]
    congr 1
    rw[Nat.add_mul (i+1) 1];omega
   rw[e1,e2];simp only[Nat.add_lt_add_iff_right,List.append_assoc]
def i':List Int:=[1116352408,1899447441,3049323471,3921009573,961987163,1508970993,2453635748,2870763221,3624381080,310598401,607225278,1426881987,1925078388,2162078206,2614888103,3248222580,3835390401,4022224774,264347078,604807628,770255983,1249150122,1555081692,1996064986,2554220882,2821834349,2952996808,3210313671,3336571891,3584528711,113926993,338241895,666307205,773529912,1294757372,1396182291,1695183700,1986661051,2177026350,2456956037,2730485921,2820302411,3259730800,3345764771,3516065817,3600352804,4094571909,275423344,430227734,506948616,659060556,883997877,958139571,1322822218,1537002063,1747873779,1955562222,2024104815,2227730452,2361852424,2428436474,2756734187,3204031479,3329325298]
def XV:List Int:=(List.range 20).map fun i=>((10^i:Nat):Int)
def oS(w:World)(g:Nat)(k:IntKind)(zs:List Int):Prop:=∃T fz,w.heap[g]? =some (.cells (zs.map fun z=>Value.int k z).toArray T fz)
def sj:TypeId:=91
def nh:TypeId:=5
def lo:List Nat:=[0,1]
def n_(w:World):Prop:=oS w 0 .u32 i'/\oS w 1 .u64 XV
theorem arR{w w':World}(h:∀b,b∈lo->w'.heap[b]? =w.heap[b]?)(k:n_ w):n_ w':=by
 obtain⟨⟨Ot,f0,h0⟩,⟨dw,f1,h1⟩⟩:=k;exact⟨⟨Ot,f0,(h 0 (by simp[lo])).trans h0⟩,⟨dw,f1,(h 1 (by simp[lo])).trans h1⟩⟩
theorem oS.lt{w:World}{g:Nat}{k:IntKind}{zs:List Int}(h:oS w g k zs):g<w.heap.size:=by
 obtain⟨T,f,h⟩:=h;exact(Array.getElem?_eq_some_iff.1 h).1
theorem azl{w:World}(k:n_ w)(b:Nat)(h:b∈lo):b<w.heap.size:=by
 simp only[lo,bO,List.not_mem_nil,or_false] at h;rcases h with rfl|rfl
 ·exact k.1.lt
 ·exact k.2.lt
inductive aU:Type where
 |d (v:bk)
 |nil (t:bi) -- uD nil slice
 |own (o s:Nat) -- uD whole of a row of C_ own
 |ptr (o s off:Nat) -- a pointer aCI a box of C_ own
 |eV (cells:List bk) (off:Nat) -- a pointer aei cells Dy adh only read
 |fm (o s:Nat) (t:bi) (k off:Nat) -- a pointer aei aCi k of a row of C_ own,ax1 cell 'qc
 |clo (g:FuncId) (bM:List (Nat×Nat)) -- a closure over boxes of C_ own
 |dd (v:Value) -- aCH this value
 |fresh (t:bi) (xs:List (den t)) -- a row Dy aCo else holds (aor caller and callee alone)
 |dN -- in a arY first cell:nil,or uD arY own address (strings.aCk)
 |any
inductive b4:Type where
 |aq (l:aU)
 |agg (al:List aU)
inductive bb:Type where
 |av (a:b4)
 |kj (as:List b4)
inductive Site:Type where
 |box (s:Nat) (cells:List aU)
 |row (s:Nat) (t:bi) (xs:List (den t))
 |dF (s:Nat) (t:bi) (xs:List (den t))
 |map (s:Nat) (t:bi) (es:List (B×den t))
 |dead (s:Nat)
def Site.cK:Site->Nat
 |.box s _|.row s _ _|.dF s _ _|.map s _ _|.dead s=>s
def Site.live:Site->Bool
 |.box _ _|.row _ _ _|.map _ _ _=>true
 |_=>false
def look{aD:Type}:List (Nat×aD)->Nat->Option aD
 |[],_=>none
 |(k,v)::r,n=>bif k.beq n then some v else look r n
def cI{aD:Type}:List (Nat×aD)->Nat->aD->List (Nat×aD)
 |[],n,v=>[(n,v)]
 |(k,w)::r,n,v=>bif k.beq n then(k,v)::r else(k,w)::cI r n v
theorem kh{a b:Nat}(h:¬a=b):a.beq b=false:=by
 cases e:a.beq b
 ·rfl
 ·exact absurd (cg e) h
theorem dm{aD:Type}(l:List (Nat×aD))(n m:Nat)(v:aD):look (cI l n v) m=if n=m then some v else look l m:=by
 induction l with
 |nil=>
  simp only[cI,look];by_cases h:n=m
  ·subst h;simp
  ·have:n.beq m=false:=kh h;simp[this,h]
 |cons p l ih=>
  obtain⟨k,w⟩:=p;simp only[cI];by_cases h:k=n
  ·subst h;simp only[Nat.beq_refl,ad,look];by_cases hm:k=m
   ·subst hm;simp
   ·have:k.beq m=false:=kh hm;simp[this,hm]
  ·have hb:k.beq n=false:=kh h;simp only[hb,ak,look];by_cases hm:k=m
   ·subst hm;have:¬n=k:=fun e=>h e.symm
    simp[this]
   ·have:k.beq m=false:=kh hm;simp[this,ih]
structure ao where
 c5:List (Nat×bb)
 sites:List (Nat×Site)
 nt:Nat
def ao.get(st:ao)(t:Nat):bb:=match look st.c5 t with|some v=>v|none=>.av (.aq .any)
def ao.ai(st:ao)(o:Nat):Option Site:=look st.sites o
def ao.set(st:ao)(t:Nat)(v:bb):ao:={st with c5:=cI st.c5 t v}
def ao.iU(st:ao)(o:Nat)(s:Site):ao:={st with sites:=cI st.sites o s}
@[simp] theorem ao.Ji(st:ao)(t u:Nat)(v:bb):(st.set t v).get u=if t=u then v else st.get u:=by
 unfold ao.set ao.get;rw[dm];by_cases h:t=u<;>simp[h]
@[simp] theorem ao.akG(st:ao)(t o:Nat)(v:bb):(st.set t v).ai o=st.ai o:=rfl
@[simp] theorem ao.apJ(st:ao)(t:Nat)(v:bb):(st.set t v).nt=st.nt:=rfl
@[simp] theorem ao.agS(st:ao)(o u:Nat)(s:Site):(st.iU o s).get u=st.get u:=rfl
@[simp] theorem ao.yT(st:ao)(o ae:Nat)(s:Site):(st.iU o s).ai ae=if o=ae then some s else st.ai ae:=by
 unfold ao.iU ao.ai;simp only[dm]
@[simp] theorem ao.ahG(st:ao)(o:Nat)(s:Site):(st.iU o s).nt=st.nt:=rfl
def oe:(t:bi)->den t->Value
 |.i64,n=>.int .i64 n
 |.bool,b=>.bool b
 |_,_=>undef
def hO(l:B):Value:=.string ⟨l.toArray⟩
def nD(arr:Array MapEntry):List (Value×Value):=arr.toList.map fun e=>(e.key,e.val)
def kC(t:bi)(es:List (B×den t)):List (Value×Value):=es.map fun p=>(hO p.1,oe t p.2)
def mM(w:World)(b:Nat)(t:bi)(es:List (B×den t)):Prop:=∃arr clock,w.heap[b]? =some (.map arr clock)/\nD arr=kC t es
theorem mM.of{w w':World}{b:Nat}{t:bi}{es:List (B×den t)}(h:w'.heap[b]? =w.heap[b]?)(m:mM w b t es):mM w' b t es:=by
 obtain⟨arr,c,h1,h2⟩:=m;exact⟨arr,c,h.trans h1,h2⟩
theorem mM.lt{w:World}{b:Nat}{t:bi}{es:List (B×den t)}(m:mM w b t es):b<w.heap.size:=by
 obtain⟨arr,c,h1,h2⟩:=m;rcases Nat.lt_or_ge b w.heap.size with h|h
 ·exact h
 ·rw[Array.getElem?_eq_none h] at h1;cases h1
inductive bT(w:World)(av:Nat->Prop):bk->Value->Prop where
 |int (k:IntKind) (n:Int):bT w av (.int k n) (.int k n)
 |bool (b:Bool):bT w av (.bool b) (.bool b)
 |str (l:B) (s:ByteArray) (h:s.data.toList=l):bT w av (.str l) (.string s)
 |nil (t:bi):bT w av (.sl t []) (.slice none 0 0)
 |sl (t:bi) (xs:List (den t)) (a:Addr) (cap:Nat) (cs:List Value) (n:Nat) (hn:n=xs.length) (hcap:n<=cap) (hb:xs≠[]->¬av a.block)
   (hl:cs.length=(flat t xs).length)
   (hc:∀j u,cs[j]? =some u->w.cell? (a.add j)=some u)
   (hr:∀j (h:j<(flat t xs).length) (an:j<cs.length),bT w av ((flat t xs)[j]) (cs[j])):bT w av (.sl t xs) (.slice (some a) n cap)
 |fn (g:FuncId) (bM:List (List bk)) (bs:List Nat) (jz:Nat->List Value) (lb:Array Value) (hlb:lb=(bs.map fun b=>Value.pointer (some ⟨b,0,none⟩)).toArray) (uW:bs.length=bM.length)
   (hb:∀b,b∈bs->¬av b) (hlt:∀b,b∈bs->b<w.heap.size)
   (hl:∀i (h:i<bM.length),(jz i).length=(bM[i]).length)
   (hc:∀i (h:i<bs.length) j u,(jz i)[j]? =some u->w.cell? ⟨bs[i],j,none⟩=some u)
   (hr:∀i (h:i<bM.length) j (h1:j<(bM[i]).length) (h2:j<(jz i).length),bT w av ((bM[i])[j]) ((jz i)[j])):
   bT w av (.fn g bM) (.func (.func g) #[] lb)
 |xh (t:bi):bT w av (.map t []) (.map none)
 |map (t:bi) (es:List (B×den t)) (b:Nat) (hb:¬av b) (hm:mM w b t es):bT w av (.map t es) (.map (some b))
 |xt (T:TypeId):bT w av (.err T none) .nilIface
 |err (T:TypeId) (n:Int):bT w av (.err T (some n)) (.iface T (.agg #[.int .i64 n]))
theorem bT.j6{w:World}{av:Nat->Prop}{d:bk}{v:Value}(r:bT w av d v):v.oneCell'=true:=by
 cases r<;>rfl
def DW(v:Value):Prop:=v=.slice none 0 0\/∃b n c,v=.slice (some ⟨b,0,none⟩) n c
def bZ:Value->Option Nat
 |.slice (some a) _ _=>some a.block
 |.pointer (some a)=>some a.block
 |.map (some b)=>some b
 |_=>none
section
variable (F:Nat->Value)(sites:List (Nat×Site))(w:World)(av:Nat->Prop)
def Ref(o s:Nat)(p:Prop):Prop:=∃ai,look sites o=some ai/\s<=ai.cK/\(ai.cK=s->p)
def eu:aU->Value->Prop
 |.d x,v=>bT w av x v
 |.nil _,v=>v=.slice none 0 0
 |.own o s,v=>v.oneCell'=true/\Ref sites o s (v=F o)
 |.ptr o s off,v=>∃b,v=.pointer (some ⟨b,off,none⟩)/\Ref sites o s (F o=.pointer (some ⟨b,0,none⟩))
 |.eV cells off,v=>∃b D,v=.pointer (some ⟨b,D+off,none⟩)/\¬av b/\b<w.heap.size/\∃cs:List Value,cs.length=cells.length/\(∀j u,cs[j]? =some u->w.cell? ⟨b,D+j,none⟩=some u)/\
   ∀j (h:j<cells.length) (an:j<cs.length),bT w av (cells[j]) (cs[j])
 |.fm o s t k off,v=>∃b,v=.pointer (some ⟨b,k*bg t+off,none⟩)/\Ref sites o s (∃n c,F o=.slice (some ⟨b,0,none⟩) n c)
 |.clo g bM,v=>∃vs:List Value,v=.func (.func g) #[] vs.toArray/\vs.length=bM.length/\∀i (h:i<bM.length) (an:i<vs.length),Ref sites (bM[i]).1 (bM[i]).2 (vs[i]=F (bM[i]).1)
 |.dd u,v=>v=u
 |.fresh _ _,_=>False
 |.dN,_=>True
 |.any,_=>True
def bi.kl:bi->Bool
 |.u8=>true
 |_=>false
def nS(u:Bool)(e:TypeId)(cur:Array Value)(fz:Nat×Nat):Prop:=(u=true->e=nh)/\(fz=(0,0)\/u=true/\cur.size<=fz.1)
def rowAt(w:World)(u:Bool)(e:TypeId)(size:Nat)(v:Value)(n:Nat)(xs:List Value):Prop:=
 xs.length=n*size/\((v=.slice none 0 0/\n=0)\/
  ∃g cap cur fz,v=.slice (some ⟨g,0,none⟩) n cap/\nS u e cur fz/\w.heap[g]? =some (.cells cur e fz)/\n<=cap/\cap<=maxLen/\cur.size=cap*size/\cur.toList.take (n*size)=xs)
theorem Gi(w:World)(u:Bool)(e:TypeId)(size:Nat):rowAt w u e size (.slice none 0 0) 0 []:=⟨by simp,.inl ⟨rfl,rfl⟩⟩
def nK(cells:List aU)(T:TypeId)(cur:List Value)(b:Nat):Prop:=cells.head?=some .dN->T=sj/\(cur.head?=some (.pointer none)\/cur.head?=some (.pointer (some ⟨b,0,none⟩)))
def hT:b4->Value->Prop
 |.aq l,v=>eu F sites w av l v
 |.agg al,v=>∃vs:List Value,v=.agg vs.toArray/\vs.length=al.length/\∀j (h:j<al.length) (an:j<vs.length),eu F sites w av (al[j]) (vs[j])
def cy:bb->Value->Prop
 |.av a,v=>hT F sites w av a v
 |.kj as,v=>∃vs:List Value,v=.tuple vs.toArray/\vs.length=as.length/\∀j (h:j<as.length) (an:j<vs.length),hT F sites w av (as[j]) (vs[j])
def kA(o:Nat):Site->Prop
 |.box _ cells=>∃b T,∃cur:List Value,F o=.pointer (some ⟨b,0,none⟩)/\w.heap[b]? =some (.cells cur.toArray T (0,0))/\cur.length=cells.length/\
   (∀u∈cur,u.oneCell'=true)/\nK cells T cur b/\∀j (h:j<cells.length) (an:j<cur.length),eu F sites w av (cells[j]) (cur[j])
 |.row _ t xs=>∃e,∃cs:List Value,rowAt w t.kl e (bg t) (F o) xs.length cs/\∀j (h:j<(flat t xs).length) (an:j<cs.length),bT w av ((flat t xs)[j]) (cs[j])
 |.dF _ t xs=>bT w av (.sl t xs) (F o)/\DW (F o)
 |.map _ t es=>∃b,F o=.map (some b)/\mM w b t es
 |.dead _=>True
end
def cD(sites:List (Nat×Site))(o:Nat):Prop:=∃ai,look sites o=some ai/\ai.live=true
def aN(X:Nat->Prop)(F:Nat->Value)(sites:List (Nat×Site))(b:Nat):Prop:=X b\/∃o,cD sites o/\bZ (F o)=some b
structure Fr(Z:List Nat)(U w:World):Prop where
 os:w.os=U.os
 tape:w.tape=U.tape
 output:w.output=U.output
 size:U.heap.size<=w.heap.size
 block:∀b,b<U.heap.size->b∉Z->w.heap[b]? =U.heap[b]?
theorem Fr.refl(Z:List Nat)(w:World):Fr Z w w:=⟨rfl,rfl,rfl,Nat.le_refl _,fun _ _ _=>rfl⟩
structure jg(w:World)(Z:List Nat)(X:Nat->Prop):Prop where
 ok:n_ w
 Z:∀b,b∈lo->b∉Z
 X:∀b,b∈lo->¬X b
 lt:∀b,b∈lo->b<w.heap.size
theorem jg.less{w:World}{Z:List Nat}{X X':Nat->Prop}(G:jg w Z X)(h:∀b,b∈lo->X' b->X b):jg w Z X':=⟨G.ok,G.Z,fun b hb hx=>G.X b hb (h b hb hx),G.lt⟩
theorem jg.arw{w:World}{Z:List Nat}{X X':Nat->Prop}(G:jg w Z X)(h:∀b,X' b->X b\/b∈Z):jg w Z X':=⟨G.ok,G.Z,fun b hb hx=>(h b hx).elim (G.X b hb) (G.Z b hb),G.lt⟩
structure az(U:World)(Z:List Nat)(X:Nat->Prop)(F:Nat->Value)(st:ao)(M:Array Value)(w:World):Prop where
 nt:M.size=st.nt
 c5:∀t,cy F st.sites w (aN X F st.sites) (st.get t) (M.getD t undef)
 sites:∀o ai,look st.sites o=some ai->kA F st.sites w (aN X F st.sites) o ai
 eB:∀o ae b,cD st.sites o->cD st.sites ae->bZ (F o)=some b->bZ (F ae)=some b->o=ae
 cF:∀o b,cD st.sites o->bZ (F o)=some b->¬X b/\(b∈Z\/U.heap.size<=b)
 frame:Fr Z U w
 old:∀b,X b->b<w.heap.size
 ft:jg U Z X
inductive cu:Type where
 |none
 |int (k:IntKind)
 |bool
 |str
 |ptr
 |func
 |slice (e:TypeId) (t:bi) (bytes:Nat)
 |struct (b0:List (Nat×Nat)) (n:Nat) (z:List aU) (eq:Bool)
 |map (k e:TypeId) (t:bi)
 |arr (e:TypeId) (t:bi) (n:Nat)
 |iface
def yw:(t:bi)->Option (den t)
 |.i64|.u8|.u32=>some (0:Int)
 |.bool=>some false
 |.str=>some ([]:B)
 |_=>none
def uz:bi->Option aU
 |.i64=>some (.d (.int .i64 0))
 |.u8=>some (.d (.int .u8 0))
 |.u32=>some (.d (.int .u32 0))
 |.bool=>some (.d (.bool false))
 |.str=>some (.d (.str []))
 |_=>none
def cu.agg:cu->Bool
 |.struct _ _ _ _|.arr _ _ _=>true
 |_=>false
def cu.known:cu->Bool
 |.none=>false
 |_=>true
def cu.size:cu->Nat
 |.struct _ n _ _=>n
 |.arr _ _ n=>n
 |_=>1
def cu.zero:cu->Option (List aU)
 |.none=>Option.none
 |.int k=>some [.d (.int k 0)]
 |.bool=>some [.d (.bool false)]
 |.str=>some [.d (.str [])]
 |.ptr=>some [.dd (.pointer Option.none)]
 |.func=>some [.dd .nilFunc]
 |.slice _ t _=>some [.nil t]
 |.struct _ _ z _=>some z
 |.map _ _ _=>some [.dd (.map Option.none)]
 |.arr _ t n=>(uz t).map (List.replicate n)
 |.iface=>some [.dd .nilIface]
inductive Arg:Type where
 |av (a:b4)
 |fN (cells:List aU)
structure xw:Type 1 where
 J:Type
 comp:Option J
 fN:J->List (List aU)
 fH:J->List b4
abbrev aH:=List Arg->xw
def xw.fail:xw:=⟨Unit,Option.none,fun _=>[],fun _=>[]⟩
structure Ctx:Type 1 where
 tt:TypeId->cu
 b0:FuncId->Option aH
 mh:FuncId->Option FuncId:=fun _=>none
 oh:FuncId->Bool:=fun _=>false
 op:FuncId->Bool:=fun _=>false
 kU:FuncId->Bool:=fun _=>false -- a aj5 copy check
 bs:FuncId->Bool:=fun _=>false -- a aj5 String
 gt:Nat->Option ((t:bi)×List (den t)):=fun _=>none -- uD aCf tables
structure dA:Type 1 where
 J:Type
 comp:Option J
 val:J->bb
 us:J->List (Nat×Site)
 sk:J->Bool
def dA.fail:dA:=⟨Unit,Option.none,fun _=>.av (.aq .any),fun _=>[],fun _=>false⟩
def dA.ok(v:bb):dA:=⟨Unit,some (),fun _=>v,fun _=>[],fun _=>true⟩
def dA.fZ(v:bb)(us:List (Nat×Site)):dA:=⟨Unit,some (),fun _=>v,fun _=>us,fun _=>true⟩
def dA.eP{J:Type}(c:Option J)(f:J->bb):dA:=⟨J,c,f,fun _=>[],fun _=>true⟩
def dA.ik{J:Type}(c:Option J)(f:J->bb)(us:J->List (Nat×Site)):dA:=⟨J,c,f,us,fun _=>true⟩
def aS{aD:Type}(xs:List aD)(i:Int):Option aD:=if 0<=i then xs[i.toNat]? else none
def bh(n:Nat)(i:Int):Option Nat:=if 0<=i/\i<n then some i.toNat else none
def bq{aD:Type}(xs:List aD)(de hi:Int):Option (List aD):=if 0<=de/\de<=hi/\hi<=xs.length then some ((xs.take hi.toNat).drop de.toNat) else none
def room:Nat:=140737488355328
def cl{aD:Type}(bytes:Nat)(xs bm:List aD):Option (List aD):=if(xs.length+bm.length)*bytes<=room/\xs.length+bm.length<=maxLen then some (xs++bm) else none
def cc(s t:B):Option B:=if((s.length+t.length:Nat):Int)>IntKind.i64.max then none else some (s++t)
def l5(k:IntKind)(x y:Int):Option Int:=if y=0 then none else some (k.wrap (x.tdiv y))
def ja(x y:Int):Option Int:=if y=0 then none else some (x.tmod y)
def l4(k:IntKind)(x y:Int):Option Int:=if y<0 then none else some (k.wrap (x*2^(min y.toNat k.bits)))
def fC(k:IntKind)(x y:Int):Option Int:=if y<0 then none else some (x.fdiv (2^(min y.toNat k.bits)))
def kk{aD:Type}(bytes:Nat)(n c:Int)(z:aD):Option (List aD):=if 0<=n/\n<=c/\c*bytes<=room/\c<=maxLen then some (List.replicate n.toNat z) else none
def gB(x y:Int):Int:=if y>x then y else x
def kG(x y:Int):Int:=if y<x then y else x
def eW(k:IntKind)(x y:Int):Int:=k.wrap (BitVec.ofInt k.bits x &&& BitVec.ofInt k.bits y).toNat
def is(k:IntKind)(x y:Int):Int:=k.wrap (BitVec.ofInt k.bits x ||| BitVec.ofInt k.bits y).toNat
def dB(k:IntKind)(x y:Int):Int:=k.wrap (BitVec.ofInt k.bits x ^^^ BitVec.ofInt k.bits y).toNat
def bytesOf(s:B):List Int:=s.map fun b=>(b.toNat:Int)
def strOf(xs:List Int):B:=xs.map fun n=>UInt8.ofNat n.toNat
abbrev one(d:bk):bb:=.av (.aq (.d d))
abbrev ch(l:aU):bb:=.av (.aq l)
def wo(ti:cu):Value->bb
 |.int k n=>one (.int k n)
 |.bool b=>one (.bool b)
 |.string s=>one (.str s.data.toList)
 |.slice none 0 0=>match ti with|.slice _ t _=>ch (.nil t)|_=>ch (.dd (.slice none 0 0))
 |.map none=>match ti with|.map _ _ t=>one (.map t [])|_=>ch (.dd (.map none))
 |.agg _|.tuple _=>ch .any
 |v=>ch (.dd v)
def bj(C:Ctx)(st:ao)(T:TypeId):Operand->bb
 |.tmp t=>st.get t
 |.const v=>wo (C.tt T) v
 |.global g=>ch (.dd (.pointer (some ⟨g,0,none⟩)))
 |.func f=>ch (.clo f [])
def rowOf(st:ao)(o s:Nat):Option ((t:bi)×List (den t)):=
 match st.ai o with
 |some (.row aQ t xs)=>bif aQ.beq s then some ⟨t,xs⟩ else none
 |some (.dF aQ t xs)=>bif aQ.beq s then some ⟨t,xs⟩ else none
 |_=>none
def gi(st:ao)(o s:Nat):Option (List aU):=
 match st.ai o with
 |some (.box aQ cells)=>bif aQ.beq s then some cells else none
 |_=>none
def mapOf(st:ao):aU->Option ((t:bi)×List (B×den t))
 |.d (.map t es)=>some ⟨t,es⟩
 |.own o s=>match st.ai o with
  |some (.map aQ t es)=>bif aQ.beq s then some ⟨t,es⟩ else none
  |_=>none
 |_=>none
def k1{aD:Type}:List (B×aD)->B->Option aD
 |[],_=>none
 |(k,v)::r,n=>bif k==n then some v else k1 r n
def pS{aD:Type}:List (B×aD)->B->aD->List (B×aD)
 |[],n,v=>[(n,v)]
 |(k,w)::r,n,v=>bif k==n then(k,v)::r else(k,w)::pS r n v
def K3:(t:bi)->bk->Option (den t)
 |.i64,.int .i64 n=>some n
 |.bool,.bool b=>some b
 |_,_=>none
def w5:(t:bi)->Option (den t)->Option bk
 |.i64,D=>some (.int .i64 (D.getD 0))
 |.bool,D=>some (.bool (D.getD false))
 |_,_=>none
def bG(st:ao)(o:Nat):Nat:=match st.ai o with|some x=>x.cK+1|none=>0
def mS(st:ao)(o s:Nat)(t:bi)(xs:List (den t)):List (Nat×Site):=match st.ai o with
 |some (.dF _ _ _)=>[]
 |_=>[(o,.dF s t xs)]
def kq(st:ao):aU->Option (bk×List (Nat×Site))
 |.d v=>some (v,[])
 |.nil t=>some (.sl t [],[])
 |.own o s=>match rowOf st o s with|some ⟨t,xs⟩=>some (.sl t xs,mS st o s t xs)|none=>none
 |.clo g []=>some (.fn g [],[])
 |_=>none
def gD(st:ao):List aU->Option (List bk×List (Nat×Site))
 |[]=>some ([],[])
 |l::al=>match kq st l,gD st al with
  |some (d,us),some (ds,vs)=>some (d::ds,us++vs)
  |_,_=>none
def b4.cells:b4->List aU
 |.aq l=>[l]
 |.agg al=>al
def aU.storable:aU->Bool
 |.any|.dN|.fresh _ _|.eV _ _|.fm _ _ _ _ _=>false
 |.dd (.agg _)|.dd (.tuple _)=>false
 |_=>true
def h_:List aU->Bool
 |[]=>true
 |l::al=>l.storable&&h_ al
def cut(agg:Bool)(off n:Nat)(al:List aU):Option bb:=
 bif agg then(bif Nat.ble (off+n) al.length then some (.av (.agg ((al.drop off).take n))) else none)
 else match al.drop off with|l::_=>some (ch l)|[]=>none
def cR(ds:List bk):List aU:=ds.map .d
def bY{aD:Type}(old:List aD)(off:Nat)(new:List aD):List aD:=old.take off++new++old.drop (off+new.length)
def Cs:bk->bk->Option Bool
 |.int k a,.int k' b=>if k=k' then some (a==b) else none
 |.bool a,.bool b=>some (a==b)
 |.str a,.str b=>some (a==b)
 |_,_=>none
def wq:List aU->List aU->Option Bool
 |[.d a],[.d b]=>Cs a b
 |.d a::as,.d b::bs=>match Cs a b,wq as bs with
  |some x,some y=>some (x&&y)
  |_,_=>none
 |_,_=>none
def Xa(op:BinOp)(k:IntKind)(x y:Int):dA:=
 match op with
 |.add=>.ok (one (.int k (k.wrap (x+y))))
 |.sub=>.ok (one (.int k (k.wrap (x-y))))
 |.mul=>.ok (one (.int k (k.wrap (x*y))))
 |.quo=>.eP (l5 k x y) fun n=>one (.int k n)
 |.rem=>.eP (ja x y) fun n=>one (.int k n)
 |.and=>.ok (one (.int k (eW k x y)))
 |.or=>.ok (one (.int k (is k x y)))
 |.xor=>.ok (one (.int k (dB k x y)))
 |.eql=>.ok (one (.bool (x==y)))
 |.neq=>.ok (one (.bool (x !=y)))
 |.lss=>.ok (one (.bool (decide (x<y))))
 |.leq=>.ok (one (.bool (decide (x<=y))))
 |.gtr=>.ok (one (.bool (decide (x>y))))
 |.geq=>.ok (one (.bool (decide (x>=y))))
 |_=>.fail
def WQ(op:BinOp)(s t:B):dA:=
 match op with
 |.add=>.eP (cc s t) fun r=>one (.str r)
 |.eql=>.ok (one (.bool (s==t)))
 |.neq=>.ok (one (.bool (!(s==t))))
 |.lss=>.ok (one (.bool (Op.bytesLess s t)))
 |.leq=>.ok (one (.bool (Op.bytesLess s t||s==t)))
 |.gtr=>.ok (one (.bool (!(Op.bytesLess s t||s==t))))
 |.geq=>.ok (one (.bool (!(Op.bytesLess s t))))
 |_=>.fail
def VN(op:BinOp)(k:IntKind)(a:Int)(k':IntKind)(b:Int):dA:=
 match op with
 |.shl=>.eP (l4 k a b) fun n=>one (.int k n)
 |.shr=>.eP (fC k a b) fun n=>one (.int k n)
 |op=>if k=k' then Xa op k a b else .fail
def Wm(op:BinOp)(ti:cu)(a b:Bool):dA:=
 match ti with
 |.bool=>match op with
  |.eql=>.ok (one (.bool (a==b)))
  |.neq=>.ok (one (.bool (!(a==b))))
  |_=>.fail
 |_=>.fail
def rP:List aU->List aU->Bool
 |[],[]=>true
 |.d (.int _ _)::z,.d (.int _ _)::l=>rP z l
 |.d (.bool _)::z,.d (.bool _)::l=>rP z l
 |.d (.str _)::z,.d (.str _)::l=>rP z l
 |_,_=>false
def Xr(op:BinOp)(ti:cu)(xs bm:List aU):dA:=
 match ti with
 |.struct _ n z true=>bif xs.length.beq n&&rP z xs then
   match wq xs bm with
   |some b=>match op with
    |.eql=>.ok (one (.bool b))
    |.neq=>.ok (one (.bool (!b)))
    |_=>.fail
   |none=>.fail
  else .fail
 |_=>.fail
def Dk(op:BinOp)(ti:cu)(D:Option Int):dA:=
 match ti with
 |.iface=>match op with
  |.eql=>.ok (one (.bool D.isNone))
  |.neq=>.ok (one (.bool D.isSome))
  |_=>.fail
 |_=>.fail
def Cw:Operand->Bool
 |.const .nilIface=>true
 |_=>false
def Kt(op:BinOp)(ti:cu):bb->dA
 |.av (.aq (.d (.err _ D)))=>Dk op ti D
 |.av (.aq (.dd .nilIface))=>Dk op ti none
 |_=>.fail
def LM(op:BinOp)(ti:cu)(x y:bb):dA:=
 match x,y with
 |.av (.aq (.d (.int k a))),.av (.aq (.d (.int k' b)))=>VN op k a k' b
 |.av (.aq (.d (.str s))),.av (.aq (.d (.str t)))=>WQ op s t
 |.av (.aq (.d (.bool a))),.av (.aq (.d (.bool b)))=>Wm op ti a b
 |.av (.agg xs),.av (.agg bm)=>Xr op ti xs bm
 |_,_=>.fail
def tV(agg:Bool)(n:Nat)(st:ao)(a:bb):dA:=
 match a with
 |.av (.aq (.ptr o s off))=>match gi st o s with
  |some cells=>match cut agg off n cells with|some v=>.ok v|none=>.fail
  |none=>.fail
 |.av (.aq (.eV cells off))=>match cut agg off n (cR cells) with|some v=>.ok v|none=>.fail
 |.av (.aq (.fm o s u k off))=>match rowOf st o s with
  |some ⟨t,xs⟩=>if t=u/\off+n<=bg t then .eP (xs[k]?) fun x=>match cut agg off n (cR (enc t x)) with|some v=>v|none=>ch .any else .fail
  |none=>.fail
 |_=>.fail
def tq(n:Nat)(st:ao)(a:bb)(v:b4):dA:=
 bif v.cells.length.beq n then
 match a with
 |.av (.aq (.ptr o s off))=>match gi st o s with
  |some cells=>bif Nat.ble (off+n) cells.length&&h_ v.cells then .fZ (ch (.dd undef)) [(o,.box s (bY cells off v.cells))] else .fail
  |none=>.fail
 |.av (.aq (.fm o s u k off))=>match st.ai o with
  |some (.row aQ t xs)=>bif aQ.beq s&&Nat.ble (off+n) (bg t)&&decide (t=u) then
    match gD st v.cells with
    |some (ds,us)=>bif(look us o).isNone then .ik ((xs[k]?).bind fun x=>dec t (bY (enc t x) off ds)) (fun _=>ch (.dd undef)) fun x=>us++[(o,.row s t (xs.set k x))] else .fail
    |none=>.fail
   else .fail
  |_=>.fail
 |_=>.fail
 else .fail
def sR(u:bi)(st:ao)(x:bb)(i:Int):dA:=
 match x with
 |.av (.aq (.d (.sl t xs)))=>if t=u then .eP (aS xs i) fun x=>ch (.eV (enc t x) 0) else .fail
 |.av (.aq (.own o s))=>match rowOf st o s with
  |some ⟨t,xs⟩=>if t=u then .eP (bh xs.length i) fun k=>ch (.fm o s t k 0) else .fail
  |none=>.fail
 |_=>.fail
def FV(off:Nat):bb->dA
 |.av (.aq (.ptr o s D))=>.ok (ch (.ptr o s (D+off)))
 |.av (.aq (.eV cells D))=>.ok (ch (.eV cells (D+off)))
 |.av (.aq (.fm o s t k D))=>.ok (ch (.fm o s t k (D+off)))
 |_=>.fail
def jk(l9:Int):Option bb->Option Int
 |none=>some l9
 |some (.av (.aq (.d (.int _ n))))=>some n
 |some _=>none
def tu(ti:cu)(st:ao)(x:bb)(de hi:Option bb):dA:=
 match x with
 |.av (.aq (.d (.str s)))=>match ti,jk 0 de,jk s.length hi with
  |.str,some l,some h=>.eP (bq s l h) fun r=>one (.str r)
  |_,_,_=>.fail
 |.av (.aq (.d (.sl t xs)))=>match ti,jk 0 de,jk xs.length hi with
  |.slice _ u _,some l,some h=>if t=u then .eP (bq xs l h) fun r=>one (.sl t r) else .fail
  |_,_,_=>.fail
 |.av (.aq (.nil t))=>match ti,jk 0 de,jk 0 hi with
  |.slice _ _ _,some l,some h=>.eP (bq ([]:List (den t)) l h) fun r=>one (.sl t r)
  |_,_,_=>.fail
 |.av (.aq (.own o s))=>match rowOf st o s with
  |some ⟨t,xs⟩=>match ti,jk 0 de,jk xs.length hi with
   |.slice _ u _,some l,some h=>if t=u then .ik (bq xs l h) (fun r=>one (.sl t r)) fun _=>mS st o s t xs else .fail
   |_,_,_=>.fail
  |none=>.fail
 |_=>.fail
def uj(ti:cu)(st:ao)(x:bb):dA:=
 match ti,x with
 |.str,.av (.aq (.d (.str s)))=>.ok (one (.int .i64 s.length))
 |.slice _ _ _,.av (.aq (.d (.sl _ xs)))=>.ok (one (.int .i64 xs.length))
 |.slice _ _ _,.av (.aq (.nil _))=>.ok (one (.int .i64 0))
 |.slice _ _ _,.av (.aq (.own o s))=>match rowOf st o s with
  |some ⟨_,xs⟩=>.ok (one (.int .i64 xs.length))
  |none=>.fail
 |.map _ _ _,.av (.aq l)=>match mapOf st l with
  |some ⟨_,es⟩=>.ok (one (.int .i64 es.length))
  |none=>.fail
 |_,_=>.fail
def tP(st:ao):bb->Option bk
 |.av (.aq (.d (.sl t xs)))=>some (.sl t xs)
 |.av (.aq (.d (.str s)))=>some (.str s)
 |.av (.aq (.nil t))=>some (.sl t [])
 |.av (.aq (.own o s))=>match rowOf st o s with|some ⟨t,xs⟩=>some (.sl t xs)|none=>none
 |_=>none
def rj(bytes:Nat)(t:bi)(dst:Nat)(st:ao)(s:bb)(bm:List (den t)):dA:=
 match s with
 |.av (.aq (.nil _))=>.ik (cl bytes [] bm) (fun _=>ch (.own dst (bG st dst))) fun r=>[(dst,.row (bG st dst) t r)]
 |.av (.aq (.own o s))=>match st.ai o with
  |some (.row aQ bw xs)=>bif aQ.beq s then
    if an:bw=t then .ik (cl bytes (an▸xs:List (den t)) bm) (fun _=>ch (.own dst (bG (st.iU o (.dead s)) dst)))
     fun r=>[(o,.dead s),(dst,.row (bG (st.iU o (.dead s)) dst) t r)]
    else .fail
   else .fail
  |_=>.fail
 |_=>.fail
def to(bytes:Nat)(t:bi)(dst:Nat)(st:ao)(s x:bb):dA:=
 match tP st x with
 |none=>.fail
 |some d=>match d with
  |.sl u bm=>if h:u=t then rj bytes t dst st s (h▸bm:List (den t)) else .fail
  |_=>.fail
def tp(bytes:Nat)(t:bi)(dst:Nat)(st:ao)(s x:bb):dA:=
 match x with
 |.av (.aq (.d (.str y)))=>if h:t=.u8 then rj bytes t dst st s (h▸(bytesOf y:List (den .u8))) else .fail
 |_=>.fail
def l_(t:bi)(st:ao):List b4->Option (List (den t)×List (Nat×Site))
 |[]=>some ([],[])
 |a::as=>match gD st a.cells with
  |some (ds,us)=>match dec t ds,l_ t st as with
   |some x,some (xs,vs)=>some (x::xs,us++vs)
   |_,_=>none
  |none=>none
def mU:bb->Option b4
 |.av a=>some a
 |.kj _=>none
def oR:List bb->Option (List b4)
 |[]=>some []
 |v::vs=>match mU v,oR vs with|some a,some as=>some (a::as)|_,_=>none
def tf:Nat->List (Nat×Operand)->Bool
 |_,[]=>true
 |n,(i,_)::r=>i.beq n&&tf (n+1) r
def isByte:cu->Bool
 |.int .u8=>true
 |_=>false
def ub(C:Ctx)(src dst:TypeId)(o:Nat)(st:ao)(x:bb):dA:=
 match C.tt src,C.tt dst,x with
 |.none,_,_=>.fail
 |_,.int k,.av (.aq (.d (.int _ n)))=>.ok (one (.int k (k.wrap n)))
 |_,.str,.av (.aq (.d (.str s)))=>.ok (one (.str s))
 |.slice e .u8 _,.str,.av (.aq (.d (.sl .u8 xs)))=>bif isByte (C.tt e) then .ok (one (.str (strOf xs))) else .fail
 |.slice e .u8 _,.str,.av (.aq (.nil _))=>bif isByte (C.tt e) then .ok (one (.str [])) else .fail
 |.slice e .u8 _,.str,.av (.aq (.own ae s))=>match rowOf st ae s with
  |some ⟨.u8,xs⟩=>bif isByte (C.tt e) then .ok (one (.str (strOf xs))) else .fail
  |_=>.fail
 |.str,.slice e .u8 _,.av (.aq (.d (.str s)))=>bif isByte (C.tt e) then .ik (if s.length<=maxLen then some () else none) (fun _=>ch (.own o (bG st o))) fun _=>[(o,.row (bG st o) .u8 (bytesOf s))] else .fail
 |_,_,_=>.fail
def lR(st:ao):List (Nat×Nat)->Option (List (List bk)×List (Nat×Site)×List Nat)
 |[]=>some ([],[],[])
 |(o,s)::r=>match gi st o s with
  |some cells=>match gD st cells,lR st r with
   |some (ds,us),some (rest,vs,bs)=>some (ds::rest,us++vs,o::bs)
   |_,_=>none
  |none=>none
def nO(st:ao):aU->Option (aU×List (Nat×Site)×List Nat)
 |.eV cells 0=>some (.eV cells 0,[],[])
 |.clo g (c::cs)=>match lR st (c::cs) with|some (ds,us,bs)=>some (.d (.fn g ds),us,bs)|none=>none
 |l=>match kq st l with|some (d,us)=>some (.d d,us,[])|none=>none
def mH(st:ao):List aU->Option (List aU×List (Nat×Site)×List Nat)
 |[]=>some ([],[],[])
 |l::al=>match nO st l,mH st al with
  |some (a,us,bs),some (as,vs,cs)=>some (a::as,us++vs,bs++cs)
  |_,_=>none
def oP(st:ao):aU->Option (aU×List (Nat×Site))
 |.d v=>some (.d v,[])
 |.nil t=>some (.fresh t [],[])
 |.own o s=>match st.ai o with
  |some (.row aQ t xs)=>bif aQ.beq s then some (.fresh t xs,[(o,.dead s)]) else none
  |some (.dF aQ t xs)=>bif aQ.beq s then some (.d (.sl t xs),[]) else none
  |_=>none
 |.dN=>some (.dN,[])
 |.dd v=>some (.dd v,[])
 |_=>none
def wR:List aU->List aU
 |.dd (.pointer none)::r=>.dN::r
 |l=>l
def lc(st:ao):List aU->Option (List aU×List (Nat×Site))
 |[]=>some ([],[])
 |l::al=>match oP st l,lc st al with
  |some (a,us),some (as,vs)=>some (a::as,us++vs)
  |_,_=>none
structure kM where
 as:List Arg
 fe:List (Nat×Site) -- rows Dy adh fe,as aCm aDF frozen
 gx:List Nat -- boxes Dy adh fe
 gone:List (Nat×Site) -- boxes Dy go over,and rows in aCB
 boxes:List (Nat×Nat) -- uD boxes:ai,cK
def jH(st:ao):List bb->Option kM
 |[]=>some ⟨[],[],[],[],[]⟩
 |.av (.aq (.ptr o s 0))::vs=>match gi st o s,jH st vs with
  |some cells,some r=>match lc st cells with
   |some (cs,gone)=>some ⟨.fN cs::r.as,r.fe,r.gx,((o,.dead s)::gone)++r.gone,(o,s)::r.boxes⟩
   |none=>none
  |_,_=>none
 |.av (.aq l)::vs=>match nO st l,jH st vs with
  |some (a,us,bs),some r=>some ⟨.av (.aq a)::r.as,us++r.fe,bs++r.gx,r.gone,r.boxes⟩
  |_,_=>none
 |.av (.agg al)::vs=>match mH st al,jH st vs with
  |some (as,us,bs),some r=>some ⟨.av (.agg as)::r.as,us++r.fe,bs++r.gx,r.gone,r.boxes⟩
  |_,_=>none
 |_::_=>none
def pT(st:ao):aU->Option (aU×List (Nat×Site)×List (Nat×Site)×List Nat)
 |.own o s=>match oP st (.own o s) with|some (a,us)=>some (a,us,[],[])|none=>none
 |.nil t=>some (.fresh t [],[],[],[])
 |l=>match nO st l with|some (a,us,bs)=>some (a,[],us,bs)|none=>none
def mA(st:ao):List bb->Option kM
 |[]=>some ⟨[],[],[],[],[]⟩
 |.av (.aq l)::vs=>match pT st l,mA st vs with
  |some (a,us,al,bs),some r=>some ⟨.av (.aq a)::r.as,al++r.fe,bs++r.gx,us++r.gone,r.boxes⟩
  |_,_=>none
 |_::_=>none
def tc(b:Bool)(st:ao)(vs:List bb):Option kM:=bif b then mA st vs else jH st vs
def bi.pQ:bi->Bool
 |.pack|.recipe|.hunk|.uc=>true
 |_=>false
def aU.pQ:aU->Bool
 |.d (.sl _ _)|.d (.fn _ _)|.d (.map _ _)=>true
 |.d _=>false
 |.fresh t _=>t.pQ
 |.dN|.dd _=>false
 |_=>true
def s3:List aU->Bool
 |[]=>false
 |l::al=>l.pQ||s3 al
def sU:List b4->Bool
 |[]=>false
 |a::as=>s3 a.cells||sU as
def sT:List (List aU)->Bool
 |[]=>false
 |a::as=>s3 a||sT as
def take(st:ao)(n:Nat):List aU->List aU×List (Nat×Site)
 |[]=>([],[])
 |.fresh t xs::al=>let r:=take st (n+1) al;(.own n (bG st n)::r.1,(n,.row (bG st n) t xs)::r.2)
 |l::al=>let r:=take st (n+1) al;(l::r.1,r.2)
def ez(st:ao)(n:Nat):List b4->List b4×List (Nat×Site)
 |[]=>([],[])
 |.aq l::as=>let x:=take st n [l];let r:=ez st (n+100) as;((match x.1 with|[gW]=>.aq gW|al=>.agg al)::r.1,x.2++r.2)
 |.agg al::as=>let x:=take st n al;let r:=ez st (n+100) as;(.agg x.1::r.1,x.2++r.2)
def hL(st:ao):List (Nat×Nat)->List (List aU)->List (Nat×Site)
 |(o,s)::bs,cs::c9=>let x:=take st (1000000+o*100) cs;x.2++(o,.box s x.1)::hL st bs c9
 |_,_=>[]
def WT:List b4->bb
 |[a]=>.av a
 |as=>.kj as
def keys{aD:Type}:List (Nat×aD)->List Nat
 |[]=>[]
 |p::r=>p.1::keys r
def gA(n:Nat):List Nat->Bool
 |[]=>false
 |m::r=>n.beq m||gA n r
def gf:List Nat->Bool
 |[]=>true
 |n::r=>!gA n r&&gf r
def fs:List Nat->List Nat->Bool
 |[],_=>true
 |n::r,l=>!gA n l&&fs r l
def p_(dst:Nat)(st:ao)(S:aH)(a:kM):dA:=
 let r:=S a.as
 {J:=r.J,comp:=r.comp
  val:=fun y=>WT (ez st (2000000+dst*10000) (r.fH y)).1
  us:=fun y=>(bif sU (r.fH y)||sT (r.fN y) then a.fe else [])++a.gone++hL st a.boxes (r.fN y)++(ez st (2000000+dst*10000) (r.fH y)).2
  sk:=fun y=>gf (keys a.gone)&&fs (keys a.fe++a.gx) (keys a.gone)&&gf (keys (hL st a.boxes (r.fN y)++(ez st (2000000+dst*10000) (r.fH y)).2))&&
   fs (keys a.fe++a.gx) (keys (hL st a.boxes (r.fN y)++(ez st (2000000+dst*10000) (r.fH y)).2))&&(!(sU (r.fH y)||sT (r.fN y))||a.gx.isEmpty)}
def callee(v:bb):Option (FuncId×List (Nat×Nat)):=
 match v with
 |.av (.aq (.clo g bM))=>some (g,bM)
 |_=>none
def gU(C:Ctx)(st:ao):List Operand->List TypeId->List bb
 |[],_=>[]
 |x::xs,[]=>bj C st 0 x::gU C st xs []
 |x::xs,T::dh=>bj C st T x::gU C st xs dh
def oH:List (List bk)->List Arg
 |[]=>[]
 |c::cs=>.av (.aq (.eV c 0))::oH cs
def ts(g:FuncId)(n:Nat)(st:ao):List bb->dA
 |[.av (.aq (.d (.str s))),.av (.aq (.d (.str p)))]=>.fZ (ch (.clo g [(n,bG st n),(n+1,bG st (n+1)),(n+2,bG st (n+2))]))
   [(n,.box (bG st n) [.d (.str p)]),(n+1,.box (bG st (n+1)) [.d (.str s)]),(n+2,.box (bG st (n+2)) [.d (.int .i64 0)])]
 |_=>.fail
def copyV(st:ao):List bb->dA
 |[.av (.aq (.ptr o s 0))]=>match st.ai o with
  |some (.box aQ [.dN,l])=>bif aQ.beq s then .fZ (.kj []) [(o,.box s [.dN,l])] else .fail
  |_=>.fail
 |_=>.fail
def tb(st:ao):List bb->dA
 |[.av (.aq (.ptr o s 0))]=>match gi st o s with
  |some [_,.nil .u8]=>.ok (one (.str []))
  |some [_,.own ae u]=>match st.ai ae with
   |some (.row b7 .u8 xs)=>bif b7.beq u then .fZ (one (.str (strOf xs))) [(ae,.dF u .u8 xs)] else .fail
   |_=>.fail
  |_=>.fail
 |_=>.fail
def tS(n:Nat)(st:ao):List bb->dA
 |[.av (.aq (.d (.sl .u8 xs)))]=>.fZ (ch (.ptr n (bG st n) 0)) [(n,.box (bG st n) [.d (.sl .u8 (xs.take 2000)),.d (.int .i64 0)])]
 |_=>.fail
def mz(C:Ctx)(dst:Nat)(st:ao)(f:bb)(vs:List bb):dA:=
  match f with
  |.av (.aq (.clo g bM))=>match C.mh g with
   |some cN=>match bM with
    |[]=>ts cN (3000000+dst*10) st vs
    |_=>.fail
   |none=>bif C.op g then(match bM with
    |[]=>tS (4000000+dst) st vs
    |_=>.fail) else bif C.kU g then(match bM with
    |[]=>copyV st vs
    |_=>.fail) else bif C.bs g then(match bM with
    |[]=>tb st vs
    |_=>.fail) else match C.b0 g,tc (C.oh g) st vs,lR st bM with
    |some S,some a,some (cs,us,bs)=>p_ dst st S {a with as:=a.as++oH cs,fe:=a.fe++us,gx:=a.gx++bs}
    |_,_,_=>.fail
  |.av (.aq (.d (.fn g bM)))=>match C.b0 g,jH st vs with
    |some S,some a=>p_ dst st S {a with as:=a.as++oH bM}
    |_,_=>.fail
  |_=>.fail
def DO(t:bi)(xs:List (den t))(n:Nat):List aU:=match yw t with
 |some z=>(List.range n).flatMap fun j=>cR (enc t (xs.getD j z))
 |none=>[]
def ut(t:bi):List aU->Option (List (den t))
 |[]=>some []
 |.d d::al=>match dec t [d],ut t al with
  |some x,some xs=>some (x::xs)
  |_,_=>none
 |_=>none
def long{aD:Type}(n:Nat)(xs:List aD):Option (List aD):=if xs.length=n then some xs else none
def rI(o:Nat)(st:ao)(t:bi)(n:Nat)(xs:List (den t)):dA:=bif xs.length.beq n&&Nat.ble n 1000 then .fZ (ch (.fm o (bG st o) t 0 0)) [(o,.row (bG st o) t xs)] else .fail
def tL(o:Nat)(st:ao)(t:bi)(n:Nat):dA:=match yw t with
 |some z=>rI o st t n (List.replicate n z)
 |none=>.fail
def uv(o:Nat)(st:ao)(t:bi)(n:Nat)(v:bb):dA:=match v with
 |.av (.agg al)=>match ut t al with
  |some xs=>rI o st t n xs
  |none=>.fail
 |_=>.fail
def tW(st:ao)(t:bi)(n:Nat)(a:bb):dA:=match a with
 |.av (.aq (.fm o s u 0 0))=>match rowOf st o s with
  |some ⟨bw,xs⟩=>if bw=t/\bw=u then .eP (long n xs) fun xs=>.av (.agg (DO bw xs n)) else .fail
  |none=>.fail
 |_=>.fail
def tr(st:ao)(t:bi)(n:Nat)(a:bb)(v:b4):dA:=match a,v with
 |.av (.aq (.fm o s u 0 0)),.agg al=>match st.ai o with
  |some (.row aQ bw xs)=>if bw=t/\bw=u/\aQ=s then(match ut bw al with
   |some bm=>bif bm.length.beq n then .ik (long n xs) (fun _=>ch (.dd undef)) fun _=>[(o,.row s bw bm)] else .fail
   |none=>.fail) else .fail
  |_=>.fail
 |_,_=>.fail
def sS(C:Ctx)(st:ao)(t:bi)(n:Nat)(x:bb)(i:Int):dA:=match x with
 |.av (.aq (.fm o s u 0 0))=>match rowOf st o s with
  |some ⟨bw,xs⟩=>if bw=t/\bw=u then .eP ((long n xs).bind fun xs=>bh xs.length i) fun k=>ch (.fm o s bw k 0) else .fail
  |none=>.fail
 |.av (.aq (.dd (.pointer (some ⟨g,0,none⟩))))=>match C.gt g with
  |some ⟨bw,xs⟩=>bif decide (bw=t)&&xs.length.beq n then .eP (aS xs i) fun x=>ch (.eV (enc bw x) 0) else .fail
  |none=>.fail
 |_=>.fail
def Kh(t:bi)(n:Nat)(x:bb)(i:Int):dA:=match x with
 |.av (.agg al)=>match ut t al with
  |some xs=>bif xs.length.beq n then .eP (aS xs i) fun x=>(match enc t x with|[d]=>ch (.d d)|_=>ch .any) else .fail
  |none=>.fail
 |_=>.fail
def tv(st:ao)(t:bi)(n:Nat)(x:bb)(de hi:Option bb):dA:=match x with
 |.av (.aq (.fm o s u 0 0))=>match rowOf st o s,jk 0 de,jk n hi with
  |some ⟨bw,xs⟩,some l,some h=>if bw=t/\bw=u then .ik ((long n xs).bind fun xs=>bq xs l h) (fun r=>ch (.d (.sl bw r))) fun _=>mS st o s bw xs else .fail
  |_,_,_=>.fail
 |_=>.fail
def lP(C:Ctx)(st:ao)(D:Oper):dA:=
 match D.op with
 |.makeMap t r=>match D.dst,C.tt t with
  |some o,.map _ _ ty=>match r with
   |none=>.fZ (ch (.own o (bG st o))) [(o,.map (bG st o) ty [])]
   |some x=>match bj C st 0 x with
    |.av (.aq (.d (.int _ _)))=>.fZ (ch (.own o (bG st o))) [(o,.map (bG st o) ty [])]
    |_=>.fail
  |_,_=>.fail
 |.mapUpdate t m k x=>tA C st t m k x
 |.insert t m k x=>tA C st t m k x
 |.lookup t m k c=>match C.tt t,bj C st t m,bj C st 0 k with
  |.map _ _ ty,.av (.aq l),.av (.aq (.d (.str n)))=>match mapOf st l with
   |some ⟨u,es⟩=>bif decide (u=ty) then(match w5 u (k1 es n) with
    |some d=>.ok (bif c then .kj [.aq (.d d),.aq (.d (.bool (k1 es n).isSome))] else one d)
    |none=>.fail) else .fail
   |none=>.fail
  |_,_,_=>.fail
 |.makeInterface t x=>match C.tt t,bj C st t x with
  |.struct _ _ _ _,.av (.agg [.d (.int .i64 n)])=>.ok (one (.err t (some n)))
  |_,_=>.fail
 |_=>.fail
where
 tA (C:Ctx) (st:ao) (t:TypeId) (m k x:Operand):dA:=match C.tt t,bj C st t m,bj C st 0 k,bj C st 0 x with
  |.map _ _ ty,.av (.aq (.own o s)),.av (.aq (.d (.str n))),.av (.aq (.d d))=>match st.ai o with
   |some (.map aQ u es)=>bif aQ.beq s&&decide (u=ty) then(match K3 u d with
    |some v=>.fZ (ch (.dd undef)) [(o,.map s u (pS es n v))]
    |none=>.fail) else .fail
   |_=>.fail
  |_,_,_,_=>.fail
def step(C:Ctx)(st:ao)(D:Oper):dA:=
 match D.op with
 |.move x|.assign x=>.ok (bj C st D.type x)
 |.pick c a b=>match bj C st D.type c with
  |.av (.aq (.d (.bool true)))=>.ok (bj C st D.type a)
  |.av (.aq (.d (.bool false)))=>.ok (bj C st D.type b)
  |_=>.fail
 |.alloc elem=>match D.dst,C.tt elem with
  |some o,.arr _ t n=>tL o st t n
  |some o,ti=>match ti.zero with
   |some z=>.fZ (ch (.ptr o (bG st o) 0)) [(o,.box (bG st o) (bif elem.beq sj then wR z else z))]
   |none=>.fail
  |_,_=>.fail
 |.box elem x=>match D.dst,C.tt elem with
  |some o,.arr _ t n=>uv o st t n (bj C st elem x)
  |some o,_=>match mU (bj C st elem x) with
   |some a=>bif h_ a.cells then .fZ (ch (.ptr o (bG st o) 0)) [(o,.box (bG st o) a.cells)] else .fail
   |none=>.fail
  |_,_=>.fail
 |.build t parts=>match C.tt t with
  |.struct b0 _ z _=>nE C st b0 z parts.toList
  |.arr _ ty n=>match uz ty with
   |some z=>nE C st ((List.range n).map fun j=>(j,1)) (List.replicate n z) parts.toList
   |none=>.fail
  |_=>.fail
 |.buildSlice t len parts=>match D.dst,C.tt t with
  |some o,.slice e ty _=>bif parts.toList.length.beq len&&tf 0 parts.toList&&Nat.ble (len*bg ty) 1000 then
    match oR (parts.toList.map fun p=>bj C st e p.2) with
    |some as=>match l_ ty st as with
     |some (xs,us)=>.fZ (ch (.own o (bG st o))) (us++[(o,.row (bG st o) ty xs)])
     |none=>.fail
    |none=>.fail
   else .fail
  |_,_=>.fail
 |.load t a=>match C.tt t with
  |.arr _ ty n=>tW st ty n (bj C st t a)
  |ti=>bif ti.known then tV ti.agg ti.size st (bj C st t a) else .fail
 |.store t a x=>match mU (bj C st t x) with
  |some v=>match C.tt t with
   |.arr _ ty n=>tr st ty n (bj C st t a) v
   |ti=>bif ti.known then tq ti.size st (bj C st t a) v else .fail
  |none=>.fail
 |.nilCheck x=>match bj C st D.type x with
  |.av (.aq (.ptr o s f))=>.ok (ch (.ptr o s f))
  |.av (.aq (.eV cs f))=>.ok (ch (.eV cs f))
  |.av (.aq (.fm o s t k f))=>.ok (ch (.fm o s t k f))
  |_=>.fail
 |.binOp op t x y _=>bif Cw y then Kt op (C.tt t) (bj C st t x) else LM op (C.tt t) (bj C st t x) (bj C st t y)
 |.unOp op _ x=>match op,bj C st D.type x with
  |.not,.av (.aq (.d (.bool b)))=>.ok (one (.bool (!b)))
  |.neg,.av (.aq (.d (.int k n)))=>.ok (one (.int k (k.wrap (0-n))))
  |.xor,.av (.aq (.d (.int k n)))=>.ok (one (.int k (dB k (if k.signed then-1 else k.max) n)))
  |_,_=>.fail
 |.convert src dst x=>(match D.dst with|some o=>ub C src dst o st (bj C st src x)|none=>.fail)
 |.makeFunc fn first captured=>match fn with
  |.func g=>bif first.toList.isEmpty then(match oQ C st captured.toList with|some bM=>.ok (ch (.clo g bM))|none=>.fail) else .fail
  |_=>.fail
 |.makeSlice t l c=>match D.dst,C.tt t,bj C st 0 l,bj C st 0 c with
  |some o,.slice e ty bytes,.av (.aq (.d (.int _ n))),.av (.aq (.d (.int _ m)))=>match(C.tt e).zero with
   |some z=>match gD st z with
    |some (ds,_)=>match dec ty ds with
     |some fj=>.ik (kk bytes n m fj) (fun _=>ch (.own o (bG st o))) fun r=>[(o,.row (bG st o) ty r)]
     |none=>.fail
    |none=>.fail
   |none=>.fail
  |_,_,_,_=>.fail
 |.slice t x de hi E3=>match E3 with
  |none=>match C.tt t with
   |.arr _ ty n=>tv st ty n (bj C st t x) (de.map (bj C st 0)) (hi.map (bj C st 0))
   |ti=>tu ti st (bj C st t x) (de.map (bj C st 0)) (hi.map (bj C st 0))
  |some _=>.fail
 |.fieldAddr s x f=>match C.tt s with
  |.struct b0 _ _ _=>match b0[f]? with
   |some (off,_)=>FV off (bj C st 0 x)
   |none=>.fail
  |_=>.fail
 |.indexAddr t x i=>match C.tt t,bj C st 0 i with
  |.slice _ ty _,.av (.aq (.d (.int _ n)))=>sR ty st (bj C st t x) n
  |.arr _ ty m,.av (.aq (.d (.int _ n)))=>sS C st ty m (bj C st t x) n
  |_,_=>.fail
 |.index t x i=>match C.tt t,bj C st t x,bj C st 0 i with
  |.str,.av (.aq (.d (.str s))),.av (.aq (.d (.int _ n)))=>.eP (aS s n) fun b=>one (.int .u8 b.toNat)
  |.arr _ ty m,v,.av (.aq (.d (.int _ n)))=>Kh ty m v n
  |_,_,_=>.fail
 |.extract t i=>match bj C st 0 t with
  |.kj as=>match as[i]? with
   |some a=>.ok (.av a)
   |none=>.fail
  |_=>.fail
 |.call c=>match c.callee with
  |.value f=>match D.dst with
   |some d=>mz C d st (bj C st 0 f) (gU C st c.args.toList c.argTypes.toList)
   |none=>mz C 0 st (bj C st 0 f) (gU C st c.args.toList c.argTypes.toList)
  |.builtin b=>match b,D.dst,c.args.toList,c.argTypes.toList with
   |.len,_,[x],[t]=>uj (C.tt t) st (bj C st t x)
   |.append,some o,[s,x],[t,u]=>match C.tt t,C.tt u with
    |.slice _ ty bytes,.slice _ _ _=>to bytes ty o st (bj C st t s) (bj C st u x)
    |.slice _ ty bytes,.str=>tp bytes ty o st (bj C st t s) (bj C st u x)
    |_,_=>.fail
   |.max,_,[x,y],_=>match bj C st D.type x,bj C st D.type y with
    |.av (.aq (.d (.int k a))),.av (.aq (.d (.int _ b)))=>.ok (one (.int k (gB a b)))
    |_,_=>.fail
   |.max,_,[x,y,z,u,v],_=>match bj C st D.type x,bj C st D.type y,bj C st D.type z,bj C st D.type u,bj C st D.type v with
    |.av (.aq (.d (.int k a))),.av (.aq (.d (.int _ b))),.av (.aq (.d (.int _ c))),.av (.aq (.d (.int _ d))),.av (.aq (.d (.int _ e)))=>.ok (one (.int k (gB (gB (gB (gB a b) c) d) e)))
    |_,_,_,_,_=>.fail
   |.min,_,[x,y],_=>match bj C st D.type x,bj C st D.type y with
    |.av (.aq (.d (.int k a))),.av (.aq (.d (.int _ b)))=>.ok (one (.int k (kG a b)))
    |_,_=>.fail
   |_,_,_,_=>.fail
  |_=>.fail
 |_=>lP C st D
where
 nE (C:Ctx) (st:ao) (b0:List (Nat×Nat)):List aU->List (Nat×Operand)->dA
  |z,[]=>.ok (.av (.agg z))
  |z,(i,x)::r=>match b0[i]?,mU (bj C st 0 x) with
   |some (off,n),some a=>bif a.cells.length.beq n&&h_ a.cells&&Nat.ble (off+n) z.length then nE C st b0 (bY z off a.cells) r else .fail
   |_,_=>.fail
 oQ (C:Ctx) (st:ao):List Operand->Option (List (Nat×Nat))
  |[]=>some []
  |x::r=>match bj C st 0 x,oQ C st r with
   |.av (.aq (.ptr o s 0)),some l=>some ((o,s)::l)
   |_,_=>none
def J4(C:Ctx)(st:ao)(D:Oper):Option (((t:bi)×List (den t))×Bool):=
 match D.op with
 |.binOp op T x (.const (.slice none 0 0)) _=>match C.tt T with
  |.slice _ _ _=>match op with
   |.eql=>match bj C st T x with
    |.av (.aq (.d (.sl t xs)))=>some (⟨t,xs⟩,false)
    |_=>none
   |.neq=>match bj C st T x with
    |.av (.aq (.d (.sl t xs)))=>some (⟨t,xs⟩,true)
    |_=>none
   |_=>none
  |_=>none
 |_=>none
def aU.names:aU->List Nat
 |.own o _|.ptr o _ _|.fm o _ _ _ _=>[o]
 |.clo _ bM=>keys bM
 |_=>[]
def d_:List aU->List Nat
 |[]=>[]
 |l::al=>l.names++d_ al
def s_:List b4->List Nat
 |[]=>[]
 |a::as=>d_ a.cells++s_ as
def bb.names:bb->List Nat
 |.av a=>d_ a.cells
 |.kj as=>s_ as
def zn(st:ao)(o:Nat):List Nat:=match st.ai o with
 |some (.box _ cells)=>d_ cells
 |_=>[]
def fl(st:ao):List Nat->List Nat
 |[]=>[]
 |o::r=>o::(zn st o++fl st r)
def lV:Op->List Operand
 |.move x|.assign x|.makeInterface _ x|.box _ x|.load _ x|.nilCheck x|.unOp _ _ x|.convert _ _ x|.fieldAddr _ x _|.extract x _=>[x]
 |.pick c a b=>[c,a,b]
 |.build _ ps|.buildSlice _ _ ps=>ps.toList.map (·.2)
 |.store _ a v|.binOp _ _ a v _|.makeSlice _ a v|.indexAddr _ a v|.index _ a v=>[a,v]
 |.makeFunc _ _ captured=>captured.toList
 |.slice _ x l h _=>x::(l.toList++h.toList)
 |.call c=>(match c.callee with|.value f=>[f]|_=>[])++c.args.toList
 |.lookup _ m k _=>[m,k]
 |.mapUpdate _ m k x|.insert _ m k x=>[m,k,x]
 |.makeMap _ r=>r.toList
 |_=>[]
def oC(st:ao):List Operand->List Nat
 |[]=>[]
 |.tmp t::r=>(st.get t).names++oC st r
 |_::r=>oC st r
def pI:List Operand->List Nat
 |[]=>[]
 |.tmp t::r=>t::pI r
 |_::r=>pI r
def Cx:Op->Bool
 |.call c=>match c.callee with
  |.value _=>true
  |_=>false
 |_=>false
def KC(C:Ctx):Op->List Nat
 |.makeSlice t _ _=>match C.tt t with
  |.slice e _ _=>match(C.tt e).zero with
   |some z=>d_ z
   |none=>[]
  |_=>[]
 |_=>[]
def looks:Op->Bool
 |.load _ _|.store _ _ _|.slice _ _ _ _ _|.indexAddr _ _ _|.convert _ _ _|.buildSlice _ _ _|.call _|.lookup _ _ _ _|.mapUpdate _ _ _ _|.insert _ _ _ _=>true
 |_=>false
def KQ(C:Ctx)(st:ao)(D:Oper):List Nat:=(bif looks D.op then fl st (oC st (lV D.op)) else [])++D.dst.toList++KC C D.op
def Sw(u:Nat):List Oper->List Nat
 |[]=>[]
 |D::r=>(match D.op,D.dst with
  |.move (.tmp t),some d=>bif Nat.beq d u then [t] else []
  |_,_=>[])++Sw u r
def G'(all:List Oper):List Oper->List Nat
 |[]=>[]
 |D::r=>(match D.op with
  |.slice _ (.tmp u) _ _ _=>u::Sw u all
  |_=>[])++G' all r
def Xp(st:ao)(t:Nat):List (Nat×Site):=match st.get t with
 |.av (.aq (.own o s))=>match st.ai o with
  |some (.row aQ t xs)=>bif aQ.beq s then [(o,.dF aQ t xs)] else []
  |_=>[]
 |_=>[]
def CM(st:ao):List Nat->List (Nat×Site)
 |[]=>[]
 |t::r=>Xp st t++CM st r
def ao.iI(st:ao):List (Nat×Site)->ao
 |[]=>st
 |(o,s)::r=>(st.iU o s).iI r
def ao.df(st:ao)(dst:Option Nat)(v:bb)(us:List (Nat×Site)):ao:=
 match dst with
 |some t=>(st.iI us).set t v
 |none=>st.iI us
def cE(st:ao):Option Nat->Bool
 |some t=>Nat.blt t st.nt
 |none=>true
abbrev B4:bb:=ch (.dd undef)
section
variable {R:Type}
open Classical in
noncomputable def qU{t:bi}(xs:List (den t))(a b:Option R):Option R:=if xs=[]->a=b then b else none
def k0(C:Ctx)(st:ao)(D:Oper)(K:ao->Option R):Option R:=
 bif cE st D.dst then(step C st D).comp.bind fun y=>bif(step C st D).sk y then K (st.df D.dst ((step C st D).val y) ((step C st D).us y)) else none else none
noncomputable def wT(C:Ctx)(st:ao)(D:Oper)(K:ao->Option R):Option R:=
 match J4 C st D with
 |some (⟨t,xs⟩,neg)=>bif cE st D.dst then qU xs (K (st.df D.dst (one (.bool (!neg))) [])) (K (st.df D.dst (one (.bool neg)) [])) else none
 |none=>k0 C st D K
def tw(st:ao)(D:Oper)(K:ao->Option R):Option R:=
 bif cE st D.dst then K (st.df D.dst B4 []) else none
noncomputable def Ug(C:Ctx)(ops:Array Oper)(st:ao)(D:Oper)(K:ao->Option R):Option R:=
 match D.guard with
 |none=>wT C st D K
 |some (j,want)=>match(ops[j]?).bind (·.dst) with
  |some t=>match st.get t with
   |.av (.aq (.d (.bool b)))=>bif(bif want then b else !b) then wT C (st.set t (one (.bool want))) D K else tw (st.set t (one (.bool (!want)))) D K
   |.av (.aq (.dd (.tuple _)))=>tw st D K
   |_=>none
  |none=>none
noncomputable def wz(C:Ctx)(ops:Array Oper):List Oper->ao->(ao->Option R)->Option R
 |[],st,K=>K st
 |D::r,st,K=>Ug C ops st D fun au=>wz C ops r au K
structure Rec where
 D:Oper
 go:Bool
 v:bb
 us:List (Nat×Site)
 lx:List Nat
 rn:List Nat
 EK:Bool
def wN:List Nat->Bool
 |[]=>false
 |n::r=>Nat.ble 1000000 n||wN r
def ui(d:Option Nat)(l:List Nat):Bool:=match d with|some d=>gA d l|none=>false
def mO(a b:Rec):Bool:=
 ui a.D.dst b.lx||ui a.D.dst b.D.dst.toList||ui b.D.dst a.lx||
 !fs (keys a.us) (b.rn++keys b.us)||!fs (keys b.us) a.rn||(a.EK&&wN (keys b.us))||(b.EK&&wN (keys a.us))
def mL(acc:List (Nat×Rec×List Nat)):List Edge->List Nat
 |[]=>[]
 |e::r=>bif Region.binds .any e then(match look acc e.on with|some x=>e.on::(x.2++mL acc r)|none=>mL acc r) else mL acc r
def tn(i:Nat):List Edge->Bool
 |[]=>true
 |e::r=>(!Region.binds .any e||Nat.blt e.on i)&&tn i r
def tz(yg:List Nat)(x:Rec):List (Nat×Rec×List Nat)->Bool
 |[]=>true
 |(j,y,_)::r=>(gA j yg||!mO y x)&&tz yg x r
def Uc(i:Nat):List Oper->Bool
 |[]=>false
 |D::r=>(match D.guard with|some (j,_)=>Nat.beq i j|none=>false)||Uc i r
def Lk(g:Bool)(v:bb)(K:bb->Option R):Option R:=
 bif g then(match v with
  |.av (.aq (.d (.bool b)))=>bif b then K (one (.bool true)) else K (one (.bool false))
  |v=>K v) else K v
def BX(C:Ctx)(g:Bool)(st:ao)(D:Oper)(gs:List Nat)(K:Rec->Option R):Option R:=
 (step C st D).comp.bind fun y=>bif(step C st D).sk y then Lk g ((step C st D).val y) fun v=>
  K ⟨D,true,v,(step C st D).us y,gs++pI (lV D.op),KQ C st D,Cx D.op⟩ else none
def HO(D:Oper)(gs:List Nat)(K:Rec->Option R):Option R:=K ⟨D,false,B4,[],gs,[],false⟩
def Kv(C:Ctx)(ops:Array Oper)(g:Bool)(st:ao)(D:Oper)(K:Rec->Option R):Option R:=
 match D.guard with
 |none=>BX C g st D [] K
 |some (j,want)=>match(ops[j]?).bind (·.dst) with
  |some t=>match st.get t with
   |.av (.aq (.d (.bool b)))=>bif(bif want then b else !b) then BX C g st D [t] K else HO D [t] K
   |.av (.aq (.dd (.tuple _)))=>HO D [t] K
   |_=>none
  |none=>none
def CY(C:Ctx)(ops:Array Oper):List Oper->Nat->List (Nat×Rec×List Nat)->ao->(ao->Option R)->Option R
 |[],_,_,st,K=>K st
 |D::r,i,acc,st,K=>bif cE st D.dst&&tn i D.after.toList then Kv C ops (Uc i r) st D fun x=>
   bif tz (mL acc D.after.toList) x acc then CY C ops r (i+1) ((i,x,mL acc D.after.toList)::acc) (st.df D.dst x.v x.us) K else none
  else none
def Uu(C:Ctx)(ops:Array Oper)(st:ao)(K:ao->Option R):Option R:=CY C ops ops.toList 0 [] (st.iI (CM st (G' ops.toList ops.toList))) K
inductive Out:Type where
 |norm (st:ao)
 |exit (id:Nat) (st:ao)
 |ret (st:ao)
structure auG:Type 1 where
 J:Type
 comp:Option J
 out:J->Out
 run:(R:Type)->J->(Out->Option R)->Option R
 run_eq:∀(R:Type) (y:J) (K:Out->Option R),run R y K=K (out y)
abbrev iv:=ao->auG
structure im:Type 1 extends Ctx where
 oZ:Nat->Option iv
def wrap(C:im)(p:Nat)(st:ao)(K:Out->Option R)(x:Option R):Option R:=
 match C.oZ p with
 |some f=>(f st).comp.bind fun y=>(f st).run R y K
 |none=>x
noncomputable def exec(C:im):Code->Nat->ao->(Out->Option R)->Option R
 |.skip,_,st,K=>K (.norm st)
 |.region _ ops false,p,st,K=>wrap C p st K (wz C.toCtx ops ops.toList st fun au=>K (.norm au))
 |.region _ ops true,p,st,K=>wrap C p st K (Uu C.toCtx ops st fun au=>K (.norm au))
 |.seq a b,p,st,K=>wrap C p st K (exec C a (2*p) st fun
  |.norm au=>exec C b (2*p+1) au K
  |D=>K D)
 |.cond c a b,p,st,K=>wrap C p st K (match bj C.toCtx st 0 c with
  |.av (.aq (.d (.bool t)))=>bif t then exec C a (2*p) st K else exec C b (2*p+1) st K
  |_=>none)
 |.block id c,p,st,K=>wrap C p st K (exec C c (2*p) st fun
  |.exit jv au=>bif jv.beq id then K (.norm au) else K (.exit jv au)
  |D=>K D)
 |.loop _,p,st,K=>wrap C p st K none
 |.rangeFunc _ _ _ _,p,st,K=>wrap C p st K none
 |.exit id,_,st,K=>K (.exit id st)
 |.ret,_,st,K=>K (.ret st)
 |_,_,_,_=>none
end
section
variable {F a_:Nat->Value}{sites b_:List (Nat×Site)}{w w':World}{av cz:Nat->Prop}
structure iK(F a_:Nat->Value)(sites b_:List (Nat×Site))(w w':World)(av cz:Nat->Prop):Prop where
 ref:∀o ai,look sites o=some ai->∃b',look b_ o=some b'/\ai.cK<=b'.cK/\(b'.cK=ai.cK->a_ o=F o)
 bZ:∀b,¬av b->b<w.heap.size->w'.heap[b]? =w.heap[b]?
 av:∀b,¬av b->b<w.heap.size->¬cz b
theorem bT.goes{d:bk}{v:Value}(G:iK F a_ sites b_ w w' av cz)(hs:w.heap.size<=w'.heap.size)(aCU:∀b,cz b->b<w'.heap.size)(r:bT w av d v):bT w' cz d v:=by
 induction r with
 |int k n=>exact .int k n
 |bool b=>exact .bool b
 |str l s h=>exact .str l s h
 |nil t=>exact .nil t
 |sl t xs a cap cs n hn hcap hb hl hc _ ih=>
  have key:xs≠[]->a.block<w.heap.size:=by
   intro hne;have nQ:0<cs.length:=by
    rw[hl,fr];exact Nat.mul_pos (List.length_pos_iff.mpr hne) (mC t)
   have:=hc 0 (cs[0]) (dZ nQ);have h2:=World.block_lt_of_cell? w _ this;have jp:(a.add 0).block=a.block:=by unfold Addr.add;split<;>rfl
   rwa[jp] at h2
  refine .sl t xs a cap cs n hn hcap (fun hx=>G.av _ (hb hx) (key hx)) hl (fun j u hu=>?_) ih
  have hcell:=hc j u hu;have hne:xs≠[]:=by
   rintro rfl;have:cs=[]:=fP (by simpa[flat] using hl)
   subst this;simp at hu
  have jp:(a.add j).block=a.block:=by unfold Addr.add;split<;>rfl
  rw[World.cell?_of_block (w:=w) (a:=a.add j) (by rw[jp];exact G.bZ _ (hb hne) (key hne))]
  exact hcell
 |fn g bM bs jz lb hlb uW hb hlt hl hc _ ih=>
  refine .fn g bM bs jz lb hlb uW (fun b hm=>G.av b (hb b hm) (hlt b hm)) (fun b hm=>Nat.lt_of_lt_of_le (hlt b hm) hs) hl (fun i hi j u hu=>?_) ih
  have hcell:=hc i hi j u hu;have hm:bs[i]∈bs:=List.getElem_mem hi;rw[World.cell?_of_block (w:=w) (a:=⟨bs[i],j,none⟩) (G.bZ _ (hb _ hm) (hlt _ hm))];exact hcell
 |xh t=>exact .xh t
 |xt T=>exact .xt T
 |err T n=>exact .err T n
 |map t es b hb hm=>exact .map t es b (G.av b hb hm.lt) (hm.of (G.bZ b hb hm.lt))
theorem Ref.goes{o s:Nat}{p h5:Prop}(G:iK F a_ sites b_ w w' av cz)(h:Ref sites o s p)(hp:a_ o=F o->p->h5):Ref b_ o s h5:=by
 obtain⟨ai,h1,h2,h3⟩:=h;obtain⟨b',g1,g2,g3⟩:=G.ref o ai h1;refine⟨b',g1,Nat.le_trans h2 g2,fun e=>?_⟩
 have:b'.cK=ai.cK:=by omega
 exact hp (g3 this) (h3 (by omega))
theorem eu.goes{l:aU}{v:Value}(G:iK F a_ sites b_ w w' av cz)(hs:w.heap.size<=w'.heap.size)(cq:∀b,cz b->b<w'.heap.size)(h:eu F sites w av l v):eu a_ b_ w' cz l v:=by
 cases l with
 |d x=>exact bT.goes G hs cq h
 |nil t=>exact h
 |own o s=>exact⟨h.1,Ref.goes G h.2 (fun e p=>p.trans e.symm)⟩
 |ptr o s off=>obtain⟨b,h1,h2⟩:=h;exact⟨b,h1,Ref.goes G h2 (fun e p=>by rw[e];exact p)⟩
 |eV cells off=>
  obtain⟨b,D,hv,hb,hlt,cs,hl,hc,hr⟩:=h;refine⟨b,D,hv,G.av b hb hlt,Nat.lt_of_lt_of_le hlt hs,cs,hl,fun j u hu=>?_,fun j h1 h2=>(hr j h1 h2).goes G hs cq⟩
  have hcell:=hc j u hu;rw[World.cell?_of_block (w:=w) (a:=⟨b,D+j,none⟩) (G.bZ b hb hlt)];exact hcell
 |fm o s t k off=>obtain⟨b,h1,h2⟩:=h;exact⟨b,h1,Ref.goes G h2 (fun e p=>by rw[e];exact p)⟩
 |clo g bM=>
  obtain⟨vs,hv,hl,hr⟩:=h;exact⟨vs,hv,hl,fun i h1 h2=>Ref.goes G (hr i h1 h2) (fun e p=>p.trans e.symm)⟩
 |dd u=>exact h
 |fresh t xs=>exact h
 |dN=>trivial
 |any=>trivial
theorem hT.goes{a:b4}{v:Value}(G:iK F a_ sites b_ w w' av cz)(hs:w.heap.size<=w'.heap.size)(cq:∀b,cz b->b<w'.heap.size)(h:hT F sites w av a v):hT a_ b_ w' cz a v:=by
 cases a with
 |aq l=>exact eu.goes G hs cq h
 |agg al=>
  obtain⟨vs,hv,hl,hr⟩:=h;exact⟨vs,hv,hl,fun j h1 h2=>(hr j h1 h2).goes G hs cq⟩
theorem cy.goes{a:bb}{v:Value}(G:iK F a_ sites b_ w w' av cz)(hs:w.heap.size<=w'.heap.size)(cq:∀b,cz b->b<w'.heap.size)(h:cy F sites w av a v):cy a_ b_ w' cz a v:=by
 cases a with
 |av a=>exact hT.goes G hs cq h
 |kj as=>
  obtain⟨vs,hv,hl,hr⟩:=h;exact⟨vs,hv,hl,fun j h1 h2=>(hr j h1 h2).goes G hs cq⟩
theorem kA.goes{o:Nat}{ai:Site}(G:iK F a_ sites b_ w w' av cz)(hs:w.heap.size<=w'.heap.size)(cq:∀b,cz b->b<w'.heap.size)(db:a_ o=F o)
  (hb:ai.live=true->∀b,Jk.bZ (F o)=some b->w'.heap[b]? =w.heap[b]?) (h:kA F sites w av o ai):kA a_ b_ w' cz o ai:=by
 cases ai with
 |box s cells=>
  obtain⟨b,T,cur,h1,h2,h3,aF,pc,bo⟩:=h;have:=hb rfl b (by rw[h1];rfl)
  exact⟨b,T,cur,db.trans h1,this.trans h2,h3,aF,pc,fun j g1 g2=>(bo j g1 g2).goes G hs cq⟩
 |row s t xs=>
  obtain⟨e,cs,h1,h2⟩:=h;refine⟨e,cs,?_,fun j g1 g2=>(h2 j g1 g2).goes G hs cq⟩
  rw[db];refine⟨h1.1,?_⟩;rcases h1.2 with hn|⟨g,cap,cur,fz,hv,r1,r2,dD⟩
  ·exact .inl hn
  ·refine .inr ⟨g,cap,cur,fz,hv,r1,?_,dD⟩;rw[hb rfl g (by rw[hv];rfl)];exact r2
 |dF s t xs=>exact⟨by rw[db];exact bT.goes G hs cq h.1,by rw[db];exact h.2⟩
 |map s t es=>
  obtain⟨b,h1,h2⟩:=h;exact⟨b,db.trans h1,h2.of (hb rfl b (by rw[h1];rfl))⟩
 |dead s=>trivial
end
theorem az.rE{U:World}{Z:List Nat}{X:Nat->Prop}{F a_:Nat->Value}{st:ao}{b_:List (Nat×Site)}{M:Array Value}{w w':World}
  (S:az U Z X F st M w)
  (rL:∀o ai,look st.sites o=some ai->∃b',look b_ o=some b'/\ai.cK<=b'.cK/\(b'.cK=ai.cK->a_ o=F o))
  (jp:∀b,¬aN X F st.sites b->b<w.heap.size->w'.heap[b]? =w.heap[b]?)
  (cq:∀b,¬aN X F st.sites b->b<w.heap.size->¬aN X a_ b_ b)
  (at1:(∀{a v},cy F st.sites w (aN X F st.sites) a v->cy a_ b_ w' (aN X a_ b_) a v)->∀o b',look b_ o=some b'->
   (look st.sites o=some b'/\a_ o=F o/\(b'.live=true->∀b,bZ (F o)=some b->w'.heap[b]? =w.heap[b]?))\/kA a_ b_ w' (aN X a_ b_) o b')
  (arN:∀o ae b,cD b_ o->cD b_ ae->bZ (a_ o)=some b->bZ (a_ ae)=some b->o=ae)
  (arK:∀o b,cD b_ o->bZ (a_ o)=some b->¬X b/\(b∈Z\/U.heap.size<=b))
  (hlt:∀o b,cD b_ o->bZ (a_ o)=some b->b<w'.heap.size)
  (apV:Fr Z U w') (hs:w.heap.size<=w'.heap.size):
  az U Z X a_ {st with sites:=b_} M w':=by
 have G:iK F a_ st.sites b_ w w' (aN X F st.sites) (aN X a_ b_):=⟨rL,jp,cq⟩;have xq:∀b,aN X a_ b_ b->b<w'.heap.size:=by
  rintro b (hx|⟨o,h1,h2⟩)
  ·exact Nat.lt_of_lt_of_le (S.old b hx) hs
  ·exact hlt o b h1 h2
 refine⟨S.nt,fun t=>(S.c5 t).goes G hs xq,fun o b' bH=>?_,arN,arK,apV,fun b h=>Nat.lt_of_lt_of_le (S.old b h) hs,S.ft⟩
 rcases at1 (fun h=>h.goes G hs xq) o b' bH with⟨h1,h2,h3⟩|h
 ·exact(S.sites o b' h1).goes G hs xq h2 h3
 ·exact h
def cP(M:Array Value)(dst:Option Nat)(v:Value):Array Value:=
 match dst with
 |some d=>M.setIfInBounds d v
 |none=>M
section
variable {P:Program}{K:Act->World->Prop}{Q:Exit->Act->World->Prop}{D:Oper}{M:Array Value}{w w':World}{vv:Value}
theorem pO(h:(execOp (Act.eval ⟨M,[]⟩) D).run P w=.ok (.value vv) w')(hk:K ⟨cP M D.dst vv,[]⟩ w'):D.wp P ⟨M,[]⟩ w K Q:=by
 unfold Oper.wp;rw[h,Oper.upon_value];cases aa:D.dst with
 |none=>simp only[aa,cP] at hk;simpa[Act.put] using hk
 |some d=>simp only[aa,cP] at hk;simpa[Act.put] using hk
theorem aoU(h:(execOp (Act.eval ⟨M,[]⟩) D).run P w=.ok .skip w')(hk:K ⟨cP M D.dst undef,[]⟩ w'):D.wp P ⟨M,[]⟩ w K Q:=by
 unfold Oper.wp;rw[h,Oper.upon_skip];cases aa:D.dst with
 |none=>simp only[aa,cP] at hk;simpa[Act.put] using hk
 |some d=>simp only[aa,cP] at hk;simpa[Act.put] using hk
end
def bB(sites:List (Nat×Site)):List (Nat×Site)->List (Nat×Site)
 |[]=>sites
 |(o,s)::r=>bB (cI sites o s) r
theorem ao.vU(st:ao)(us:List (Nat×Site)):st.iI us={st with sites:=bB st.sites us}:=by
 induction us generalizing st with
 |nil=>rfl
 |cons p us ih=>obtain⟨o,s⟩:=p;simp only[ao.iI,bB];rw[ih];rfl
theorem lH(sites:List (Nat×Site))(us vs:List (Nat×Site)):bB sites (us++vs)=bB (bB sites us) vs:=by
 induction us generalizing sites with
 |nil=>rfl
 |cons p us ih=>obtain⟨o,s⟩:=p;simp only[List.cons_append,bB];exact ih _
section
variable {U:World}{Z:List Nat}{X:Nat->Prop}{F:Nat->Value}{st:ao}{M:Array Value}{w:World}
theorem az.put(S:az U Z X F st M w){t:Nat}{v:bb}{vv:Value}(ay:t<st.nt)(hv:cy F st.sites w (aN X F st.sites) v vv):
  az U Z X F (st.set t v) (M.setIfInBounds t vv) w:=by
 refine⟨by simpa using S.nt,fun u=>?_,S.sites,S.eB,S.cF,S.frame,S.old,S.ft⟩
 rw[ao.Ji];by_cases h:t=u
 ·subst h;simp only[if_true];have:(M.setIfInBounds t vv).getD t undef=vv:=by
   have h1:t<M.size:=by rw[S.nt];exact ay
   simp[Array.getD,h1]
  rw[this];exact hv
 ·simp only[h,if_false];have:(M.setIfInBounds t vv).getD u undef=M.getD u undef:=by
   simp only[Array.getD_eq_getD_getElem?,Array.getElem?_setIfInBounds,h,if_false]
  rw[this];exact S.c5 u
theorem az.df{dst:Option Nat}{v:bb}{vv:Value}{us:List (Nat×Site)}(S:az U Z X F {st with sites:=bB st.sites us} M w)
  (aa:cE st dst=true) (hv:cy F (bB st.sites us) w (aN X F (bB st.sites us)) v vv):az U Z X F (st.df dst v us) (cP M dst vv) w:=by
 cases dst with
 |none=>simp only[ao.df,ao.vU,cP];exact S
 |some t=>
  simp only[ao.df,ao.vU,cP];have ay:t<st.nt:=by simpa[cE] using aa
  exact az.put (st:={st with sites:=bB st.sites us}) S ay hv
theorem dU(S:az U Z X F st M w)(C:Ctx)(T:TypeId)(x:Operand):cy F st.sites w (aN X F st.sites) (bj C st T x) (Act.eval ⟨M,[]⟩ x):=by
 cases x with
 |tmp t=>exact S.c5 t
 |const v=>
  show cy _ _ _ _ (wo (C.tt T) v) v;unfold wo;split
  ·exact .int _ _
  ·exact .bool _
  ·exact .str _ _ rfl
  ·split<;>exact rfl
  ·split
   ·exact .xh _
   ·exact rfl
  ·trivial
  ·trivial
  ·exact rfl
 |global g=>exact rfl
 |func f=>
  refine⟨[],rfl,rfl,fun i h=>?_⟩
  simp at h
variable {P:Program}{C:Ctx}{D:Oper}{K:Act->World->Prop}{Q:Exit->Act->World->Prop}
def c4(P:Program)(U:World)(Z:List Nat)(X:Nat->Prop)(st:ao)(M:Array Value)(w:World)(D:Oper)(v:bb)(us:List (Nat×Site)):Prop:=
 ∀(K:Act->World->Prop) (Q:Exit->Act->World->Prop),(∀a_ ca w',az U Z X a_ (st.df D.dst v us) ca w'->K ⟨ca,[]⟩ w')->D.wp P ⟨M,[]⟩ w K Q
theorem eg(S:az U Z X F st M w)(aa:cE st D.dst=true){v:bb}{vv:Value}
  (h:(execOp (Act.eval ⟨M,[]⟩) D).run P w=.ok (.value vv) w) (hv:cy F st.sites w (aN X F st.sites) v vv):c4 P U Z X st M w D v []:=
 fun _ _ b5=>pO h (b5 _ _ _ (az.df (us:=[]) S aa hv))
end
section
variable {P:Program}{w:World}
theorem ae1(op:BinOp)(t:TypeId)(x y:Operand)(k k':IntKind)(a b:Int):(eqGuard op t x y (.int k a) (.int k' b)).run P w=.ok () w:=by
 unfold eqGuard;cases op<;>rfl
theorem aeO(op:BinOp)(t:TypeId)(x y:Operand)(a b:ByteArray):(eqGuard op t x y (.string a) (.string b)).run P w=.ok () w:=by
 unfold eqGuard;cases op<;>rfl
theorem OO(op:BinOp)(t:TypeId)(x y:Operand)(a b:Bool):(eqGuard op t x y (.bool a) (.bool b)).run P w=.ok () w:=by
 unfold eqGuard;cases op<;>rfl
def Holds(r:dA)(ey:bb->List (Nat×Site)->Prop):Prop:=∀y,r.comp=some y->r.sk y=true->ey (r.val y) (r.us y)
theorem Holds.fail{ey:bb->List (Nat×Site)->Prop}:Holds .fail ey:=fun _ h _=>by cases h
theorem Holds.ok{v:bb}{ey:bb->List (Nat×Site)->Prop}(h:ey v []):Holds (.ok v) ey:=fun _ _ _=>h
theorem Holds.fZ{v:bb}{us:List (Nat×Site)}{ey:bb->List (Nat×Site)->Prop}(h:ey v us):Holds (.fZ v us) ey:=fun _ _ _=>h
theorem Holds.eP{J:Type}{c:Option J}{f:J->bb}{ey:bb->List (Nat×Site)->Prop}(h:∀y,c=some y->ey (f y) []):Holds (.eP c f) ey:=fun y hy _=>h y hy
theorem Holds.ik{J:Type}{c:Option J}{f:J->bb}{us:J->List (Nat×Site)}{ey:bb->List (Nat×Site)->Prop}(h:∀y,c=some y->ey (f y) (us y)):Holds (.ik c f us) ey:=fun y hy _=>h y hy
def Plain(P:Program)(w:World)(s:Sem Value)(v:bb)(us:List (Nat×Site)):Prop:=
 ∃vv d,s.run P w=.ok vv w/\us=[]/\v=one d/\∀av,bT w av d vv
theorem Plain.mk{s:Sem Value}{vv:Value}{d:bk}(h:s.run P w=.ok vv w)(hr:∀av,bT w av d vv):Plain P w s (one d) []:=⟨vv,d,h,rfl,rfl,hr⟩
theorem aiO(op:BinOp)(T:TypeId)(k:IntKind)(a b:Int)(hs:op≠.shl)(gm:op≠.shr):
  Holds (Xa op k a b) (Plain P w (binOp op T (.int k a) (.int k b))):=by
 cases op with
 |shl=>exact absurd rfl hs
 |shr=>exact absurd rfl gm
 |andNot=>exact .fail
 |quo=>
  refine Holds.eP fun y hy=>?_
  unfold l5 at hy;split at hy
  ·cases hy
  ·rename_i hb;cases hy;exact .mk (by simp[binOp,Op.intDiv,hb]) fun av=>.int _ _
 |rem=>
  refine Holds.eP fun y hy=>?_
  unfold ja at hy;split at hy
  ·cases hy
  ·rename_i hb;cases hy;exact .mk (by simp[binOp,Op.intDiv,hb]) fun av=>.int _ _
 |add=>exact Holds.ok (.mk (by simp[binOp,Op.intArith]) fun av=>.int _ _)
 |sub=>exact Holds.ok (.mk (by simp[binOp,Op.intArith]) fun av=>.int _ _)
 |mul=>exact Holds.ok (.mk (by simp[binOp,Op.intArith]) fun av=>.int _ _)
 |and=>exact Holds.ok (.mk (by simp[binOp,Op.intBits,eW]) fun av=>.int _ _)
 |or=>exact Holds.ok (.mk (by simp[binOp,Op.intBits,is]) fun av=>.int _ _)
 |xor=>exact Holds.ok (.mk (by simp[binOp,Op.intBits,dB]) fun av=>.int _ _)
 |eql=>exact Holds.ok (.mk (by simp[binOp,Op.intCmp]) fun av=>.bool _)
 |neq=>exact Holds.ok (.mk (by simp[binOp,Op.intCmp]) fun av=>.bool _)
 |lss=>exact Holds.ok (.mk (by simp[binOp,Op.intCmp]) fun av=>.bool _)
 |leq=>exact Holds.ok (.mk (by simp[binOp,Op.intCmp]) fun av=>.bool _)
 |gtr=>exact Holds.ok (.mk (by simp[binOp,Op.intCmp]) fun av=>.bool _)
 |geq=>exact Holds.ok (.mk (by simp[binOp,Op.intCmp]) fun av=>.bool _)
theorem aiM(op:BinOp)(T:TypeId)(a b:ByteArray):
  Holds (WQ op a.data.toList b.data.toList) (Plain P w (binOp op T (.string a) (.string b))):=by
 have e1:a.toList=a.data.toList:=ByteArray.toList_eq a;have e2:b.toList=b.data.toList:=ByteArray.toList_eq b;have ed:a.data.toList.length=a.size:=rfl;have fU:b.data.toList.length=b.size:=rfl;cases op with
 |add=>
  refine Holds.eP fun y hy=>?_
  simp only[cc,ed,fU] at hy;split at hy
  ·cases hy
  ·rename_i hc;cases hy;refine .mk (vv:=.string (a++b)) ?_ fun av=>.str _ _ (by simp[ByteArray.data_append])
   simp only[binOp,Op.stringOp,hc,if_false,Sem.run_pure]
 |eql=>exact Holds.ok (.mk (by rw[<-e1,<-e2];rfl) fun av=>.bool _)
 |neq=>exact Holds.ok (.mk (by rw[<-e1,<-e2];rfl) fun av=>.bool _)
 |lss=>exact Holds.ok (.mk (by rw[<-e1,<-e2];rfl) fun av=>.bool _)
 |leq=>exact Holds.ok (.mk (by rw[<-e1,<-e2];rfl) fun av=>.bool _)
 |gtr=>exact Holds.ok (.mk (by rw[<-e1,<-e2];rfl) fun av=>.bool _)
 |geq=>exact Holds.ok (.mk (by rw[<-e1,<-e2];rfl) fun av=>.bool _)
 |_=>exact .fail
end
def q9:aU->Option Value
 |.d (.int k n)=>some (.int k n)
 |.d (.bool b)=>some (.bool b)
 |.d (.str [])=>some (.string ⟨#[]⟩)
 |.nil _=>some (.slice none 0 0)
 |.dd (.pointer none)=>some (.pointer none)
 |.dd .nilFunc=>some .nilFunc
 |.dd (.map none)=>some (.map none)
 |.dd .nilIface=>some .nilIface
 |_=>none
def lN:List aU->Option (List Value)
 |[]=>some []
 |l::al=>match q9 l,lN al with
  |some v,some vs=>some (v::vs)
  |_,_=>none
theorem PI{l:aU}{v:Value}(h:q9 l=some v)(F:Nat->Value)(sites:List (Nat×Site))(w:World)(av:Nat->Prop):eu F sites w av l v/\v.oneCell'=true:=by
 unfold q9 at h;split at h<;>first|cases h|skip
 ·exact⟨.int _ _,rfl⟩
 ·exact⟨.bool _,rfl⟩
 ·exact⟨.str _ _ rfl,rfl⟩
 ·exact⟨rfl,rfl⟩
 ·exact⟨rfl,rfl⟩
 ·exact⟨rfl,rfl⟩
 ·exact⟨rfl,rfl⟩
 ·exact⟨rfl,rfl⟩
theorem vp:∀{al:List aU} {vs:List Value},lN al=some vs->vs.length=al.length/\(∀u∈vs,u.oneCell'=true)/\
  ∀(F:Nat->Value) (sites:List (Nat×Site)) (w:World) (av:Nat->Prop) j (h:j<al.length) (an:j<vs.length),eu F sites w av (al[j]) (vs[j]):=by
 intro al;induction al with
 |nil=>intro vs h;simp[lN] at h;subst h;exact⟨rfl,fun u hu=>by simp at hu,fun _ _ _ _ j h=>by simp at h⟩
 |cons l al ih=>
  intro vs h;simp only[lN] at h;split at h
  ·rename_i v cH h1 h2;cases h;obtain⟨g1,g2,g3⟩:=ih h2;refine⟨by simp[g1],fun u hu=>?_,fun F sites w av j hj ko=>?_⟩
   ·rcases bO.1 hu with rfl|hu
    ·exact(PI h1 (fun _=>undef) [] default (fun _=>False)).2
    ·exact g2 u hu
   ·cases j with
    |zero=>exact(PI h1 _ _ _ _).1
    |succ j=>exact g3 F sites w av j (by simpa using hj) (by simpa using ko)
  ·cases h
def oD:Value->Value->Option Bool
 |.int k a,.int k' b=>if k=k' then some (a==b) else none
 |.bool a,.bool b=>some (a==b)
 |.string a,.string b=>some (a==b)
 |_,_=>none
def j5:List Value->List Value->Option Bool
 |[a],[b]=>oD a b
 |a::as,b::bs=>match oD a b,j5 as bs with
  |some x,some y=>some (x&&y)
  |_,_=>none
 |_,_=>none
def qh:List aU->List Value->Bool
 |[],[]=>true
 |.d (.int _ _)::z,.int _ _::l=>qh z l
 |.d (.bool _)::z,.bool _::l=>qh z l
 |.d (.str _)::z,.string _::l=>qh z l
 |_,_=>false
def jO(P:Program)(T:TypeId)(d:TypeDesc)(z:Value):Prop:=
 P.underlying T=some d/\(∀b0,d≠.struct b0)/\(∀n e,d≠.array n e)/\(P.info? T).map (fun i=>(i.size,i.zero))=some (1,some z)
def mapElem(P:Program)(e:TypeId):bi->Prop
 |.i64=>jO P e (.int .i64) (.int .i64 0)
 |.bool=>jO P e .bool (.bool false)
 |_=>False
def JD(P:Program)(e:TypeId):bi->Prop
 |.i64=>jO P e (.int .i64) (.int .i64 0)
 |.u32=>jO P e (.int .u32) (.int .u32 0)
 |.bool=>jO P e .bool (.bool false)
 |.str=>jO P e .string (.string ⟨#[]⟩)
 |_=>False
def cu.ok(P:Program)(T:TypeId):cu->Prop
 |.none=>True
 |.int k=>jO P T (.int k) (.int k 0)
 |.bool=>jO P T .bool (.bool false)
 |.str=>jO P T .string (.string ⟨#[]⟩)
 |.ptr=>∃e,jO P T (.pointer e) (.pointer Option.none)
 |.func=>∃ps lx v,jO P T (.func ps lx v) .nilFunc
 |.slice e t bytes=>jO P T (.slice e) (.slice Option.none 0 0)/\∃z,(P.info? e).map (fun i=>(i.size,i.bytes,i.zero))=some (bg t,bytes,some z)/\z.cells.size=bg t/\(t.kl=true->e=nh)
 |.struct b0 n z eq=>∃fields:Array Field,P.underlying T=some (.struct fields)/\
   (fields.toList.mapM (fun f=>(P.info? f.type).map fun i=>(f.offset,i.size))=some b0/\∀p∈b0,p.2≠0)/\
   (∃gG,(P.info? T).map (fun i=>(i.size,i.zero))=some (n,some (.agg gG))/\lN z=some gG.toList/\z.length=n)/\
   (eq=true->P.eqGuardType P.depth T=false/\∀(vs us:List Value) (b:Bool) (w:World),j5 vs us=some b->qh z vs=true->(Op.equal T (.agg vs.toArray) (.agg us.toArray)).run P w=.ok b w)
 |.map k e t=>jO P T (.map k e) (.map Option.none)/\P.underlying k=some .string/\mapElem P e t
 |.iface=>∃jy,jO P T (.interface jy) .nilIface
 |.arr e t n=>P.underlying T=some (.array n e)/\(∃gG z,(P.info? T).map (fun i=>(i.size,i.zero))=some (n,some (.agg gG))/\uz t=some z/\lN (List.replicate n z)=some gG.toList)/\JD P e t
section
variable {P:Program}{T:TypeId}{w:World}
theorem lG{i:TypeInfo}(h:P.info? T=some i):(typeInfo T).run P w=.ok i w:=by
 simp[typeInfo,h]
theorem cu.Sq{ti:cu}(h:ti.ok P T)(hn:ti≠.none):(sizeOf T).run P w=.ok ti.size w:=by
 have key:∀{z:Option Value} {n:Nat},(P.info? T).map (fun i=>(i.size,i.zero))=some (n,z)->(sizeOf T).run P w=.ok n w:=by
  intro z n h;cases hi:P.info? T with
  |none=>simp[hi] at h
  |some i=>
   simp only[hi,Option.map_some,bE,Prod.mk.injEq] at h;simp[sizeOf,lG hi,h.1]
 cases ti with
 |none=>exact absurd rfl hn
 |int k=>exact key h.2.2.2
 |bool=>exact key h.2.2.2
 |str=>exact key h.2.2.2
 |ptr=>obtain⟨e,h⟩:=h;exact key h.2.2.2
 |func=>obtain⟨_,_,_,h⟩:=h;exact key h.2.2.2
 |iface=>obtain⟨_,h⟩:=h;exact key h.2.2.2
 |slice e t b=>exact key h.1.2.2.2
 |map k e t=>exact key h.1.2.2.2
 |struct b0 n z eq=>obtain⟨fields,_,_,⟨gG,h,_⟩,_⟩:=h;exact key h
 |arr e t n=>obtain⟨_,⟨gG,z,h,_⟩,_⟩:=h;exact key h
theorem cu.Hb{ti:cu}(h:ti.ok P T){z:List aU}(hz:ti.zero=some z):∃v,(zeroValue T).run P w=.ok v w/\lN z=some v.cells.toList:=by
 have key:∀{z:Value} {n:Nat},(P.info? T).map (fun i=>(i.size,i.zero))=some (n,some z)->(zeroValue T).run P w=.ok z w:=by
  intro z n h;cases hi:P.info? T with
  |none=>simp[hi] at h
  |some i=>
   simp only[hi,Option.map_some,bE,Prod.mk.injEq] at h;simp[zeroValue,lG hi,h.2]
 cases ti with
 |none=>cases hz
 |int k=>cases hz;exact⟨_,key h.2.2.2,rfl⟩
 |bool=>cases hz;exact⟨_,key h.2.2.2,rfl⟩
 |str=>cases hz;exact⟨_,key h.2.2.2,rfl⟩
 |ptr=>cases hz;obtain⟨e,h⟩:=h;exact⟨_,key h.2.2.2,rfl⟩
 |func=>cases hz;obtain⟨_,_,_,h⟩:=h;exact⟨_,key h.2.2.2,rfl⟩
 |iface=>cases hz;obtain⟨_,h⟩:=h;exact⟨_,key h.2.2.2,rfl⟩
 |slice e t b=>cases hz;exact⟨_,key h.1.2.2.2,rfl⟩
 |map k e t=>cases hz;exact⟨_,key h.1.2.2.2,rfl⟩
 |struct b0 n fj eq=>cases hz;obtain⟨fields,_,_,⟨gG,h,h2,_⟩,_⟩:=h;exact⟨_,key h,h2⟩
 |arr e t n=>
  obtain⟨_,⟨gG,z0,h,h1,h2⟩,_⟩:=h;simp only[cu.zero,h1,Option.map_some,bE] at hz;subst hz;exact⟨_,key h,h2⟩
theorem cu.Q5{ti:cu}(h:ti.ok P T)(hn:ti≠.none):(isAgg T).run P w=.ok ti.agg w:=by
 have key:∀{d:TypeDesc},P.underlying T=some d->(∀b0,d≠.struct b0)->(∀n e,d≠.array n e)->(isAgg T).run P w=.ok false w:=by
  intro d h h1 h2;simp only[isAgg,Sem.run_bind,run_underlying h,Result.andThen_ok];cases d<;>first|rfl|exact absurd rfl (h1 _)|exact absurd rfl (h2 _ _)
 cases ti with
 |none=>exact absurd rfl hn
 |int k=>exact key h.1 h.2.1 h.2.2.1
 |bool=>exact key h.1 h.2.1 h.2.2.1
 |str=>exact key h.1 h.2.1 h.2.2.1
 |ptr=>obtain⟨e,h⟩:=h;exact key h.1 h.2.1 h.2.2.1
 |func=>obtain⟨_,_,_,h⟩:=h;exact key h.1 h.2.1 h.2.2.1
 |iface=>obtain⟨_,h⟩:=h;exact key h.1 h.2.1 h.2.2.1
 |slice e t b=>exact key h.1.1 h.1.2.1 h.1.2.2.1
 |map k e t=>exact key h.1.1 h.1.2.1 h.1.2.2.1
 |struct b0 n z eq=>
  obtain⟨fields,h,_⟩:=h;simp only[isAgg,Sem.run_bind,run_underlying h,Result.andThen_ok];rfl
 |arr e t n=>
  obtain⟨h,_⟩:=h;simp only[isAgg,Sem.run_bind,run_underlying h,Result.andThen_ok];rfl
def tR(agg:Bool)(cs:List Value):Value:=bif agg then .agg cs.toArray else cs.headD undef
theorem vn{ti:cu}(h:ti.ok P T)(hn:ti≠.none)(a:Addr)(cs:List Value)(hl:cs.length=ti.size)(hc:∀j u,cs[j]? =some u->w.cell? (a.add j)=some u):
  (loadVar T a).run P w=.ok (tR ti.agg cs) w:=by
 simp only[loadVar,Sem.run_bind,cu.Q5 h hn,Result.andThen_ok];cases LG:ti.agg with
 |true=>
  simp only[if_true,Sem.run_bind,cu.Sq h hn,Result.andThen_ok,tR,ad];rw[<-hl,run_loadCells_list w a cs hc];rfl
 |false=>
  have h1:ti.size=1:=by cases ti<;>first|rfl|cases LG
  rw[h1] at hl;match cs,hl with
  |[c],_=>
   have h0:=hc 0 c rfl;have ha:a.add 0=a:=by unfold Addr.add;simp
   rw[ha] at h0;simp[tR,h0]
end
section
variable {F:Nat->Value}{sites:List (Nat×Site)}{w:World}{av:Nat->Prop}
def cM(F:Nat->Value)(sites:List (Nat×Site))(w:World)(av:Nat->Prop)(al:List aU)(vs:List Value):Prop:=
 vs.length=al.length/\∀j (h:j<al.length) (an:j<vs.length),eu F sites w av (al[j]) (vs[j])
theorem cM.nil:cM F sites w av [] []:=⟨rfl,fun j h=>by simp at h⟩
theorem cM.cons{l:aU}{al:List aU}{v:Value}{vs:List Value}(h:eu F sites w av l v)(hs:cM F sites w av al vs):cM F sites w av (l::al) (v::vs):=
 ⟨by simp[hs.1],fun j h1 h2=>by
  cases j with
  |zero=>exact h
  |succ j=>exact hs.2 j (by simpa using h1) (by simpa using h2)⟩
theorem cM.inv{l:aU}{al:List aU}{vs:List Value}(h:cM F sites w av (l::al) vs):∃v cH,vs=v::cH/\eu F sites w av l v/\cM F sites w av al cH:=by
 obtain⟨h1,h2⟩:=h;match vs,h1 with
 |v::cH,h1=>
  exact⟨v,cH,rfl,h2 0 (by simp) (by simp),by simpa using h1,fun j g1 g2=>h2 (j+1) (by simpa using g1) (by simpa using g2)⟩
theorem cM.oF{vs:List Value}(h:cM F sites w av [] vs):vs=[]:=fP h.1
theorem cM.drop{al:List aU}{vs:List Value}(n:Nat)(h:cM F sites w av al vs):cM F sites w av (al.drop n) (vs.drop n):=
 ⟨by simp[h.1],fun j h1 h2=>by simp only[List.getElem_drop];exact h.2 _ (by simp at h1;omega) (by simp at h2;omega)⟩
theorem cM.take{al:List aU}{vs:List Value}(n:Nat)(h:cM F sites w av al vs):cM F sites w av (al.take n) (vs.take n):=
 ⟨by simp[h.1],fun j h1 h2=>by simp only[List.getElem_take];exact h.2 _ (by simp at h1;omega) (by simp at h2;omega)⟩
theorem cM.append{al gS:List aU}{vs cH:List Value}(h:cM F sites w av al vs)(an:cM F sites w av gS cH):cM F sites w av (al++gS) (vs++cH):=by
 induction al generalizing vs with
 |nil=>rw[h.oF];exact an
 |cons l al ih=>
  obtain⟨v,xI,rfl,h1,h2⟩:=h.inv;exact .cons h1 (ih h2)
theorem cM.bY{al gS:List aU}{vs cH:List Value}(off:Nat)(h:cM F sites w av al vs)(an:cM F sites w av gS cH):cM F sites w av (Jk.bY al off gS) (Jk.bY vs off cH):=by
 unfold Jk.bY;rw[an.1];exact((h.take off).append an).append (h.drop _)
theorem eu.j6{l:aU}{u:Value}(h:eu F sites w av l u)(ei:l.storable=true):u.oneCell'=true:=by
 cases l with
 |d x=>exact bT.j6 h
 |nil t=>rw[show u=_ from h];rfl
 |own o s=>exact h.1
 |ptr o s off=>obtain⟨b,rfl,_⟩:=h;rfl
 |eV c D=>cases ei
 |fm _ _ _ _ _=>cases ei
 |clo g bM=>obtain⟨vs,rfl,_⟩:=h;rfl
 |dd x=>rw[show u=x from h];cases x<;>first|rfl|cases ei
 |fresh t xs=>cases ei
 |dN=>cases ei
 |any=>cases ei
theorem cM.j6{al:List aU}{vs:List Value}(h:cM F sites w av al vs)(ei:h_ al=true):∀u∈vs,u.oneCell'=true:=by
 induction al generalizing vs with
 |nil=>rw[h.oF];intro u hu;simp at hu
 |cons l al ih=>
  obtain⟨v,cH,rfl,h1,h2⟩:=h.inv;simp only[h_,bC] at ei;intro u hu;rcases bO.1 hu with rfl|hu
  ·exact h1.j6 ei.1
  ·exact ih h2 ei.2 u hu
theorem hT.cells{a:b4}{v:Value}(h:hT F sites w av a v)(ei:h_ a.cells=true):cM F sites w av a.cells v.cells.toList:=by
 cases a with
 |aq l=>
  have h1:v.oneCell'=true:=eu.j6 h (by simpa[b4.cells,h_] using ei)
  have:v.cells=#[v]:=by cases v<;>first|rfl|cases h1
  rw[this];exact .cons h .nil
 |agg al=>
  obtain⟨vs,rfl,h1,h2⟩:=h;exact⟨h1,h2⟩
theorem Wl{agg:Bool}{off n:Nat}{al:List aU}{vs:List Value}{v:bb}(hc:cut agg off n al=some v)(h1:agg=false->n=1)(h:cM F sites w av al vs):
  off+n<=vs.length/\cy F sites w av v (tR agg ((vs.drop off).take n)):=by
 unfold cut at hc;cases agg with
 |true=>
  simp only[ad] at hc;cases hb:Nat.ble (off+n) al.length with
  |false=>simp[hb] at hc
  |true=>
   simp only[hb,ad,bE] at hc;subst hc;have hle:off+n<=al.length:=Nat.le_of_ble_eq_true hb;have:=(h.drop off).take n;exact⟨by rw[h.1];exact hle,_,rfl,this.1,this.2⟩
 |false=>
  simp only[ak] at hc;have hn:=h1 rfl;subst hn;cases aa:al.drop off with
  |nil=>simp[aa] at hc
  |cons l r=>
   simp only[aa,bE] at hc;subst hc;have acX:=h.drop off;rw[aa] at acX;obtain⟨u,us,hu,hl,_⟩:=acX.inv;have hlen:off<al.length:=by
    rcases Nat.lt_or_ge off al.length with h|h
    ·exact h
    ·rw[List.drop_eq_nil_of_le h] at aa;cases aa
   refine⟨by rw[h.1];omega,?_⟩
   rw[hu];exact hl
theorem ie{ds:List bk}{vs:List Value}(hl:vs.length=ds.length)(h:∀j (h:j<ds.length) (an:j<vs.length),bT w av (ds[j]) (vs[j])):cM F sites w av (cR ds) vs:=
 ⟨by simp[cR,hl],fun j h1 h2=>by simp only[cR,List.getElem_map];exact h j (by simpa[cR] using h1) h2⟩
end
theorem hK(b D j:Nat):(⟨b,D,none⟩:Addr).add j=⟨b,D+j,none⟩:=by
 unfold Addr.add;split<;>simp_all
def iD(w:World)(b D:Nat)(cs:List Value):Prop:=∀j u,cs[j]? =some u->w.cell? ⟨b,D+j,none⟩=some u
theorem iD.drop{w:World}{b D:Nat}{cs:List Value}(h:iD w b D cs)(m:Nat):iD w b (D+m) (cs.drop m):=by
 intro j u hu;rw[List.getElem?_drop] at hu;have:=h _ _ hu;rwa[Nat.add_assoc]
theorem iD.take{w:World}{b D:Nat}{cs:List Value}(h:iD w b D cs)(m:Nat):iD w b D (cs.take m):=by
 intro j u hu;rw[List.getElem?_take] at hu;split at hu
 ·exact h _ _ hu
 ·cases hu
theorem iD.row{w:World}{b:Nat}{cur:List Value}{T:TypeId}{cZ:Nat×Nat}(h:w.heap[b]? =some (.cells cur.toArray T cZ)):iD w b 0 cur:=by
 intro j u hu;rw[Nat.zero_add,cell_of_row w b j _ T cZ h];simpa using hu
theorem vy(t:bi)(xs:List (den t))(k:Nat)(x:den t)(hx:xs[k]? =some x):((flat t xs).drop (k*bg t)).take (bg t)=enc t x:=by
 apply List.ext_getElem?;intro j;rw[List.getElem?_take,List.getElem?_drop];split
 ·rename_i hj;exact flat_get t xs k j x hx hj
 ·rename_i hj;rw[List.getElem?_eq_none (by rw[jC];omega)]
section
variable {P:Program}{C:im}{U:World}{Z:List Nat}{X:Nat->Prop}{F:Nat->Value}{st:ao}{M:Array Value}{w:World}
theorem hD{o s:Nat}{cells:List aU}(h:gi st o s=some cells):look st.sites o=some (.box s cells):=by
 unfold gi ao.ai at h;split at h
 ·rename_i aQ j9 hl;cases hb:aQ.beq s with
  |false=>simp[hb] at h
  |true=>
   simp only[hb,ad,bE] at h;have:=cg hb;subst this h;exact hl
 ·cases h
theorem ku{o s:Nat}{t:bi}{xs:List (den t)}(h:rowOf st o s=some ⟨t,xs⟩):look st.sites o=some (.row s t xs)\/look st.sites o=some (.dF s t xs):=by
 unfold rowOf ao.ai at h;split at h
 ·rename_i aQ bw jq hl;cases hb:aQ.beq s with
  |false=>simp[hb] at h
  |true=>
   simp only[hb,ad,bE] at h;have:=cg hb;subst this;cases h;exact .inl hl
 ·rename_i aQ bw jq hl;cases hb:aQ.beq s with
  |false=>simp[hb] at h
  |true=>
   simp only[hb,ad,bE] at h;have:=cg hb;subst this;cases h;exact .inr hl
 ·cases h
theorem Ref.at{sites:List (Nat×Site)}{o s:Nat}{p:Prop}{ai:Site}(h:Ref sites o s p)(hl:look sites o=some ai)(hs:ai.cK=s):p:=by
 obtain⟨b',h1,_,h3⟩:=h;rw[hl] at h1;cases h1;exact h3 hs
theorem Ref.mk{sites:List (Nat×Site)}{o s:Nat}{p:Prop}{ai:Site}(hl:look sites o=some ai)(hs:ai.cK=s)(hp:p):Ref sites o s p:=
 ⟨ai,hl,by omega,fun _=>hp⟩
theorem az.box(S:az U Z X F st M w){o s off:Nat}{cells:List aU}(h:look st.sites o=some (.box s cells)){v:Value}(hv:eu F st.sites w (aN X F st.sites) (.ptr o s off) v):
  ∃b T cur,F o=.pointer (some ⟨b,0,none⟩)/\v=.pointer (some ⟨b,off,none⟩)/\w.heap[b]? =some (.cells (List.toArray cur) T (0,0))/\(∀u∈cur,u.oneCell'=true)/\cM F st.sites w (aN X F st.sites) cells cur:=by
 obtain⟨b,T,cur,h1,h2,h3,aF,_,bo⟩:=S.sites o _ h;obtain⟨bQ,g2,g3⟩:=hv;have g1:=Ref.at g3 h rfl;rw[h1] at g1;cases g1;exact⟨b,T,cur,h1,g2,h2,aF,h3,bo⟩
theorem az.row(S:az U Z X F st M w){o s:Nat}{t:bi}{xs:List (den t)}(h:rowOf st o s=some ⟨t,xs⟩):
  ∃cs:List Value,cM F st.sites w (aN X F st.sites) (cR (flat t xs)) cs/\
   ((F o=.slice none 0 0/\xs=[])\/∃b c,F o=.slice (some ⟨b,0,none⟩) xs.length c/\iD w b 0 cs/\xs.length<=c):=by
 rcases ku h with h|h
 ·obtain⟨e,cs,h1,h2⟩:=S.sites o _ h;have hl:cs.length=(flat t xs).length:=by rw[fr];exact h1.1
  refine⟨cs,ie hl h2,?_⟩;rcases h1.2 with⟨hn,h0⟩|⟨g,cap,cur,fz,hv,_,hg,hnc,_,_,htk⟩
  ·exact .inl ⟨hn,fP h0⟩
  ·refine .inr ⟨_,_,hv,fun j u hu=>?_,hnc⟩
   rw[Nat.zero_add,cell_of_row w g j cur e fz hg];rw[<-htk,List.getElem?_take] at hu;split at hu
   ·simpa using hu
   ·cases hu
 ·obtain⟨h1,bU⟩:bT w (aN X F st.sites) (.sl t xs) (F o)/\DW (F o):=S.sites o _ h;generalize hv:F o=v at h1 bU;cases h1 with
  |nil t=>exact⟨[],⟨rfl,fun j h=>by simp[cR,flat] at h⟩,.inl ⟨rfl,rfl⟩⟩
  |sl t xs a cap cs n hn hcap hb hl hc hr=>
   subst hn;rcases bU with bU|⟨b,n,c,bU⟩
   ·cases bU
   ·cases bU;exact⟨cs,ie hl hr,.inr ⟨b,cap,rfl,fun j u hu=>by have:=hc j u hu;rwa[hK] at this,hcap⟩⟩
def DX(g:Nat)(t:bi)(xs:List (den t)):Prop:=g∈lo/\∀w (av:Nat->Prop),n_ w->∃T fz,∃cs:List Value,w.heap[g]? =some (.cells cs.toArray T fz)/\cs.length=(flat t xs).length/\∀j (h:j<(flat t xs).length) (an:j<cs.length),bT w av ((flat t xs)[j]) (cs[j])
structure CtxOk(P:Program)(C:Ctx):Prop where
 tt:∀T,(C.tt T).ok P T
 gt:∀g t xs,C.gt g=some ⟨t,xs⟩->DX g t xs
theorem Hy{ti:cu}(h:ti.known=true):ti≠.none:=by rintro rfl;cases h
theorem HS{ti:cu}(h:ti.agg=false):ti.size=1:=by cases ti<;>first|rfl|cases h
theorem al5{agg:Bool}{off n:Nat}{al:List aU}(h:off+n<=al.length)(h1:agg=false->n=1):cut agg off n al≠none:=by
 unfold cut;cases agg with
 |true=>
  have:Nat.ble (off+n) al.length=true:=Nat.ble_eq_true_of_le h;simp[this]
 |false=>
  have:=h1 rfl;simp only[ak];cases aa:al.drop off with
  |nil=>have:=congrArg List.length aa;simp at this;omega
  |cons l r=>simp
theorem anS(S:az U Z X F st M w){C:Ctx}(H:CtxOk P C){D:Oper}{T:TypeId}{x:Operand}(aP:D.op=.load T x)(aa:cE st D.dst=true)(hk:(C.tt T).known=true):
  Holds (tV (C.tt T).agg (C.tt T).size st (bj C st T x)) (c4 P U Z X st M w D):=by
 have hn:=Hy hk;have bK:=dU S C T x;have fin:∀{b p:Nat} {al:List aU} {vs:List Value} {off:Nat} {v:bb},Act.eval ⟨M,[]⟩ x=.pointer (some ⟨b,p+off,none⟩)->iD w b p vs->cM F st.sites w (aN X F st.sites) al vs->
   cut (C.tt T).agg off (C.tt T).size al=some v->c4 P U Z X st M w D v []:=by
  intro b p al vs off v hx hc hl gl;obtain⟨hle,ayl⟩:=Wl gl HS hl;refine eg S aa (vv:=tR (C.tt T).agg ((vs.drop off).take (C.tt T).size)) ?_ ayl;have dM:=vn (P:=P) (w:=w) (H.tt T) hn ⟨b,p+off,none⟩ ((vs.drop off).take (C.tt T).size) (by simp;omega) (fun j u hu=>by rw[hK];exact(hc.drop off).take _ j u hu)
  unfold execOp;simp only[aP,Instr.loadAt,Instr.sureAddr,hx,Sem.run_bind,Sem.run_pure,Result.andThen_ok,dM]
 unfold tV;split
 ·rename_i o s off cj;rw[cj] at bK;split
  ·rename_i cells hb;split
   ·rename_i v gl;obtain⟨b,gX,cur,_,hv,hg,_,hl⟩:=S.box (hD hb) bK;exact Holds.ok (fin (p:=0) (by rw[Nat.zero_add];exact hv) (iD.row hg) hl gl)
   ·exact .fail
  ·exact .fail
 ·rename_i cells off cj;rw[cj] at bK;split
  ·rename_i v gl;obtain⟨b,p,hv,_,_,cs,hl,hc,hr⟩:=bK;exact Holds.ok (fin hv hc (ie hl hr) gl)
  ·exact .fail
 ·rename_i o s u k off cj;rw[cj] at bK;split
  ·rename_i t xs hrow;split
   ·rename_i o7;obtain⟨rfl,hle⟩:=o7;refine Holds.eP fun y hy=>?_
    have ev:xs[k]? =some y:=hy;obtain⟨cs,hl,hcell⟩:=S.row hrow;have ei:∃ai,look st.sites o=some ai/\ai.cK=s:=by
     rcases ku hrow with h|h<;>exact⟨_,h,rfl⟩
    obtain⟨ai,iP,mc⟩:=ei;obtain⟨b,hv,xo⟩:=bK;obtain⟨n,c,db⟩:=Ref.at xo iP mc;cases gl:cut (C.tt T).agg off (C.tt T).size (cR (enc t y)) with
    |none=>exact absurd gl (al5 (by simpa[cR,jC] using hle) HS)
    |some v=>
     rcases hcell with⟨rO,_⟩|⟨bQ,fM,kI,hcs,_⟩
     ·rw[db] at rO;cases rO
     ·rw[db] at kI;cases kI;have e1:cR (enc t y)=((cR (flat t xs)).drop (k*bg t)).take (bg t):=by
       rw[<-vy t xs k y ev];simp[cR,List.map_drop,List.map_take]
      rw[e1] at gl;refine fin (p:=k*bg t) hv ?_ ((hl.drop (k*bg t)).take (bg t)) gl;have:=(hcs.drop (k*bg t)).take (bg t);rwa[Nat.zero_add] at this
   ·exact .fail
  ·exact .fail
 ·exact .fail
end
section
variable {P:Program}{U:World}{Z:List Nat}{X:Nat->Prop}{F:Nat->Value}{st:ao}{M:Array Value}{w:World}
theorem az.gd(S:az U Z X F st M w){o b:Nat}(hl:cD st.sites o)(hb:bZ (F o)=some b):b<w.heap.size:=by
 obtain⟨ai,h1,h2⟩:=hl;have:=S.sites o ai h1;cases ai with
 |box s cells=>
  obtain⟨bQ,T,cur,g1,g2,_⟩:=this;rw[g1] at hb;cases hb;exact(Array.getElem?_eq_some_iff.1 g2).1
 |row s t xs=>
  obtain⟨e,cs,g1,_⟩:=this;rcases g1.2 with⟨hn,_⟩|⟨g,cap,cur,fz,hv,_,hg,_⟩
  ·rw[hn] at hb;cases hb
  ·rw[hv] at hb;cases hb;exact(Array.getElem?_eq_some_iff.1 hg).1
 |map s t es=>
  obtain⟨bQ,g1,g2⟩:=this;rw[g1] at hb;cases hb;exact g2.lt
 |dF=>cases h2
 |dead=>cases h2
theorem Cr{F a_:Nat->Value}{sites b_:List (Nat×Site)}{w w':World}{av cz:Nat->Prop}(go:∀{a:bb} {v:Value},cy F sites w av a v->cy a_ b_ w' cz a v){al:List aU}{vs:List Value}
  (h:cM F sites w av al vs):cM a_ b_ w' cz al vs:=by
 obtain⟨cH,h1,h2,h3⟩:=go (a:=.av (.agg al)) (v:=.agg vs.toArray) ⟨vs,rfl,h.1,h.2⟩;have:vs=cH:=by simpa using h1
 subst this;exact⟨h2,h3⟩
theorem pY{F a_:Nat->Value}{sites b_:List (Nat×Site)}{w w':World}{av cz:Nat->Prop}(go:∀{a:bb} {v:Value},cy F sites w av a v->cy a_ b_ w' cz a v){d:bk}{v:Value}
  (h:bT w av d v):bT w' cz d v:=go (a:=one d) (v:=v) h
theorem P6{sites:List (Nat×Site)}{o:Nat}{ai b':Site}(hl:look sites o=some ai)(h:b'.live=ai.live)(ae:Nat):cD (cI sites o b') ae <-> cD sites ae:=by
 unfold cD;rw[dm];by_cases e:o=ae
 ·subst e;simp only[if_true,hl,bE];constructor
  ·rintro⟨s,rfl,h2⟩;exact⟨ai,rfl,h▸h2⟩
  ·rintro⟨s,rfl,h2⟩;exact⟨b',rfl,h▸h2⟩
 ·simp only[e,if_false]
theorem az.write(S:az U Z X F st M w){o b:Nat}{ai b':Site}{cur cur':Array Value}{T:TypeId}{cZ:Nat×Nat}(hl:look st.sites o=some ai)(mJ:ai.live=true)(apU:b'.live=true)(hs:b'.cK=ai.cK)
  (db:bZ (F o)=some b) (hg:w.heap[b]? =some (.cells cur T cZ))
  (f_:∀{b_:List (Nat×Site)} {w':World},b_=cI st.sites o b'->w'=w.setRow b cur'->w'.heap[b]? =some (.cells cur' T cZ)->
   (∀{a v},cy F st.sites w (aN X F st.sites) a v->cy F b_ w' (aN X F b_) a v)->kA F b_ w' (aN X F b_) o b'):
  az U Z X F {st with sites:=cI st.sites o b'} M (w.setRow b cur'):=by
 have c8:cD st.sites o:=⟨ai,hl,mJ⟩;have mP:∀ae,cD (cI st.sites o b') ae <-> cD st.sites ae:=P6 hl (apU.trans mJ.symm);have cq:∀bQ,aN X F (cI st.sites o b') bQ <-> aN X F st.sites bQ:=by
  intro bQ;unfold aN;simp only[mP]
 have hne:∀bQ,¬aN X F st.sites bQ->bQ≠b:=by
  rintro bQ h rfl;exact h (.inr ⟨o,c8,db⟩)
 refine S.rE (fun ae s b6=>?_) (fun bQ h _=>setRow_other w b bQ _ (hne bQ h)) (fun bQ h _=>by rw[cq];exact h) (fun go ae s b6=>?_) (fun ae ρ bQ h1 h2=>S.eB ae ρ bQ ((mP ae).1 h1) ((mP ρ).1 h2))
  (fun ae bQ h=>S.cF ae bQ ((mP ae).1 h)) (fun ae bQ h hb=>by rw[setRow_size];exact S.gd ((mP ae).1 h) hb) ?_ (by rw[setRow_size];exact Nat.le_refl _)
 ·rw[dm];by_cases e:o=ae
  ·subst e;rw[hl] at b6;cases b6;exact⟨b',by simp,by omega,fun _=>rfl⟩
  ·exact⟨s,by simp[e,b6],Nat.le_refl _,fun _=>rfl⟩
 ·rw[dm] at b6;by_cases e:o=ae
  ·subst e;simp only[if_true,bE] at b6;subst b6;exact .inr (f_ rfl rfl (setRow_heap w b cur cur' T cZ hg) go)
  ·simp only[e,if_false] at b6;refine .inl ⟨b6,rfl,fun um bQ ew=>setRow_other w b bQ _ ?_⟩
   rintro rfl;exact e (S.eB o ae _ c8 ⟨s,b6,um⟩ db ew)
 ·have aW:=S.frame;refine⟨aW.os,aW.tape,aW.output,by rw[setRow_size];exact aW.size,fun bQ h1 h2=>?_⟩
  rw[setRow_other w b bQ _ ?_]
  ·exact aW.block bQ h1 h2
  ·rintro rfl;rcases(S.cF o _ c8 db).2 with h|h
   ·exact h2 h
   ·omega
theorem az.freeze(S:az U Z X F st M w){o s:Nat}{t:bi}{xs:List (den t)}(hl:look st.sites o=some (.row s t xs)):
  az U Z X F {st with sites:=cI st.sites o (.dF s t xs)} M w:=by
 have c8:cD st.sites o:=⟨_,hl,rfl⟩;have eF:∀ae,cD (cI st.sites o (.dF s t xs)) ae->cD st.sites ae/\ae≠o:=by
  rintro ae ⟨ai,h1,h2⟩;rw[dm] at h1;by_cases e:o=ae
  ·subst e;simp at h1;subst h1;cases h2
  ·simp only[e,if_false] at h1;exact⟨⟨ai,h1,h2⟩,fun h=>e h.symm⟩
 have cq:∀bQ,aN X F (cI st.sites o (.dF s t xs)) bQ->aN X F st.sites bQ:=by
  rintro bQ (h|⟨ae,h1,h2⟩)
  ·exact .inl h
  ·exact .inr ⟨ae,(eF ae h1).1,h2⟩
 refine S.rE (fun ae ai b6=>?_) (fun _ _ _=>rfl) (fun bQ h _ an=>h (cq bQ an)) (fun go ae ai b6=>?_) (fun ae ρ bQ h1 h2=>S.eB ae ρ bQ (eF ae h1).1 (eF ρ h2).1)
  (fun ae bQ h=>S.cF ae bQ (eF ae h).1) (fun ae bQ h hb=>S.gd (eF ae h).1 hb) S.frame (Nat.le_refl _)
 ·rw[dm];by_cases e:o=ae
  ·subst e;rw[hl] at b6;cases b6;exact⟨.dF s t xs,by simp,Nat.le_refl _,fun _=>rfl⟩
  ·exact⟨ai,by simp[e,b6],Nat.le_refl _,fun _=>rfl⟩
 ·rw[dm] at b6;by_cases e:o=ae
  ·subst e;simp only[if_true,bE] at b6;subst b6;refine .inr ?_
   show bT _ _ (.sl t xs) (F o)/\DW (F o);obtain⟨cU,cs,h1,h2⟩:=S.sites o _ hl;rcases h1.2 with⟨hn,h0⟩|⟨g,cap,cur,fz,hv,_,hg,hnc,_,_,htk⟩
   ·have:xs=[]:=fP h0;subst this;rw[hn];exact⟨.nil t,.inl rfl⟩
   ·rw[hv];refine⟨?_,.inr ⟨_,_,_,rfl⟩⟩;have hlen:cs.length=(flat t xs).length:=by rw[fr];exact h1.1
    refine .sl t xs _ cap cs xs.length rfl hnc (fun _=>?_) hlen (fun j u hu=>?_) (fun j g1 g2=>pY go (h2 j g1 g2))
    ·rintro(hx|⟨ae,g1,g2⟩)
     ·exact(S.cF o g c8 (by rw[hv];rfl)).1 hx
     ·obtain⟨g3,g4⟩:=eF ae g1;exact g4 (S.eB ae o g g3 c8 g2 (by rw[hv];rfl))
    ·rw[hK,Nat.zero_add,cell_of_row w g j cur cU fz hg];rw[<-htk,List.getElem?_take] at hu;split at hu
     ·simpa using hu
     ·cases hu
  ·simp only[e,if_false] at b6;exact .inl ⟨b6,rfl,fun _ _ _=>rfl⟩
theorem RP{aD:Type}(l:List (Nat×aD))(n:Nat)(v:aD)(h:look l n=some v):cI l n v=l:=by
 induction l with
 |nil=>simp[look] at h
 |cons p l ih=>
  obtain⟨k,u⟩:=p;simp only[look] at h;simp only[cI];cases hb:k.beq n with
  |true=>simp only[hb,ad,bE] at h;subst h;simp
  |false=>simp only[hb,ak] at h;simp[ih h]
def eh(sites:List (Nat×Site))(us:List (Nat×Site)):Prop:=
 ∀o ai,(o,ai)∈us->∃s t,∃xs:List (den t),ai=.dF s t xs/\(look sites o=some (.row s t xs)\/look sites o=some (.dF s t xs))
theorem eh.nil{sites:List (Nat×Site)}:eh sites []:=fun _ _ h=>by simp at h
theorem eh.append{sites us vs:List (Nat×Site)}(h:eh sites us)(an:eh sites vs):eh sites (us++vs):=by
 intro o ai hm;rcases bp.1 hm with hm|hm
 ·exact h o ai hm
 ·exact an o ai hm
theorem eh.step{sites us:List (Nat×Site)}{o:Nat}{ai:Site}(h:eh sites ((o,ai)::us)):eh (cI sites o ai) us:=by
 obtain⟨s,t,xs,rfl,hl⟩:=h o ai (by simp)
 intro ae b' hm;obtain⟨aQ,bw,jq,rfl,gT⟩:=h ae b' (by simp[hm])
 refine⟨aQ,bw,jq,rfl,?_⟩;rw[dm];by_cases e:o=ae
 ·subst e;simp only[if_true];right;rcases hl with hl|hl<;>rcases gT with gT|gT<;>rw[hl] at gT<;>cases gT<;>rfl
 ·simp only[e,if_false];exact gT
theorem az.BU{us:List (Nat×Site)}:∀{st:ao},az U Z X F st M w->eh st.sites us->az U Z X F {st with sites:=bB st.sites us} M w:=by
 induction us with
 |nil=>intro st S _;exact S
 |cons p us ih=>
  obtain⟨o,ai⟩:=p;intro st S h;have an:=h.step;obtain⟨s,t,xs,rfl,hl⟩:=h o ai (by simp)
  simp only[bB];rcases hl with hl|hl
  ·exact ih (S.freeze hl) an
  ·rw[RP _ _ _ hl] at an ⊢;exact ih S an
theorem ms{us:List (Nat×Site)}:∀{sites:List (Nat×Site)},eh sites us->∀o,(look (bB sites us) o=look sites o)\/(∃s t,∃xs:List (den t),(look sites o=some (.row s t xs)\/look sites o=some (.dF s t xs))/\look (bB sites us) o=some (.dF s t xs)):=by
 induction us with
 |nil=>intro sites _ o;exact .inl rfl
 |cons p us ih=>
  obtain⟨ae,ai⟩:=p;intro sites h o;obtain⟨s,t,xs,rfl,hl⟩:=h ae ai (by simp)
  simp only[bB];have hc:=dm sites ae o (.dF s t xs);rcases ih h.step o with h1|⟨aQ,bw,jq,h1,h2⟩
  ·by_cases e:ae=o
   ·subst e;simp only[if_true] at hc;exact .inr ⟨s,t,xs,hl,h1.trans hc⟩
   ·simp only[e,if_false] at hc;exact .inl (h1.trans hc)
  ·by_cases e:ae=o
   ·subst e;simp only[if_true] at hc;rw[hc] at h1;rcases h1 with h1|h1
    ·cases h1
    ·cases h1;exact .inr ⟨s,t,xs,hl,h2⟩
   ·simp only[e,if_false] at hc;rw[hc] at h1;exact .inr ⟨aQ,bw,jq,h1,h2⟩
theorem Fg{us:List (Nat×Site)}:∀{sites:List (Nat×Site)},eh sites us->∀{o s:Nat} {t:bi} {xs:List (den t)},(o,Site.dF s t xs)∈us->look (bB sites us) o=some (.dF s t xs):=by
 intro sites h o s t xs hm;obtain⟨iR,t0,Ea,he,hl⟩:=h o _ hm;cases he;rcases ms h o with h1|⟨aQ,bw,jq,h1,h2⟩
 ·-- named,and aDv aCl
  induction us generalizing sites with
  |nil=>simp at hm
  |cons p us ih=>
   obtain⟨ae,ai⟩:=p;simp only[bB] at h1 ⊢;rcases bO.1 hm with hm|hm
   ·cases hm;rcases ms h.step o with h2|⟨aQ,bw,jq,h2,h3⟩
    ·rw[h2,dm];simp
    ·rw[dm] at h2;simp at h2;obtain⟨rfl,rfl,h2⟩:=h2;rw[h3];cases h2;rfl
   ·have hc:=dm sites ae o ai;by_cases e:ae=o
    ·subst e;obtain⟨s1,t1,axc,rfl,hX⟩:=h ae ai (by simp)
     have:Site.dF s1 t1 axc=Site.dF s t xs:=by
      rcases hl with hl|hl<;>rcases hX with hX|hX<;>rw[hl] at hX<;>cases hX<;>rfl
     cases this;simp only[if_true] at hc;rcases ms h.step ae with h2|⟨aQ,bw,jq,h2,h3⟩
     ·rw[h2,hc]
     ·rw[hc] at h2;rcases h2 with h2|h2
      ·cases h2
      ·cases h2;exact h3
    ·simp only[e,if_false] at hc;refine ih h.step hm (by rw[hc];exact hl) ?_
     rw[h1,hc]
 ·rcases hl with hl|hl<;>rcases h1 with h1|h1<;>rw[hl] at h1<;>cases h1<;>exact h2
end
section
variable {P:Program}{U:World}{Z:List Nat}{X:Nat->Prop}{F:Nat->Value}{st:ao}{M:Array Value}{w:World}
structure lF(U:World)(Z:List Nat)(X:Nat->Prop)(F:Nat->Value)(st:ao)(M:Array Value)(w:World)(vs:List (Nat×Site)):Prop where
 old:az U Z X F st M w
 fz:eh st.sites vs
theorem lF.new{vs:List (Nat×Site)}(aW:lF U Z X F st M w vs):az U Z X F {st with sites:=bB st.sites vs} M w:=aW.old.BU aW.fz
theorem lF.go{vs:List (Nat×Site)}(aW:lF U Z X F st M w vs){a:bb}{v:Value}(h:cy F st.sites w (aN X F st.sites) a v):cy F (bB st.sites vs) w (aN X F (bB st.sites vs)) a v:=by
 have eF:∀ae,cD (bB st.sites vs) ae->cD st.sites ae:=by
  rintro ae ⟨ai,h1,h2⟩;rcases ms aW.fz ae with h|⟨s,t,xs,_,h⟩
  ·exact⟨ai,h▸h1,h2⟩
  ·rw[h] at h1;cases h1;cases h2
 refine h.goes ⟨fun o ai bH=>?_,fun _ _ _=>rfl,fun b hb _ ew=>hb ?_⟩ (Nat.le_refl _) ?_
 ·rcases ms aW.fz o with h|⟨s,t,xs,h1,h2⟩
  ·exact⟨ai,h.trans bH,Nat.le_refl _,fun _=>rfl⟩
  ·refine⟨_,h2,?_,fun _=>rfl⟩
   rw[bH] at h1;rcases h1 with h1|h1<;>cases h1<;>exact Nat.le_refl _
 ·rcases ew with h|⟨ae,h1,h2⟩
  ·exact .inl h
  ·exact .inr ⟨ae,eF ae h1,h2⟩
 ·rintro b (h|⟨ae,h1,h2⟩)
  ·exact aW.old.old b h
  ·exact aW.old.gd (eF ae h1) h2
theorem aoc{o s:Nat}{t:bi}{xs:List (den t)}(hr:rowOf st o s=some ⟨t,xs⟩):eh st.sites (mS st o s t xs):=by
 unfold mS;split
 ·exact .nil
 ·intro ae ai hm;simp only[List.mem_singleton,Prod.mk.injEq] at hm;obtain⟨rfl,rfl⟩:=hm;exact⟨s,t,xs,rfl,ku hr⟩
theorem SN{o s:Nat}{t:bi}{xs:List (den t)}(hr:rowOf st o s=some ⟨t,xs⟩):bB st.sites (mS st o s t xs)=bB st.sites [(o,.dF s t xs)]:=by
 unfold mS;split
 ·rename_i iR t0 Ea h0;have h0:look st.sites o=some (.dF iR t0 Ea):=h0;simp only[bB];rcases ku hr with h|h
  ·rw[h0] at h;cases h
  ·exact(RP _ _ _ h).symm
 ·rfl
theorem ajQ{sites us:List (Nat×Site)}(h:eh sites us){o s:Nat}{t:bi}{xs:List (den t)}(hl:look sites o=some (.dF s t xs)):look (bB sites us) o=some (.dF s t xs):=by
 rcases ms h o with h1|⟨aQ,bw,jq,h1,h2⟩
 ·rw[h1];exact hl
 ·rw[hl] at h1;rcases h1 with h1|h1
  ·cases h1
  ·cases h1;exact h2
theorem Wk{l:aU}{d:bk}{us:List (Nat×Site)}(h:kq st l=some (d,us)):eh st.sites us:=by
 unfold kq at h;split at h
 ·cases h;exact .nil
 ·cases h;exact .nil
 ·rename_i o s;split at h
  ·rename_i t xs hr;cases h;exact aoc hr
  ·cases h
 ·cases h;exact .nil
 ·cases h
theorem Wj{l:aU}{d:bk}{us vs:List (Nat×Site)}{v:Value}(h:kq st l=some (d,us))(hv:eu F st.sites w (aN X F st.sites) l v)
  (aW:lF U Z X F st M w vs) (eF:∀p,p∈us->p∈vs):bT w (aN X F (bB st.sites vs)) d v:=by
 unfold kq at h;split at h
 ·cases h;exact pY aW.go hv
 ·cases h;rw[show v=_ from hv];exact .nil _
 ·rename_i o s;split at h
  ·rename_i t xs hr;cases h;have hl:look (bB st.sites vs) o=some (.dF s t xs):=by
    unfold mS at eF;split at eF
    ·rename_i iR t0 Ea h0;have h0:look st.sites o=some (.dF iR t0 Ea):=h0;rcases ku hr with h|h
     ·rw[h0] at h;cases h
     ·exact ajQ aW.fz h
    ·exact Fg aW.fz (eF _ (List.mem_singleton.2 rfl))
   have:=aW.new.sites o _ hl;have n5:v=F o:=by
    rcases ku hr with h1|h1<;>exact Ref.at hv.2 h1 rfl
   rw[n5];exact this.1
  ·cases h
 ·rename_i g;cases h;obtain⟨al,rfl,hl,_⟩:=hv;have:al=[]:=fP (by simpa using hl)
  subst this;exact .fn g [] [] (fun _=>[]) _ rfl rfl (fun b hb=>by simp at hb) (fun b hb=>by simp at hb) (fun i hi=>by simp at hi) (fun i hi=>by simp at hi) (fun i hi=>by simp at hi)
 ·cases h
theorem JA:∀{al:List aU} {ds:List bk} {us:List (Nat×Site)},gD st al=some (ds,us)->eh st.sites us:=by
 intro al;induction al with
 |nil=>intro ds us h;simp only[gD] at h;cases h;exact .nil
 |cons l al ih=>
  intro ds us h;simp only[gD] at h;split at h
  ·rename_i d u1 lp u2 h1 h2;cases h;exact(Wk h1).append (ih h2)
  ·cases h
def dj(w:World)(av:Nat->Prop)(ds:List bk)(vs:List Value):Prop:=vs.length=ds.length/\∀j (h:j<ds.length) (an:j<vs.length),bT w av (ds[j]) (vs[j])
theorem BZ:∀{al:List aU} {ds:List bk} {us vs:List (Nat×Site)} {cs:List Value},gD st al=some (ds,us)->cM F st.sites w (aN X F st.sites) al cs->
  lF U Z X F st M w vs->(∀p,p∈us->p∈vs)->dj w (aN X F (bB st.sites vs)) ds cs:=by
 intro al;induction al with
 |nil=>intro ds us vs cs h hl _ _;simp only[gD] at h;cases h;rw[hl.oF];exact⟨rfl,fun j h=>by simp at h⟩
 |cons l al ih=>
  intro ds us vs cs h hl aW eF;simp only[gD] at h;split at h
  ·rename_i d u1 lp u2 h1 h2;cases h;obtain⟨c,pe,rfl,hc,hcs⟩:=hl.inv;have r1:=Wj h1 hc aW (fun p hp=>eF p (bp.2 (.inl hp)))
   obtain⟨r2,dD⟩:=ih h2 hcs aW (fun p hp=>eF p (bp.2 (.inr hp)))
   refine⟨by simp[r2],fun j g1 g2=>?_⟩
   cases j with
   |zero=>exact r1
   |succ j=>exact dD j (by simpa using g1) (by simpa using g2)
  ·cases h
theorem nS.run{P:Program}{u:Bool}(g D:Nat)(t:TypeId)(fz:Nat×Nat):∀(vs:List Value) (i:Nat) (cur:Array Value) (w:World),w.heap[g]? =some (.cells cur t fz)->nS u t cur fz->D+i+vs.length<=cur.size->(∀v∈vs,v.oneCell'=true)->
  (storeCells ⟨g,D,none⟩ vs i).run P w=.ok () (w.setRow g (cur.toList.take (D+i)++vs++cur.toList.drop (D+i+vs.length)).toArray)
 |[],i,cur,w,hg,_,_,_=>by
  simp only[storeCells,List.append_nil,List.length_nil,Nat.add_zero,List.take_append_drop,Array.toArray_toList];rw[setRow_self w g cur t fz hg];rfl
 |v::rest,i,cur,w,hg,hz,hl,h1=>by
  have hi:D+i<cur.size:=by simp at hl;omega
  have aun:(⟨g,D,none⟩:Addr).add i=⟨g,D+i,none⟩:=by unfold Addr.add;split<;>simp_all
  have hcell:w.cell? ⟨g,D+i,none⟩=some cur[D+i]:=by simp[World.cell?,hg,hi]
  have aug:w.frozen? ⟨g,D+i,none⟩=false:=by
   rcases hz.2 with rfl|⟨_,hz⟩
   ·simp[World.frozen?,hg]
   ·simp only[World.frozen?,hg];have:¬fz.1<=D+i:=by omega
    simp[this]
  have ei:(store ((⟨g,D,none⟩:Addr).add i) v).run P w=.ok () (w.setRow g (cur.setIfInBounds (D+i) v)):=by
   rw[aun,run_store P w _ v _ (h1 v (by simp)),hcell]
   simp[aug,setCell_eq_setRow w g (D+i) cur t fz v hg]
  have ih:=nS.run (P:=P) (u:=u) g D t fz rest (i+1) (cur.setIfInBounds (D+i) v) (w.setRow g (cur.setIfInBounds (D+i) v)) (setRow_heap w g cur _ t _ hg)
   ⟨hz.1,hz.2.imp id fun h=>⟨h.1,by simpa using h.2⟩⟩ (by simp at hl ⊢;omega) (fun x hx=>h1 x (by simp[hx]))
  simp only[storeCells,Sem.run_bind,ei,Result.andThen_ok,ih,setRow_setRow];congr 3
  have e:=list_seg_step cur.toList (D+i) v rest (by simp at hl ⊢;omega)
  simpa[Array.toList_setIfInBounds,Nat.add_assoc] using e
theorem OQ{u:Bool}{fz:Nat×Nat}{T:TypeId}{ti:cu}(h:ti.ok P T)(hn:ti≠.none){b off:Nat}{vv:Value}{cur:List Value}{gX:TypeId}(hg:w.heap[b]? =some (.cells cur.toArray gX fz))(hz:nS u gX cur.toArray fz)
  (hsz:vv.cells.toList.length=ti.size) (hle:off+vv.cells.toList.length<=cur.length) (h1:∀u∈vv.cells.toList,u.oneCell'=true):
  (storeVar T ⟨b,off,none⟩ vv).run P w=.ok () (w.setRow b (bY cur off vv.cells.toList).toArray):=by
 have hs:vv.cells.size=ti.size:=by simpa using hsz
 have:=nS.run (P:=P) b off gX fz vv.cells.toList 0 cur.toArray w hg hz (by simpa using hle) h1
 simp only[storeVar,Sem.run_bind,cu.Sq h hn,Result.andThen_ok,hs,ne_eq,not_true_eq_false,if_false];rw[this];simp[bY]
variable {D:Oper}
theorem y1{a_:Nat->Value}{w':World}{us:List (Nat×Site)}(S:az U Z X a_ {st with sites:=bB st.sites us} M w')(aa:cE st D.dst=true)
  (h:(execOp (Act.eval ⟨M,[]⟩) D).run P w=.ok .skip w'):c4 P U Z X st M w D (ch (.dd undef)) us:=
 fun _ _ b5=>aoU h (b5 _ _ _ (az.df S aa rfl))
theorem lI{a_:Nat->Value}{w':World}{us:List (Nat×Site)}{v:bb}{vv:Value}(S:az U Z X a_ {st with sites:=bB st.sites us} M w')(aa:cE st D.dst=true)
  (h:(execOp (Act.eval ⟨M,[]⟩) D).run P w=.ok (.value vv) w') (hv:cy a_ (bB st.sites us) w' (aN X a_ (bB st.sites us)) v vv):c4 P U Z X st M w D v us:=
 fun _ _ b5=>pO h (b5 _ _ _ (az.df S aa hv))
theorem sM{aD:Type}(a:List aD)(off:Nat)(b:List aD)(h:off+b.length<=a.length):(bY a off b).length=a.length:=by
 unfold bY;simp only[dx,List.length_take,List.length_drop];omega
theorem agw{aD:Type}(a:List aD)(off n:Nat)(b:List aD)(h:off+b.length<=n)(hn:n<=a.length):(bY a off b).take n=bY (a.take n) off b:=by
 unfold bY;apply List.ext_getElem?;intro j;simp only[List.getElem?_take,List.getElem?_append,dx,List.length_take,List.getElem?_drop];have m1:min off a.length=off:=by omega
 have m2:min off (min n a.length)=off:=by omega
 simp only[m1,m2];by_cases c1:j<off
 ·have c2:j<n:=by omega
  have c3:j<off+b.length:=by omega
  simp[c1,c2,c3]
 ·by_cases c3:j<off+b.length
  ·have c2:j<n:=by omega
   simp[c1,c2,c3]
  ·have e:off+b.length+(j-(off+b.length))=j:=by omega
   simp[c1,c3,e]
theorem ahp{cells al:List aU}{T:TypeId}{cur vs:List Value}{b off:Nat}(h:nK cells T cur b)(hl:vs.length=al.length)(hns:h_ al=true):nK (bY cells off al) T (bY cur off vs) b:=by
 intro bU;unfold bY at bU ⊢;cases off with
 |zero=>
  cases al with
  |nil=>
   cases vs with
   |nil=>simpa using h (by simpa using bU)
   |cons=>cases hl
  |cons l al=>
   simp only[List.take_zero,List.nil_append,List.cons_append,List.head?_cons,bE] at bU;subst bU;cases hns
 |succ n=>
  cases cells with
  |nil=>
   cases al with
   |nil=>simp at bU
   |cons l al=>
    simp only[List.take_nil,List.nil_append,List.cons_append,List.head?_cons,bE] at bU;subst bU;cases hns
  |cons c cells=>
   simp only[List.take_succ_cons,List.cons_append,List.head?_cons,bE] at bU;subst bU;have:=h rfl;cases cur with
   |nil=>simp at this
   |cons v cur=>simpa using this
theorem az.akB(S:az U Z X F st M w){o s off:Nat}{cells al:List aU}{v:Value}{vs:List Value}(hb:look st.sites o=some (.box s cells))(hv:eu F st.sites w (aN X F st.sites) (.ptr o s off) v)
  (hl:cM F st.sites w (aN X F st.sites) al vs) (hle:off+al.length<=cells.length) (h1:∀u∈vs,u.oneCell'=true) (hns:h_ al=true):
  ∃b T cur,v=.pointer (some ⟨b,off,none⟩)/\w.heap[b]? =some (.cells (List.toArray cur) T (0,0))/\off+vs.length<=cur.length/\
   az U Z X F {st with sites:=cI st.sites o (.box s (bY cells off al))} M (w.setRow b (bY cur off vs).toArray):=by
 obtain⟨b,T,cur,db,x0,hg,la,kn⟩:=S.box hb hv;have qf:off+vs.length<=cur.length:=by rw[hl.1,kn.1];exact hle
 refine⟨b,T,cur,x0,hg,qf,?_⟩;have iP:nK cells T cur b:=by
  obtain⟨b2,eT,_f,aI,aJ,_,_,bS,_⟩:=S.sites o _ hb;rw[db] at aI;cases aI;rw[hg] at aJ;cases aJ;exact bS
 refine S.write hb rfl rfl rfl (by rw[db];rfl) hg (fun hs hw hg' go=>?_)
 have Z2:=Cr go (kn.bY off hl);refine⟨b,T,_,db,hg',Z2.1,fun u hu=>?_,ahp iP hl.1 hns,Z2.2⟩
 unfold bY at hu;simp only[bp] at hu;rcases hu with(hu|hu)|hu
 ·exact la u (List.mem_of_mem_take hu)
 ·exact h1 u hu
 ·exact la u (List.mem_of_mem_drop hu)
theorem jG{F:Nat->Value}{sites:List (Nat×Site)}{w:World}{av:Nat->Prop}{ds:List bk}{vs:List Value}(h:cM F sites w av (cR ds) vs):dj w av ds vs:=
 ⟨by simpa[cR] using h.1,fun j g1 g2=>by
  have:=h.2 j (by simpa[cR] using g1) g2
  simp only[cR,List.getElem_map] at this;exact this⟩
theorem afR{w:World}{av:Nat->Prop}{t:bi}{xs:List (den t)}{k:Nat}{iQ:den t}{cs ns:List Value}(hk:k<xs.length)(h:dj w av (flat t xs) cs)(an:dj w av (enc t iQ) ns):
  dj w av (flat t (xs.set k iQ)) (bY cs (k*bg t) ns):=by
 have e:flat t (xs.set k iQ)=bY (flat t xs) (k*bg t) (enc t iQ):=by
  rw[alX,if_pos hk];unfold bY;rw[jC,Nat.add_mul,Nat.one_mul]
 rw[e];have a:=ie (F:=fun _=>undef) (sites:=[]) h.1 h.2
 have b:=ie (F:=fun _=>undef) (sites:=[]) an.1 an.2
 have c:=a.bY (k*bg t) b;have e2:bY (cR (flat t xs)) (k*bg t) (cR (enc t iQ))=cR (bY (flat t xs) (k*bg t) (enc t iQ)):=by
  simp[bY,cR,List.map_append,List.map_take,List.map_drop]
 rw[e2] at c;exact jG c
theorem az.akA(S:az U Z X F st M w){o s k off:Nat}{t:bi}{xs:List (den t)}{x iQ:den t}{v:Value}{ds:List bk}{vs:List Value}(hb:look st.sites o=some (.row s t xs))
  (hv:eu F st.sites w (aN X F st.sites) (.fm o s t k off) v) (hx:xs[k]? =some x) (qn:enc t iQ=bY (enc t x) off ds)
  (hl:dj w (aN X F st.sites) ds vs) (hle:off+ds.length<=bg t) (h1:∀u∈vs,u.oneCell'=true):
  ∃b T cur fz,v=.pointer (some ⟨b,k*bg t+off,none⟩)/\w.heap[b]? =some (.cells (List.toArray cur) T fz)/\nS t.kl T cur.toArray fz/\k*bg t+off+vs.length<=cur.length/\
   az U Z X F {st with sites:=cI st.sites o (.row s t (xs.set k iQ))} M (w.setRow b (bY cur (k*bg t+off) vs).toArray):=by
 obtain⟨b,x0,qo⟩:=hv;obtain⟨n,c,db⟩:=Ref.at qo hb rfl;obtain⟨e,cs,l6,ej⟩:=S.sites o _ hb;have hk:k<xs.length:=by
  rcases Nat.lt_or_ge k xs.length with h|h
  ·exact h
  ·rw[List.getElem?_eq_none h] at hx;cases hx
 obtain⟨M3,h⟩:=l6;rcases h with⟨hn,_⟩|⟨g,cap,cur,fz,pa,Ng,hg,hnc,hcm,hcs,htk⟩
 ·rw[db] at hn;cases hn
 ·rw[db] at pa;cases pa;have sa:(k+1)*bg t<=xs.length*bg t:=Nat.mul_le_mul_right _ hk;have hk2:xs.length*bg t<=c*bg t:=Nat.mul_le_mul_right _ hnc;rw[Nat.add_mul,Nat.one_mul] at sa;have mZ:vs.length=ds.length:=hl.1;have la:cur.toList.length=c*bg t:=by simpa using hcs
  have qf:k*bg t+off+vs.length<=cur.toList.length:=by omega
  refine⟨b,e,cur.toList,fz,x0,by simpa using hg,by simpa using Ng,qf,?_⟩
  refine S.write hb rfl rfl rfl (by rw[db];rfl) hg (fun hs hw hg' go=>?_)
  have aCQ:cs.length=xs.length*bg t:=M3;refine⟨e,bY cs (k*bg t+off) vs,⟨?_,.inr ⟨b,c,_,fz,?_,?_,hg',?_,hcm,?_,?_⟩⟩,?_⟩
  ·rw[sM _ _ _ (by omega),List.length_set];exact M3
  ·rw[db,List.length_set]
  ·refine⟨Ng.1,?_⟩;rcases Ng.2 with h|⟨h,an⟩
   ·exact .inl h
   ·refine .inr ⟨h,?_⟩;rw[List.size_toArray,sM _ _ _ qf];simpa using an
  ·rw[List.length_set];exact hnc
  ·rw[List.size_toArray,sM _ _ _ qf];exact la
  ·rw[<-htk,List.length_set,List.toList_toArray];exact agw _ _ _ _ (by omega) (by rw[la];omega)
  ·have r0:dj w (aN X F st.sites) (flat t xs) cs:=⟨by rw[fr];exact M3,ej⟩
   have iP:=vy t xs k x hx;have r1:dj w (aN X F st.sites) (enc t x) ((cs.drop (k*bg t)).take (bg t)):=by
    have a:=ie (F:=fun _=>undef) (sites:=[]) r0.1 r0.2
    have bQ:=(a.drop (k*bg t)).take (bg t);have e2:((cR (flat t xs)).drop (k*bg t)).take (bg t)=cR (enc t x):=by
     rw[<-iP];simp[cR,List.map_drop,List.map_take]
    rw[e2] at bQ;exact jG bQ
   have r2:dj w (aN X F st.sites) (enc t iQ) (bY ((cs.drop (k*bg t)).take (bg t)) off vs):=by
    rw[qn];have a:=ie (F:=fun _=>undef) (sites:=[]) r1.1 r1.2
    have bQ:=ie (F:=fun _=>undef) (sites:=[]) hl.1 hl.2
    have fM:=a.bY off bQ;have e2:bY (cR (enc t x)) off (cR ds)=cR (bY (enc t x) off ds):=by
     simp[bY,cR,List.map_append,List.map_take,List.map_drop]
    rw[e2] at fM;exact jG fM
   have dD:=afR hk r0 r2;have bz:bY cs (k*bg t) (bY ((cs.drop (k*bg t)).take (bg t)) off vs)=bY cs (k*bg t+off) vs:=by
    unfold bY;apply List.ext_getElem?;intro j;simp only[List.getElem?_append,dx,List.length_take,List.length_drop,List.getElem?_take,List.getElem?_drop];have m1:min (k*bg t) cs.length=k*bg t:=by omega
    have m2:min (k*bg t+off) cs.length=k*bg t+off:=by omega
    have m3:min (bg t) (cs.length-k*bg t)=bg t:=by omega
    have m4:min off (bg t)=off:=by omega
    simp only[m1,m2,m3,m4];by_cases c1:j<k*bg t
    ·have c2:j<k*bg t+off:=by omega
     have c3:j<k*bg t+off+vs.length:=by omega
     have dv:j<k*bg t+(off+vs.length+(bg t-(off+vs.length))):=by omega
     simp[c1,c2,c3,dv]
    ·by_cases c2:j<k*bg t+off
     ·have d1:j-k*bg t<off:=by omega
      have d2:j-k*bg t<off+vs.length:=by omega
      have d3:j-k*bg t<bg t:=by omega
      have c3:j<k*bg t+off+vs.length:=by omega
      have dv:j<k*bg t+(off+vs.length+(bg t-(off+vs.length))):=by omega
      have e5:k*bg t+(j-k*bg t)=j:=by omega
      simp[c1,c2,c3,dv,d1,d2,d3,e5]
     ·by_cases c3:j<k*bg t+off+vs.length
      ·have d1:¬j-k*bg t<off:=by omega
       have d2:j-k*bg t<off+vs.length:=by omega
       have dv:j<k*bg t+(off+vs.length+(bg t-(off+vs.length))):=by omega
       have e5:j-k*bg t-off=j-(k*bg t+off):=by omega
       simp[c1,c2,c3,dv,d1,d2,e5]
      ·by_cases dv:j<k*bg t+(off+vs.length+(bg t-(off+vs.length)))
       ·have d2:¬j-k*bg t<off+vs.length:=by omega
        have d1:¬j-k*bg t<off:=by omega
        have d5:off+vs.length+(j-k*bg t-(off+vs.length))<bg t:=by omega
        have e5:k*bg t+(off+vs.length+(j-k*bg t-(off+vs.length)))=k*bg t+off+vs.length+(j-(k*bg t+off+vs.length)):=by omega
        simp[c1,c2,c3,dv,d1,d2,d5,e5]
       ·have e5:k*bg t+(off+vs.length+(bg t-(off+vs.length)))+(j-(k*bg t+(off+vs.length+(bg t-(off+vs.length)))))=k*bg t+off+vs.length+(j-(k*bg t+off+vs.length)):=by omega
        simp[c1,c2,c3,dv,e5]
   rw[bz] at dD;exact fun j g1 g2=>pY go (dD.2 j g1 g2)
end
section
variable {P:Program}{U:World}{Z:List Nat}{X:Nat->Prop}{F:Nat->Value}{st:ao}{M:Array Value}{w:World}
theorem mu{o:Nat}{ai:Site}(h:look st.sites o=some ai):ai.cK<bG st o:=by
 unfold bG ao.ai;rw[h];exact Nat.lt_succ_self _
theorem az.make(S:az U Z X F st M w){o:Nat}{b':Site}{nv:Value}{w':World}
  (hw:∀b,b<w.heap.size->w'.heap[b]? =w.heap[b]?) (hos:w'.os=w.os) (arF:w'.tape=w.tape) (Lt:w'.output=w.output) (p0:w.heap.size<=w'.heap.size)
  (wE:∀ai,look st.sites o=some ai->ai.cK<b'.cK) (jp:∀b,bZ nv=some b->w.heap.size<=b/\b<w'.heap.size)
  (f_:∀{b_:List (Nat×Site)} {a_:Nat->Value},b_=cI st.sites o b'->a_ o=nv->(∀{a v},cy F st.sites w (aN X F st.sites) a v->cy a_ b_ w' (aN X a_ b_) a v)->
   (∀b,w.heap.size<=b->bZ nv≠some b->¬aN X a_ b_ b)->(b'.live=false->∀b,bZ nv=some b->¬aN X a_ b_ b)->kA a_ b_ w' (aN X a_ b_) o b'):
  az U Z X (fun ae=>if ae=o then nv else F ae) {st with sites:=cI st.sites o b'} M w':=by
 have c8:∀ae,cD (cI st.sites o b') ae->(ae=o/\b'.live=true)\/(ae≠o/\cD st.sites ae):=by
  rintro ae ⟨ai,h1,h2⟩;rw[dm] at h1;by_cases e:o=ae
  ·subst e;simp at h1;subst h1;exact .inl ⟨rfl,h2⟩
  ·simp only[e,if_false] at h1;exact .inr ⟨fun h=>e h.symm,ai,h1,h2⟩
 have cq:∀b,aN X (fun ae=>if ae=o then nv else F ae) (cI st.sites o b') b->aN X F st.sites b\/(bZ nv=some b/\b'.live=true):=by
  rintro b (h|⟨ae,h1,h2⟩)
  ·exact .inl (.inl h)
  ·rcases c8 ae h1 with⟨rfl,h3⟩|⟨h3,aF⟩
   ·simp at h2;exact .inr ⟨h2,h3⟩
   ·simp only[h3,if_false] at h2;exact .inl (.inr ⟨ae,aF,h2⟩)
 have hlt:∀b,aN X F st.sites b->b<w.heap.size:=by
  rintro b (h|⟨ae,h1,h2⟩)
  ·exact S.old b h
  ·exact S.gd h1 h2
 refine S.rE (fun ae ai b6=>?_) (fun b _ hb=>hw b hb) (fun b h hb an=>?_) (fun go ae ai b6=>?_) (fun ae ρ b h1 h2 g1 g2=>?_) (fun ae b h1 g1=>?_) (fun ae b h1 g1=>?_) ?_ p0
 ·rw[dm];by_cases e:o=ae
  ·subst e;exact⟨b',by simp,Nat.le_of_lt (wE ai b6),fun h=>by have:=wE ai b6;omega⟩
  ·have cU:¬ae=o:=fun h=>e h.symm
   exact⟨ai,by simp[e,b6],Nat.le_refl _,fun _=>by simp[cU]⟩
 ·rcases cq b an with an|⟨an,_⟩
  ·exact h an
  ·have:=(jp b an).1;omega
 ·rw[dm] at b6;by_cases e:o=ae
  ·subst e;simp only[if_true,bE] at b6;subst b6;refine .inr (f_ rfl (by simp) go (fun b hb hne an=>?_) (fun hl b hb an=>?_))
   ·rcases cq b an with an|⟨an,_⟩
    ·have:=hlt b an;omega
    ·exact hne an
   ·rcases cq b an with an|⟨_,an⟩
    ·have:=hlt b an;have:=(jp b hb).1;omega
    ·rw[hl] at an;cases an
  ·have cU:¬ae=o:=fun h=>e h.symm
   simp only[e,if_false] at b6;exact .inl ⟨b6,by simp[cU],fun hl b hb=>hw b (S.gd ⟨ai,b6,hl⟩ hb)⟩
 ·rcases c8 ae h1 with⟨rfl,_⟩|⟨n1,ed⟩<;>rcases c8 ρ h2 with⟨rfl,_⟩|⟨n2,fU⟩
  ·rfl
  ·simp only[if_true] at g1;simp only[n2,if_false] at g2;have:=S.gd fU g2;have:=(jp b g1).1;omega
  ·simp only[if_true] at g2;simp only[n1,if_false] at g1;have:=S.gd ed g1;have:=(jp b g2).1;omega
  ·simp only[n1,if_false] at g1;simp only[n2,if_false] at g2;exact S.eB ae ρ b ed fU g1 g2
 ·rcases c8 ae h1 with⟨rfl,_⟩|⟨n1,ed⟩
  ·simp only[if_true] at g1;have hb:=(jp b g1).1;exact⟨fun hx=>by have:=S.old b hx;have:=S.frame.size;omega,.inr (Nat.le_trans S.frame.size hb)⟩
  ·simp only[n1,if_false] at g1;exact S.cF ae b ed g1
 ·rcases c8 ae h1 with⟨rfl,_⟩|⟨n1,ed⟩
  ·simp only[if_true] at g1;exact(jp b g1).2
  ·simp only[n1,if_false] at g1;exact Nat.lt_of_lt_of_le (S.gd ed g1) p0
 ·have aW:=S.frame;exact⟨hos.trans aW.os,arF.trans aW.tape,Lt.trans aW.output,Nat.le_trans aW.size p0,fun b h1 h2=>(hw b (Nat.lt_of_lt_of_le h1 aW.size)).trans (aW.block b h1 h2)⟩
theorem az.append(S:az U Z X F st M w){o dst s:Nat}{t:bi}{xs r:List (den t)}(hl:look st.sites o=some (.row s t xs)){nv:Value}{w':World}
  (hg:w.grownBy w' (F o).ownBlock) (jp:∀b,bZ nv=some b->b<w'.heap.size/\(bZ (F o)=some b\/w.heap.size<=b))
  (f_:∀{b_:List (Nat×Site)} {a_:Nat->Value},a_ dst=nv->(∀{a v},cy F st.sites w (aN X F st.sites) a v->cy a_ b_ w' (aN X a_ b_) a v)->
   kA a_ b_ w' (aN X a_ b_) dst (.row (bG (st.iU o (.dead s)) dst) t r)):
  az U Z X (fun ae=>if ae=dst then nv else F ae) {st with sites:=bB st.sites [(o,.dead s),(dst,.row (bG (st.iU o (.dead s)) dst) t r)]} M w':=by
 have bH:cD st.sites o:=⟨_,hl,rfl⟩;have kd:∀ae,look (bB st.sites [(o,.dead s),(dst,.row (bG (st.iU o (.dead s)) dst) t r)]) ae=
   if dst=ae then some (.row (bG (st.iU o (.dead s)) dst) t r) else if o=ae then some (.dead s) else look st.sites ae:=by
  intro ae;simp only[bB,dm]
 have wE:∀ai,look st.sites dst=some ai->ai.cK<bG (st.iU o (.dead s)) dst:=by
  intro ai h;unfold bG;rw[ao.yT];by_cases e:o=dst
  ·subst e;rw[hl] at h;cases h;simp[Site.cK]
  ·simp only[e,if_false,ao.ai,h];exact Nat.lt_succ_self _
 have c8:∀ae,cD (bB st.sites [(o,.dead s),(dst,.row (bG (st.iU o (.dead s)) dst) t r)]) ae->ae=dst\/(ae≠dst/\ae≠o/\cD st.sites ae):=by
  rintro ae ⟨ai,h1,h2⟩;rw[kd] at h1;by_cases e:dst=ae
  ·exact .inl e.symm
  ·simp only[e,if_false] at h1;by_cases e2:o=ae
   ·simp only[e2,if_true,bE] at h1;subst h1;cases h2
   ·simp only[e2,if_false] at h1;exact .inr ⟨fun h=>e h.symm,fun h=>e2 h.symm,ai,h1,h2⟩
 have aC9:∀b,bZ (F o)=some b->(F o).ownBlock=some b:=by
  intro b hb;obtain⟨e,cs,g1,_⟩:=S.sites o _ hl;rcases g1.2 with⟨hn,_⟩|⟨g,cap,cur,fz,hv,_⟩
  ·rw[hn] at hb;cases hb
  ·rw[hv] at hb ⊢;exact hb
 have atZ:∀b,(F o).ownBlock=some b->bZ (F o)=some b:=by
  intro b hb;cases hv:F o<;>rw[hv] at hb<;>first|cases hb|skip
  rename_i a n c;cases a<;>first|exact hb|cases hb
 have KN:∀b,b<w.heap.size->bZ (F o)≠some b->w'.heap[b]? =w.heap[b]? :=fun b hb hne=>hg.block b hb (fun e=>hne (atZ b e.symm))
 refine S.rE (fun ae ai b6=>?_) (fun b h hb=>KN b hb (fun e=>h (.inr ⟨o,bH,e⟩))) (fun b h hb an=>?_) (fun go ae ai b6=>?_) (fun ae ρ b h1 h2 g1 g2=>?_) (fun ae b h1 g1=>?_) (fun ae b h1 g1=>?_) ?_ hg.size
 ·rw[kd];by_cases e:dst=ae
  ·subst e;refine⟨.row (bG (st.iU o (.dead s)) dst) t r,by simp,?_,fun h=>?_⟩
   ·exact Nat.le_of_lt (wE ai b6)
   ·have:=wE ai b6;simp only[Site.cK] at h this;omega
  ·have cU:¬ae=dst:=fun h=>e h.symm
   by_cases e2:o=ae
   ·subst e2;rw[hl] at b6;cases b6;exact⟨.dead s,by simp[e],Nat.le_refl _,fun _=>by simp[cU]⟩
   ·exact⟨ai,by simp[e,e2,b6],Nat.le_refl _,fun _=>by simp[cU]⟩
 ·rcases an with an|⟨ae,h1,h2⟩
  ·exact h (.inl an)
  ·rcases c8 ae h1 with rfl|⟨n1,_,ed⟩
   ·simp only[if_true] at h2;rcases(jp b h2).2 with h3|h3
    ·exact h (.inr ⟨o,bH,h3⟩)
    ·omega
   ·simp only[n1,if_false] at h2;exact h (.inr ⟨ae,ed,h2⟩)
 ·rw[kd] at b6;by_cases e:dst=ae
  ·subst e;simp only[if_true,bE] at b6;subst b6;exact .inr (f_ (by simp) go)
  ·have cU:¬ae=dst:=fun h=>e h.symm
   simp only[e,if_false] at b6;by_cases e2:o=ae
   ·simp only[e2,if_true,bE] at b6;subst b6;exact .inr trivial
   ·simp only[e2,if_false] at b6;refine .inl ⟨b6,by simp[cU],fun gT b hb=>?_⟩
    have acw:cD st.sites ae:=⟨ai,b6,gT⟩;exact KN b (S.gd acw hb) (fun h=>e2 (S.eB o ae b bH acw h hb))
 ·have key:∀ae b,ae≠dst->ae≠o->cD st.sites ae->bZ (F ae)=some b->bZ nv≠some b:=by
   intro ae b n1 n2 ed hb hn;rcases(jp b hn).2 with h3|h3
   ·exact n2 (S.eB ae o b ed bH hb h3)
   ·have:=S.gd ed hb;omega
  rcases c8 ae h1 with rfl|⟨n1,m1,ed⟩<;>rcases c8 ρ h2 with rfl|⟨n2,m2,fU⟩
  ·rfl
  ·simp only[if_true] at g1;simp only[n2,if_false] at g2;exact absurd g1 (key ρ b n2 m2 fU g2)
  ·simp only[if_true] at g2;simp only[n1,if_false] at g1;exact absurd g2 (key ae b n1 m1 ed g1)
  ·simp only[n1,if_false] at g1;simp only[n2,if_false] at g2;exact S.eB ae ρ b ed fU g1 g2
 ·rcases c8 ae h1 with rfl|⟨n1,_,ed⟩
  ·simp only[if_true] at g1;rcases(jp b g1).2 with h3|h3
   ·exact S.cF o b bH h3
   ·exact⟨fun hx=>by have:=S.old b hx;have:=S.frame.size;omega,.inr (Nat.le_trans S.frame.size h3)⟩
  ·simp only[n1,if_false] at g1;exact S.cF ae b ed g1
 ·rcases c8 ae h1 with rfl|⟨n1,_,ed⟩
  ·simp only[if_true] at g1;exact(jp b g1).1
  ·simp only[n1,if_false] at g1;exact Nat.lt_of_lt_of_le (S.gd ed g1) hg.size
 ·have aW:=S.frame;refine⟨hg.os.trans aW.os,hg.tape.trans aW.tape,hg.output.trans aW.output,Nat.le_trans aW.size hg.size,fun b h1 h2=>?_⟩
  rw[KN b (Nat.lt_of_lt_of_le h1 aW.size) (fun e=>?_)]
  ·exact aW.block b h1 h2
  ·rcases(S.cF o b bH e).2 with h|h
   ·exact h2 h
   ·omega
end
def Src(w:World)(size:Nat)(x:Value)(m:Nat)(news:List Value):Prop:=
 news.length=m*size/\(∀u∈news,u.oneCell'=true)/\((x=.slice none 0 0/\m=0)\/(∃a c,x=.slice (some a) m c/\∀j u,news[j]? =some u->w.cell? (a.add j)=some u)\/∃s:ByteArray,x=.string s/\m=s.size/\size=1/\news=s.data.toList.map fun b=>Value.int .u8 b.toNat)
theorem Src.run{P:Program}{w w2:World}{size m:Nat}{x:Value}{news:List Value}(h:Src w size x m news)(hw:w2.heap=w.heap):(Builtin.firstCells size m x).run P w2=.ok news.toArray w2:=by
 obtain⟨h1,_,h2⟩:=h;rcases h2 with⟨rfl,rfl⟩|⟨a,c,rfl,h3⟩|⟨s,rfl,rfl,rfl,rfl⟩
 ·have:news=[]:=fP (by simpa using h1)
  subst this;exact run_firstCells_none w2 size 0 0 0
 ·refine run_firstCells_some w2 size m a m c news h1 (fun j u hu=>?_)
  have:=h3 j u hu;unfold World.cell? at this ⊢;rw[hw];exact this
 ·have e:s.extract 0 s.size=s:=by simp
  show Result.ok ((s.extract 0 s.size).data.map fun b=>Value.int .u8 b.toNat) w2=_
  rw[e];congr 1
  apply Array.ext';simp
theorem Src.len{P:Program}{w w2:World}{size m:Nat}{x:Value}{news:List Value}(h:Src w size x m news):(Builtin.lenOf x).run P w2=.ok m w2:=by
 obtain⟨_,_,h2⟩:=h;rcases h2 with⟨rfl,rfl⟩|⟨a,c,rfl,_⟩|⟨s,rfl,rfl,_⟩<;>rfl
theorem Fi{P:Program}{u:Bool}(w:World)(T N4 ty e:TypeId)(ht:u=true->e=nh)(i:TypeInfo)(z:Value)(size bytes:Nat)(ay:P.underlying T=some (.slice e))(jS:(∃ex,P.underlying N4=some (.slice ex))\/P.underlying N4=some .string)(hi:P.info? e=some i)
  (hz:i.zero=some z) (p0:i.size=size) (kp:i.bytes=bytes) (hzs:z.cells.size=size) (hsz:0<size)
  (v:Value) (n:Nat) (xs:List Value) (l6:∃cU,rowAt w u cU size v n xs) (x:Value) (m:Nat) (news:List Value) (fG:Src w size x m news)
  (h63:n+m<=maxLen) (Wc:(n+m)*bytes<=140737488355328):
  ∃v' w',(Builtin.append_ #[T,N4] ty #[v,x]).run P w=.ok v' w'/\(∃cU,rowAt w' u cU size v' (n+m) (xs++news))/\w.grownBy w' v.ownBlock/\
   ∀b,bZ v'=some b->b<w'.heap.size/\(bZ v=some b\/w.heap.size<=b):=by
 subst p0 kp;obtain⟨cU,hl0,l6⟩:=l6;have apR:n+m<=9223372036854775807:=by simp only[maxLen] at h63;omega
 have hlen:(xs++news).length=(n+m)*i.size:=by rw[dx,hl0,fG.1,Nat.add_mul]
 have grown:∀(old:Nat),old<n+m->∀(row:Option Nat),
   rowAt (w.drew.alloc (.cells (xs.toArray++news.toArray++Builtin.zeroCells z.cells (grownCap w (n+m) old e-(n+m))) e)) u e i.size
    (.slice (some ⟨w.heap.size,0,none⟩) (n+m) (grownCap w (n+m) old e)) (n+m) (xs++news)/\
   w.grownBy (w.drew.alloc (.cells (xs.toArray++news.toArray++Builtin.zeroCells z.cells (grownCap w (n+m) old e-(n+m))) e)) row:=by
  intro old aP row;have hge:=grownCap_ge w (n+m) old e;have hcm:grownCap w (n+m) old e<=maxLen:=grownCap_le_maxLen w (n+m) old e h63;refine⟨⟨hlen,.inr ⟨w.heap.size,_,_,(0,0),rfl,⟨ht,.inl rfl⟩,heap_alloc_new w.drew _,hge,hcm,?_,?_⟩⟩,⟨rfl,rfl,rfl,by simp,fun k hk _=>RowKit.Below.heap_alloc w.drew _ k hk⟩⟩
  ·simp only[Array.size_append,List.size_toArray,size_zeroCells,hzs,hl0,fG.1,<-Nat.add_mul];congr 1
   omega
  ·simp only[Array.toList_append,List.append_assoc];rw[<-List.append_assoc,<-hlen];exact List.take_left
 have VH:∀{c:Nat} {D:Obj} {v:Value} b,bZ (.slice (some ⟨w.heap.size,0,none⟩) (n+m) c)=some b->b<(w.drew.alloc D).heap.size/\(bZ v=some b\/w.heap.size<=b):=by
  intro c D v b hb;cases hb;exact⟨by simp,.inr (Nat.le_refl _)⟩
 rcases l6 with⟨rfl,rfl⟩|⟨g,cap,cur,fz,rfl,hfz,hg,hnc,hcm,hcs,mI⟩
 ·have hx:xs=[]:=fP (by simpa using hl0)
  subst hx;by_cases hm:m=0
  ·subst hm;have hn:news=[]:=fP (by simpa using fG.1)
   subst hn;refine⟨.slice none 0 0,w,?_,⟨e,Gi w u e i.size⟩,⟨rfl,rfl,rfl,Nat.le_refl _,fun _ _ _=>rfl⟩,fun b hb=>by cases hb⟩
   rcases jS with⟨ex,jS⟩|jS<;>simp[Builtin.append_,run_underlying ay,run_underlying jS,sizeOf,typeInfo,hi,fG.len,fG.run (w2:=w) rfl]
  ·have x':=grown 0 (by omega) (Value.ownBlock (.slice none 0 0))
   refine⟨_,_,?_,⟨e,x'.1⟩,x'.2,VH⟩;have h63':¬(9223372036854775807<(m:Int)):=by omega
   have hb:=Wc;simp only[Nat.zero_add] at hb;have LH:¬(281474976710656<Builtin.nextslicecap m 0*i.bytes):=by rw[nextslicecap_zero (by omega)];omega
   rcases jS with⟨ex,jS⟩|jS<;>simp[Builtin.append_,run_underlying ay,run_underlying jS,sizeOf,typeInfo,zeroValue,hi,hz,fG.len,hm,h63',LH,Question.forced,run_firstCells_none,fG.run (w2:=w.drew) rfl,newRow,grownCap]
 ·by_cases hroom:n+m<=cap
  ·have l7:n*i.size+news.length<=cur.size:=by rw[fG.1,hcs,<-Nat.add_mul];exact Nat.mul_le_mul_right _ hroom
   have ei:=nS.run (P:=P) g (n*i.size) cU fz news 0 cur w hg hfz (by simpa using l7) fG.2.1
   simp only[Nat.add_zero] at ei;refine⟨.slice (some ⟨g,0,none⟩) (n+m) cap,w.setRow g (cur.toList.take (n*i.size)++news++cur.toList.drop (n*i.size+news.length)).toArray,?_,
    ⟨cU,hlen,.inr ⟨g,cap,_,fz,rfl,⟨hfz.1,hfz.2.imp id (fun h=>⟨h.1,?_⟩)⟩,setRow_heap w g cur _ cU _ hg,hroom,hcm,?_,?_⟩⟩,⟨rfl,rfl,rfl,by simp,fun k _ hk=>setRow_other w g k _ (fun e=>hk (by simp[Value.ownBlock,e]))⟩,fun b hb=>?_⟩
   ·rcases jS with⟨ex,jS⟩|jS<;>simp[Builtin.append_,run_underlying ay,run_underlying jS,sizeOf,typeInfo,hi,fG.len,hroom,fG.run (w2:=w) rfl,Addr.add_lit,ei]
   ·have:=h.2;simp only[List.size_toArray,dx,List.length_take,List.length_drop,Array.length_toList];omega
   ·simp only[List.size_toArray,dx,List.length_take,List.length_drop,Array.length_toList];omega
   ·rw[mI,<-hlen];exact List.take_left
   ·cases hb;exact⟨by rw[setRow_size];exact(Array.getElem?_eq_some_iff.1 hg).1,.inl rfl⟩
  ·have x':=grown cap (by omega) (Value.ownBlock (.slice (some ⟨g,0,none⟩) n cap))
   refine⟨_,_,?_,⟨e,x'.1⟩,x'.2,VH⟩;have holds:∀j u,xs[j]? =some u->w.drew.cell? ((⟨g,0,none⟩:Addr).add j)=some u:=by
    intro j u hu;rw[hK,Nat.zero_add,World.cell?_drew,cell_of_row w g j cur cU fz hg];rw[<-mI,List.getElem?_take] at hu;split at hu
    ·simpa using hu
    ·cases hu
   have h63':¬(9223372036854775807<((n:Int)+(m:Int))):=by omega
   have l7:=growslice_fits (need:=n+m) (old:=cap) (bytes:=i.bytes) (by omega) Wc
   have LH:¬(281474976710656<Builtin.nextslicecap (n+m) cap*i.bytes):=by omega
   have EE:=run_firstCells_some (P:=P) w.drew i.size n ⟨g,0,none⟩ n cap xs hl0 holds;rcases jS with⟨ex,jS⟩|jS<;>simp[Builtin.append_,run_underlying ay,run_underlying jS,sizeOf,typeInfo,zeroValue,hi,hz,fG.len,hroom,h63',LH,Question.forced,fG.run (w2:=w.drew) rfl,EE,newRow,grownCap]
   all_goals
    congr 2
    apply Array.ext';simp[List.append_assoc]
section
variable {P:Program}{U:World}{Z:List Nat}{X:Nat->Prop}{F:Nat->Value}{st:ao}{M:Array Value}{w:World}{D:Oper}
theorem akD(S:az U Z X F st M w){x:bb}{v:Value}{t:bi}{bm:List (den t)}(hx:cy F st.sites w (aN X F st.sites) x v)(h:tP st x=some (.sl t bm)):
  ∃news,Src w (bg t) v bm.length news/\dj w (aN X F st.sites) (flat t bm) news:=by
 have one:∀{news:List Value},cM F st.sites w (aN X F st.sites) (cR (flat t bm)) news->(∀u∈news,u.oneCell'=true):=by
  intro news h;refine h.j6 ?_
  unfold cR;generalize flat t bm=l;induction l with
  |nil=>rfl
  |cons d l ih=>simpa[h_,aU.storable] using ih
 unfold tP at h;split at h
 ·rename_i bw jq;cases h;have hx:bT w (aN X F st.sites) (.sl t bm) v:=hx;cases hx with
  |nil t=>exact⟨[],⟨by simp,fun u hu=>by simp at hu,.inl ⟨rfl,rfl⟩⟩,rfl,fun j h=>by simp[flat] at h⟩
  |sl t xs a cap cs n hn hcap hb hl hc hr=>
   subst hn;have kn:=ie (F:=F) (sites:=st.sites) hl hr;exact⟨cs,⟨by rw[hl,fr],one kn,.inr (.inl ⟨a,cap,rfl,hc⟩)⟩,hl,hr⟩
 ·cases h
 ·rename_i bw;cases h;rw[show v=_ from hx]
  exact⟨[],⟨by simp,fun u hu=>by simp at hu,.inl ⟨rfl,rfl⟩⟩,rfl,fun j h=>by simp[flat] at h⟩
 ·rename_i o s;split at h
  ·rename_i bw jq hr;cases h;obtain⟨cs,hl,hc⟩:=S.row hr;have hv:v=F o:=by
    rcases ku hr with h1|h1<;>exact Ref.at hx.2 h1 rfl
   have dq:=jG hl;refine⟨cs,⟨by rw[dq.1,fr],one hl,?_⟩,dq⟩
   rw[hv];rcases hc with⟨h1,h2⟩|⟨b,c,h1,h2,_⟩
   ·subst h2;exact .inl ⟨h1,rfl⟩
   ·exact .inr (.inl ⟨⟨b,0,none⟩,c,h1,fun j u hu=>by rw[hK];exact h2 j u hu⟩)
  ·cases h
 ·cases h
theorem Qd(S:az U Z X F st M w){C:Ctx}(H:CtxOk P C){T er:TypeId}{s x:Operand}{e:TypeId}{t:bi}{bytes:Nat}{dst:Nat}(bn:C.tt T=.slice e t bytes)(Xi:(∃ex,P.underlying er=some (.slice ex))\/P.underlying er=some .string)
  (aP:D.op=.call {callee:=.builtin .append,args:=#[s,x],argTypes:=#[T,er]}) (dV:D.dst=some dst) (aa:cE st D.dst=true) {bm:List (den t)} {news:List Value} (fG:Src w (bg t) (Act.eval ⟨M,[]⟩ x) bm.length news)
  (ej:dj w (aN X F st.sites) (flat t bm) news):Holds (rj bytes t dst st (bj C st T s) bm) (c4 P U Z X st M w D):=by
 have bX:=H.tt T;rw[bn] at bX;obtain⟨⟨fY,_⟩,z,hinfo,hzs,ht⟩:=bX;obtain⟨i,hi,x_⟩:∃i,P.info? e=some i/\(i.size,i.bytes,i.zero)=(bg t,bytes,some z):=by
  cases aC:P.info? e with
  |none=>simp[aC] at hinfo
  |some i=>exact⟨i,rfl,by simpa[aC] using hinfo⟩
 simp only[Prod.mk.injEq] at x_;obtain⟨x_,acS,Nc⟩:=x_;have DI:=dU S C T s;have runs:∀{v':Value} {w':World},(Builtin.append_ #[T,er] D.type #[Act.eval ⟨M,[]⟩ s,Act.eval ⟨M,[]⟩ x]).run P w=.ok v' w'->
   (execOp (Act.eval ⟨M,[]⟩) D).run P w=.ok (.value v') w':=by
  intro v' w' h;unfold execOp;simp only[aP,resolve,invoke,builtin,Sem.run_bind,Sem.run_pure,Result.andThen_ok,List.map_toArray,List.map_cons,List.map_nil,h]
 have one:∀{u:Bool} {cU:TypeId} {v':Value} {n m:Nat} {l:List Value} {w':World},rowAt w' u cU n v' m l->v'.oneCell'=true:=by
  intro u cU v' n m l w' h;rcases h.2 with⟨rfl,_⟩|⟨g,cap,cur,fz,rfl,_⟩<;>rfl
 unfold rj;split
 ·-- a nil slice
  rename_i t2 cj;rw[cj] at DI;have rO:Act.eval ⟨M,[]⟩ s=.slice none 0 0:=DI;refine Holds.ik fun r hr=>?_
  have dq:cl bytes [] bm=some r:=hr;unfold cl at dq;split at dq
  ·rename_i hb;cases dq;simp only[List.length_nil,Nat.zero_add,room] at hb;obtain⟨v',w',h1,⟨cU,h2⟩,h3,aF⟩:=Fi (P:=P) (u:=t.kl) w T er D.type e ht i z (bg t) bytes fY Xi hi Nc x_ acS hzs (mC _) (.slice none 0 0) 0 [] ⟨e,Gi w _ e _⟩ _ _ news fG
    (by rw[Nat.zero_add];exact hb.2) (by rw[Nat.zero_add];exact hb.1)
   rw[Nat.zero_add,List.nil_append] at h2;have cA:=S.make (o:=dst) (b':=.row (bG st dst) t ([]++bm)) (nv:=v') (w':=w') (fun b hb=>h3.block b hb (by simp[Value.ownBlock])) h3.os h3.tape h3.output h3.size
    (fun ai hs=>mu hs) (fun b hb=>by
     obtain⟨g1,g2⟩:=aF b hb;rcases g2 with g2|g2
     ·cases g2
     ·exact⟨g2,g1⟩) (fun hs db go _ _=>by
     refine⟨cU,news,by rw[db];simpa using h2,?_⟩
     intro j g1 g2;have azm:j<(flat t bm).length:=by simpa using g1
     simpa using pY go (ej.2 j azm g2))
   refine lI (us:=[(dst,.row (bG st dst) t ([]++bm))]) cA aa (runs (by rw[rO];exact h1)) ?_
   refine⟨one h2,Ref.mk (ai:=.row (bG st dst) t ([]++bm)) ?_ rfl (by simp)⟩
   simp only[bB,dm];simp
  ·cases dq
 ·-- a row of C_ own
  rename_i o s2 cj;rw[cj] at DI;split
  ·rename_i h4 t2 xs g';have tB:look st.sites o=some (.row h4 t2 xs):=g';cases ayQ:h4.beq s2 with
   |false=>simp only[ak];exact .fail
   |true=>
    have mc:=cg ayQ;subst mc;simp only[ad];split
    ·rename_i jT;subst jT;refine Holds.ik fun r hr=>?_
     have dq:cl bytes xs bm=some r:=hr;unfold cl at dq;split at dq
     ·rename_i hb;cases dq;simp only[room] at hb;have hv:Act.eval ⟨M,[]⟩ s=F o:=Ref.at DI.2 tB rfl;obtain⟨fa,cs,l6,hcs⟩:=S.sites o _ tB;obtain⟨v',w',h1,⟨cU,h2⟩,h3,aF⟩:=Fi (P:=P) w T er D.type e ht i z (bg t2) bytes fY Xi hi Nc x_ acS hzs (mC _) (F o) xs.length cs ⟨fa,l6⟩ _ _ news fG hb.2 hb.1;have cA:=S.append (dst:=dst) (r:=xs++bm) tB (nv:=v') (w':=w') h3 aF (fun db go=>by
       refine⟨cU,cs++news,by rw[db,dx];exact h2,?_⟩
       have uF:dj w (aN X F st.sites) (flat t2 xs) cs:=⟨by rw[fr];exact l6.1,hcs⟩
       have nR:=jG ((ie (F:=F) (sites:=st.sites) uF.1 uF.2).append (ie (F:=F) (sites:=st.sites) ej.1 ej.2)|>fun h=>by
        rw[show cR (flat t2 xs)++cR (flat t2 bm)=cR (flat t2 (xs++bm)) from by simp[cR,sO]] at h
        exact h)
       intro j g1 g2;exact pY go (nR.2 j g1 g2))
      refine lI (us:=[(o,.dead h4),(dst,.row (bG (st.iU o (.dead h4)) dst) t2 (xs++bm))]) cA aa (runs (by rw[hv];exact h1)) ?_
      refine⟨one h2,Ref.mk (ai:=.row (bG (st.iU o (.dead h4)) dst) t2 (xs++bm)) ?_ rfl (by simp)⟩
      simp only[bB,dm];simp
     ·cases dq
    ·exact .fail
  ·exact .fail
 ·exact .fail
theorem aj3(S:az U Z X F st M w){C:Ctx}(H:CtxOk P C){T er:TypeId}{s x:Operand}{e ex:TypeId}{t u:bi}{bytes b2:Nat}{dst:Nat}(bn:C.tt T=.slice e t bytes)(ht:C.tt er=.slice ex u b2)
  (aP:D.op=.call {callee:=.builtin .append,args:=#[s,x],argTypes:=#[T,er]}) (dV:D.dst=some dst) (aa:cE st D.dst=true):
  Holds (to bytes t dst st (bj C st T s) (bj C st er x)) (c4 P U Z X st M w D):=by
 have yc:=H.tt er;rw[ht] at yc;unfold to;split
 ·exact .fail
 ·rename_i d se;split
  ·rename_i bw bm;split
   ·rename_i jT;subst jT;obtain⟨news,fG,ej⟩:=akD S (dU S C er x) se;exact Qd S H bn (.inl ⟨_,yc.1.1⟩) aP dV aa fG ej
   ·exact .fail
  ·exact .fail
theorem aia(S:az U Z X F st M w){C:Ctx}(H:CtxOk P C){T er:TypeId}{s x:Operand}{e:TypeId}{t:bi}{bytes:Nat}{dst:Nat}(bn:C.tt T=.slice e t bytes)(ht:C.tt er=.str)
  (aP:D.op=.call {callee:=.builtin .append,args:=#[s,x],argTypes:=#[T,er]}) (dV:D.dst=some dst) (aa:cE st D.dst=true):
  Holds (tp bytes t dst st (bj C st T s) (bj C st er x)) (c4 P U Z X st M w D):=by
 have yc:=H.tt er;rw[ht] at yc;have bK:=dU S C er x;unfold tp;split
 ·rename_i y hx;rw[hx] at bK;split
  ·rename_i jT;subst jT;have bK:bT w (aN X F st.sites) (.str y) (Act.eval ⟨M,[]⟩ x):=bK;generalize hv:Act.eval ⟨M,[]⟩ x=v at bK;cases bK with
   |str _ b hb=>
    subst hb;refine Qd S H bn (.inr yc.1) aP dV aa (news:=b.data.toList.map fun b=>Value.int .u8 b.toNat) ?_ ?_
    ·rw[hv];refine⟨by simp[bytesOf,bg],fun u hu=>?_,.inr (.inr ⟨b,rfl,?_,rfl,rfl⟩)⟩
     ·obtain⟨c,_,rfl⟩:=List.mem_map.1 hu;rfl
     ·simp only[bytesOf,List.length_map,Array.length_toList];rfl
    ·have e1:flat .u8 (bytesOf b.data.toList)=(b.data.toList.map fun b=>bk.int .u8 b.toNat):=by
      unfold flat bytesOf;rw[List.flatMap_map];generalize b.data.toList=l;induction l with
      |nil=>rfl
      |cons a l ih=>simp only[List.flatMap_cons,List.map_cons,ih];rfl
     rw[e1];refine⟨by simp,fun j g1 g2=>?_⟩
     simp only[List.getElem_map];exact .int _ _
  ·exact .fail
 ·exact .fail
end
theorem foldl_set:∀(vs:List Value) (off k:Nat) (arr:Array Value),off+k+vs.length<=arr.size->
  (vs.zipIdx k).foldl (fun cs (x:Value×Nat)=>cs.setIfInBounds (off+x.2) x.1) arr=(bY arr.toList (off+k) vs).toArray:=by
 intro vs;induction vs with
 |nil=>intro off k arr h;simp[bY]
 |cons v vs ih=>
  intro off k arr h;simp only[List.zipIdx_cons,List.foldl_cons];rw[ih off (k+1) _ (by simp at h ⊢;omega)]
  congr 1
  simp only[cW] at h;unfold bY;rw[Array.toList_setIfInBounds];apply List.ext_getElem?;intro j;simp only[List.getElem?_append,dx,List.length_take,List.length_set,List.getElem?_take,List.getElem?_drop,List.getElem?_set,cW,Array.length_toList];have m1:min (off+k) arr.size=off+k:=by omega
  have m2:min (off+(k+1)) arr.size=off+(k+1):=by omega
  simp only[m1,m2];by_cases c1:j<off+k
  ·have c2:j<off+(k+1):=by omega
   have c3:j<off+(k+1)+vs.length:=by omega
   have dv:j<off+k+(vs.length+1):=by omega
   have hA:¬off+k=j:=by omega
   simp[c1,c2,c3,dv,hA]
  ·by_cases c0:j=off+k
   ·subst c0;have c2:off+k<off+(k+1):=by omega
    have c3:off+k<off+(k+1)+vs.length:=by omega
    have dv:off+k<off+k+(vs.length+1):=by omega
    have hA:off+k<arr.size:=by omega
    simp[c2,c3,dv,hA]
   ·by_cases dv:j<off+k+(vs.length+1)
    ·have c2:¬j<off+(k+1):=by omega
     have c3:j<off+(k+1)+vs.length:=by omega
     have e:j-(off+k)=(j-(off+(k+1)))+1:=by omega
     simp[c1,c2,c3,dv,e]
    ·have c3:¬j<off+(k+1)+vs.length:=by omega
     have hA:¬off+k=off+(k+1)+vs.length+(j-(off+(k+1)+vs.length)):=by omega
     have e:off+(k+1)+vs.length+(j-(off+(k+1)+vs.length))=off+k+(vs.length+1)+(j-(off+k+(vs.length+1))):=by omega
     simp[c3,dv,hA,e];try(intro bo;exfalso;omega)
theorem PD(v:Value)(off:Nat)(arr:Array Value)(h:off+v.cells.size<=arr.size):
  v.cells.zipIdx.foldl (fun cs (x:Value×Nat)=>cs.setIfInBounds (off+x.2) x.1) arr=(bY arr.toList off v.cells.toList).toArray:=by
 rw[<-Array.foldl_toList,Array.toList_zipIdx];exact foldl_set v.cells.toList off 0 arr (by simpa using h)
theorem P_(s:Nat):∀(vs:List (Nat×Value)) (n:Nat) (cells:Array Value),(∀j (h:j<vs.length),(vs[j]).1=n+j)->(∀p,p∈vs->p.2.cells.size=s)->(n+vs.length)*s<=cells.size->
  Instr.fill (fun i=>some (i*s,s)) cells vs=some (bY cells.toList (n*s) (vs.flatMap fun p=>p.2.cells.toList)).toArray:=by
 intro vs;induction vs with
 |nil=>intro n cells _ _ _;simp[Instr.fill,bY]
 |cons p vs ih=>
  obtain⟨i,v⟩:=p;intro n cells hi hs hle;have h0:i=n:=hi 0 (Nat.zero_lt_succ _);subst h0;have hv:v.cells.size=s:=hs (i,v) (by simp)
  have qf:i*s+s<=cells.size:=by
   have:(i+1)*s<=(i+(vs.length+1))*s:=Nat.mul_le_mul_right _ (by omega)
   simp only[cW] at hle;rw[Nat.add_mul,Nat.one_mul] at this;omega
  simp only[Instr.fill,hv];rw[if_neg (by simp;omega)]
  have p2:=PD v (i*s) cells (by omega)
  rw[p2];have hlen:v.cells.toList.length=s:=by simpa using hv
  have atW:(bY cells.toList (i*s) v.cells.toList).length=cells.toList.length:=sM _ _ _ (by simp;omega)
  rw[ih (i+1) _ (fun j h=>by have:=hi (j+1) (by simpa using h);simp at this;omega) (fun p hp=>hs p (by simp[hp])) (by
   simp only[cW] at hle;simp only[List.size_toArray,atW,Array.length_toList];have e:i+1+vs.length=i+(vs.length+1):=by omega
   rw[e];exact hle)]
  congr 2
  simp only[List.flatMap_cons,List.toList_toArray];have qx:(vs.flatMap fun p=>p.2.cells.toList).length=vs.length*s:=by
   clear ih hi hle;induction vs with
   |nil=>simp
   |cons q vs ax5=>
    have:q.2.cells.toList.length=s:=by simpa using hs q (by simp)
    rw[List.flatMap_cons,dx,this,ax5 (fun p hp=>hs p (by rcases bO.1 hp with h|h<;>simp[h])),cW,Nat.add_mul];omega
  have aua:(i+(vs.length+1))*s<=cells.size:=by simpa using hle
  rw[Nat.add_mul,Nat.add_mul] at aua;unfold bY;apply List.ext_getElem?;intro j;have e1:(i+1)*s=i*s+s:=by rw[Nat.add_mul,Nat.one_mul]
  simp only[List.getElem?_append,dx,List.length_take,List.getElem?_take,List.getElem?_drop,List.length_drop,Array.length_toList,hlen,qx,e1];have m1:min (i*s) cells.size=i*s:=by omega
  have m2:min (i*s+s) (i*s+s+(cells.size-(i*s+s)))=i*s+s:=by omega
  simp only[m1,m2];by_cases c1:j<i*s
  ·have c2:j<i*s+s:=by omega
   have c3:j<i*s+s+vs.length*s:=by omega
   have dv:j<i*s+(s+vs.length*s):=by omega
   simp[c1,c2,c3,dv]
  ·by_cases c2:j<i*s+s
   ·have c3:j<i*s+s+vs.length*s:=by omega
    have dv:j<i*s+(s+vs.length*s):=by omega
    have hA:j-i*s<s:=by omega
    simp[c1,c2,c3,dv,hA]
   ·by_cases c3:j<i*s+s+vs.length*s
    ·have dv:j<i*s+(s+vs.length*s):=by omega
     have hA:¬j-i*s<s:=by omega
     have e:j-i*s-s=j-(i*s+s):=by omega
     simp[c1,c2,c3,dv,hA,e]
    ·have dv:¬j<i*s+(s+vs.length*s):=by omega
     have hA:¬i*s+s+vs.length*s+(j-(i*s+s+vs.length*s))<i*s:=by omega
     have c6:¬i*s+s+vs.length*s+(j-(i*s+s+vs.length*s))<i*s+s:=by omega
     have e:i*s+s+(i*s+s+vs.length*s+(j-(i*s+s+vs.length*s))-(i*s+s))=i*s+(s+vs.length*s)+(j-(i*s+(s+vs.length*s))):=by omega
     simp[c3,dv,hA,c6,e]
theorem ahT:∀(l:List (Nat×Operand)) (n:Nat),tf n l=true->∀j (h:j<l.length),(l[j]).1=n+j:=by
 intro l;induction l with
 |nil=>intro n _ j h;simp at h
 |cons p l ih=>
  obtain⟨i,x⟩:=p;intro n h j hj;simp only[tf,bC] at h;cases j with
  |zero=>simpa using cg h.1
  |succ j=>have:=ih (n+1) h.2 j (by simpa using hj);simp;omega
section
variable {P:Program}{U:World}{Z:List Nat}{X:Nat->Prop}{F:Nat->Value}{st:ao}{M:Array Value}{w:World}{D:Oper}
theorem afj{al:List aU}(h:h_ al=true):al.head?≠some .dN:=by
 intro bU;cases al with
 |nil=>cases bU
 |cons l r=>
  simp only[List.head?_cons,bE] at bU;subst bU;cases h
theorem az.TX(S:az U Z X F st M w){o:Nat}{cells:List aU}{vs:List Value}{T:TypeId}(hl:cM F st.sites w (aN X F st.sites) cells vs)(h1:∀u∈vs,u.oneCell'=true)(hns:nK cells T vs w.heap.size):
  az U Z X (fun ae=>if ae=o then .pointer (some ⟨w.heap.size,0,none⟩) else F ae) {st with sites:=cI st.sites o (.box (bG st o) cells)} M (w.alloc (.cells vs.toArray T (0,0))):=
 S.make (fun b hb=>RowKit.Below.heap_alloc w _ b hb) rfl rfl rfl (by simp) (fun ai hs=>mu hs) (fun b hb=>by cases hb;exact⟨Nat.le_refl _,by simp⟩)
  (fun hs db go _ _=>⟨w.heap.size,T,vs,db,heap_alloc_new w _,hl.1,h1,hns,fun j g1 g2=>(Cr go hl).2 j g1 g2⟩)
theorem akH{F:Nat->Value}{sites:List (Nat×Site)}{av:Nat->Prop}{cells:List aU}{T:TypeId}{cur:List Value}{b:Nat}(bn:T=sj)(h:cM F sites w av cells cur)(hs:cells.head?≠some .dN):cM F sites w av (wR cells) cur/\nK (wR cells) T cur b:=by
 unfold wR;split
 ·obtain⟨v,vs,rfl,h1,h2⟩:=h.inv;exact⟨.cons (show eu F sites w av .dN v from trivial) h2,fun _=>⟨bn,.inl (by rw[show v=_ from h1];rfl)⟩⟩
 ·exact⟨h,fun an=>absurd an hs⟩
theorem ami(S:az U Z X F st M w){C:Ctx}(H:CtxOk P C){elem:TypeId}{z:List aU}{o:Nat}(aP:D.op=.alloc elem)(dV:D.dst=some o)(hz:(C.tt elem).zero=some z)(aa:cE st D.dst=true):
  c4 P U Z X st M w D (ch (.ptr o (bG st o) 0)) [(o,.box (bG st o) (bif elem.beq sj then wR z else z))]:=by
 obtain⟨v,hv,o4⟩:=cu.Hb (w:=w) (H.tt elem) hz;obtain⟨h1,h2,h3⟩:=vp o4;have hns:z.head?≠some .dN:=by
  intro bU;cases z with
  |nil=>cases bU
  |cons l r=>
   simp only[List.head?_cons,bE] at bU;subst bU;simp[lN,q9] at o4
 have dM:(execOp (Act.eval ⟨M,[]⟩) D).run P w=.ok (.value (.pointer (some ⟨w.heap.size,0,none⟩))) (w.alloc (.cells v.cells.toList.toArray elem (0,0))):=by
  unfold execOp;simp[aP,Instr.alloc,hv,newVar,newRow]
 have key:∀cells,cM F st.sites w (aN X F st.sites) cells v.cells.toList->nK cells elem v.cells.toList w.heap.size->
   c4 P U Z X st M w D (ch (.ptr o (bG st o) 0)) [(o,.box (bG st o) cells)]:=by
  intro cells hl hs;have cA:=S.TX (o:=o) (T:=elem) hl h2 hs;refine lI (us:=[(o,.box (bG st o) cells)]) cA aa (vv:=.pointer (some ⟨w.heap.size,0,none⟩)) dM ?_
  refine⟨_,rfl,Ref.mk (ai:=.box (bG st o) cells) ?_ rfl (by simp)⟩
  simp only[bB,dm];simp
 cases bn:elem.beq sj with
 |false=>exact key z ⟨h1,h3 _ _ _ _⟩ fun h=>absurd h hns
 |true=>
  obtain⟨aI,aJ⟩:=akH (b:=w.heap.size) (cg bn) (⟨h1,h3 F st.sites w (aN X F st.sites)⟩:cM F st.sites w (aN X F st.sites) z v.cells.toList) hns;exact key _ aI aJ
theorem aqa(S:az U Z X F st M w){elem:TypeId}{x:Operand}{a:b4}{o:Nat}(aP:D.op=.box elem x)(dV:D.dst=some o)(ha:hT F st.sites w (aN X F st.sites) a (Act.eval ⟨M,[]⟩ x))
  (ei:h_ a.cells=true) (aa:cE st D.dst=true):c4 P U Z X st M w D (ch (.ptr o (bG st o) 0)) [(o,.box (bG st o) a.cells)]:=by
 have hl:=ha.cells ei;have cA:=S.TX (o:=o) (T:=elem) hl (hl.j6 ei) (fun h=>absurd h (afj ei))
 refine lI (us:=[(o,.box (bG st o) a.cells)]) cA aa (vv:=.pointer (some ⟨w.heap.size,0,none⟩)) ?_ ?_
 ·unfold execOp;simp[aP,Instr.box,newVar,newRow]
 ·refine⟨_,rfl,Ref.mk (ai:=.box (bG st o) a.cells) ?_ rfl (by simp)⟩
  simp only[bB,dm];simp
theorem az.IL(S:az U Z X F st M w){o:Nat}{t:bi}{xs:List (den t)}{cs rest:List Value}{T:TypeId}{cap:Nat}(hl:dj w (aN X F st.sites) (flat t xs) cs)(hcap:cs.length+rest.length=cap*bg t)(hm:cap<=maxLen)(ht:t.kl=true->T=nh):
  az U Z X (fun ae=>if ae=o then .slice (some ⟨w.heap.size,0,none⟩) xs.length cap else F ae) {st with sites:=cI st.sites o (.row (bG st o) t xs)} M (w.alloc (.cells (cs++rest).toArray T (0,0))):=by
 have hcl:cs.length=xs.length*bg t:=by rw[hl.1,fr]
 have hle:xs.length<=cap:=by
  have:xs.length*bg t<=cap*bg t:=by omega
  exact Nat.le_of_mul_le_mul_right this (mC t)
 refine S.make (fun b hb=>RowKit.Below.heap_alloc w _ b hb) rfl rfl rfl (by simp) (fun ai hs=>mu hs) (fun b hb=>by cases hb;exact⟨Nat.le_refl _,by simp⟩)
  (fun hs db go _ _=>⟨T,cs,⟨hcl,.inr ⟨w.heap.size,cap,_,(0,0),db,⟨ht,.inl rfl⟩,heap_alloc_new w _,hle,hm,?_,?_⟩⟩,fun j g1 g2=>pY go (hl.2 j g1 g2)⟩)
 ·simp[hcap]
 ·rw[<-hcl];simp
theorem aoh:∀{as:List b4} {t:bi} {xs:List (den t)} {us vs:List (Nat×Site)} {ws:List Value},l_ t st as=some (xs,us)->ws.length=as.length->
  (∀j (h:j<as.length) (an:j<ws.length),hT F st.sites w (aN X F st.sites) (as[j]) (ws[j]))->lF U Z X F st M w vs->(∀p,p∈us->p∈vs)->
  xs.length=as.length/\dj w (aN X F (bB st.sites vs)) (flat t xs) (ws.flatMap fun v=>v.cells.toList)/\∀v,v∈ws->v.cells.size=bg t:=by
 intro as;induction as with
 |nil=>
  intro t xs us vs ws h hl _ _ _;simp only[l_] at h;cases h;have:ws=[]:=fP hl;subst this;exact⟨rfl,⟨rfl,fun j h=>by simp[flat] at h⟩,fun v hv=>by simp at hv⟩
 |cons a as ih=>
  intro t xs us vs ws h hl f_ aW eF;match ws,hl with
  |v::ws,hl=>
  simp only[l_] at h;split at h
  ·rename_i ds u1 qg;split at h
   ·rename_i x jq u2 kK p1;cases h;have cq:=f_ 0 (by simp) (by simp)
    simp only[List.getElem_cons_zero] at cq;have ei:h_ a.cells=true:=by
     clear p1 ih f_ cq hl kK;generalize a.cells=al at qg;induction al generalizing ds u1 with
     |nil=>rfl
     |cons l al ih=>
      simp only[gD] at qg;split at qg
      ·rename_i d aeg lp sx h1 h2;simp only[h_,bC];refine⟨?_,ih _ _ (fun p hp=>eF p (by cases qg;rcases bp.1 hp with h|h<;>simp[h])) h2⟩
       unfold kq at h1;split at h1<;>first|rfl|cases h1
      ·cases qg
    have hX:=cq.cells ei;have M0:=BZ qg hX aW (fun p hp=>eF p (bp.2 (.inl hp)))
    obtain⟨g1,g2,g3⟩:=ih p1 (by simpa using hl) (fun j h1 h2=>f_ (j+1) (by simpa using h1) (by simpa using h2)) aW (fun p hp=>eF p (bp.2 (.inr hp)))
    have Z8:=BY _ _ _ kK;refine⟨by simp[g1],?_,fun u hu=>?_⟩
    ·simp only[flat,List.flatMap_cons];rw[Z8];have:=jG ((ie (F:=F) (sites:=st.sites) M0.1 M0.2).append (ie (F:=F) (sites:=st.sites) g2.1 g2.2)|>fun h=>by
      rw[show cR ds++cR (flat t jq)=cR (ds++flat t jq) from by simp[cR]] at h
      exact h)
     exact this
    ·rcases bO.1 hu with rfl|hu
     ·have:u.cells.toList.length=ds.length:=M0.1;rw[<-Z8,jC] at this;simpa using this
     ·exact g3 u hu
   ·cases h
  ·cases h
theorem aoi:∀{as:List b4} {t:bi} {xs:List (den t)} {us:List (Nat×Site)},l_ t st as=some (xs,us)->eh st.sites us:=by
 intro as;induction as with
 |nil=>intro t xs us h;simp only[l_] at h;cases h;exact .nil
 |cons a as ih=>
  intro t xs us h;simp only[l_] at h;split at h
  ·rename_i ds u1 qg;split at h
   ·rename_i x jq u2 kK p1;cases h;exact(JA qg).append (ih p1)
   ·cases h
  ·cases h
theorem aeS{us:List (Nat×Site)}(h:eh st.sites us)(o:Nat):bG {st with sites:=bB st.sites us} o=bG st o:=by
 unfold bG ao.ai;simp only;rcases ms h o with h1|⟨s,t,xs,h1,h2⟩
 ·rw[h1]
 ·rw[h2];rcases h1 with h1|h1<;>rw[h1]<;>rfl
end
section
variable {P:Program}{U:World}{Z:List Nat}{X:Nat->Prop}{F:Nat->Value}{st:ao}{M:Array Value}{w:World}{D:Oper}
theorem qS{v:bb}{a:b4}(h:mU v=some a):v=.av a:=by
 cases v with
 |av b=>cases h;rfl
 |kj _=>cases h
theorem ah8:∀{vs:List bb} {as:List b4},oR vs=some as->vs.length=as.length/\∀j (h:j<vs.length) (an:j<as.length),vs[j]=.av (as[j]):=by
 intro vs;induction vs with
 |nil=>intro as h;simp only[oR] at h;cases h;exact⟨rfl,fun j h=>by simp at h⟩
 |cons v vs ih=>
  intro as h;simp only[oR] at h;split at h
  ·rename_i a pg h1 h2;cases h;obtain⟨g1,g2⟩:=ih h2;refine⟨by simp[g1],fun j aI aJ=>?_⟩
   cases j with
   |zero=>exact qS h1
   |succ j=>exact g2 j (by simpa using aI) (by simpa using aJ)
  ·cases h
theorem y4{C:Ctx}(H:CtxOk P C){T e:TypeId}{t:bi}{bytes:Nat}(bn:C.tt T=.slice e t bytes):
  P.underlying T=some (.slice e)/\∃i z,P.info? e=some i/\i.size=bg t/\i.bytes=bytes/\i.zero=some z/\z.cells.size=bg t/\(t.kl=true->e=nh):=by
 have bX:=H.tt T;rw[bn] at bX;obtain⟨⟨fY,_⟩,z,hinfo,hzs⟩:=bX;refine⟨fY,?_⟩;cases aC:P.info? e with
 |none=>simp[aC] at hinfo
 |some i=>
  simp only[aC,Option.map_some,bE,Prod.mk.injEq] at hinfo;exact⟨i,z,rfl,hinfo.1,hinfo.2.1,hinfo.2.2,hzs⟩
theorem aft(S:az U Z X F st M w){C:Ctx}(H:CtxOk P C){T e:TypeId}{t:bi}{bytes len o:Nat}{parts:Array (Nat×Operand)}(bn:C.tt T=.slice e t bytes)(aP:D.op=.buildSlice T len parts)
  (dV:D.dst=some o) (aa:cE st D.dst=true) (hlen:parts.toList.length=len) (rM:tf 0 parts.toList=true) (apR:len*bg t<=1000) {as:List b4} {xs:List (den t)} {us:List (Nat×Site)}
  (has:oR (parts.toList.map fun p=>bj C st e p.2)=some as) (kK:l_ t st as=some (xs,us)):
  c4 P U Z X st M w D (ch (.own o (bG st o))) (us++[(o,.row (bG st o) t xs)]):=by
 obtain⟨fY,i,z,hi,kf,Nb,uT,hzs,ht⟩:=y4 H bn;have hfz:=aoi kK;have aW:lF U Z X F st M w us:=⟨S,hfz⟩;obtain⟨uX,nf⟩:=ah8 has;let ws:List Value:=parts.toList.map fun p=>Act.eval ⟨M,[]⟩ p.2
 have acF:ws.length=as.length:=by rw[<-uX];simp[ws]
 have atS:∀j (h:j<as.length) (an:j<ws.length),hT F st.sites w (aN X F st.sites) (as[j]) (ws[j]):=by
  intro j h1 h2;have hj:j<(parts.toList.map fun p=>bj C st e p.2).length:=by rw[uX];exact h1
  have:=nf j hj h1;simp only[List.getElem_map] at this;have bK:=dU S C e (parts.toList[j]'(by simpa using hj)).2
  rw[this] at bK;have h3:cy F st.sites w (aN X F st.sites) (.av (as[j])) (ws[j]):=by simpa[ws] using bK
  exact h3
 obtain⟨hxl,ej,hcs⟩:=aoh kK acF atS aW (fun p hp=>hp)
 have Dh:xs.length=len:=by rw[hxl,<-acF];simpa[ws] using hlen
 have apS:(parts.map fun(x:Nat×Operand)=>(x.1,Act.eval ⟨M,[]⟩ x.2)).toList=parts.toList.map fun p=>(p.1,Act.eval ⟨M,[]⟩ p.2):=by simp
 have arM:((parts.toList.map fun p=>(p.1,Act.eval ⟨M,[]⟩ p.2)).flatMap fun p:Nat×Value=>p.2.cells.toList)=ws.flatMap fun v=>v.cells.toList:=by
  simp[ws,List.flatMap_map]
 have hcl:(ws.flatMap fun v=>v.cells.toList).length=len*bg t:=by rw[ej.1,fr,Dh]
 have hm:len<=maxLen:=by
  have:len*1<=len*bg t:=Nat.mul_le_mul_left _ (mC t);unfold maxLen;omega
 have cA:=aW.new.IL (o:=o) (xs:=xs) (cs:=ws.flatMap fun v=>v.cells.toList) (rest:=[]) (T:=e) (cap:=len) (by exact ej) (by simp[hcl]) hm ht
 rw[aeS hfz,Dh,List.append_nil] at cA;have wF:bB st.sites (us++[(o,.row (bG st o) t xs)])=cI (bB st.sites us) o (.row (bG st o) t xs):=by rw[lH];rfl
 have dM:(Instr.buildSlice T len (parts.map fun(x:Nat×Operand)=>(x.1,Act.eval ⟨M,[]⟩ x.2))).run P w=
   .ok (.slice (some ⟨w.heap.size,0,none⟩) len len) (w.alloc (.cells (ws.flatMap fun v=>v.cells.toList).toArray e)):=by
  by_cases h0:len*i.size=0
  ·have hl0:len=0:=by
    rcases Nat.mul_eq_zero.1 h0 with h|h
    ·exact h
    ·have:=mC t;omega
   subst hl0;have r3:parts.toList=[]:=fP hlen;have Es:ws=[]:=by simp[ws,r3]
   have ayu:parts=#[]:=by simpa using r3
   rw[Es];have me:∀f:Nat->Value,Array.map f (Array.range 0)=#[]:=fun f=>by apply Array.ext';simp
   simp[Instr.buildSlice,run_underlying fY,sizeOf,typeInfo,hi,ayu,Instr.fill,newRow,me]
  ·refine run_buildSlice w T e len _ _ i z fY hi uT (by rw[kf];omega) h0 ?_
   rw[apS];have arB:(((Array.range (len*i.size)).map fun x=>z.cells[x%z.cells.size]!)).size=len*i.size:=by simp
   have:=P_ (bg t) (parts.toList.map fun p=>(p.1,Act.eval ⟨M,[]⟩ p.2)) 0 ((Array.range (len*i.size)).map fun x=>z.cells[x%z.cells.size]!)
    (fun j h=>by have:=ahT _ 0 rM j (by simpa using h);simpa using this)
    (fun p hp=>by
     obtain⟨q,aC,rfl⟩:=List.mem_map.1 hp;exact hcs _ (List.mem_map.2 ⟨q,aC,rfl⟩))
    (by rw[arB,kf];simp[hlen])
   rw[kf] at this ⊢;rw[this,arM];congr 2
   unfold bY;rw[Nat.zero_mul,List.take_zero,List.nil_append,Nat.zero_add,hcl,List.drop_eq_nil_of_le (by simp),List.append_nil]
 refine lI (us:=us++[(o,.row (bG st o) t xs)]) (by rw[wF];exact cA) aa (vv:=.slice (some ⟨w.heap.size,0,none⟩) len len) ?_ ?_
 ·unfold execOp;simp only[aP,Sem.run_bind];have arG:=dM;simp only[arG,Result.andThen_ok,Sem.run_pure]
 ·rw[wF];refine⟨rfl,Ref.mk (ai:=.row (bG st o) t xs) ?_ rfl (by simp)⟩
  simp only[dm];simp
theorem afk{w:World}{av:Nat->Prop}{t:bi}{z:den t}{zs:List Value}(h:dj w av (enc t z) zs)(n:Nat):dj w av (flat t (List.replicate n z)) ((List.replicate n zs).flatten):=by
 induction n with
 |zero=>exact⟨rfl,fun j h=>by simp[flat] at h⟩
 |succ n ih=>
  have:=jG ((ie (F:=fun _=>undef) (sites:=[]) h.1 h.2).append (ie (F:=fun _=>undef) (sites:=[]) ih.1 ih.2)|>fun h=>by
   rw[show cR (enc t z)++cR (flat t (List.replicate n z))=cR (enc t z++flat t (List.replicate n z)) from by simp[cR]] at h
   exact h)
  simpa[List.replicate_succ,flat,List.flatMap_cons] using this
theorem aiY(z:Array Value)(n:Nat)(hz:0<z.size):((Array.range (n*z.size)).map fun x=>z[x%z.size]!).toList=(List.replicate n z.toList).flatten:=by
 induction n with
 |zero=>simp
 |succ n ih=>
  rw[List.replicate_succ',List.flatten_append];rw[<-ih];apply List.ext_getElem?;intro j;have e:(n+1)*z.size=n*z.size+z.size:=by rw[Nat.add_mul,Nat.one_mul]
  simp only[Array.toList_map,Array.toList_range,List.getElem?_map,List.getElem?_append,List.length_map,List.length_range,List.flatten_cons,List.flatten_nil,List.append_nil,e];by_cases h1:j<n*z.size
  ·rw[List.getElem?_range (by omega)];simp[h1]
  ·by_cases h2:j<n*z.size+z.size
   ·rw[List.getElem?_range h2];have h3:j-n*z.size<z.size:=by omega
    have aF:j%z.size=j-n*z.size:=by
     have:j=z.size*n+(j-n*z.size):=by rw[Nat.mul_comm];omega
     conv=>lhs;rw[this]
     rw[Nat.mul_add_mod,Nat.mod_eq_of_lt h3]
    simp[h1,aF,h3]
   ·rw[List.getElem?_eq_none (by simp;omega)]
    have h3:¬j-n*z.size<z.size:=by omega
    simp[h1,h3]
theorem agc{l:aU}{v:Value}{d:bk}{us:List (Nat×Site)}(h:q9 l=some v)(k:kq st l=some (d,us)):us=[]:=by
 cases l with
 |d x=>simp[kq] at k;exact k.2
 |nil t=>simp[kq] at k;exact k.2
 |own o s=>simp[q9] at h
 |clo g bM=>simp[q9] at h
 |_=>simp[kq] at k
theorem afW(S:az U Z X F st M w){C:Ctx}(H:CtxOk P C){T e:TypeId}{t:bi}{bytes o:Nat}{l c:Operand}{yB yC:IntKind}{n m:Int}{z:List aU}{ds:List bk}{us:List (Nat×Site)}{fj:den t}(bn:C.tt T=.slice e t bytes)(aP:D.op=.makeSlice T l c)
  (dV:D.dst=some o) (aa:cE st D.dst=true) (hl:bj C st 0 l=.av (.aq (.d (.int yB n)))) (hc:bj C st 0 c=.av (.aq (.d (.int yC m)))) (hz:(C.tt e).zero=some z) (hq:gD st z=some (ds,us)) (kK:dec t ds=some fj):
  ∀r,kk bytes n m fj=some r->c4 P U Z X st M w D (ch (.own o (bG st o))) [(o,.row (bG st o) t r)]:=by
 intro r hr;obtain⟨fY,i,gG,hi,kf,Nb,uT,hzs,ht⟩:=y4 H bn;obtain⟨v,hv,o4⟩:=cu.Hb (w:=w) (H.tt e) hz;have aye:v=gG:=by
  simp[zeroValue,typeInfo,hi,uT] at hv;exact hv.symm
 subst aye;obtain⟨h1,h2,h3⟩:=vp o4;have hU:us=[]:=by
  clear kK hz h3 h2 h1;have key:∀{al:List aU} {vs:List Value} {ds:List bk} {us:List (Nat×Site)},lN al=some vs->gD st al=some (ds,us)->us=[]:=by
   intro al;induction al with
   |nil=>intro vs ds us _ h;simp only[gD] at h;cases h;rfl
   |cons l al ih=>
    intro vs ds us h1 h2;simp only[lN] at h1;split at h1
    ·rename_i v cH g1 g2;simp only[gD] at h2;split at h2
     ·rename_i d aeg lp sx aI aJ;cases h2;rw[ih g2 aJ,List.append_nil];exact agc g1 aI
     ·cases h2
    ·cases h1
  exact key o4 hq
 subst hU;have aW:lF U Z X F st M w []:=⟨S,.nil⟩;have hrz:dj w (aN X F st.sites) ds v.cells.toList:=BZ hq ⟨h1,h3 _ _ _ _⟩ aW (fun p hp=>hp)
 rw[<-BY _ _ _ kK] at hrz;unfold kk at hr;split at hr
 ·rename_i hb;obtain⟨b1,b2,b3,yK⟩:=hb;cases hr;have e1:Act.eval ⟨M,[]⟩ l=.int yB n:=by
   have:=dU S C 0 l;rw[hl] at this;have this:bT _ _ (.int yB n) _:=this;generalize Act.eval ⟨M,[]⟩ l=u at this;cases this;rfl
  have e2:Act.eval ⟨M,[]⟩ c=.int yC m:=by
   have:=dU S C 0 c;rw[hc] at this;have this:bT _ _ (.int yC m) _:=this;generalize Act.eval ⟨M,[]⟩ c=u at this;cases this;rfl
  have ZX:=afk hrz n.toNat;have hlen:((List.replicate n.toNat v.cells.toList).flatten).length=n.toNat*bg t:=by
   rw[ZX.1,fr,List.length_replicate]
  have Wa:(List.replicate m.toNat v.cells.toList).flatten=(List.replicate n.toNat v.cells.toList).flatten++(List.replicate (m.toNat-n.toNat) v.cells.toList).flatten:=by
   rw[<-List.flatten_append,List.replicate_append_replicate];congr 2;omega
  have hcap:((List.replicate n.toNat v.cells.toList).flatten).length+((List.replicate (m.toNat-n.toNat) v.cells.toList).flatten).length=m.toNat*bg t:=by
   rw[<-dx,<-Wa];simp[hzs]
  have hmax:m.toNat<=maxLen:=by omega
  have cA:=S.IL (o:=o) (T:=e) ZX hcap hmax ht;rw[List.length_replicate,<-Wa] at cA;refine lI (us:=[(o,.row (bG st o) t (List.replicate n.toNat fj))]) cA aa (vv:=.slice (some ⟨w.heap.size,0,none⟩) n.toNat m.toNat) ?_ ?_
  ·unfold maxLen at yK;have a':IntKind.i64.wrap n=n:=IntWalk.i64_in n (by omega)
   have w2:IntKind.i64.wrap m=m:=IntWalk.i64_in m (by omega)
   have Lx:(decide (m<0)||decide (((i.bytes:Nat):Int)*m>2^48))=false:=by
    unfold room at b3;rw[Nb];have:(bytes:Int)*m<=140737488355328:=by rw[Int.mul_comm];exact b3
    simp;omega
   have Cy:((Array.range (m.toNat*i.size)).map fun x=>v.cells[x%v.cells.size]!)=((List.replicate m.toNat v.cells.toList).flatten).toArray:=by
    rw[<-aiY v.cells m.toNat (by rw[hzs];exact mC t),hzs,kf]
   unfold execOp;simp only[aP,e1,e2,Sem.run_bind];have dM:(Instr.makeSlice T (.int yB n) (.int yC m)).run P w=.ok (.slice (some ⟨w.heap.size,0,none⟩) n.toNat m.toNat) (w.alloc (.cells ((List.replicate m.toNat v.cells.toList).flatten).toArray e)):=by
    have r6:¬n<0:=by omega
    have ll:¬n>m:=by omega
    unfold Instr.makeSlice;simp only[Sem.run_bind,run_underlying fY,Result.andThen_ok,asInt,asIntOf,Sem.run_pure,lG hi,a',w2,Lx,Bool.false_eq_true,r6,ll,decide_false,Bool.or_false,Bool.or_self,if_false,
     run_askRoom,sizeOf]
    by_cases hz0:m.toNat*i.size=0
    ·have uO:m.toNat=0:=by
      rcases Nat.mul_eq_zero.1 hz0 with h|h
      ·exact h
      ·have:=mC t;omega
     have me:∀f:Nat->Value,Array.map f (Array.range 0)=#[]:=fun f=>by apply Array.ext';simp
     simp[uO,newRow,me]
    ·simp[hz0,uT,zeroValue,lG hi,newRow,Cy]
   simp only[dM,Result.andThen_ok,Sem.run_pure]
  ·refine⟨rfl,Ref.mk (ai:=.row (bG st o) t (List.replicate n.toNat fj)) ?_ rfl (by simp)⟩
   simp only[bB,dm];simp
 ·cases hr
end
theorem ajy{aD lu:Type}(g:aD->Option lu):∀{l:List aD} {r:List lu},l.mapM g=some r->∀{i:Nat} {y:lu},r[i]? =some y->∃x,l[i]? =some x/\g x=some y:=by
 intro l;induction l with
 |nil=>intro r h i y hy;simp at h;subst h;simp at hy
 |cons x l ih=>
  intro r h i y hy;simp only[List.mapM_cons,Option.bind_eq_bind,Option.pure_def] at h;cases hx:g x with
  |none=>simp[hx] at h
  |some z=>
   cases hl:l.mapM g with
   |none=>simp[hx,hl] at h
   |some eY=>
    simp only[hx,hl,Y,bE] at h;subst h;cases i with
    |zero=>simp at hy;subst hy;exact⟨x,by simp,hx⟩
    |succ i=>simp at hy;simpa using ih hl hy
section
variable {P:Program}{U:World}{Z:List Nat}{X:Nat->Prop}{F:Nat->Value}{st:ao}{M:Array Value}{w:World}{D:Oper}
theorem iW{k:IntKind}{n:Int}{v:Value}{av:Nat->Prop}(h:bT w av (.int k n) v):v=.int k n:=by cases h;rfl
theorem j8{b:Bool}{v:Value}{av:Nat->Prop}(h:bT w av (.bool b) v):v=.bool b:=by cases h;rfl
theorem gY{s:B}{v:Value}{av:Nat->Prop}(h:bT w av (.str s) v):∃b:ByteArray,v=.string b/\b.data.toList=s:=by
 cases h with
 |str l s h=>exact⟨s,rfl,h⟩
theorem kz(S:az U Z X F st M w){C:Ctx}{T:TypeId}{x:Operand}{k:IntKind}{n:Int}(h:bj C st T x=.av (.aq (.d (.int k n)))):Act.eval ⟨M,[]⟩ x=.int k n:=by
 have:=dU S C T x;rw[h] at this;exact iW this
theorem Jx(S:az U Z X F st M w){C:Ctx}{T:TypeId}{x:Operand}{b:Bool}(h:bj C st T x=.av (.aq (.d (.bool b)))):Act.eval ⟨M,[]⟩ x=.bool b:=by
 have:=dU S C T x;rw[h] at this;exact j8 this
theorem ap3(S:az U Z X F st M w){C:Ctx}{T:TypeId}{x:Operand}{s:B}(h:bj C st T x=.av (.aq (.d (.str s)))):∃b:ByteArray,Act.eval ⟨M,[]⟩ x=.string b/\b.data.toList=s:=by
 have:=dU S C T x;rw[h] at this;exact gY this
theorem agr{C:Ctx}(H:CtxOk P C){T:TypeId}{b0:List (Nat×Nat)}{n:Nat}{z:List aU}{eq:Bool}(bn:C.tt T=.struct b0 n z eq):(cu.struct b0 n z eq).ok P T:=by
 have:=H.tt T;rwa[bn] at this
theorem af8(S:az U Z X F st M w){C:Ctx}(H:CtxOk P C){T:TypeId}{x:Operand}{f off N6:Nat}{b0:List (Nat×Nat)}{n:Nat}{z:List aU}{eq:Bool}(bn:C.tt T=.struct b0 n z eq)(aP:D.op=.fieldAddr T x f)
  (aa:cE st D.dst=true) (hf:b0[f]? =some (off,N6)):Holds (FV off (bj C st 0 x)) (c4 P U Z X st M w D):=by
 obtain⟨fields,fY,⟨at3,ayw⟩,_⟩:=agr H bn;obtain⟨aew,h1,h2⟩:=ajy _ at3 hf;have h1':fields[f]? =some aew:=by simpa using h1
 cases hi:P.info? aew.type with
 |none=>simp[hi] at h2
 |some i=>
  simp only[hi,Option.map_some,bE,Prod.mk.injEq] at h2;have hsz:i.size≠0:=by rw[h2.2];exact ayw (off,N6) (eJ hf)
  have bK:=dU S C 0 x;have run:∀{b p:Nat},Act.eval ⟨M,[]⟩ x=.pointer (some ⟨b,p,none⟩)->(execOp (Act.eval ⟨M,[]⟩) D).run P w=.ok (.value (.pointer (some ⟨b,p+off,none⟩))) w:=by
   intro b p hx;unfold execOp;simp only[aP,hx,Instr.fieldAt,Instr.sureAddr,Sem.run_bind,run_underlying fY,Result.andThen_ok,h1',Sem.run_pure,fieldPlace,sizeOf,lG hi,hsz,if_false,h2.1,hK]
  unfold FV;split
  ·rename_i o s p cj;rw[cj] at bK;obtain⟨b,aI,aJ⟩:=bK;exact Holds.ok (eg S aa (run aI) ⟨b,rfl,aJ⟩)
  ·rename_i cells p cj;rw[cj] at bK;obtain⟨b,q,aI,aJ⟩:=bK;refine Holds.ok (eg S aa (run aI) ⟨b,q,by rw[Nat.add_assoc],aJ⟩)
  ·rename_i o s t k p cj;rw[cj] at bK;obtain⟨b,aI,aJ⟩:=bK;exact Holds.ok (eg S aa (run aI) ⟨b,by rw[Nat.add_assoc],aJ⟩)
  ·exact .fail
end
section
variable {P:Program}{U:World}{Z:List Nat}{X:Nat->Prop}{F:Nat->Value}{st:ao}{M:Array Value}{w:World}{D:Oper}
theorem akz(S:az U Z X F st M w){C:Ctx}(H:CtxOk P C){T:TypeId}{a x:Operand}{v:b4}(aP:D.op=.store T a x)(aa:cE st D.dst=true)(hk:(C.tt T).known=true)(hv:mU (bj C st T x)=some v):
  Holds (tq (C.tt T).size st (bj C st T a) v) (c4 P U Z X st M w D):=by
 have hn:=Hy hk;have sd:=dU S C T a;have hex:=dU S C T x;rw[qS hv] at hex;have hex:hT F st.sites w (aN X F st.sites) v (Act.eval ⟨M,[]⟩ x):=hex;have run:∀{b p:Nat} {cur:List Value} {gX:TypeId} {u:Bool} {fz:Nat×Nat},Act.eval ⟨M,[]⟩ a=.pointer (some ⟨b,p,none⟩)->w.heap[b]? =some (.cells cur.toArray gX fz)->nS u gX cur.toArray fz->(Act.eval ⟨M,[]⟩ x).cells.toList.length=(C.tt T).size->
   p+(Act.eval ⟨M,[]⟩ x).cells.toList.length<=cur.length->(∀u∈(Act.eval ⟨M,[]⟩ x).cells.toList,u.oneCell'=true)->
   (execOp (Act.eval ⟨M,[]⟩) D).run P w=.ok .skip (w.setRow b (bY cur p (Act.eval ⟨M,[]⟩ x).cells.toList).toArray):=by
  intro b p cur gX u fz h1 h2 hz h3 aF bo;unfold execOp;simp only[aP,h1,Instr.storeAt,Instr.sureAddr,Sem.run_bind,Sem.run_pure,Result.andThen_ok,OQ (H.tt T) hn h2 hz h3 aF bo]
 unfold tq;cases hlen:v.cells.length.beq (C.tt T).size with
 |false=>simp only[ak];exact .fail
 |true=>
  have w0:=cg hlen;simp only[ad];split
  ·rename_i o s off cj;rw[cj] at sd;split
   ·rename_i cells hb;cases hc:(Nat.ble (off+(C.tt T).size) cells.length&&h_ v.cells) with
    |false=>simp only[ak];exact .fail
    |true=>
     simp only[ad];simp only[bC] at hc;have hle:=Nat.le_of_ble_eq_true hc.1;have hl:=hex.cells hc.2;obtain⟨b,gX,cur,h1,h2,h3,cA⟩:=S.akB (hD hb) sd hl (by rw[w0];exact hle) (hl.j6 hc.2) hc.2
     exact Holds.fZ (y1 (us:=[(o,.box s (bY cells off v.cells))]) cA aa (run (u:=false) h1 h2 ⟨(fun h=>by cases h),.inl rfl⟩ (by rw[hl.1];exact w0) h3 (hl.j6 hc.2)))
   ·exact .fail
  ·rename_i o s u k off cj;rw[cj] at sd;split
   ·rename_i aQ t xs g';have tB:look st.sites o=some (.row aQ t xs):=g';cases hc:(aQ.beq s&&Nat.ble (off+(C.tt T).size) (bg t)&&decide (t=u)) with
    |false=>simp only[ak];exact .fail
    |true=>
     simp only[ad];simp only[bC,dY] at hc;obtain⟨⟨hc1,sf⟩,rfl⟩:=hc;have:=cg hc1;subst this;have hle:=Nat.le_of_ble_eq_true sf;split
     ·rename_i ds us hq;cases ll:(look us o).isNone with
      |false=>simp only[ak];exact .fail
      |true=>
       simp only[ad];refine Holds.ik fun iQ qn=>?_
       have xj:((xs[k]?).bind fun x=>dec t (bY (enc t x) off ds))=some iQ:=qn
       cases MP:xs[k]? with
       |none=>rw[MP] at xj;cases xj
       |some yx=>
        rw[MP] at xj;have kK:dec t (bY (enc t yx) off ds)=some iQ:=xj;have hfz:=JA hq;have aW:lF U Z X F st M w us:=⟨S,hfz⟩;have ei:h_ v.cells=true:=by
         clear hlen w0 qn xj kK ll hfz aW;revert hq
         generalize v.cells=al;intro hq;induction al generalizing ds us with
         |nil=>rfl
         |cons l al ih=>
          simp only[gD] at hq;split at hq
          ·rename_i d aeg lp sx h1 h2;simp only[h_,bC];refine⟨?_,ih _ _ h2⟩;unfold kq at h1;split at h1<;>first|rfl|cases h1
          ·cases hq
        have hl:=hex.cells ei;have hr:=BZ hq hl aW (fun p hp=>hp)
        have hdl:ds.length=(C.tt T).size:=by
         have:=hr.1;rw[hl.1] at this;omega
        have Lx:look (bB st.sites us) o=some (.row aQ t xs):=by
         rcases ms hfz o with h|⟨s2,t2,aCX,h,an⟩
         ·rw[h];exact tB
         ·exfalso
          have:∀(us:List (Nat×Site)) (sites:List (Nat×Site)),look us o=none->look (bB sites us) o=look sites o:=by
           intro us;induction us with
           |nil=>intro sites _;rfl
           |cons p us ih=>
            obtain⟨ae,ai⟩:=p;intro sites Df;simp only[look] at Df;cases hb:ae.beq o with
            |true=>simp[hb] at Df
            |false=>
             simp only[hb,ak] at Df;simp only[bB];rw[ih _ Df,dm,if_neg];rintro rfl;simp at hb
          have h3:=this us st.sites (by simpa using ll)
          rw[an,tB] at h3;cases h3
        have aui:=aW.go (a:=.av (.aq (.fm o aQ t k off))) sd;obtain⟨b,gX,cur,fz,h1,h2,hz,h3,cA⟩:=aW.new.akA Lx aui MP (BY _ _ _ kK) hr (by rw[hdl];exact hle) (hl.j6 ei)
        refine y1 (a_:=F) (us:=us++[(o,.row aQ t (xs.set k iQ))]) ?_ aa (run h1 h2 hz (by rw[hl.1];exact w0) h3 (hl.j6 ei))
        rw[lH];exact cA
     ·exact .fail
   ·exact .fail
  ·exact .fail
theorem af4(S:az U Z X F st M w){C:Ctx}(H:CtxOk P C){T e:TypeId}{t:bi}{bytes:Nat}{x i:Operand}{k:IntKind}{n:Int}(bn:C.tt T=.slice e t bytes)(hi:bj C st 0 i=.av (.aq (.d (.int k n))))(aP:D.op=.indexAddr T x i)
  (aa:cE st D.dst=true):
  Holds (sR t st (bj C st T x) n) (c4 P U Z X st M w D):=by
 obtain⟨fY,inf,z,k_,kf,Nb,uT,hzs,_⟩:=y4 H bn;have xn:=kz S hi;have bK:=dU S C T x;have run:∀{a:Addr} {len cap:Nat},Act.eval ⟨M,[]⟩ x=.slice (some a) len cap->0<=n->n<len->(execOp (Act.eval ⟨M,[]⟩) D).run P w=.ok (.value (.pointer (some (a.add (n.toNat*bg t))))) w:=by
  intro a len cap hx h0 h1;unfold execOp;simp[aP,hx,xn,Instr.indexAt,asIntOf,run_underlying fY,h0,h1,sizeOf,lG k_,kf]
 unfold sR;split
 ·rename_i u xs cj;split;case isFalse=>exact .fail
  rename_i o7;subst o7;rw[cj] at bK;have bK:bT w (aN X F st.sites) (.sl u xs) (Act.eval ⟨M,[]⟩ x):=bK;refine Holds.eP fun y hy=>?_
  have ev:aS xs n=some y:=hy;unfold aS at ev;split at ev
  ·rename_i h0;have hlt:n.toNat<xs.length:=by
    rcases Nat.lt_or_ge n.toNat xs.length with h|h
    ·exact h
    ·rw[List.getElem?_eq_none h] at ev;cases ev
   generalize hx:Act.eval ⟨M,[]⟩ x=v at bK;cases bK with
   |nil=>simp at hlt
   |sl _ _ a cap cs m hm hcap hb hl hc hr=>
    subst hm;have hne:xs≠[]:=by rintro rfl;simp at hlt
    have hrow:dj w (aN X F st.sites) (flat u xs) cs:=⟨hl,hr⟩;have km:a.spot=none:=by
     have nQ:0<cs.length:=by rw[hl,fr];exact Nat.mul_pos (List.length_pos_iff.mpr hne) (mC u)
     have h1:=hc 0 cs[0] (dZ nQ);have h2:a.add 0=a:=by unfold Addr.add;simp
     rw[h2] at h1;unfold World.cell? at h1;split at h1
     ·cases hs:a.spot with
      |none=>rfl
      |some _=>simp[hs] at h1
     ·cases h1
    obtain⟨pr,E9,azE⟩:=a;simp only at km;subst km;have hcs:iD w pr E9 cs:=fun j v hv=>by have:=hc j v hv;rwa[hK] at this
    refine eg S aa (run hx h0 (by omega)) ?_
    rw[hK];have iP:=vy u xs n.toNat y ev;have arI:=(hcs.drop (n.toNat*bg u)).take (bg u);have kn:=((ie (F:=F) (sites:=st.sites) hl hr).drop (n.toNat*bg u)).take (bg u);have e2:((cR (flat u xs)).drop (n.toNat*bg u)).take (bg u)=cR (enc u y):=by
     rw[<-iP];simp[cR,List.map_drop,List.map_take]
    rw[e2] at kn;have ej:=jG kn;have hlt2:pr<w.heap.size:=by
     have nQ:0<cs.length:=by rw[hl,fr];exact Nat.mul_pos (List.length_pos_iff.mpr hne) (mC u)
     exact World.block_lt_of_cell? w _ (hcs 0 cs[0] (dZ nQ))
    exact⟨pr,E9+n.toNat*bg u,by rw[Nat.add_zero],hb hne,hlt2,_,ej.1,arI,ej.2⟩
  ·cases ev
 ·rename_i o s cj;rw[cj] at bK;split
  ·rename_i u xs hrow;split;case isFalse=>exact .fail
   rename_i o7;subst o7;refine Holds.eP fun y hy=>?_
   have ev:bh xs.length n=some y:=hy;unfold bh at ev;split at ev
   ·rename_i hb;cases ev;obtain⟨cs,hl,hcell⟩:=S.row hrow;have ei:∃ai,look st.sites o=some ai/\ai.cK=s:=by
     rcases ku hrow with h|h<;>exact⟨_,h,rfl⟩
    obtain⟨ai,iP,mc⟩:=ei;have hv:Act.eval ⟨M,[]⟩ x=F o:=Ref.at bK.2 iP mc;rcases hcell with⟨hn,o5⟩|⟨b,c,db,ac0,_⟩
    ·subst o5;simp at hb;omega
    ·refine eg S aa (run (by rw[hv];exact db) hb.1 hb.2) ?_
     rw[hK,Nat.zero_add];exact⟨b,by rw[Nat.add_zero],Ref.mk iP mc ⟨_,_,db⟩⟩
   ·cases ev
  ·exact .fail
 ·exact .fail
end
section
variable {P:Program}{U:World}{Z:List Nat}{X:Nat->Prop}{F:Nat->Value}{st:ao}{M:Array Value}{w:World}{D:Oper}
theorem SW(S:az U Z X F st M w){C:Ctx}{de:Option Operand}{l9 l:Int}(h:jk l9 (de.map (bj C st 0))=some l):
  (de=none/\l=l9)\/∃x k,de=some x/\Act.eval ⟨M,[]⟩ x=.int k l:=by
 cases de with
 |none=>simp only[Option.map_none,jk,bE] at h;exact .inl ⟨rfl,h.symm⟩
 |some x=>
  simp only[Option.map_some] at h;generalize hx:bj C st 0 x=v at h;unfold jk at h;split at h
  ·rename_i cj;cases cj
  ·rename_i k n cj;cases h;cases cj;exact .inr ⟨x,k,rfl,kz S hx⟩
  ·cases h
theorem nr(t:bi)(xs:List (den t))(n:Nat):flat t (xs.take n)=(flat t xs).take (n*bg t):=by
 rcases Nat.lt_or_ge xs.length n with h|h
 ·rw[List.take_of_length_le (Nat.le_of_lt h),List.take_of_length_le (by rw[fr];exact Nat.mul_le_mul_right _ (Nat.le_of_lt h))]
 ·have:=sO t (xs.take n) (xs.drop n);rw[List.take_append_drop] at this;rw[this,List.take_left' (by rw[fr,List.length_take,Nat.min_eq_left h])]
theorem Rp(t:bi)(xs:List (den t))(n:Nat):flat t (xs.drop n)=(flat t xs).drop (n*bg t):=by
 rcases Nat.lt_or_ge xs.length n with h|h
 ·rw[List.drop_eq_nil_of_le (Nat.le_of_lt h),List.drop_eq_nil_of_le (by rw[fr];exact Nat.mul_le_mul_right _ (Nat.le_of_lt h))]
  rfl
 ·have:=sO t (xs.take n) (xs.drop n);rw[List.take_append_drop] at this;rw[this,List.drop_left' (by rw[fr,List.length_take,Nat.min_eq_left h])]
theorem FN{P:Program}{w:World}(isSlice:Bool)(len cap:Nat)(de hi:Option Value)(l h:Int)(gF:(de=none/\l=0)\/∃k,de=some (.int k l))(hhi:(hi=none/\h=len)\/∃k,hi=some (.int k h))
  (h0:0<=l) (h1:l<=h) (h2:h<=len) (hc:len<=cap):(Instr.sliceBounds isSlice len cap de hi none).run P w=.ok (l.toNat,h.toNat,cap) w:=by
 have bU:0<=h:=by omega
 have acT:h<=cap:=by omega
 have ayj:((h.toNat:Nat):Int)=h:=Int.toNat_of_nonneg bU;rcases gF with⟨rfl,rfl⟩|⟨k,rfl⟩<;>rcases hhi with⟨rfl,rfl⟩|⟨k',rfl⟩
 ·simp[Instr.sliceBounds]
 ·simp[Instr.sliceBounds,Instr.sliceBound,asIntOf,bU,acT]
 ·simp[Instr.sliceBounds,Instr.sliceBound,asIntOf,h0,h1]
 ·simp[Instr.sliceBounds,Instr.sliceBound,asIntOf,bU,acT,h0,ayj,h1]
theorem aky(s:ByteArray)(l h:Nat)(h2:h<=s.size):(s.extract l h).data.toList=(s.data.toList.take h).drop l:=by
 rw[ByteArray.data_extract,Array.toList_extract];simp[List.extract_eq_take_drop,List.drop_take]
theorem Vg{w:World}{av:Nat->Prop}{t:bi}{xs:List (den t)}{b D:Nat}{cs:List Value}(hb:xs≠[]->¬av b)(hr:dj w av (flat t xs) cs)(hc:iD w b D cs)(l h:Nat)(h1:l<=h)(h2:h<=xs.length)(a:Addr)(fM:Nat)(ac2:h-l<=fM)
  (ha:a=⟨b,D+l*bg t,none⟩\/l=h) (ac3:a.block=b):bT w av (.sl t ((xs.take h).drop l)) (.slice (some a) (h-l) fM):=by
 have hlen:((xs.take h).drop l).length=h-l:=by simp;omega
 by_cases acN:l=h
 ·subst acN;have:(xs.take l).drop l=[]:=fP (by rw[hlen];omega)
  rw[this];exact .sl t [] a fM [] _ (by simp) ac2 (fun hx=>absurd rfl hx) rfl (fun j u hu=>by simp at hu) (fun j h=>by simp[flat] at h)
 ·rcases ha with ha|ha
  ·subst ha;have hf:flat t ((xs.take h).drop l)=((flat t xs).take (h*bg t)).drop (l*bg t):=by
    rw[Rp,nr]
   have kn:=((ie (F:=fun _=>undef) (sites:=[]) hr.1 hr.2).take (h*bg t)).drop (l*bg t)
   have e2:((cR (flat t xs)).take (h*bg t)).drop (l*bg t)=cR (flat t ((xs.take h).drop l)):=by
    rw[hf];simp[cR,List.map_drop,List.map_take]
   rw[e2] at kn;have dq:=jG kn;refine .sl t _ _ fM _ _ hlen.symm ac2 (fun hx=>hb ?_) dq.1 (fun j u hu=>?_) dq.2
   ·rintro rfl;simp at hx
   ·rw[hK];exact((hc.take (h*bg t)).drop (l*bg t)) j u hu
  ·exact absurd ha acN
theorem II{w:World}{av:Nat->Prop}{t:bi}{xs:List (den t)}{a:Addr}{cs:List Value}(hb:xs≠[]->¬av a.block)(hr:dj w av (flat t xs) cs)(hc:∀j u,cs[j]? =some u->w.cell? (a.add j)=some u)
  (l h cap:Nat) (h1:l<=h) (h2:h<=xs.length) (hcap:xs.length<=cap):
  bT w av (.sl t ((xs.take h).drop l)) (.slice (if cap=l then some a else(some a).map (·.add (l*bg t))) (h-l) (cap-l)):=by
 by_cases hx:xs=[]
 ·subst hx;have:h=0:=by simpa using h2
  subst this;have hl0:l=0:=by omega
  subst hl0;have:((if cap=0 then some a else(some a).map (·.add (0*bg t))):Option Addr)=some a:=by
   split
   ·rfl
   ·simp[Addr.add]
  rw[this];exact .sl t [] a (cap-0) [] 0 rfl (by omega) (fun hx=>absurd rfl hx) rfl (fun j u hu=>by simp at hu) (fun j h=>by simp[flat] at h)
 ·have km:a.spot=none:=by
   have nQ:0<cs.length:=by rw[hr.1,fr];exact Nat.mul_pos (List.length_pos_iff.mpr hx) (mC t)
   have h1:=hc 0 cs[0] (dZ nQ);have h2:a.add 0=a:=by unfold Addr.add;simp
   rw[h2] at h1;unfold World.cell? at h1;split at h1
   ·cases hs:a.spot with
    |none=>rfl
    |some _=>simp[hs] at h1
   ·cases h1
  obtain⟨pr,E9,azE⟩:=a;simp only at km;subst km;have hcs:iD w pr E9 cs:=fun j v hv=>by have:=hc j v hv;rwa[hK] at this
  split
  ·rename_i e;exact Vg hb hr hcs l h h1 h2 _ _ (by omega) (.inr (by omega)) rfl
  ·simp only[Option.map_some,hK];exact Vg hb hr hcs l h h1 h2 _ _ (by omega) (.inl rfl) rfl
theorem QM{v:bb}{us nU:List (Nat×Site)}(e:bB st.sites us=bB st.sites nU)(h:c4 P U Z X st M w D v us):c4 P U Z X st M w D v nU:=by
 have:st.df D.dst v nU=st.df D.dst v us:=by cases D.dst<;>simp only[ao.df,ao.vU,e]
 intro K Q b5;rw[this] at b5;exact h K Q b5
theorem akF(S:az U Z X F st M w){C:Ctx}(H:CtxOk P C){T:TypeId}{x:Operand}{de hi:Option Operand}(aP:D.op=.slice T x de hi none)(aa:cE st D.dst=true):
  Holds (tu (C.tt T) st (bj C st T x) (de.map (bj C st 0)) (hi.map (bj C st 0))) (c4 P U Z X st M w D):=by
 have bK:=dU S C T x;have rN:∀{de:Option Operand} {l9 l:Int},jk l9 (de.map (bj C st 0))=some l->(de.map (Act.eval ⟨M,[]⟩)=none/\l=l9)\/∃k,de.map (Act.eval ⟨M,[]⟩)=some (.int k l):=by
  intro de l9 l h;rcases SW S h with⟨rfl,an⟩|⟨x,k,rfl,an⟩
  ·exact .inl ⟨rfl,an⟩
  ·exact .inr ⟨k,by simp[an]⟩
 have runs:∀{vv:Value},(Instr.sliceAt T (Act.eval ⟨M,[]⟩ x) (de.map (Act.eval ⟨M,[]⟩)) (hi.map (Act.eval ⟨M,[]⟩)) none).run P w=.ok vv w->(execOp (Act.eval ⟨M,[]⟩) D).run P w=.ok (.value vv) w:=by
  intro vv h;unfold execOp;simp only[aP,Option.map_none,Sem.run_bind,h,Result.andThen_ok,Sem.run_pure]
 have wS:∀{e:TypeId} {t:bi} {bytes:Nat} {a:Option Addr} {len cap:Nat} {l h:Int},C.tt T=.slice e t bytes->Act.eval ⟨M,[]⟩ x=.slice a len cap->jk 0 (de.map (bj C st 0))=some l->jk len (hi.map (bj C st 0))=some h->
   0<=l->l<=h->h<=len->len<=cap->(execOp (Act.eval ⟨M,[]⟩) D).run P w=.ok (.value (.slice (if cap=l.toNat then a else a.map (·.add (l.toNat*bg t))) (h.toNat-l.toNat) (cap-l.toNat))) w:=by
  intro e t bytes a len cap l h bn hx gF hhi h0 h1 h2 hc;obtain⟨fY,inf,z,k_,kf,_⟩:=y4 H bn;refine runs ?_
  have hb:=FN (P:=P) (w:=w) true len cap (de.map (Act.eval ⟨M,[]⟩)) (hi.map (Act.eval ⟨M,[]⟩)) l h (rN gF) (rN hhi) h0 h1 h2 hc;simp only[Instr.sliceAt,Instr.slice,Sem.run_bind,run_underlying fY,Result.andThen_ok,hx,hb,sizeOf,lG k_,kf,Sem.run_pure]
 unfold tu;split
 ·rename_i s cj;rw[cj] at bK;obtain⟨b,hx,hs⟩:=gY bK;split
  ·rename_i l h bn gF hhi;have bX:=H.tt T;rw[bn] at bX;refine Holds.eP fun r hr=>?_
   have dq:bq s l h=some r:=hr;unfold bq at dq;split at dq
   ·rename_i hb;obtain⟨h0,h1,h2⟩:=hb;cases dq;have hsz:s.length=b.size:=by rw[<-hs];rfl
    rw[hsz] at h2 hhi;refine eg S aa (vv:=.string (b.extract l.toNat h.toNat)) (runs ?_) (.str _ _ ?_)
    ·have hb:=FN (P:=P) (w:=w) false b.size b.size (de.map (Act.eval ⟨M,[]⟩)) (hi.map (Act.eval ⟨M,[]⟩)) l h (rN gF) (rN hhi) h0 h1 h2 (Nat.le_refl _);simp[Instr.sliceAt,Instr.slice,run_underlying bX.1,hx,hb]
    ·rw[aky b _ _ (by omega),hs]
   ·cases dq
  ·exact .fail
 ·rename_i t xs cj;rw[cj] at bK;have bK:bT w (aN X F st.sites) (.sl t xs) (Act.eval ⟨M,[]⟩ x):=bK;split
  ·rename_i e u bytes l h bn gF hhi;split;case isFalse=>exact .fail
   rename_i o7;subst o7;refine Holds.eP fun r hr=>?_
   have dq:bq xs l h=some r:=hr;unfold bq at dq;split at dq
   ·rename_i hb;obtain⟨h0,h1,h2⟩:=hb;cases dq;generalize hx:Act.eval ⟨M,[]⟩ x=v at bK;cases bK with
    |nil=>
     have bU:h=0:=by simp at h2;omega
     have hl:l=0:=by omega
     subst bU hl;refine eg S aa (wS bn hx gF hhi h0 h1 h2 (Nat.le_refl _)) ?_
     simp only[List.take_nil,List.drop_nil];exact bT.nil t
    |sl _ _ a cap cs m hm hcap hb hl hc hr=>
     subst hm;refine eg S aa (wS bn hx gF hhi h0 h1 h2 hcap) ?_
     exact II hb ⟨hl,hr⟩ hc l.toNat h.toNat cap (by omega) (by omega) hcap
   ·cases dq
  ·exact .fail
 ·rename_i t cj;rw[cj] at bK;have hx:Act.eval ⟨M,[]⟩ x=.slice none 0 0:=bK;split
  ·rename_i e u bytes l h bn gF hhi;refine Holds.eP fun r hr=>?_
   have dq:bq ([]:List (den t)) l h=some r:=hr;unfold bq at dq;split at dq
   ·rename_i hb;obtain⟨h0,h1,h2⟩:=hb;cases dq;have bU:h=0:=by simp at h2;omega
    have hl:l=0:=by omega
    subst bU hl;refine eg S aa (wS bn hx gF hhi h0 h1 h2 (Nat.le_refl _)) ?_
    simp only[List.take_nil,List.drop_nil];exact bT.nil t
   ·cases dq
  ·exact .fail
 ·rename_i o s cj;rw[cj] at bK;split
  ·rename_i t xs hrow;split
   ·rename_i e u bytes l h bn gF hhi;split;case isFalse=>exact .fail
    rename_i o7;subst o7;refine Holds.ik fun r hr=>?_
    have dq:bq xs l h=some r:=hr;unfold bq at dq;split at dq
    ·rename_i hb;obtain⟨h0,h1,h2⟩:=hb;cases dq;refine QM (us:=[(o,.dF s t xs)]) (SN hrow).symm ?_
     have hfz:eh st.sites [(o,.dF s t xs)]:=by
      intro ae ai hm;simp only[List.mem_singleton,Prod.mk.injEq] at hm;obtain⟨rfl,rfl⟩:=hm;exact⟨s,t,xs,rfl,ku hrow⟩
     have aW:lF U Z X F st M w [(o,.dF s t xs)]:=⟨S,hfz⟩;have M7:=Fg hfz (List.mem_singleton.2 rfl);obtain⟨ej,Xm⟩:=aW.new.sites o _ M7;have hv:Act.eval ⟨M,[]⟩ x=F o:=by
      rcases ku hrow with h1|h1<;>exact Ref.at bK.2 h1 rfl
     generalize hx:F o=v at ej Xm;rw[hx] at hv;cases ej with
     |nil=>
      have bU:h=0:=by simp at h2;omega
      have hl:l=0:=by omega
      subst bU hl;refine lI (us:=[(o,.dF s t [])]) aW.new aa (wS bn hv gF hhi h0 h1 h2 (Nat.le_refl _)) ?_
      simp only[List.take_nil,List.drop_nil];exact bT.nil t
     |sl _ _ a cap cs m hm hcap hb hl hc hr=>
      subst hm;refine lI (us:=[(o,.dF s t xs)]) aW.new aa (wS bn hv gF hhi h0 h1 h2 hcap) ?_
      exact II hb ⟨hl,hr⟩ hc l.toNat h.toNat cap (by omega) (by omega) hcap
    ·cases dq
   ·exact .fail
  ·exact .fail
 ·exact .fail
end
section
variable {P:Program}{U:World}{Z:List Nat}{X:Nat->Prop}{F:Nat->Value}{st:ao}{M:Array Value}{w:World}{D:Oper}
theorem TP{av:Nat->Prop}{o s:Nat}{t:bi}{xs:List (den t)}{v:Value}(h:cy F st.sites w av (ch (.own o s)) v)(hr:rowOf st o s=some ⟨t,xs⟩):v=F o:=by
 rcases ku hr with h1|h1<;>exact Ref.at h.2 h1 rfl
theorem TW(S:az U Z X F st M w){l:aU}{v:Value}{t:bi}{es:List (B×den t)}(h:eu F st.sites w (aN X F st.sites) l v)(hm:mapOf st l=some ⟨t,es⟩):
  (v=.map none/\es=[])\/∃b,v=.map (some b)/\mM w b t es:=by
 unfold mapOf at hm;split at hm
 ·cases hm;have h:bT w (aN X F st.sites) (.map t es) v:=h;cases h with
  |xh=>exact .inl ⟨rfl,rfl⟩
  |map _ _ b hb hm=>exact .inr ⟨b,rfl,hm⟩
 ·rename_i o s;split at hm
  ·rename_i aQ u u0 hl;cases hb:aQ.beq s with
   |false=>rw[hb] at hm;cases hm
   |true=>
    rw[hb] at hm;have hs:=cg hb;subst hs;cases hm;have hl:look st.sites o=some (.map aQ _ es):=hl;have hv:v=F o:=Ref.at h.2 hl rfl;obtain⟨b,h1,h2⟩:=S.sites o _ hl;exact .inr ⟨b,hv.trans h1,h2⟩
  ·cases hm
 ·cases hm
theorem mM.size{b:Nat}{t:bi}{es:List (B×den t)}{arr:Array MapEntry}(h:nD arr=kC t es):arr.size=es.length:=by
 have:=congrArg List.length h;simpa[nD,kC] using this
theorem apM(S:az U Z X F st M w){C:Ctx}(H:CtxOk P C){T:TypeId}{x:Operand}(aP:D.op=.call {callee:=.builtin .len,args:=#[x],argTypes:=#[T]})(aa:cE st D.dst=true):
  Holds (uj (C.tt T) st (bj C st T x)) (c4 P U Z X st M w D):=by
 have bK:=dU S C T x;have bX:=H.tt T;have run:∀{vv:Value},(Builtin.len_ #[T] D.type #[Act.eval ⟨M,[]⟩ x]).run P w=.ok vv w->(execOp (Act.eval ⟨M,[]⟩) D).run P w=.ok (.value vv) w:=by
  intro vv h;unfold execOp;simp only[aP,resolve,invoke,builtin,Sem.run_bind,Sem.run_pure,Result.andThen_ok,List.map_toArray,List.map_cons,List.map_nil,h]
 unfold uj;split
 ·rename_i s bn cj;rw[cj] at bK;rw[bn] at bX;obtain⟨b,hx,hs⟩:=gY bK;refine Holds.ok (eg S aa (run (vv:=.int .i64 s.length) ?_) (.int _ _));have:s.length=b.size:=by rw[<-hs];rfl
  simp[Builtin.len_,hx,run_underlying bX.1,goInt,this]
 ·rename_i e t b u xs bn cj;rw[cj] at bK;rw[bn] at bX;have bK:bT w (aN X F st.sites) (.sl u xs) (Act.eval ⟨M,[]⟩ x):=bK;refine Holds.ok (eg S aa (run (vv:=.int .i64 xs.length) ?_) (.int _ _));generalize Act.eval ⟨M,[]⟩ x=v at bK;cases bK with
  |nil=>simp[Builtin.len_,run_underlying bX.1.1,goInt]
  |sl _ _ a cap cs n hn hcap hb hl hc hr=>simp[Builtin.len_,run_underlying bX.1.1,goInt,hn]
 ·rename_i e t b u bn cj;rw[cj] at bK;rw[bn] at bX;have hx:Act.eval ⟨M,[]⟩ x=.slice none 0 0:=bK;exact Holds.ok (eg S aa (run (vv:=.int .i64 0) (by simp[Builtin.len_,hx,run_underlying bX.1.1,goInt])) (.int _ _))
 ·rename_i e t b o s bn cj;rw[cj] at bK;rw[bn] at bX;split
  ·rename_i u xs hrow;have hv:=TP bK hrow;refine Holds.ok (eg S aa (run (vv:=.int .i64 xs.length) ?_) (.int _ _));obtain⟨cs,_,hc⟩:=S.row hrow;rcases hc with⟨h1,h2⟩|⟨bQ,c,h1,_⟩
   ·subst h2;simp[Builtin.len_,hv,h1,run_underlying bX.1.1,goInt]
   ·simp[Builtin.len_,hv,h1,run_underlying bX.1.1,goInt]
  ·exact .fail
 ·rename_i iy lB u l bn cj;rw[cj] at bK;rw[bn] at bX;split
  ·rename_i b7 es hm;refine Holds.ok (eg S aa (run (vv:=.int .i64 es.length) ?_) (.int _ _));rcases TW S bK hm with⟨h1,rfl⟩|⟨b,h1,arr,c,h2,h3⟩
   ·simp[Builtin.len_,h1,run_underlying bX.1.1,goInt]
   ·have hsz:=mM.size (b:=b) h3;simp[Builtin.len_,h1,run_underlying bX.1.1,goInt,MapKept.run_getObj_map h2,hsz,Result.andThen]
  ·exact .fail
 ·exact .fail
theorem alN(S:az U Z X F st M w){C:Ctx}(H:CtxOk P C){T:TypeId}{x i:Operand}{s:B}{k:IntKind}{n:Int}(aP:D.op=.index T x i)(aa:cE st D.dst=true)(bn:C.tt T=.str)
  (hx:bj C st T x=.av (.aq (.d (.str s)))) (hi:bj C st 0 i=.av (.aq (.d (.int k n)))):Holds (.eP (aS s n) fun b=>one (.int .u8 b.toNat)) (c4 P U Z X st M w D):=by
 have bX:=H.tt T;rw[bn] at bX;obtain⟨b,hb,hs⟩:=ap3 S hx;have hn:=kz S hi;refine Holds.eP fun y hy=>?_
 have ev:aS s n=some y:=hy;unfold aS at ev;split at ev
 ·rename_i h0;refine eg S aa (vv:=.int .u8 y.toNat) ?_ (.int _ _);have un:b[n.toNat]? =some y:=by
   have:n.toNat<s.length:=by
    rcases Nat.lt_or_ge n.toNat s.length with h|h
    ·exact h
    ·rw[List.getElem?_eq_none h] at ev;cases ev
   rw[<-hs] at ev this;have hsz:n.toNat<b.size:=this;rw[getElem?_pos b n.toNat hsz];rw[dZ this] at ev;have h3:b.data[n.toNat]=y:=by simpa using ev
   rw[<-h3];rfl
  unfold execOp;simp[aP,hb,hn,Instr.index,asIntOf,run_underlying bX.1,h0,un]
 ·cases ev
theorem bytes_beq(x y:ByteArray):(x==y)=(x.data.toList==y.data.toList):=by
 obtain⟨a⟩:=x;obtain⟨b⟩:=y;have h:((⟨a⟩:ByteArray)==⟨b⟩)=(a==b):=rfl;rw[h,Bool.eq_iff_iff];simp
theorem alY:∀{z al:List aU} {vs:List Value},rP z al=true->cM F st.sites w (aN X F st.sites) al vs->qh z vs=true:=by
 intro z;induction z with
 |nil=>
  intro al vs h h1;cases al with
  |nil=>rw[h1.oF];rfl
  |cons l al=>cases h
 |cons c z ih=>
  intro al vs h h1;unfold rP at h;split at h
  ·rename_i hz;cases hz
  ·rename_i cj;cases cj;obtain⟨v,cH,rfl,a1,a2⟩:=h1.inv;rw[iW a1];exact ih h a2
  ·rename_i cj;cases cj;obtain⟨v,cH,rfl,a1,a2⟩:=h1.inv;rw[j8 a1];exact ih h a2
  ·rename_i cj;cases cj;obtain⟨v,cH,rfl,a1,a2⟩:=h1.inv;obtain⟨x,rfl,hx⟩:=gY a1;exact ih h a2
  ·cases h
theorem ag2:∀{al jy:List aU} {vs us:List Value} {b:Bool},wq al jy=some b->cM F st.sites w (aN X F st.sites) al vs->cM F st.sites w (aN X F st.sites) jy us->j5 vs us=some b:=by
 have leaf:∀{d e:bk} {v u:Value} {b:Bool} {av:Nat->Prop},Cs d e=some b->bT w av d v->bT w av e u->oD v u=some b:=by
  intro d e v u b av h h1 h2;unfold Cs at h;split at h
  ·rw[iW h1,iW h2];exact h
  ·rw[j8 h1,j8 h2];exact h
  ·obtain⟨x,rfl,hx⟩:=gY h1;obtain⟨y,rfl,hy⟩:=gY h2;subst hx hy;cases h;show some (x==y)=some (x.data.toList==y.data.toList);rw[bytes_beq]
  ·cases h
 intro al;induction al with
 |nil=>intro jy vs us b h _ _;cases jy<;>simp[wq] at h
 |cons l al ih=>
  intro jy vs us b h h1 h2;obtain⟨v,cH,rfl,a1,a2⟩:=h1.inv;unfold wq at h;split at h
  ·rename_i d e cj;cases cj;obtain⟨u,nU,rfl,b1,b2⟩:=h2.inv;rw[a2.oF,b2.oF];exact leaf h a1 b1
  ·rename_i d ds e es hne cj;cases cj;obtain⟨u,nU,rfl,b1,b2⟩:=h2.inv;split at h
   ·rename_i x y hx hy;cases h;have e1:=leaf hx a1 b1;have e2:=ih hy a2 b2;match cH,nU,e2 with
    |[],[],e2=>simp[j5] at e2
    |[],_::_,e2=>simp[j5] at e2
    |_::_,[],e2=>simp[j5] at e2
    |v2::aCY,u2::aCZ,e2=>rw[j5,e1,e2];simp
   ·cases h
  ·cases h
theorem run_equal_bool{T:TypeId}(h:P.underlying T=some .bool)(a b:Bool):(Op.equal T (.bool a) (.bool b)).run P w=.ok (a==b) w:=by
 have e:Op.maxDepth=9999+1:=rfl;unfold Op.equal;rw[e];unfold Op.equalIn;simp only[Sem.run_bind,run_underlying h,Result.andThen_ok,Sem.run_pure]
theorem run_eql_bool{T:TypeId}(h:P.underlying T=some .bool)(a b:Bool):(binOp .eql T (.bool a) (.bool b)).run P w=.ok (.bool (a==b)) w:=by
 show((do pure (.bool (<-Op.equal T (.bool a) (.bool b)))):Sem Value).run P w=_
 simp only[Sem.run_bind,run_equal_bool h,Result.andThen_ok,Sem.run_pure]
theorem run_neq_bool{T:TypeId}(h:P.underlying T=some .bool)(a b:Bool):(binOp .neq T (.bool a) (.bool b)).run P w=.ok (.bool (!(a==b))) w:=by
 show((do pure (.bool (!(<-Op.equal T (.bool a) (.bool b))))):Sem Value).run P w=_
 simp only[Sem.run_bind,run_equal_bool h,Result.andThen_ok,Sem.run_pure]
theorem aoq(S:az U Z X F st M w){C:Ctx}(H:CtxOk P C){op:BinOp}{T oc:TypeId}{x y:Operand}(aP:D.op=.binOp op T x y oc)(aa:cE st D.dst=true):
  Holds (LM op (C.tt T) (bj C st T x) (bj C st T y)) (c4 P U Z X st M w D):=by
 have hx:=dU S C T x;have hy:=dU S C T y;have bX:=H.tt T;have run:∀{vv:Value},(eqGuard op T x y (Act.eval ⟨M,[]⟩ x) (Act.eval ⟨M,[]⟩ y)).run P w=.ok () w->(binOp op T (Act.eval ⟨M,[]⟩ x) (Act.eval ⟨M,[]⟩ y)).run P w=.ok vv w->
   (execOp (Act.eval ⟨M,[]⟩) D).run P w=.ok (.value vv) w:=by
  intro vv h1 h2;unfold execOp;simp only[aP,Sem.run_bind,h1,h2,Result.andThen_ok,Sem.run_pure]
 have plain:∀{r:dA},(eqGuard op T x y (Act.eval ⟨M,[]⟩ x) (Act.eval ⟨M,[]⟩ y)).run P w=.ok () w->Holds r (Plain P w (binOp op T (Act.eval ⟨M,[]⟩ x) (Act.eval ⟨M,[]⟩ y)))->Holds r (c4 P U Z X st M w D):=by
  intro r h1 h2 z hz hc;obtain⟨vv,d,g1,g2,g3,g4⟩:=h2 z hz hc;rw[g2,g3];exact eg S aa (run h1 g1) (g4 _)
 unfold LM;split
 ·rename_i k a k' b hxe hye;rw[hxe] at hx;rw[hye] at hy;refine plain (by rw[iW hx,iW hy];exact ae1 _ _ _ _ _ _ _ _) ?_
  rw[iW hx,iW hy];unfold VN;split
  ·refine Holds.eP fun n hn=>?_
   have jc:l4 k a b=some n:=hn;unfold l4 at jc;split at jc
   ·cases jc
   ·rename_i hb;cases jc;exact .mk (by simp[binOp,Op.shift,hb]) fun av=>.int _ _
  ·refine Holds.eP fun n hn=>?_
   have jc:fC k a b=some n:=hn;unfold fC at jc;split at jc
   ·cases jc
   ·rename_i hb;cases jc;exact .mk (by simp[binOp,Op.shift,hb]) fun av=>.int _ _
  ·rename_i h1 h2;split
   ·rename_i hk;subst hk;exact aiO _ T k a b h1 h2
   ·exact .fail
 ·rename_i s t hxe hye;rw[hxe] at hx;rw[hye] at hy;obtain⟨a,ha,hs⟩:=gY hx;obtain⟨b,hb,ay⟩:=gY hy;subst hs ay;refine plain (by rw[ha,hb];exact aeO _ _ _ _ _ _) ?_
  rw[ha,hb];exact aiM op T a b
 ·rename_i a b hxe hye;rw[hxe] at hx;rw[hye] at hy;unfold Wm;split
  ·rename_i bn;rw[bn] at bX;split
   ·refine plain (by rw[j8 hx,j8 hy];exact OO _ _ _ _ _ _) (Holds.ok ?_)
    rw[j8 hx,j8 hy];exact .mk (run_eql_bool bX.1 _ _) fun av=>.bool _
   ·refine plain (by rw[j8 hx,j8 hy];exact OO _ _ _ _ _ _) (Holds.ok ?_)
    rw[j8 hx,j8 hy];exact .mk (run_neq_bool bX.1 _ _) fun av=>.bool _
   ·exact .fail
  ·exact .fail
 ·rename_i xs bm hxe hye;rw[hxe] at hx;rw[hye] at hy;unfold Xr;split
  ·rename_i b0 n z bn;rw[bn] at bX;cases hl:xs.length.beq n&&rP z xs with
   |false=>exact .fail
   |true=>
    simp only[ad];simp only[bC] at hl;have gT:=cg hl.1;split
    ·rename_i b hb;obtain⟨vs,hv,qp,qo⟩:=hx;obtain⟨us,hu,MU,MT⟩:=hy;have uV:=ag2 hb ⟨qp,qo⟩ ⟨MU,MT⟩;obtain⟨fields,fY,_,⟨gG,hz,_,_⟩,cj⟩:=bX;obtain⟨hg,Ly⟩:=cj rfl;have:=Ly vs us b w uV (alY hl.2 ⟨qp,qo⟩);split
     ·refine plain ?_ (Holds.ok ?_)
      ·rw[hv,hu];simp[eqGuard,hg]
      ·rw[hv,hu];refine .mk (vv:=.bool b) ?_ fun av=>.bool _
       show((do pure (.bool (<-Op.equal T (.agg vs.toArray) (.agg us.toArray)))):Sem Value).run P w=_
       simp only[Sem.run_bind,this,Result.andThen_ok,Sem.run_pure]
     ·refine plain ?_ (Holds.ok ?_)
      ·rw[hv,hu];simp[eqGuard,hg]
      ·rw[hv,hu];refine .mk (vv:=.bool (!b)) ?_ fun av=>.bool _
       show((do pure (.bool (!(<-Op.equal T (.agg vs.toArray) (.agg us.toArray))))):Sem Value).run P w=_
       simp only[Sem.run_bind,this,Result.andThen_ok,Sem.run_pure]
     ·exact .fail
    ·exact .fail
  ·exact .fail
 ·exact .fail
theorem afQ{T:TypeId}{jy:Array (String×TypeId)}(ay:P.underlying T=some (.interface jy))(gX:TypeId)(dk:Option Int)(v:Value)(hv:v=match dk with|none=>.nilIface|some n=>.iface gX (.agg #[.int .i64 n])):
  (Op.equal T v .nilIface).run P w=.ok dk.isNone w:=by
 have h:∀d:Nat,(Op.equalIn (d+1) T v .nilIface).run P w=.ok dk.isNone w:=fun d=>by
  subst hv;cases dk<;>simp[Op.equalIn,run_underlying ay]
 exact h 9999
theorem ajS(S:az U Z X F st M w){C:Ctx}(H:CtxOk P C){op:BinOp}{T oc:TypeId}{x y:Operand}(aP:D.op=.binOp op T x y oc)(aa:cE st D.dst=true)(hn:Cw y=true):
  Holds (Kt op (C.tt T) (bj C st T x)) (c4 P U Z X st M w D):=by
 have hy:y=.const .nilIface:=by
  unfold Cw at hn;split at hn
  ·rfl
  ·cases hn
 subst hy;have hx:=dU S C T x;have bX:=H.tt T;have key:∀(gX:TypeId) (dk:Option Int),(Act.eval ⟨M,[]⟩ x=match dk with|none=>.nilIface|some n=>.iface gX (.agg #[.int .i64 n]))->Holds (Dk op (C.tt T) dk) (c4 P U Z X st M w D):=by
  intro gX dk hv;unfold Dk;split
  ·rename_i bn;rw[bn] at bX;obtain⟨jy,bX⟩:=bX;have he:=afQ (P:=P) (w:=w) bX.1 gX dk _ hv;have hg:(eqGuard op T x (.const .nilIface) (Act.eval ⟨M,[]⟩ x) .nilIface).run P w=.ok () w:=by
    rw[hv];cases dk<;>cases op<;>simp[eqGuard]
   split
   ·refine Holds.ok (eg S aa (vv:=.bool dk.isNone) ?_ (.bool _));unfold execOp;simp only[aP,Act.eval,Sem.run_bind,Result.andThen_ok,Sem.run_pure] at hg ⊢;rw[hg];simp only[Result.andThen_ok];have:(binOp .eql T (Act.eval ⟨M,[]⟩ x) .nilIface).run P w=.ok (.bool dk.isNone) w:=by
     have e:binOp .eql T (Act.eval ⟨M,[]⟩ x) .nilIface=(do pure (.bool (<-Op.equal T (Act.eval ⟨M,[]⟩ x) .nilIface))):=by rw[hv];cases dk<;>rfl
     rw[e];simp only[Sem.run_bind,he,Result.andThen_ok,Sem.run_pure]
    simp only[Act.eval] at this;rw[this];rfl
   ·refine Holds.ok (eg S aa (vv:=.bool dk.isSome) ?_ (.bool _));unfold execOp;simp only[aP,Act.eval,Sem.run_bind,Result.andThen_ok,Sem.run_pure] at hg ⊢;rw[hg];simp only[Result.andThen_ok];have:(binOp .neq T (Act.eval ⟨M,[]⟩ x) .nilIface).run P w=.ok (.bool dk.isSome) w:=by
     have e:binOp .neq T (Act.eval ⟨M,[]⟩ x) .nilIface=(do pure (.bool (!(<-Op.equal T (Act.eval ⟨M,[]⟩ x) .nilIface)))):=by rw[hv];cases dk<;>rfl
     rw[e];simp only[Sem.run_bind,he,Result.andThen_ok,Sem.run_pure];cases dk<;>rfl
    simp only[Act.eval] at this;rw[this];rfl
   ·exact .fail
  ·exact .fail
 unfold Kt;split
 ·rename_i gX dk hxe;rw[hxe] at hx;have hx:bT w (aN X F st.sites) (.err gX dk) (Act.eval ⟨M,[]⟩ x):=hx;exact key gX dk (by revert hx;generalize Act.eval ⟨M,[]⟩ x=vv;intro hx;cases hx<;>rfl)
 ·rename_i hxe;rw[hxe] at hx;exact key 0 none hx
 ·exact .fail
theorem aeT(S:az U Z X F st M w){C:Ctx}(H:CtxOk P C){T:TypeId}{x:Operand}{n:Int}{b0 z q e}(aP:D.op=.makeInterface T x)(aa:cE st D.dst=true)(bn:C.tt T=.struct b0 q z e)
  (hx:bj C st T x=.av (.agg [.d (.int .i64 n)])):c4 P U Z X st M w D (one (.err T (some n))) []:=by
 have bX:=H.tt T;rw[bn] at bX;obtain⟨fields,hu,_⟩:=bX;have bK:=dU S C T x;rw[hx] at bK;obtain⟨vs,h1,h2,h3⟩:=bK;match vs,h2,h1,h3 with
 |[v],_,h1,h3=>
  have hv:=iW (h3 0 (by simp) (by simp))
  simp only[List.getElem_cons_zero] at hv;subst hv;refine eg S aa (vv:=.iface T (.agg #[.int .i64 n])) ?_ (.err _ _);unfold execOp;simp[aP,Instr.makeInterface,run_underlying hu,h1]
end
section
variable {P:Program}{U:World}{Z:List Nat}{X:Nat->Prop}{F:Nat->Value}{st:ao}{M:Array Value}{w:World}{D:Oper}
theorem tm(xs:List Int):flat .u8 xs=xs.map (bk.int .u8):=by
 unfold flat;induction xs with
 |nil=>rfl
 |cons x xs ih=>simp only[List.flatMap_cons,List.map_cons,ih];rfl
theorem Vf{w:World}{av:Nat->Prop}{xs:List Int}{cs:List Value}(h:dj w av (flat .u8 xs) cs):cs=xs.map (Value.int .u8):=by
 obtain⟨h1,h2⟩:=h;rw[tm] at h1;apply List.ext_getElem
 ·rw[h1];simp
 ·intro j g1 g2;have g3:j<xs.length:=by simpa using g2
  have:=h2 j (by rw[tm];simpa using g3) g1
  have e:(flat .u8 xs)[j]'(by rw[tm];simpa using g3)=bk.int .u8 xs[j]:=by simp[tm]
  rw[e] at this;rw[iW this];simp
theorem O2{src dst e:TypeId}{a:Addr}{len cap:Nat}{xs:List Int}(hs:P.underlying src=some (.slice e))(he:P.underlying e=some (.int .u8))(aa:P.underlying dst=some .string)
  (hlen:xs.length=len) (hc:∀j u,(xs.map (Value.int .u8))[j]? =some u->w.cell? (a.add j)=some u):
  ∃b:ByteArray,(convert src dst (.slice (some a) len cap)).run P w=.ok (.string b) w/\b.data.toList=strOf xs:=by
 have hl:(loadCells a len).run P w=.ok (xs.map (Value.int .u8)).toArray w:=by
  have:=run_loadCells_list (P:=P) w a (xs.map (Value.int .u8)) hc;simpa[hlen] using this
 rw[run_convert_bytes_string w src dst e _ len cap hs he aa,run_bytesToString w a len cap xs hl,foldl_push_bytes];exact⟨_,rfl,by simp[strOf]⟩
theorem zb{ti:cu}(h:isByte ti=true):ti=.int .u8:=by
 unfold isByte at h;split at h
 ·rfl
 ·cases h
theorem aj0(s:B):(bytesOf s).length=s.length:=by simp[bytesOf]
theorem al8(S:az U Z X F st M w){C:Ctx}(H:CtxOk P C){src dst:TypeId}{x:Operand}{o:Nat}(aP:D.op=.convert src dst x)(dV:D.dst=some o)(aa:cE st D.dst=true):
  Holds (ub C src dst o st (bj C st src x)) (c4 P U Z X st M w D):=by
 have bK:=dU S C src x;have hs:=H.tt src;have ay:=H.tt dst;have run:∀{vv:Value} {w':World},(convert src dst (Act.eval ⟨M,[]⟩ x)).run P w=.ok vv w'->(execOp (Act.eval ⟨M,[]⟩) D).run P w=.ok (.value vv) w':=by
  intro vv w' h;unfold execOp;simp only[aP,Sem.run_bind,h,Result.andThen_ok,Sem.run_pure]
 have rS:∀{ti:cu},ti.ok P src->ti≠.none->∃d,P.underlying src=some d:=by
  intro ti h hn;cases ti with
  |none=>exact absurd rfl hn
  |int k=>exact⟨_,h.1⟩
  |bool=>exact⟨_,h.1⟩
  |str=>exact⟨_,h.1⟩
  |ptr=>obtain⟨_,h⟩:=h;exact⟨_,h.1⟩
  |func=>obtain⟨_,_,_,h⟩:=h;exact⟨_,h.1⟩
  |iface=>obtain⟨_,h⟩:=h;exact⟨_,h.1⟩
  |slice e t b=>exact⟨_,h.1.1⟩
  |map k e t=>exact⟨_,h.1.1⟩
  |struct b0 n z eq=>obtain⟨f,h,_⟩:=h;exact⟨_,h⟩
  |arr e t n=>exact⟨_,h.1⟩
 unfold ub;split
 ·exact .fail
 ·rename_i k k' n hk hx hn;rw[hx] at bK;rw[hk] at ay;obtain⟨d,se⟩:=rS hs (by rintro h;exact absurd h (by simpa using hn))
  refine Holds.ok (eg S aa (run (vv:=.int k (k.wrap n)) ?_) (.int _ _));rw[iW bK];simp[convert,run_underlying se,run_underlying ay.1,Conv.intToInt]
 ·rename_i s hk hx hn;rw[hx] at bK;rw[hk] at ay;obtain⟨b,hb,eQ⟩:=gY bK;obtain⟨d,se⟩:=rS hs (by rintro h;exact absurd h (by simpa using hn))
  refine Holds.ok (eg S aa (run (vv:=.string b) ?_) (.str _ _ eQ));rw[hb];simp[convert,run_underlying se,run_underlying ay.1]
 ·rename_i e b xs fG rA hx;cases kp:isByte (C.tt e) with
  |false=>exact .fail
  |true=>
   rw[hx] at bK;rw[rA] at ay;rw[fG] at hs;have he:=H.tt e;rw[zb kp] at he;have bK:bT w (aN X F st.sites) (.sl .u8 xs) (Act.eval ⟨M,[]⟩ x):=bK;have:∃b:ByteArray,(convert src dst (Act.eval ⟨M,[]⟩ x)).run P w=.ok (.string b) w/\b.data.toList=strOf xs:=by
    generalize Act.eval ⟨M,[]⟩ x=v at bK;cases bK with
    |nil=>exact⟨_,run_convert_bytes_nil w src e hs.1.1 he.1 _ _ dst ay.1,rfl⟩
    |sl _ _ a cap cs n hn hcap hb hl hc hr=>
     have:=Vf (xs:=xs) ⟨hl,hr⟩;subst this;exact O2 hs.1.1 he.1 ay.1 hn.symm hc
   obtain⟨b,h1,h2⟩:=this;exact Holds.ok (eg S aa (run h1) (.str _ _ h2))
 ·rename_i e b u fG rA hx;cases kp:isByte (C.tt e) with
  |false=>exact .fail
  |true=>
   rw[hx] at bK;rw[rA] at ay;rw[fG] at hs;have he:=H.tt e;rw[zb kp] at he;have bK:Act.eval ⟨M,[]⟩ x=.slice none 0 0:=bK;refine Holds.ok (eg S aa (run (vv:=.string ByteArray.empty) ?_) (.str _ _ rfl));rw[bK];exact run_convert_bytes_nil w src e hs.1.1 he.1 _ _ dst ay.1
 ·rename_i e b ae s fG rA hx;split
  ·rename_i xs hrow;cases kp:isByte (C.tt e) with
   |false=>exact .fail
   |true=>
    rw[hx] at bK;rw[rA] at ay;rw[fG] at hs;have he:=H.tt e;rw[zb kp] at he;have hv:=TP bK hrow;have:∃b:ByteArray,(convert src dst (Act.eval ⟨M,[]⟩ x)).run P w=.ok (.string b) w/\b.data.toList=strOf xs:=by
     rw[hv];obtain⟨cs,h1,hc⟩:=S.row hrow;rcases hc with⟨h2,h3⟩|⟨bQ,c,h2,h3,aF⟩
     ·subst h3;rw[h2];exact⟨_,run_convert_bytes_nil w src e hs.1.1 he.1 _ _ dst ay.1,rfl⟩
     ·have:=Vf (xs:=xs) (jG h1);subst this;rw[h2];exact O2 hs.1.1 he.1 ay.1 rfl (fun j u hu=>by rw[hK];exact h3 j u hu)
    obtain⟨b,h1,h2⟩:=this;exact Holds.ok (eg S aa (run h1) (.str _ _ h2))
  ·exact .fail
 ·rename_i e b s fG rA hx;cases kp:isByte (C.tt e) with
  |false=>exact .fail
  |true=>
   rw[hx] at bK;rw[rA] at ay;rw[fG] at hs;have he:=H.tt e;rw[zb kp] at he;obtain⟨hC,hb,eQ⟩:=gY bK;have dM:(convert src dst (Act.eval ⟨M,[]⟩ x)).run P w=.ok (.slice (some ⟨w.heap.size,0,none⟩) hC.size (grownCap w hC.size 0 e)) (Go.Lib.bytesWorld w e hC):=by
    rw[hb];exact Go.Lib.run_convert_string_bytes w src dst e hC hs.1 ay.1.1 he.1
   have hcap:hC.size<=grownCap w hC.size 0 e:=grownCap_ge w hC.size 0 e;refine Holds.ik fun r hr=>?_
   have hmax:hC.size<=maxLen:=by
    have hr:(if s.length<=maxLen then some () else none)=some r:=hr
    split at hr
    ·rename_i h;rw[<-eQ] at h;simpa using h
    ·cases hr
   have hsz:(Go.Lib.bytesCells w e hC).size=grownCap w hC.size 0 e:=by
    simp only[Go.Lib.bytesCells,Array.size_append,Array.size_map,Array.size_replicate];have:hC.data.size=hC.size:=rfl;omega
   have hlen:hC.size=(bytesOf s).length:=by rw[aj0,<-eQ];rfl
   have eZ:az U Z X (fun ae=>if ae=o then .slice (some ⟨w.heap.size,0,none⟩) hC.size (grownCap w hC.size 0 e) else F ae) {st with sites:=cI st.sites o (.row (bG st o) .u8 (bytesOf s))} M (Go.Lib.bytesWorld w e hC):=by
    refine S.make (fun b hb=>Go.Lib.bytesWorld_at_old w e hC b hb) rfl rfl rfl (by rw[Go.Lib.bytesWorld_size];omega) (fun ai hs=>mu hs)
     (fun b hb=>by cases hb;exact⟨Nat.le_refl _,by rw[Go.Lib.bytesWorld_size];exact Nat.lt_succ_self _⟩) ?_
    intro b_ a_ gm kI go aCp aCw;refine⟨e,hC.data.toList.map fun b=>Value.int .u8 b.toNat,⟨?_,.inr ⟨_,_,Go.Lib.bytesCells w e hC,_,kI.trans (by rw[hlen]),⟨(fun h=>by obtain⟨_,z,_,_,ht⟩:=ay;exact ht h),.inr ⟨rfl,Nat.le_refl _⟩⟩,Go.Lib.bytesWorld_at_new w e hC,by rw[<-hlen];exact hcap,grownCap_le_maxLen w hC.size 0 e hmax,?_,?_⟩⟩,fun j g1 g2=>?_⟩
    ·rw[List.length_map,<-hlen];exact(Nat.mul_one _).symm
    ·rw[hsz];exact(Nat.mul_one _).symm
    ·have h1:(bytesOf s).length*bg .u8=(hC.data.toList.map fun b=>Value.int .u8 b.toNat).length:=by rw[List.length_map,<-hlen];exact Nat.mul_one _
     rw[h1];simp only[Go.Lib.bytesCells,Array.toList_append,Array.toList_map];exact List.take_left
    ·subst eQ;simp only[tm,bytesOf,List.getElem_map];exact .int _ _
   refine lI (us:=[(o,.row (bG st o) .u8 (bytesOf s))]) eZ aa (run dM) ?_
   refine⟨rfl,Ref.mk (ai:=.row (bG st o) .u8 (bytesOf s)) ?_ rfl (by simp)⟩
   simp only[bB,dm];simp
 ·exact .fail
end
section
variable {P:Program}{U:World}{Z:List Nat}{X:Nat->Prop}{F:Nat->Value}{st:ao}{M:Array Value}{w:World}{D:Oper}
theorem TU(S:az U Z X F st M w){C:Ctx}{x:Operand}(aP:D.op=.move x\/D.op=.assign x)(aa:cE st D.dst=true)(T:TypeId):c4 P U Z X st M w D (bj C st T x) []:=by
 refine eg S aa (vv:=Act.eval ⟨M,[]⟩ x) ?_ (dU S C T x);unfold execOp;rcases aP with h|h<;>simp only[h,Sem.run_pure]
theorem TM(S:az U Z X F st M w){C:Ctx}{c a b:Operand}{t:Bool}{T:TypeId}(aP:D.op=.pick c a b)(aa:cE st D.dst=true)(hc:bj C st T c=.av (.aq (.d (.bool t)))):
  c4 P U Z X st M w D (bj C st T (if t then a else b)) []:=by
 refine eg S aa (vv:=Act.eval ⟨M,[]⟩ (if t then a else b)) ?_ (dU S C T _)
 unfold execOp;have:=Jx S hc;cases t<;>simp[aP,this,asBool]
theorem agn(S:az U Z X F st M w){C:Ctx}{x:Operand}{t:Bool}{T er:TypeId}(aP:D.op=.unOp .not er x)(aa:cE st D.dst=true)(hc:bj C st T x=.av (.aq (.d (.bool t)))):
  c4 P U Z X st M w D (one (.bool (!t))) []:=by
 refine eg S aa (vv:=.bool (!t)) ?_ (.bool _);unfold execOp;simp[aP,Jx S hc,Op.unary]
theorem ago(S:az U Z X F st M w){C:Ctx}{x:Operand}{k:IntKind}{n:Int}{T er:TypeId}(aP:D.op=.unOp .neg er x)(aa:cE st D.dst=true)(hc:bj C st T x=.av (.aq (.d (.int k n)))):
  c4 P U Z X st M w D (one (.int k (k.wrap (0-n)))) []:=by
 refine eg S aa (vv:=.int k (k.wrap (0-n))) ?_ (.int _ _);unfold execOp;simp[aP,kz S hc,Op.unary,Op.intArith]
theorem FB(S:az U Z X F st M w){C:Ctx}{x:Operand}{v:bb}{T:TypeId}(aP:D.op=.nilCheck x)(aa:cE st D.dst=true)(hc:bj C st T x=v)
  (hv:∀vv,cy F st.sites w (aN X F st.sites) v vv->∃a,vv=.pointer (some a)):c4 P U Z X st M w D v []:=by
 have:=dU S C T x;rw[hc] at this;obtain⟨a,ha⟩:=hv _ this;refine eg S aa (vv:=Act.eval ⟨M,[]⟩ x) ?_ this;unfold execOp;simp[aP,ha]
theorem ahV(S:az U Z X F st M w){C:Ctx}{x:Operand}{i:Nat}{as:List b4}{a:b4}{T:TypeId}(aP:D.op=.extract x i)(aa:cE st D.dst=true)(hc:bj C st T x=.kj as)(ha:as[i]? =some a):
  c4 P U Z X st M w D (.av a) []:=by
 have bK:=dU S C T x;rw[hc] at bK;obtain⟨vs,h1,h2,h3⟩:=bK;obtain⟨hi,ayG⟩:=List.getElem?_eq_some_iff.1 ha;have jV:i<vs.length:=by omega
 refine eg S aa (vv:=vs[i]) ?_ (by rw[<-ayG];exact h3 i hi jV)
 unfold execOp;simp[aP,h1,Instr.extract,jV]
theorem Rb(S:az U Z X F st M w){C:Ctx}{x y:Operand}{k k':IntKind}{a b:Int}{T:TypeId}{tX:Bool}{dh:Array TypeId}(aP:D.op=.call {callee:=.builtin (if tX then .max else .min),args:=#[x,y],argTypes:=dh})(aa:cE st D.dst=true)
  (hx:bj C st T x=.av (.aq (.d (.int k a)))) (hy:bj C st T y=.av (.aq (.d (.int k' b)))):c4 P U Z X st M w D (one (.int k (if tX then gB a b else kG a b))) []:=by
 refine eg S aa (vv:=.int k (if tX then gB a b else kG a b)) ?_ (.int _ _)
 unfold execOp;cases tX<;>simp[aP,resolve,invoke,builtin,kz S hx,kz S hy,Builtin.max_,Builtin.min_,Builtin.max2,Builtin.min2,gB,kG]
theorem anP(S:az U Z X F st M w){C:Ctx}{x y z u v:Operand}{k aI aJ bS cY:IntKind}{a b c d e:Int}{T:TypeId}{dh:Array TypeId}(aP:D.op=.call {callee:=.builtin .max,args:=#[x,y,z,u,v],argTypes:=dh})(aa:cE st D.dst=true)
  (hx:bj C st T x=.av (.aq (.d (.int k a)))) (hy:bj C st T y=.av (.aq (.d (.int aI b)))) (hz:bj C st T z=.av (.aq (.d (.int aJ c)))) (hu:bj C st T u=.av (.aq (.d (.int bS d)))) (hv:bj C st T v=.av (.aq (.d (.int cY e)))):
  c4 P U Z X st M w D (one (.int k (gB (gB (gB (gB a b) c) d) e))) []:=by
 refine eg S aa (vv:=.int k (gB (gB (gB (gB a b) c) d) e)) ?_ (.int _ _);unfold execOp;simp[aP,resolve,invoke,builtin,kz S hx,kz S hy,kz S hz,kz S hu,kz S hv,Builtin.max_,Builtin.max2,gB]
theorem al9(S:az U Z X F st M w){C:Ctx}:∀{xs:List Operand} {bM:List (Nat×Nat)},step.oQ C st xs=some bM->xs.length=bM.length/\
  ∀i (h:i<bM.length) (an:i<xs.length),Ref st.sites (bM[i]).1 (bM[i]).2 (Act.eval ⟨M,[]⟩ (xs[i])=F (bM[i]).1):=by
 intro xs;induction xs with
 |nil=>intro bM h;simp only[step.oQ] at h;cases h;exact⟨rfl,fun i h=>by simp at h⟩
 |cons x xs ih=>
  intro bM h;simp only[step.oQ] at h;split at h
  ·rename_i o s l hx hl;cases h;obtain⟨h1,h2⟩:=ih hl;refine⟨by simp[h1],fun i g1 g2=>?_⟩
   cases i with
   |zero=>
    have:=dU S C 0 x;rw[hx] at this;obtain⟨b,hb,ai,r1,r2,dD⟩:=this;exact⟨ai,r1,r2,fun e=>by simp only[List.getElem_cons_zero];rw[hb,dD e]⟩
   |succ i=>simpa using h2 i (by simpa using g1) (by simpa using g2)
  ·cases h
theorem agL(S:az U Z X F st M w){C:Ctx}{g:FuncId}{first captured:Array Operand}{bM:List (Nat×Nat)}(aP:D.op=.makeFunc (.func g) first captured)(aa:cE st D.dst=true)(hf:first.toList.isEmpty=true)
  (hc:step.oQ C st captured.toList=some bM):c4 P U Z X st M w D (ch (.clo g bM)) []:=by
 obtain⟨h1,h2⟩:=al9 S hc;refine eg S aa (vv:=.func (.func g) #[] (captured.toList.map (Act.eval ⟨M,[]⟩)).toArray) ?_ ⟨captured.toList.map (Act.eval ⟨M,[]⟩),rfl,by simpa using h1,fun i g1 g2=>?_⟩
 ·have:first=#[]:=by simpa using hf
  unfold execOp;simp only[aP,Instr.makeFunc,Sem.run_bind,Sem.run_pure,Result.andThen_ok,this];simp;apply Array.ext';simp
 ·have:=h2 i g1 (by simpa using g2)
  simpa using this
theorem Rx(S:az U Z X F st M w){C:Ctx}{b0:List (Nat×Nat)}:∀(parts:List (Nat×Operand)) (z:List aU) (cells:Array Value),cM F st.sites w (aN X F st.sites) z cells.toList->
  Holds (step.nE C st b0 z parts) (fun v us=>us=[]/\∃j9,Instr.fill (b0.toArray[·]?) cells (parts.map fun p=>(p.1,Act.eval ⟨M,[]⟩ p.2))=some j9/\cy F st.sites w (aN X F st.sites) v (.agg j9)):=by
 intro parts;induction parts with
 |nil=>intro z cells h;exact Holds.ok ⟨rfl,cells,rfl,cells.toList,by simp,h.1,h.2⟩
 |cons p parts ih=>
  obtain⟨i,x⟩:=p;intro z cells h;simp only[step.nE];split
  ·rename_i off n a hf ha;cases hb:(a.cells.length.beq n&&h_ a.cells&&Nat.ble (off+n) z.length) with
   |false=>exact .fail
   |true=>
    simp only[ad];simp only[bC] at hb;obtain⟨⟨b1,b2⟩,b3⟩:=hb;have b1:=cg b1;have b3:=Nat.le_of_ble_eq_true b3;have bK:=dU S C 0 x;rw[qS ha] at bK;have Cy:=hT.cells (bK:hT F st.sites w _ a _) b2;have hsz:(Act.eval ⟨M,[]⟩ x).cells.size=n:=by rw[<-b1,<-Cy.1];simp
    have hle:off+(Act.eval ⟨M,[]⟩ x).cells.size<=cells.size:=by
     have:=h.1;simp at this;omega
    have:=ih (Jk.bY z off a.cells) (Jk.bY cells.toList off (Act.eval ⟨M,[]⟩ x).cells.toList).toArray (by simpa using cM.bY off h Cy)
    intro y hy hc;obtain⟨g1,j9,g2,g3⟩:=this y hy hc;refine⟨g1,j9,?_,g3⟩;simp only[List.map_cons,Instr.fill];have Nj:b0.toArray[i]? =some (off,n):=by simpa using hf
    simp only[Nj];have c1:¬((Act.eval ⟨M,[]⟩ x).cells.size≠n\/off+(Act.eval ⟨M,[]⟩ x).cells.size>cells.size):=by omega
    have c2:(decide ((Act.eval ⟨M,[]⟩ x).cells.size≠n)||decide (off+(Act.eval ⟨M,[]⟩ x).cells.size>cells.size))=false:=by
     simp;omega
    have qf:off+n<=cells.size:=by omega
    rw[PD _ _ _ hle];simp only[Bool.decide_or,hsz] at*;simpa[c2,qf] using g2
  ·exact .fail
theorem amb(S:az U Z X F st M w){C:Ctx}(H:CtxOk P C){T:TypeId}{parts:Array (Nat×Operand)}{b0:List (Nat×Nat)}{n:Nat}{z:List aU}{eq:Bool}(bn:C.tt T=.struct b0 n z eq)(aP:D.op=.build T parts)
  (aa:cE st D.dst=true):Holds (step.nE C st b0 z parts.toList) (c4 P U Z X st M w D):=by
 have bX:=H.tt T;rw[bn] at bX;obtain⟨fields,fY,⟨hf,_⟩,⟨gG,hz,hzz,Eo⟩,_⟩:=bX;obtain⟨aI,aJ,bS⟩:=vp hzz;intro y hy hc;obtain⟨g1,j9,g2,g3⟩:=Rx S parts.toList z gG ⟨aI,fun j h an=>bS _ _ _ _ j h an⟩ y hy hc
 rw[g1];refine eg S aa (vv:=.agg j9) ?_ g3;cases hi:P.info? T with
 |none=>simp[hi] at hz
 |some it=>
  simp only[hi,Option.map_some,bE,Prod.mk.injEq] at hz;have hb:P.built T (parts.toList.map fun p=>(p.1,Act.eval ⟨M,[]⟩ p.2))=some j9:=by
   unfold Program.built;simp only[hi,fY,hz.2,hf];exact g2
  have ew:P.built T (parts.map fun p=>(p.1,Act.eval ⟨M,[]⟩ p.2)).toList=some j9:=by simpa using hb
  unfold execOp;simp only[aP,Sem.run_bind,run_build w T _ j9 ew,Result.andThen_ok,Sem.run_pure]
end
def nB(w:World)(b:Nat)(D:Obj):World:={w with heap:=w.heap.setIfInBounds b D}
theorem Tn{b:ByteArray}{l:B}(h:b.data.toList=l):Value.string b=hO l:=by
 subst h;rfl
def lW{aD:Type}:List (B×aD)->B->Nat->Option (Nat×aD)
 |[],_,_=>none
 |(k,v)::r,n,i=>bif k==n then some (i,v) else lW r n (i+1)
theorem ajz{aD:Type}(n:B):∀(es:List (B×aD)) (i:Nat),(lW es n i).map (·.2)=k1 es n:=by
 intro es;induction es with
 |nil=>intro i;rfl
 |cons p es ih=>
  intro i;simp only[lW,k1];cases p.1==n with
  |true=>rfl
  |false=>exact ih (i+1)
theorem agK{aD:Type}(n:B)(v:aD):∀(es:List (B×aD)) (i:Nat),lW es n i=none->pS es n v=es++[(n,v)]:=by
 intro es;induction es with
 |nil=>intro i _;rfl
 |cons p es ih=>
  intro i h;simp only[lW] at h;simp only[pS];cases hp:(p.1==n) with
  |true=>rw[hp] at h;cases h
  |false=>rw[hp] at h;simp only[ak,ih (i+1) h,List.cons_append]
theorem ahP{aD:Type}(n:B)(v:aD):∀(es:List (B×aD)) (i j:Nat) (v0:aD),lW es n i=some (j,v0)->i<=j/\(∃p,es[j-i]? =some p/\p.1=n)/\pS es n v=es.modify (j-i) fun p=>(p.1,v):=by
 intro es;induction es with
 |nil=>intro i j v0 h;cases h
 |cons p es ih=>
  intro i j v0 h;simp only[lW] at h;simp only[pS];cases hp:(p.1==n) with
  |true=>
   rw[hp] at h;cases h;refine⟨Nat.le_refl _,⟨p,by simp,eq_of_beq hp⟩,?_⟩
   simp
  |false=>
   rw[hp] at h;obtain⟨h1,⟨q,h2,h3⟩,aF⟩:=ih (i+1) j v0 h;have e:j-i=(j-(i+1))+1:=by omega
   refine⟨by omega,⟨q,by rw[e];simpa using h2,h3⟩,?_⟩
   rw[e,ak,aF,List.modify_succ_cons]
theorem PE{t:bi}(n:B):∀(es:List (B×den t)) (jy:List MapEntry) (i:Nat),jy.map (fun e=>(e.key,e.val))=kC t es->
  Instr.findNow .string (hO n) jy i=some ((lW es n i).map fun p=>(p.1,oe t p.2))
 |[],jy,i,h=>by
  have:jy=[]:=by simpa[kC] using h
  subst this;rfl
 |(k,v)::es,[],i,h=>by simp[kC] at h
 |(k,v)::es,m::jy,i,h=>by
  simp only[kC,List.map_cons,List.cons.injEq,Prod.mk.injEq] at h;obtain⟨⟨h1,h2⟩,h3⟩:=h;have ih:=PE n es jy (i+1) h3;have hs:Instr.sameNow .string (hO n) m.key=some (k==n):=by
   rw[h1];show some ((⟨n.toArray⟩:ByteArray)==⟨k.toArray⟩)=_;rw[bytes_beq];congr 1
   rw[Bool.eq_iff_iff];simp only[beq_iff_eq];exact eq_comm
  unfold Instr.findNow lW;rw[hs];cases k==n with
  |true=>simp only[ad,Option.map_some,h2]
  |false=>simp only[ak];exact ih
section
variable {P:Program}{w:World}{iy lB T:TypeId}{t:bi}
theorem ahs{iy:TypeId}(hk:P.underlying iy=some .string)(c:Bool)(s:B)(n:Nat):(Instr.checkKey c (n+1) iy (hO s)).run P w=.ok () w:=by
 simp[Instr.checkKey,run_underlying hk,hO,Result.andThen]
theorem vB{iy:TypeId}(hk:P.underlying iy=some .string)(c:Bool)(s:B):(Instr.checkKey c 10000 iy (hO s)).run P w=.ok () w:=ahs hk c s 9999
theorem Ae{iy:TypeId}(hk:P.underlying iy=some .string){es:List (B×den t)}{arr:Array MapEntry}(h:nD arr=kC t es)(n:B):
  (Instr.findKey iy (hO n) arr.toList).run P w=.ok ((lW es n 0).map fun p=>(p.1,oe t p.2)) w:=by
 simp[Instr.findKey,run_underlying hk,PE n es arr.toList 0 h,Result.andThen]
theorem aiN(s:B):(Instr.keyThatStays (hO s) (hO s)).run P w=.ok (hO s) w:=by
 have:Instr.sameBits 10000 (hO s) (hO s)=true:=by
  show((⟨s.toArray⟩:ByteArray)==⟨s.toArray⟩)=true;rw[bytes_beq];simp
 simp[Instr.keyThatStays,this]
theorem art{t:bi}{d:bk}{x:den t}{v:Value}{av:Nat->Prop}(h:K3 t d=some x)(hr:bT w av d v):v=oe t x:=by
 unfold K3 at h;split at h
 ·cases h;cases hr;rfl
 ·cases h;cases hr;rfl
 ·cases h
theorem ahq(bn:P.underlying T=some (.map iy lB))(hk:P.underlying iy=some .string){b:Nat}{arr:Array MapEntry}{clock:Nat}{es:List (B×den t)}(hb:w.heap[b]? =some (.map arr clock))(he:nD arr=kC t es)(n:B)(x:den t):
  ∃qi pV,(Instr.mapUpdate T (.map (some b)) (hO n) (oe t x)).run P w=.ok () (nB w b (.map qi pV))/\nD qi=kC t (pS es n x):=by
 cases hm:lW es n 0 with
 |none=>
  refine⟨arr.push ⟨hO n,oe t x,clock⟩,clock+1,?_,?_⟩
  ·have hf:=Ae (w:=w) hk he n;rw[hm] at hf;simp[Instr.mapUpdate,run_underlying bn,MapKept.run_getObj_map hb,vB hk,hf,MapKept.run_setObj_map _ hb,Result.andThen,nB]
  ·rw[agK n x es 0 hm];unfold nD kC at he ⊢;simp[he]
 |some p=>
  obtain⟨j,v0⟩:=p;obtain⟨_,⟨q,h2,h3⟩,aF⟩:=ahP n x es 0 j v0 hm;rw[Nat.sub_zero] at h2 aF;have hlen:arr.size=es.length:=mM.size (b:=b) he;have hj:j<arr.size:=by rw[hlen];exact(List.getElem?_eq_some_iff.1 h2).1
  have aud:((arr[j]?).map (·.key)).getD (hO n)=hO n:=by
   have bo:=congrArg (fun l=>l[j]?) he
   simp only[nD,kC,List.getElem?_map,h2,Option.map_some,Array.getElem?_toList] at bo;cases ha:arr[j]? with
   |none=>rfl
   |some e=>
    rw[ha] at bo;simp only[Option.map_some,bE,Prod.mk.injEq] at bo;simp[bo.1,h3]
  refine⟨arr.modify j fun e=>{e with key:=hO n,val:=oe t x},clock,?_,?_⟩
  ·have hf:=Ae (w:=w) hk he n;rw[hm] at hf;simp[Instr.mapUpdate,run_underlying bn,MapKept.run_getObj_map hb,vB hk,hf,MapKept.run_setObj_map _ hb,Result.andThen,nB,aud,aiN]
  ·rw[aF];unfold nD kC at he ⊢;apply List.ext_getElem?;intro i;have bo:=congrArg (fun l=>l[i]?) he
   simp only[List.getElem?_map,Array.getElem?_toList] at bo;simp only[List.getElem?_map,Array.getElem?_toList,Array.getElem?_modify,List.getElem?_modify];by_cases qw:j=i
   ·subst qw;simp only[if_true,h2,Option.map_some,<-h3];cases ha:arr[j]? with
    |none=>rw[ha,h2] at bo;cases bo
    |some e=>rfl
   ·simp only[qw,if_false];cases ha:arr[i]? <;>cases ew:es[i]? <;>rw[ha,ew] at bo<;>simp_all
end
section
variable {P:Program}{U:World}{Z:List Nat}{X:Nat->Prop}{F:Nat->Value}{st:ao}{M:Array Value}{w:World}{D:Oper}
theorem FR(w:World)(b bQ:Nat)(D:Obj)(h:bQ≠b):(nB w b D).heap[bQ]? =w.heap[bQ]? :=by
 simp only[nB,Array.getElem?_setIfInBounds];rw[if_neg (fun e=>h e.symm)]
theorem ae3(w:World)(b:Nat)(D dk:Obj)(h:w.heap[b]? =some dk):(nB w b D).heap[b]? =some D:=by
 have:=(Array.getElem?_eq_some_iff.1 h).1;simp[nB,Array.getElem?_setIfInBounds,this]
theorem az.apF(S:az U Z X F st M w){o s b:Nat}{t:bi}{es u0:List (B×den t)}{D:Obj}{qi:Array MapEntry}{pV:Nat}(hl:look st.sites o=some (.map s t es))(db:F o=.map (some b))(hg:w.heap[b]? =some D)
  (he:nD qi=kC t u0):az U Z X F {st with sites:=cI st.sites o (.map s t u0)} M (nB w b (.map qi pV)):=by
 have hbk:bZ (F o)=some b:=by rw[db];rfl
 have c8:cD st.sites o:=⟨_,hl,rfl⟩;have mP:∀ae,cD (cI st.sites o (.map s t u0)) ae <-> cD st.sites ae:=P6 hl rfl;have cq:∀bQ,aN X F (cI st.sites o (.map s t u0)) bQ <-> aN X F st.sites bQ:=by
  intro bQ;unfold aN;simp only[mP]
 have hne:∀bQ,¬aN X F st.sites bQ->bQ≠b:=by
  rintro bQ h rfl;exact h (.inr ⟨o,c8,hbk⟩)
 have hsz:(nB w b (.map qi pV)).heap.size=w.heap.size:=by simp[nB]
 refine S.rE (fun ae aQ b6=>?_) (fun bQ h _=>FR w b bQ _ (hne bQ h)) (fun bQ h _=>by rw[cq];exact h) (fun go ae aQ b6=>?_) (fun ae ρ bQ h1 h2=>S.eB ae ρ bQ ((mP ae).1 h1) ((mP ρ).1 h2))
  (fun ae bQ h=>S.cF ae bQ ((mP ae).1 h)) (fun ae bQ h hb=>by rw[hsz];exact S.gd ((mP ae).1 h) hb) ?_ (by rw[hsz];exact Nat.le_refl _)
 ·rw[dm];by_cases e:o=ae
  ·subst e;rw[hl] at b6;cases b6;exact⟨.map s t u0,by simp,Nat.le_refl _,fun _=>rfl⟩
  ·exact⟨aQ,by simp[e,b6],Nat.le_refl _,fun _=>rfl⟩
 ·rw[dm] at b6;by_cases e:o=ae
  ·subst e;simp only[if_true,bE] at b6;subst b6;exact .inr ⟨b,db,qi,pV,ae3 w b _ _ hg,he⟩
  ·simp only[e,if_false] at b6;refine .inl ⟨b6,rfl,fun um bQ ew=>FR w b bQ _ ?_⟩
   rintro rfl;exact e (S.eB o ae _ c8 ⟨aQ,b6,um⟩ hbk ew)
 ·have aW:=S.frame;refine⟨aW.os,aW.tape,aW.output,by rw[hsz];exact aW.size,fun bQ h1 h2=>?_⟩
  rw[FR w b bQ _ ?_]
  ·exact aW.block bQ h1 h2
  ·rintro rfl;rcases(S.cF o _ c8 hbk).2 with h|h
   ·exact h2 h
   ·omega
theorem az.makeMap(S:az U Z X F st M w){o:Nat}{t:bi}:
  az U Z X (fun ae=>if ae=o then .map (some w.heap.size) else F ae) {st with sites:=cI st.sites o (.map (bG st o) t [])} M (w.alloc (.map #[] 0)):=
 S.make (fun b hb=>RowKit.Below.heap_alloc w _ b hb) rfl rfl rfl (by simp) (fun ai hs=>mu hs) (fun b hb=>by cases hb;exact⟨Nat.le_refl _,by simp⟩)
  (fun hs db go _ _=>⟨w.heap.size,db,#[],0,heap_alloc_new w _,rfl⟩)
end
section
variable {P:Program}{U:World}{Z:List Nat}{X:Nat->Prop}{F:Nat->Value}{st:ao}{M:Array Value}{w:World}{D:Oper}
theorem P1(S:az U Z X F st M w){T:TypeId}{iy lB:TypeId}{t:bi}{r:Option Operand}{o:Nat}(aP:D.op=.makeMap T r)(dV:D.dst=some o)(aa:cE st D.dst=true)(bn:P.underlying T=some (.map iy lB))
  (hr:∀x,r=some x->∃k n,Act.eval ⟨M,[]⟩ x=.int k n):c4 P U Z X st M w D (ch (.own o (bG st o))) [(o,.map (bG st o) t [])]:=by
 have cA:=S.makeMap (o:=o) (t:=t);refine lI (us:=[(o,.map (bG st o) t [])]) cA aa (vv:=.map (some w.heap.size)) ?_ ?_
 ·unfold execOp;cases r with
  |none=>simp[aP,Instr.makeMap]
  |some x=>
   obtain⟨k,n,hx⟩:=hr x rfl;simp[aP,Instr.makeMap,hx,run_underlying bn,asInt,asIntOf,Result.andThen]
 ·refine⟨rfl,Ref.mk (ai:=.map (bG st o) t []) ?_ rfl (by simp)⟩
  simp only[bB,dm];simp
theorem Rc(S:az U Z X F st M w){C:Ctx}(H:CtxOk P C){T:TypeId}{m k x:Operand}(aP:D.op=.mapUpdate T m k x\/D.op=.insert T m k x)(aa:cE st D.dst=true):
  Holds (lP.tA C st T m k x) (c4 P U Z X st M w D):=by
 have bX:=H.tt T;unfold lP.tA;split
 ·rename_i iy lB t o s n d bn hm hk hx;rw[bn] at bX;split
  ·rename_i aQ u es hl;cases hb:(aQ.beq s&&decide (u=t)) with
   |false=>exact .fail
   |true=>
    simp only[ad];simp only[bC,dY] at hb;have hs:=cg hb.1;subst hs;split
    ·rename_i v hv;refine Holds.fZ ?_
     have em:=dU S C T m;rw[hm] at em;have sC:=dU S C 0 k;rw[hk] at sC;have ex:=dU S C 0 x;rw[hx] at ex;have hl:look st.sites o=some (.map aQ u es):=hl;have acL:Act.eval ⟨M,[]⟩ m=F o:=Ref.at em.2 hl rfl;obtain⟨b,h1,arr,clock,h2,h3⟩:=S.sites o _ hl;obtain⟨bs,M9,hkl⟩:=gY (s:=n) sC;have EB:Act.eval ⟨M,[]⟩ k=hO n:=by rw[M9];exact Tn hkl
     have acE:Act.eval ⟨M,[]⟩ x=oe u v:=art hv (av:=aN X F st.sites) ex;obtain⟨qi,pV,r1,r2⟩:=ahq (T:=T) bX.1.1 bX.2.1 h2 h3 n v;have cA:=S.apF hl h1 h2 (pV:=pV) r2;refine y1 (us:=[(o,.map aQ u (pS es n v))]) cA aa ?_
     unfold execOp;rcases aP with aP|aP
     ·simp only[aP,acL,h1,EB,acE,Sem.run_bind,r1,Result.andThen_ok,Sem.run_pure]
     ·simp only[aP,acL,h1,EB,acE,Sem.run_bind,r1,Result.andThen_ok,Sem.run_pure]
    ·exact .fail
  ·exact .fail
 ·exact .fail
theorem ajC(S:az U Z X F st M w){C:Ctx}(H:CtxOk P C){T iy lB:TypeId}{t:bi}{m k:Operand}{c:Bool}{l:aU}{n:B}{es:List (B×den t)}{d:bk}(aP:D.op=.lookup T m k c)(aa:cE st D.dst=true)
  (bn:C.tt T=.map iy lB t) (hm:bj C st T m=.av (.aq l)) (hk:bj C st 0 k=.av (.aq (.d (.str n)))) (Nk:mapOf st l=some ⟨t,es⟩) (Nl:w5 t (k1 es n)=some d):
  c4 P U Z X st M w D (bif c then .kj [.aq (.d d),.aq (.d (.bool (k1 es n).isSome))] else one d) []:=by
 have bX:=H.tt T;rw[bn] at bX;have em:=dU S C T m;rw[hm] at em;have sC:=dU S C 0 k;rw[hk] at sC;obtain⟨bs,M9,hkl⟩:=gY (s:=n) sC;have EB:Act.eval ⟨M,[]⟩ k=hO n:=by rw[M9];exact Tn hkl
 have hz:∀dk:Option (den t),w5 t dk=some d->(∀x,dk=some x->∀av,bT w av d (oe t x))/\(dk=none->∃z,(zeroValue lB).run P w=.ok z w/\∀av,bT w av d z):=by
  intro dk h;have he:=bX.2.2;have key:∀{aex:TypeDesc} {z:Value},jO P lB aex z->(zeroValue lB).run P w=.ok z w:=by
   intro aex z h;obtain⟨_,_,_,h⟩:=h;cases hi:P.info? lB with
   |none=>simp[hi] at h
   |some i=>
    simp only[hi,Option.map_some,bE,Prod.mk.injEq] at h;simp[zeroValue,lG hi,h.2]
  cases t<;>first|(exact he.elim)|skip
  ·simp only[w5,bE] at h;subst h;refine⟨fun x hx av=>by subst hx;exact .int _ _,fun hn=>?_⟩
   subst hn;exact⟨_,key he,fun av=>.int _ _⟩
  ·simp only[w5,bE] at h;subst h;refine⟨fun x hx av=>by subst hx;exact .bool _,fun hn=>?_⟩
   subst hn;exact⟨_,key he,fun av=>.bool _⟩
 obtain⟨hz1,hz2⟩:=hz _ Nl;have main:∃v,(Instr.lookup T (Act.eval ⟨M,[]⟩ m) (Act.eval ⟨M,[]⟩ k) c).run P w=.ok (if c then .tuple #[v,.bool (k1 es n).isSome] else v) w/\∀av,bT w av d v:=by
  rw[EB];rcases TW S em Nk with⟨h1,rfl⟩|⟨b,h1,arr,clock,h2,h3⟩
  ·obtain⟨z,fx,z2⟩:=hz2 rfl;refine⟨z,?_,z2⟩;have hf:=Ae (w:=w) (t:=t) bX.2.1 (es:=[]) (arr:=#[]) rfl n;have Nj:(Instr.findKey iy (hO n) []).run P w=.ok none w:=hf;simp[Instr.lookup,run_underlying bX.1.1,h1,vB bX.2.1,Nj,fx,k1,Result.andThen]
  ·have hf:=Ae (w:=w) bX.2.1 h3 n;have hg:=ajz n es 0;cases ha:lW es n 0 with
   |none=>
    rw[ha] at hf hg;have hg:k1 es n=none:=hg.symm;obtain⟨z,fx,z2⟩:=hz2 hg;refine⟨z,?_,z2⟩;simp[Instr.lookup,run_underlying bX.1.1,h1,MapKept.run_getObj_map h2,vB bX.2.1,hf,fx,hg,Result.andThen]
   |some p=>
    rw[ha] at hf hg;have hg:k1 es n=some p.2:=hg.symm;refine⟨oe t p.2,?_,hz1 p.2 hg⟩;simp[Instr.lookup,run_underlying bX.1.1,h1,MapKept.run_getObj_map h2,vB bX.2.1,hf,hg,Result.andThen]
 obtain⟨v,r1,r2⟩:=main;refine eg S aa (vv:=if c then .tuple #[v,.bool (k1 es n).isSome] else v) ?_ ?_
 ·unfold execOp;simp only[aP,Sem.run_bind,r1,Result.andThen_ok,Sem.run_pure]
 ·cases c with
  |true=>
   refine⟨[v,.bool (k1 es n).isSome],rfl,rfl,fun j g1 g2=>?_⟩
   match j,g1 with
   |0,_=>exact r2 _
   |1,_=>exact bT.bool _
  |false=>exact r2 _
theorem ahO(S:az U Z X F st M w){C:Ctx}(H:CtxOk P C)(aa:cE st D.dst=true):Holds (lP C st D) (c4 P U Z X st M w D):=by
 unfold lP;split
 ·rename_i t r aP;split
  ·rename_i o iy lB ty dV bn;have bX:=H.tt t;rw[bn] at bX;split
   ·exact Holds.fZ (P1 S aP dV aa bX.1.1 (fun x h=>by cases h))
   ·rename_i x;split
    ·rename_i k n hx;refine Holds.fZ (P1 S aP dV aa bX.1.1 (fun y h=>?_))
     cases h;have ex:=dU S C 0 x;rw[hx] at ex;exact⟨k,n,iW ex⟩
    ·exact .fail
  ·exact .fail
 ·rename_i t m k x aP;exact Rc S H (.inl aP) aa
 ·rename_i t m k x aP;exact Rc S H (.inr aP) aa
 ·rename_i t m k c aP;split
  ·rename_i iy lB ty l n bn hm hk;split
   ·rename_i u es Nk;cases hu:decide (u=ty) with
    |false=>exact .fail
    |true=>
     have hu:=of_decide_eq_true hu;subst hu;simp only[ad];split
     ·rename_i d Nl;exact Holds.ok (ajC S H aP aa bn hm hk Nk Nl)
     ·exact .fail
   ·exact .fail
  ·exact .fail
 ·rename_i t x aP;split
  ·rename_i b0 q z e n bn hx;exact Holds.ok (aeT S H aP aa bn hx)
  ·exact .fail
 ·exact .fail
end
theorem oq{P:Program}{e:TypeId}{t:bi}(h:JD P e t):bg t=1/\(∃d z,jO P e d z)/\∃l fj,uz t=some l/\yw t=some fj/\cR (enc t fj)=[l]:=by
 cases t<;>first|exact h.elim|exact⟨rfl,⟨_,_,h⟩,_,_,rfl,rfl,rfl⟩
theorem Qc{P:Program}{e:TypeId}{t:bi}{T:TypeId}(h:JD P e t):t.kl=true->T=nh:=by intro an;cases t<;>first|exact h.elim|cases an
theorem GK(t:bi)(x:den t)(xs:List (den t)):flat t (x::xs)=enc t x++flat t xs:=by simp[flat]
theorem JC(a b:List bk):cR (a++b)=cR a++cR b:=by simp[cR]
theorem Ux{t:bi}{z:den t}(hz:yw t=some z)(xs:List (den t)):DO t xs xs.length=cR (flat t xs):=by
 unfold DO;rw[hz];suffices h:∀(bm zs:List (den t)),xs=zs++bm->((List.range' zs.length bm.length).flatMap fun j=>cR (enc t (xs.getD j z)))=cR (flat t bm) by
  have:=h xs [] rfl;rw[List.length_nil,<-List.range_eq_range'] at this;exact this
 intro bm;induction bm with
 |nil=>intro zs _;rfl
 |cons y bm ih=>
  intro zs hx;rw[cW,List.range'_succ,List.flatMap_cons,GK,JC];have e1:xs.getD zs.length z=y:=by rw[hx];simp[List.getD]
  have e2:=ih (zs++[y]) (by rw[hx];simp)
  rw[dx,List.length_singleton] at e2;rw[e1,e2]
theorem Jz{t:bi}:∀{al:List aU} {xs:List (den t)},ut t al=some xs->al=cR (flat t xs):=by
 intro al;induction al with
 |nil=>intro xs h;cases h;rfl
 |cons l al ih=>
  intro xs h;cases l<;>try(cases h;done)
  rename_i d;simp only[ut] at h;split at h
  ·rename_i x bm h1 h2;cases h;rw[GK,JC,<-ih h2,BY _ _ _ h1];rfl
  ·cases h
theorem vD{aD:Type}{n:Nat}{xs bm:List aD}(h:long n xs=some bm):bm=xs/\xs.length=n:=by
 unfold long at h;split at h
 ·cases h;exact⟨rfl,by assumption⟩
 ·cases h
section
variable {P:Program}{U:World}{Z:List Nat}{X:Nat->Prop}{F:Nat->Value}{st:ao}{M:Array Value}{w:World}{D:Oper}
theorem az.lz(S:az U Z X F st M w):n_ w/\∀b,b∈lo->¬aN X F st.sites b/\b<w.heap.size:=by
 have G:=S.ft;refine⟨arR (fun b hb=>S.frame.block b (G.lt b hb) (G.Z b hb)) G.ok,fun b hb=>⟨?_,Nat.lt_of_lt_of_le (G.lt b hb) S.frame.size⟩⟩
 rintro(h|⟨o,h1,h2⟩)
 ·exact G.X b hb h
 ·rcases(S.cF o b h1 h2).2 with h|h
  ·exact G.Z b hb h
  ·have:=G.lt b hb;omega
theorem apI{ds:List bk}{vs:List Value}{av:Nat->Prop}(h:dj w av ds vs):∀u∈vs,u.oneCell'=true:=by
 intro u hu;obtain⟨j,hj,rfl⟩:=List.getElem_of_mem hu;exact(h.2 j (by rw[<-h.1];exact hj) hj).j6
theorem TT(S:az U Z X F st M w){T:TypeId}{o n:Nat}{t:bi}{xs:List (den t)}{vs:List Value}(he:bg t=1)(ht:t.kl=true->T=nh)(hv:dj w (aN X F st.sites) (flat t xs) vs)(aa:cE st D.dst=true)
  (dM:(execOp (Act.eval ⟨M,[]⟩) D).run P w=.ok (.value (.pointer (some ⟨w.heap.size,0,none⟩))) (w.alloc (.cells vs.toArray T (0,0)))):Holds (rI o st t n xs) (c4 P U Z X st M w D):=by
 unfold rI;cases hc:(xs.length.beq n&&Nat.ble n 1000) with
 |false=>exact .fail
 |true=>
  simp only[bC] at hc;have h1:=cg hc.1;have h2:=Nat.le_of_ble_eq_true hc.2;simp only[ad];have hl:vs.length=xs.length:=by rw[hv.1,fr,he,Nat.mul_one]
  have cA:=S.IL (o:=o) (T:=T) (rest:=[]) (cap:=n) hv (by rw[he,hl,h1];simp) (by unfold maxLen;omega) ht
  rw[List.append_nil] at cA;refine Holds.fZ (lI (us:=[(o,.row (bG st o) t xs)]) cA aa dM ?_);refine⟨w.heap.size,by simp,Ref.mk (ai:=.row (bG st o) t xs) ?_ rfl ⟨xs.length,n,by simp⟩⟩
  simp only[bB,dm];simp
theorem aj4(S:az U Z X F st M w){C:Ctx}(H:CtxOk P C){elem e:TypeId}{t:bi}{n o:Nat}(bn:C.tt elem=.arr e t n)(aP:D.op=.alloc elem)(aa:cE st D.dst=true):Holds (tL o st t n) (c4 P U Z X st M w D):=by
 have bX:=H.tt elem;rw[bn] at bX;obtain⟨_,_,nc⟩:=id bX;obtain⟨he,_,l,fj,Eo,n3,hzz⟩:=oq nc;unfold tL;rw[n3];obtain⟨v,hv,o4⟩:=cu.Hb (w:=w) bX (z:=List.replicate n l) (by simp only[cu.zero,Eo,Option.map_some])
 obtain⟨h1,h2,h3⟩:=vp o4;have hr:dj w (aN X F st.sites) (flat t (List.replicate n fj)) v.cells.toList:=by
  have:=h3 F st.sites w (aN X F st.sites);have e1:∀n,cR (flat t (List.replicate n fj))=List.replicate n l:=by
   intro n;induction n with
   |zero=>rfl
   |succ n ih=>rw[List.replicate_succ,GK,JC,hzz,List.replicate_succ,ih];rfl
  refine jG (F:=F) (sites:=st.sites) ?_
  rw[e1];exact⟨h1,this⟩
 refine TT (T:=elem) S he (Qc nc) hr aa ?_
 unfold execOp;simp[aP,Instr.alloc,hv,newVar,newRow]
theorem aon(S:az U Z X F st M w){C:Ctx}(H:CtxOk P C){elem e:TypeId}{t:bi}{n o:Nat}{x:Operand}(bn:C.tt elem=.arr e t n)(aP:D.op=.box elem x)(aa:cE st D.dst=true):Holds (uv o st t n (bj C st elem x)) (c4 P U Z X st M w D):=by
 have bX:=H.tt elem;rw[bn] at bX;have he:=(oq bX.2.2).1;have bK:=dU S C elem x;unfold uv;split
 ·rename_i al hx;rw[hx] at bK;split
  ·rename_i xs uF;obtain⟨vs,hv,hl,hr⟩:∃vs:List Value,Act.eval ⟨M,[]⟩ x=.agg vs.toArray/\vs.length=al.length/\∀j (h:j<al.length) (an:j<vs.length),eu F st.sites w (aN X F st.sites) (al[j]) (vs[j]):=bK;have qt:cM F st.sites w (aN X F st.sites) al vs:=⟨hl,hr⟩;rw[Jz uF] at qt;refine TT (T:=elem) S he (Qc bX.2.2) (jG qt) aa ?_
   unfold execOp;simp[aP,Instr.box,newVar,newRow,hv,Value.cells]
  ·exact .fail
 ·exact .fail
theorem az.arr(S:az U Z X F st M w){o s:Nat}{t:bi}{xs:List (den t)}{v:Value}(hr:rowOf st o s=some ⟨t,xs⟩)(hv:eu F st.sites w (aN X F st.sites) (.fm o s t 0 0) v):
  ∃b c,∃cs:List Value,v=.pointer (some ⟨b,0,none⟩)/\F o=.slice (some ⟨b,0,none⟩) xs.length c/\iD w b 0 cs/\dj w (aN X F st.sites) (flat t xs) cs:=by
 obtain⟨cs,hl,hcell⟩:=S.row hr;obtain⟨ai,iP,mc⟩:∃ai,look st.sites o=some ai/\ai.cK=s:=by
  rcases ku hr with h|h<;>exact⟨_,h,rfl⟩
 obtain⟨b,hv,xo⟩:=hv;obtain⟨n,c,db⟩:=Ref.at xo iP mc;rcases hcell with⟨rO,_⟩|⟨bQ,fM,kI,hcs,_⟩
 ·rw[db] at rO;cases rO
 ·rw[db] at kI;cases kI;exact⟨b,c,cs,by simpa using hv,db,hcs,jG hl⟩
theorem alC(S:az U Z X F st M w){C:Ctx}(H:CtxOk P C){T e:TypeId}{t:bi}{n:Nat}{x:Operand}(bn:C.tt T=.arr e t n)(aP:D.op=.load T x)(aa:cE st D.dst=true):Holds (tW st t n (bj C st T x)) (c4 P U Z X st M w D):=by
 have bX:=H.tt T;rw[bn] at bX;obtain⟨he,_,_,fj,_,n3,_⟩:=oq bX.2.2;have bK:=dU S C T x;unfold tW;split
 ·rename_i o s u hx;rw[hx] at bK;split
  ·rename_i bw xs hrow;split
   ·rename_i jT;obtain⟨rfl,rfl⟩:=jT;refine Holds.eP fun y hy=>?_
    obtain⟨rfl,hlen⟩:=vD (hy:long n xs=some y);obtain⟨b,c,cs,hv,_,hc,hr⟩:=S.arr hrow bK;have hcl:cs.length=n:=by rw[hr.1,fr,he,hlen,Nat.mul_one]
    refine eg S aa (vv:=.agg cs.toArray) ?_ ?_
    ·have dM:=vn (P:=P) (w:=w) bX (by rintro h;cases h) ⟨b,0,none⟩ cs hcl (fun j u hu=>by rw[hK];exact hc j u hu)
     unfold execOp;simp only[aP,Instr.loadAt,Instr.sureAddr,hv,Sem.run_bind,Sem.run_pure,Result.andThen_ok,dM];rfl
    ·subst hlen;have:=ie (F:=F) (sites:=st.sites) hr.1 hr.2;rw[<-Ux n3] at this;exact⟨cs,rfl,this.1,this.2⟩
   ·exact .fail
  ·exact .fail
 ·exact .fail
theorem aiF(S:az U Z X F st M w){C:Ctx}(H:CtxOk P C){T e:TypeId}{t:bi}{n:Nat}{a x:Operand}{v:b4}(bn:C.tt T=.arr e t n)(aP:D.op=.store T a x)(aa:cE st D.dst=true)(hv:mU (bj C st T x)=some v):
  Holds (tr st t n (bj C st T a) v) (c4 P U Z X st M w D):=by
 have bX:=H.tt T;rw[bn] at bX;have he:=(oq bX.2.2).1;have sd:=dU S C T a;have hex:=dU S C T x;rw[qS hv] at hex;unfold tr;split
 ·rename_i o s u al hx;rw[hx] at sd;split
  ·rename_i aQ bw xs g';have g':look st.sites o=some (.row aQ bw xs):=g';split
   ·rename_i jT;obtain⟨rfl,rfl,rfl⟩:=jT;split
    ·rename_i bm ax9;cases hc:bm.length.beq n with
     |false=>exact .fail
     |true=>
      have Ep:=cg hc;refine Holds.ik fun r hr=>?_
      obtain⟨_,hlen⟩:=vD (hr:long n xs=some r);obtain⟨vs,x0,hl,ej⟩:∃vs:List Value,Act.eval ⟨M,[]⟩ x=.agg vs.toArray/\vs.length=al.length/\∀j (h:j<al.length) (an:j<vs.length),eu F st.sites w (aN X F st.sites) (al[j]) (vs[j]):=hex;have qt:cM F st.sites w (aN X F st.sites) al vs:=⟨hl,ej⟩;rw[Jz ax9] at qt;have uL:=jG qt;have mZ:vs.length=n:=by rw[uL.1,fr,he,Ep,Nat.mul_one]
      obtain⟨b,Ew,xo⟩:=sd;obtain⟨m,c,db⟩:=Ref.at xo g' rfl;obtain⟨cU,cs,l6,hcs⟩:=S.sites o _ g';rcases l6.2 with⟨hn,_⟩|⟨g,cap,cur,fz,pa,hz,hg,hnc,hcm,la,htk⟩
      ·rw[db] at hn;cases hn
      ·rw[db] at pa;cases pa;have ayN:cur.size=c:=by rw[la,he,Nat.mul_one]
       have l7:0+vs.length<=cur.toList.length:=by
        have:cur.toList.length=cur.size:=Array.length_toList;omega
       have cA:az U Z X F {st with sites:=cI st.sites o (.row aQ bw bm)} M (w.setRow b (bY cur.toList 0 vs).toArray):=by
        refine S.write g' rfl rfl rfl (by rw[db];rfl) hg (fun hs hw hg' go=>?_)
        refine⟨cU,vs,⟨by rw[he,Ep,Nat.mul_one];exact mZ,.inr ⟨b,c,_,fz,by rw[db,hlen,Ep],?_,hg',by omega,hcm,?_,?_⟩⟩,fun j g1 g2=>pY go (uL.2 j g1 g2)⟩
        ·refine⟨hz.1,hz.2.imp id fun h=>⟨h.1,?_⟩⟩
         rw[List.size_toArray,sM _ _ _ l7];simpa using h.2
        ·rw[List.size_toArray,sM _ _ _ l7,Array.length_toList,ayN,he,Nat.mul_one]
        ·rw[he,Nat.mul_one,Ep,<-mZ];simp[bY]
       refine y1 (us:=[(o,.row aQ bw bm)]) cA aa ?_
       have dM:=OQ (P:=P) (w:=w) bX (by rintro h;cases h) (vv:=.agg vs.toArray) (cur:=cur.toList) (off:=0) (by simpa using hg) (by simpa using hz) (by simpa[Value.cells,cu.size] using mZ) (by simpa[Value.cells] using l7) (by simpa[Value.cells] using apI uL)
       unfold execOp;simp only[aP,Ew,x0,Instr.storeAt,Instr.sureAddr,Sem.run_bind,Sem.run_pure,Result.andThen_ok,Nat.zero_mul,Nat.zero_add,dM];simp[Value.cells]
    ·exact .fail
   ·exact .fail
  ·exact .fail
 ·exact .fail
theorem afp(S:az U Z X F st M w){C:Ctx}(H:CtxOk P C){T e:TypeId}{t:bi}{m:Nat}{x i:Operand}{k:IntKind}{n:Int}(bn:C.tt T=.arr e t m)(hi:bj C st 0 i=.av (.aq (.d (.int k n))))(aP:D.op=.indexAddr T x i)(aa:cE st D.dst=true):
  Holds (sS C st t m (bj C st T x) n) (c4 P U Z X st M w D):=by
 have bX:=H.tt T;rw[bn] at bX;obtain⟨fY,_,nc⟩:=bX;obtain⟨he,⟨d,z0,n8⟩,_⟩:=oq nc;have xn:=kz S hi;have bK:=dU S C T x;obtain⟨inf,k_,kf⟩:∃inf,P.info? e=some inf/\inf.size=1:=by
  have:=n8.2.2.2;cases aC:P.info? e with
  |none=>simp[aC] at this
  |some i=>simp only[aC,Option.map_some,bE,Prod.mk.injEq] at this;exact⟨i,rfl,this.1⟩
 have run:∀{b:Nat},Act.eval ⟨M,[]⟩ x=.pointer (some ⟨b,0,none⟩)->0<=n->n<m->(execOp (Act.eval ⟨M,[]⟩) D).run P w=.ok (.value (.pointer (some ⟨b,n.toNat,none⟩))) w:=by
  intro b hx h0 h1;unfold execOp;simp[aP,hx,xn,Instr.indexAt,Instr.sureAddr,asIntOf,run_underlying fY,h0,h1,sizeOf,lG k_,kf,hK]
 unfold sS;split
 ·rename_i o s u hx;rw[hx] at bK;split
  ·rename_i bw xs hrow;split
   ·rename_i jT;obtain⟨rfl,rfl⟩:=jT;refine Holds.eP fun y hy=>?_
    obtain⟨zs,hz1,hz2⟩:=Option.bind_eq_some_iff.1 (hy:(long m xs).bind (fun xs=>bh xs.length n)=some y)
    obtain⟨rfl,hlen⟩:=vD hz1;unfold bh at hz2;split at hz2
    ·rename_i hb;cases hz2;obtain⟨b,c,cs,hv,db,_⟩:=S.arr hrow bK;refine eg S aa (run hv hb.1 (by rw[<-hlen];exact hb.2)) ⟨b,?_,?_⟩
     ·rw[he,Nat.mul_one,Nat.add_zero]
     ·rcases ku hrow with h|h<;>exact Ref.mk h rfl ⟨_,_,db⟩
    ·cases hz2
   ·exact .fail
  ·exact .fail
 ·rename_i g hx;rw[hx] at bK;split
  ·rename_i bw xs sb;cases hc:(decide (bw=t)&&xs.length.beq m) with
   |false=>exact .fail
   |true=>
    simp only[bC,dY] at hc;obtain⟨rfl,hlen⟩:=hc;have hlen:=cg hlen;refine Holds.eP fun y hy=>?_
    have ev:aS xs n=some y:=hy;unfold aS at ev;split at ev
    ·rename_i h0;have hlt:n.toNat<xs.length:=by
      rcases Nat.lt_or_ge n.toNat xs.length with h|h
      ·exact h
      ·rw[List.getElem?_eq_none h] at ev;cases ev
     obtain⟨acU,uU⟩:=H.gt g _ _ sb;obtain⟨f_,cq⟩:=S.lz;obtain⟨gX,fz',cs,hg,ej⟩:=uU w (aN X F st.sites) f_;have hv:Act.eval ⟨M,[]⟩ x=.pointer (some ⟨g,0,none⟩):=bK;refine eg S aa (run hv h0 (by omega)) ⟨g,n.toNat,rfl,(cq g acU).1,(cq g acU).2,(cs.drop n.toNat).take 1,?_,fun j u hu=>?_,?_⟩
     ·have:cs.length=xs.length:=by rw[ej.1,fr,he,Nat.mul_one]
      rw[jC,he];simp;omega
     ·exact(((iD.row hg).drop n.toNat).take 1) j u hu|>fun h=>by simpa using h
     ·have hs:=vy bw xs n.toNat y ev;rw[he,Nat.mul_one] at hs;have nR:dj w (aN X F st.sites) (flat bw xs) cs:=ej;have arP:=ie (F:=F) (sites:=st.sites) nR.1 nR.2;have h2:=jG (ds:=((flat bw xs).drop n.toNat).take 1) (by
       have:=(arP.drop n.toNat).take 1;simpa[cR,List.map_drop,List.map_take] using this)
      rw[hs] at h2;exact h2.2
    ·cases ev
  ·exact .fail
 ·exact .fail
theorem ajK(S:az U Z X F st M w){C:Ctx}(H:CtxOk P C){T e:TypeId}{t:bi}{m:Nat}{x i:Operand}{k:IntKind}{n:Int}(bn:C.tt T=.arr e t m)(hi:bj C st 0 i=.av (.aq (.d (.int k n))))(aP:D.op=.index T x i)(aa:cE st D.dst=true):
  Holds (Kh t m (bj C st T x) n) (c4 P U Z X st M w D):=by
 have bX:=H.tt T;rw[bn] at bX;obtain⟨fY,_,nc⟩:=bX;obtain⟨he,⟨d,z0,n8⟩,_⟩:=oq nc;have xn:=kz S hi;have bK:=dU S C T x;obtain⟨inf,k_,kf⟩:∃inf,P.info? e=some inf/\inf.size=1:=by
  have:=n8.2.2.2;cases aC:P.info? e with
  |none=>simp[aC] at this
  |some i=>simp only[aC,Option.map_some,bE,Prod.mk.injEq] at this;exact⟨i,rfl,this.1⟩
 unfold Kh;split
 ·rename_i al hx;rw[hx] at bK;split
  ·rename_i xs uF;cases hc:xs.length.beq m with
   |false=>exact .fail
   |true=>
    have hlen:=cg hc;refine Holds.eP fun y hy=>?_
    have ev:aS xs n=some y:=hy;unfold aS at ev;split at ev
    ·rename_i h0;have hlt:n.toNat<xs.length:=by
      rcases Nat.lt_or_ge n.toNat xs.length with h|h
      ·exact h
      ·rw[List.getElem?_eq_none h] at ev;cases ev
     obtain⟨vs,hv,hl,hr⟩:∃vs:List Value,Act.eval ⟨M,[]⟩ x=.agg vs.toArray/\vs.length=al.length/\∀j (h:j<al.length) (an:j<vs.length),eu F st.sites w (aN X F st.sites) (al[j]) (vs[j]):=bK;have qt:cM F st.sites w (aN X F st.sites) al vs:=⟨hl,hr⟩;rw[Jz uF] at qt;have uL:=jG qt;have mZ:vs.length=xs.length:=by rw[uL.1,fr,he,Nat.mul_one]
     obtain⟨d1,hd1⟩:∃d1,enc t y=[d1]:=by
      have:=jC t y;rw[he] at this;match h:enc t y,this with
      |[d1],_=>exact⟨d1,rfl⟩
     simp only[hd1];have c8:n.toNat<vs.length:=by omega
     refine eg S aa (vv:=vs[n.toNat]) ?_ ?_
     ·have LG:(isAgg e).run P w=.ok false w:=by
       have h1:=n8.1;simp only[isAgg,Sem.run_bind,run_underlying h1,Result.andThen_ok];have g1:=n8.2.1;have g2:=n8.2.2.1;cases d<;>first|rfl|exact absurd rfl (g1 _)|exact absurd rfl (g2 _ _)
      have h1:n<(m:Int):=by omega
      unfold execOp;simp[aP,hv,xn,Instr.index,asIntOf,run_underlying fY,h0,h1,sizeOf,lG k_,kf,part,LG,c8]
     ·have hs:=vy t xs n.toNat y ev;rw[he,Nat.mul_one,hd1] at hs;have qx:n.toNat<(flat t xs).length:=by rw[fr,he,Nat.mul_one];exact hlt
      have e1:(flat t xs)[n.toNat]=d1:=by
       have:=congrArg (fun l=>l[0]?) hs
       simp only[List.getElem?_take,List.getElem?_drop] at this;rw[if_pos (by decide),Nat.add_zero,dZ qx] at this
       simpa using this
      have:=uL.2 n.toNat qx c8;rw[e1] at this;exact this
    ·cases ev
  ·exact .fail
 ·exact .fail
theorem aiJ(S:az U Z X F st M w){C:Ctx}(H:CtxOk P C){T e:TypeId}{t:bi}{m:Nat}{x:Operand}{de hi:Option Operand}(bn:C.tt T=.arr e t m)(aP:D.op=.slice T x de hi none)(aa:cE st D.dst=true):
  Holds (tv st t m (bj C st T x) (de.map (bj C st 0)) (hi.map (bj C st 0))) (c4 P U Z X st M w D):=by
 have bX:=H.tt T;rw[bn] at bX;obtain⟨fY,_,nc⟩:=bX;obtain⟨he,⟨d,z0,n8⟩,_⟩:=oq nc;have bK:=dU S C T x;obtain⟨inf,k_,kf⟩:∃inf,P.info? e=some inf/\inf.size=1:=by
  have:=n8.2.2.2;cases aC:P.info? e with
  |none=>simp[aC] at this
  |some i=>simp only[aC,Option.map_some,bE,Prod.mk.injEq] at this;exact⟨i,rfl,this.1⟩
 have rN:∀{de:Option Operand} {l9 l:Int},jk l9 (de.map (bj C st 0))=some l->(de.map (Act.eval ⟨M,[]⟩)=none/\l=l9)\/∃k,de.map (Act.eval ⟨M,[]⟩)=some (.int k l):=by
  intro de l9 l h;rcases SW S h with⟨rfl,an⟩|⟨x,k,rfl,an⟩
  ·exact .inl ⟨rfl,an⟩
  ·exact .inr ⟨k,by simp[an]⟩
 unfold tv;split
 ·rename_i o s u hx;rw[hx] at bK;split
  ·rename_i bw xs l h hrow gF hhi;split
   ·rename_i jT;obtain⟨rfl,rfl⟩:=jT;refine Holds.ik fun r hr=>?_
    obtain⟨zs,hz1,hz2⟩:=Option.bind_eq_some_iff.1 (hr:(long m xs).bind (fun xs=>bq xs l h)=some r)
    obtain⟨rfl,hlen⟩:=vD hz1;unfold bq at hz2;split at hz2
    ·rename_i hb;obtain⟨h0,h1,h2⟩:=hb;cases hz2;obtain⟨b,c,cs,hv,db,_⟩:=S.arr hrow bK;refine QM (us:=[(o,.dF s bw zs)]) (SN hrow).symm ?_
     have hfz:eh st.sites [(o,.dF s bw zs)]:=by
      intro ae ai hm;simp only[List.mem_singleton,Prod.mk.injEq] at hm;obtain⟨rfl,rfl⟩:=hm;exact⟨s,bw,zs,rfl,ku hrow⟩
     have aW:lF U Z X F st M w [(o,.dF s bw zs)]:=⟨S,hfz⟩;have M7:=Fg hfz (List.mem_singleton.2 rfl);obtain⟨ej,Xm⟩:=aW.new.sites o _ M7;rw[db] at ej;generalize acD:Value.slice (some ⟨b,0,none⟩) zs.length c=v at ej;cases ej with
     |nil=>cases acD
     |sl _ _ a cap pe k hk hcap ew hl hc hr=>
      cases acD;have ayS:=FN (P:=P) (w:=w) false m m (de.map (Act.eval ⟨M,[]⟩)) (hi.map (Act.eval ⟨M,[]⟩)) l h (rN gF) (rN hhi) h0 h1 (by omega) (Nat.le_refl _)
      refine lI (us:=[(o,.dF s bw zs)]) aW.new aa (vv:=.slice (if m=l.toNat then some ⟨b,0,none⟩ else(some (⟨b,0,none⟩:Addr)).map (·.add (l.toNat*bg bw))) (h.toNat-l.toNat) (m-l.toNat)) ?_ ?_
      ·unfold execOp;simp only[aP,Option.map_none,Sem.run_bind,Instr.sliceAt,run_underlying fY,Result.andThen_ok,hv,Instr.sureAddr,Sem.run_pure,ayS,sizeOf,lG k_,kf,he];split<;>simp
      ·exact II ew ⟨hl,hr⟩ hc l.toNat h.toNat m (by omega) (by omega) (by omega)
    ·cases hz2
   ·exact .fail
  ·exact .fail
 ·exact .fail
theorem ajR{f g:Nat->Option (Nat×Nat)}(h:∀i p,f i=some p->g i=some p):∀(l:List (Nat×Value)) (cs pe:Array Value),Instr.fill f cs l=some pe->Instr.fill g cs l=some pe:=by
 intro l;induction l with
 |nil=>intro cs pe k;exact k
 |cons p l ih=>
  obtain⟨i,v⟩:=p;intro cs pe k;simp only[Instr.fill] at k ⊢;cases hf:f i with
  |none=>simp[hf] at k
  |some q=>
   obtain⟨off,size⟩:=q;rw[h i _ hf];rw[hf] at k;simp only at k ⊢;split at k
   ·cases k
   ·rename_i hn;rw[if_neg hn];exact ih _ _ k
theorem aj1(S:az U Z X F st M w){C:Ctx}(H:CtxOk P C){T e:TypeId}{t:bi}{n:Nat}{z:aU}{parts:Array (Nat×Operand)}(bn:C.tt T=.arr e t n)(hz:uz t=some z)(aP:D.op=.build T parts)(aa:cE st D.dst=true):
  Holds (step.nE C st ((List.range n).map fun j=>(j,1)) (List.replicate n z) parts.toList) (c4 P U Z X st M w D):=by
 have bX:=H.tt T;rw[bn] at bX;obtain⟨fY,⟨gG,fx,k_,hz1,hzz⟩,nc⟩:=bX;rw[hz] at hz1;cases hz1;obtain⟨he,⟨d,z0,n8⟩,_⟩:=oq nc;obtain⟨aDz,ayF,aue⟩:∃inf,P.info? e=some inf/\inf.size=1:=by
  have:=n8.2.2.2;cases aC:P.info? e with
  |none=>simp[aC] at this
  |some i=>simp only[aC,Option.map_some,bE,Prod.mk.injEq] at this;exact⟨i,rfl,this.1⟩
 obtain⟨aI,aJ,bS⟩:=vp hzz;intro y hy hc;obtain⟨g1,j9,g2,g3⟩:=Rx S parts.toList (List.replicate n z) gG ⟨aI,fun j h an=>bS _ _ _ _ j h an⟩ y hy hc
 rw[g1];refine eg S aa (vv:=.agg j9) ?_ g3;cases hi:P.info? T with
 |none=>simp[hi] at k_
 |some it=>
  simp only[hi,Option.map_some,bE,Prod.mk.injEq] at k_;have hb:P.built T (parts.toList.map fun p=>(p.1,Act.eval ⟨M,[]⟩ p.2))=some j9:=by
   unfold Program.built;simp only[hi,fY,k_.2,ayF,aue];refine ajR (fun i p hp=>?_) _ _ _ g2
   simp only[List.getElem?_toArray,List.getElem?_map,Option.map_eq_some_iff] at hp;obtain⟨a,ha,rfl⟩:=hp;have:=List.getElem?_eq_some_iff.1 ha;obtain⟨h1,h2⟩:=this;simp at h2;subst h2;simp
  have ew:P.built T (parts.map fun p=>(p.1,Act.eval ⟨M,[]⟩ p.2)).toList=some j9:=by simpa using hb
  unfold execOp;simp only[aP,Sem.run_bind,run_build w T _ j9 ew,Result.andThen_ok,Sem.run_pure]
theorem agm(S:az U Z X F st M w){C:Ctx}{x:Operand}{k:IntKind}{n:Int}{T er:TypeId}(aP:D.op=.unOp .xor er x)(aa:cE st D.dst=true)(hc:bj C st T x=.av (.aq (.d (.int k n)))):
  c4 P U Z X st M w D (one (.int k (dB k (if k.signed then-1 else k.max) n))) []:=by
 refine eg S aa (vv:=.int k (dB k (if k.signed then-1 else k.max) n)) ?_ (.int _ _)
 unfold execOp;simp[aP,kz S hc,Op.unary,Op.intBits,dB]
end
def mN:Nat->Value:=fun _=>undef
def nL(w:World)(av:Nat->Prop)(l:aU)(v:Value)(bs:List Nat):Prop:=
 match l with
 |.fresh t xs=>bs=(bZ v).toList/\∃e,∃cs:List Value,rowAt w t.kl e (bg t) v xs.length cs/\dj w av (flat t xs) cs
 |l=>bs=[]/\eu mN [] w av l v
def l1(w:World)(av:Nat->Prop):List aU->List Value->List Nat->Prop
 |[],[],bs=>bs=[]
 |l::al,v::vs,bs=>∃b1 b2,bs=b1++b2/\nL w av l v b1/\l1 w av al vs b2
 |_,_,_=>False
def Dq(w:World)(av:Nat->Prop):b4->Value->List Nat->Prop
 |.aq l,v,bs=>nL w av l v bs
 |.agg al,v,bs=>∃vs:List Value,v=.agg vs.toArray/\l1 w av al vs bs
def lS(w:World)(av:Nat->Prop):List b4->List Value->List Nat->Prop
 |[],[],bs=>bs=[]
 |l::al,v::vs,bs=>∃b1 b2,bs=b1++b2/\Dq w av l v b1/\lS w av al vs b2
 |_,_,_=>False
def JE(w:World)(av:Nat->Prop)(b:Nat)(cells:List aU)(bs:List Nat):Prop:=
 ∃T,∃cur:List Value,∃pf,bs=b::pf/\w.heap[b]? =some (.cells cur.toArray T (0,0))/\(∀u∈cur,u.oneCell'=true)/\nK cells T cur b/\l1 w av cells cur pf
def Uz(w:World)(av:Nat->Prop):Arg->Value->List Nat->Prop
 |.av a,v,bs=>Dq w av a v bs
 |.fN cells,v,bs=>∃b,v=.pointer (some ⟨b,0,none⟩)/\JE w av b cells bs
def jE(w:World)(av:Nat->Prop):List Arg->List Value->List Nat->Prop
 |[],[],bs=>bs=[]
 |l::al,v::vs,bs=>∃b1 b2,bs=b1++b2/\Uz w av l v b1/\jE w av al vs b2
 |_,_,_=>False
def ep:List Arg->List Value->List Nat
 |.fN _::as,.pointer (some a)::vs=>a.block::ep as vs
 |_::as,_::vs=>ep as vs
 |_,_=>[]
def jI(w:World)(av:Nat->Prop):List Nat->List (List aU)->List Nat->Prop
 |[],[],bs=>bs=[]
 |b::dT,cs::c9,bs=>∃b1 b2,bs=b1++b2/\JE w av b cs b1/\jI w av dT c9 b2
 |_,_,_=>False
def oK:List Value->Value
 |[v]=>v
 |vs=>.tuple vs.toArray
def Enters(P:Program)(g:FuncId)(vs:Array Value)(w:World)(R:Value->World->Prop):Prop:=
 ((callFunc g vs).run P w=.ok (.enter g vs) w/\Calls P g vs w fun|.returned v,w'=>R v w'|_,_=>False)\/(∃v w',(callFunc g vs).run P w=.ok (.value v) w'/\R v w')
def aE(P:Program)(g:FuncId)(S:aH):Prop:=
 ∀as y,(S as).comp=some y->∀(w:World) (X:Nat->Prop) (vs:List Value) (dP:List Nat),jE w (fun b=>X b\/b∈dP) as vs dP->dP.Nodup->(∀b,b∈dP->¬X b)->(∀b,X b->b<w.heap.size)->jg w dP X->
  Enters P g vs.toArray w fun v w'=>∃eN eM rv,Fr dP w w'/\jI w' (fun b=>X b\/b∈eN++eM) (ep as vs) ((S as).fN y) eN/\lS w' (fun b=>X b\/b∈eN++eM) ((S as).fH y) rv eM/\
   v=oK rv/\(eN++eM).Nodup/\∀b,b∈eN++eM->¬X b/\(b∈dP\/w.heap.size<=b)
section
variable {U:World}{Z:List Nat}{X:Nat->Prop}{F:Nat->Value}{st:ao}{M:Array Value}{w:World}
theorem cy.hS{sites:List (Nat×Site)}{av cz:Nat->Prop}(h:∀b,cz b->av b)(hlt:∀b,cz b->b<w.heap.size){a:bb}{v:Value}(k:cy F sites w av a v):cy F sites w cz a v:=by
 have G:iK F F sites sites w w av cz:=⟨fun o ai hs=>⟨ai,hs,Nat.le_refl _,fun _=>rfl⟩,fun _ _ _=>rfl,fun b hb _ an=>hb (h b an)⟩
 exact k.goes G (Nat.le_refl _) hlt
theorem kA.hS{sites:List (Nat×Site)}{av cz:Nat->Prop}(h:∀b,cz b->av b)(hlt:∀b,cz b->b<w.heap.size){o:Nat}{ai:Site}(k:kA F sites w av o ai):kA F sites w cz o ai:=by
 have G:iK F F sites sites w w av cz:=⟨fun o ai hs=>⟨ai,hs,Nat.le_refl _,fun _=>rfl⟩,fun _ _ _=>rfl,fun b hb _ an=>hb (h b an)⟩
 exact k.goes G (Nat.le_refl _) hlt rfl (fun _ _ _=>rfl)
theorem az.lt(S:az U Z X F st M w){b:Nat}(h:aN X F st.sites b):b<w.heap.size:=by
 rcases h with h|⟨o,h1,h2⟩
 ·exact S.old b h
 ·exact S.gd h1 h2
theorem az.shrink(S:az U Z X F st M w){X':Nat->Prop}(h:∀b,X' b->X b):az U Z X' F st M w:=by
 have cq:∀b,aN X' F st.sites b->aN X F st.sites b:=by
  rintro b (hb|hb)
  ·exact .inl (h b hb)
  ·exact .inr hb
 have hlt:=fun b hb=>S.lt (cq b hb)
 exact⟨S.nt,fun t=>(S.c5 t).hS cq hlt,fun o ai hs=>(S.sites o ai hs).hS cq hlt,S.eB,fun o b h1 h2=>⟨fun hx=>(S.cF o b h1 h2).1 (h b hx),(S.cF o b h1 h2).2⟩,S.frame,fun b hb=>S.old b (h b hb),S.ft.less fun b _=>h b⟩
theorem az.kill(S:az U Z X F st M w){o:Nat}{ai:Site}(hl:look st.sites o=some ai)(mJ:ai.live=true):
  az U Z (fun b=>X b\/bZ (F o)=some b) F {st with sites:=cI st.sites o (.dead ai.cK)} M w:=by
 have c8:∀ae,cD (cI st.sites o (.dead ai.cK)) ae->ae≠o/\cD st.sites ae:=by
  rintro ae ⟨s,h1,h2⟩;rw[dm] at h1;by_cases e:o=ae
  ·subst e;simp at h1;subst h1;cases h2
  ·simp only[e,if_false] at h1;exact⟨fun h=>e h.symm,s,h1,h2⟩
 have cq:∀b,aN (fun b=>X b\/bZ (F o)=some b) F (cI st.sites o (.dead ai.cK)) b->aN X F st.sites b:=by
  rintro b ((h|h)|⟨ae,h1,h2⟩)
  ·exact .inl h
  ·exact .inr ⟨o,⟨ai,hl,mJ⟩,h⟩
  ·exact .inr ⟨ae,(c8 ae h1).2,h2⟩
 have hlt:=fun b hb=>S.lt (cq b hb)
 have cA:az U Z X F {st with sites:=cI st.sites o (.dead ai.cK)} M w:=by
  have xq:∀b,aN X F (cI st.sites o (.dead ai.cK)) b->aN X F st.sites b:=by
   rintro b (h|⟨ae,h1,h2⟩)
   ·exact .inl h
   ·exact .inr ⟨ae,(c8 ae h1).2,h2⟩
  refine S.rE (fun ae s hs=>?_) (fun _ _ _=>rfl) (fun b hb _ an=>hb (xq b an)) (fun go ae s hs=>?_) (fun ae ρ b h1 h2 g1 g2=>S.eB ae ρ b (c8 ae h1).2 (c8 ρ h2).2 g1 g2) (fun ae b h1 h2=>S.cF ae b (c8 ae h1).2 h2)
   (fun ae b h1 h2=>S.gd (c8 ae h1).2 h2) S.frame (Nat.le_refl _)
  ·rw[dm];by_cases e:o=ae
   ·subst e;rw[hl] at hs;cases hs;exact⟨.dead ai.cK,by simp,Nat.le_refl _,fun _=>rfl⟩
   ·exact⟨s,by simp[e,hs],Nat.le_refl _,fun _=>rfl⟩
  ·rw[dm] at hs;by_cases e:o=ae
   ·simp only[e,if_true,bE] at hs;subst hs;exact .inr trivial
   ·simp only[e,if_false] at hs;exact .inl ⟨hs,rfl,fun _ _ _=>rfl⟩
 refine⟨cA.nt,fun t=>?_,fun ae s hs=>?_,cA.eB,fun ae b h1 h2=>⟨?_,(cA.cF ae b h1 h2).2⟩,cA.frame,?_,S.ft.less fun b hb hx=>hx.elim id fun e=>absurd (.inr ⟨o,⟨ai,hl,mJ⟩,e⟩) (S.lz.2 b hb).1⟩
 ·have G:iK F F st.sites (cI st.sites o (.dead ai.cK)) w w (aN X F st.sites) (aN (fun b=>X b\/bZ (F o)=some b) F (cI st.sites o (.dead ai.cK))):=
   ⟨fun ae s hs=>by
    rw[dm];by_cases e:o=ae
    ·subst e;rw[hl] at hs;cases hs;exact⟨.dead ai.cK,by simp,Nat.le_refl _,fun _=>rfl⟩
    ·exact⟨s,by simp[e,hs],Nat.le_refl _,fun _=>rfl⟩,fun _ _ _=>rfl,fun b hb _ an=>hb (cq b an)⟩
  exact(S.c5 t).goes G (Nat.le_refl _) hlt
 ·have gm:look (cI st.sites o (.dead ai.cK)) ae=some s:=hs;rw[dm] at gm;by_cases e:o=ae
  ·simp only[e,if_true,bE] at gm;subst gm;trivial
  ·simp only[e,if_false] at gm;have G:iK F F st.sites (cI st.sites o (.dead ai.cK)) w w (aN X F st.sites) (aN (fun b=>X b\/bZ (F o)=some b) F (cI st.sites o (.dead ai.cK))):=
    ⟨fun ae s hs=>by
     rw[dm];by_cases e:o=ae
     ·subst e;rw[hl] at hs;cases hs;exact⟨.dead ai.cK,by simp,Nat.le_refl _,fun _=>rfl⟩
     ·exact⟨s,by simp[e,hs],Nat.le_refl _,fun _=>rfl⟩,fun _ _ _=>rfl,fun b hb _ an=>hb (cq b an)⟩
   exact(S.sites ae s gm).goes G (Nat.le_refl _) hlt rfl (fun _ _ _=>rfl)
 ·rintro(hx|hx)
  ·exact(cA.cF ae b h1 h2).1 hx
  ·exact(c8 ae h1).1 (S.eB ae o b (c8 ae h1).2 ⟨ai,hl,mJ⟩ h2 hx)
 ·rintro b (hb|hb)
  ·exact S.old b hb
  ·exact S.gd ⟨ai,hl,mJ⟩ hb
theorem az.jump(S:az U Z X F st M w){w':World}(h:∀b,¬X b->b<w.heap.size->w'.heap[b]? =w.heap[b]?)(hs:w.heap.size<=w'.heap.size)(hf:Fr Z U w'):
  az U Z (fun b=>X b\/(w.heap.size<=b/\b<w'.heap.size)) F st M w':=by
 have hlt:∀b,aN (fun b=>X b\/(w.heap.size<=b/\b<w'.heap.size)) F st.sites b->b<w'.heap.size:=by
  rintro b ((hb|hb)|⟨ae,h1,h2⟩)
  ·exact Nat.lt_of_lt_of_le (S.old b hb) hs
  ·exact hb.2
  ·exact Nat.lt_of_lt_of_le (S.gd h1 h2) hs
 have G:iK F F st.sites st.sites w w' (aN X F st.sites) (aN (fun b=>X b\/(w.heap.size<=b/\b<w'.heap.size)) F st.sites):=
  ⟨fun ae s h=>⟨s,h,Nat.le_refl _,fun _=>rfl⟩,fun b hb ew=>h b (fun hx=>hb (.inl hx)) ew,fun b hb ew an=>by
   rcases an with(an|an)|an
   ·exact hb (.inl an)
   ·omega
   ·exact hb (.inr an)⟩
 refine⟨S.nt,fun t=>(S.c5 t).goes G hs hlt,fun o s h1=>(S.sites o s h1).goes G hs hlt rfl (fun hl b hb=>?_),S.eB,fun o b h1 h2=>⟨?_,(S.cF o b h1 h2).2⟩,hf,?_,S.ft.less fun b hb hx=>hx.elim id fun e=>absurd (S.lz.2 b hb).2 (by omega)⟩
 ·exact h b (S.cF o b ⟨s,h1,hl⟩ hb).1 (S.gd ⟨s,h1,hl⟩ hb)
 ·rintro(hx|hx)
  ·exact(S.cF o b h1 h2).1 hx
  ·have:=S.gd h1 h2;omega
 ·rintro b (hb|hb)
  ·exact Nat.lt_of_lt_of_le (S.old b hb) hs
  ·exact hb.2
theorem az.w7(S:az U Z X F st M w){X':Nat->Prop}{n:Nat}{b':Site}{nv:Value}(gr:∀b,X' b->X b)
  (ei:(∀ai,look st.sites n=some ai->ai.cK<b'.cK)\/(F n=nv/\∀ai,look st.sites n=some ai->ai.cK=b'.cK/\ai.live=false))
  (hb:∀b,bZ nv=some b->X b/\¬X' b/\(b∈Z\/U.heap.size<=b))
  (f_:∀{b_:List (Nat×Site)} {a_:Nat->Value},b_=cI st.sites n b'->a_ n=nv->(∀{a v},cy F st.sites w (aN X F st.sites) a v->cy a_ b_ w (aN X' a_ b_) a v)->
   (∀b,aN X' a_ b_ b->aN X F st.sites b)->kA a_ b_ w (aN X' a_ b_) n b'):
  az U Z X' (fun ae=>if ae=n then nv else F ae) {st with sites:=cI st.sites n b'} M w/\
   (∀b,aN X' (fun ae=>if ae=n then nv else F ae) (cI st.sites n b') b->aN X F st.sites b)/\
   (∀{a v},cy F st.sites w (aN X F st.sites) a v->cy (fun ae=>if ae=n then nv else F ae) (cI st.sites n b') w (aN X' (fun ae=>if ae=n then nv else F ae) (cI st.sites n b')) a v):=by
 have c8:∀ae,cD (cI st.sites n b') ae->ae=n\/(ae≠n/\cD st.sites ae):=by
  rintro ae ⟨s,h1,h2⟩;rw[dm] at h1;by_cases e:n=ae
  ·exact .inl e.symm
  ·simp only[e,if_false] at h1;exact .inr ⟨fun h=>e h.symm,s,h1,h2⟩
 have cq:∀b,aN X' (fun ae=>if ae=n then nv else F ae) (cI st.sites n b') b->aN X F st.sites b:=by
  rintro b (h|⟨ae,h1,h2⟩)
  ·exact .inl (gr b h)
  ·rcases c8 ae h1 with rfl|⟨h3,aF⟩
   ·simp at h2;exact .inl (hb b h2).1
   ·simp only[h3,if_false] at h2;exact .inr ⟨ae,aF,h2⟩
 have rL:∀o ai,look st.sites o=some ai->∃aQ,look (cI st.sites n b') o=some aQ/\ai.cK<=aQ.cK/\(aQ.cK=ai.cK->(fun ae=>if ae=n then nv else F ae) o=F o):=by
  intro ae s hs;rw[dm];by_cases e:n=ae
  ·subst e;refine⟨b',by simp,?_,fun h=>?_⟩
   ·rcases ei with h|⟨_,h⟩
    ·exact Nat.le_of_lt (h s hs)
    ·exact Nat.le_of_eq (h s hs).1
   ·rcases ei with an|⟨an,_⟩
    ·have:=an s hs;omega
    ·simp[an]
  ·have cU:¬ae=n:=fun h=>e h.symm
   exact⟨s,by simp[e,hs],Nat.le_refl _,fun _=>by simp[cU]⟩
 have G:iK F (fun ae=>if ae=n then nv else F ae) st.sites (cI st.sites n b') w w (aN X F st.sites) (aN X' (fun ae=>if ae=n then nv else F ae) (cI st.sites n b')):=
  ⟨rL,fun _ _ _=>rfl,fun b hb _ an=>hb (cq b an)⟩
 have hlt:=fun b hb=>S.lt (cq b hb)
 refine⟨⟨S.nt,fun t=>(S.c5 t).goes G (Nat.le_refl _) hlt,fun ae s hs=>?_,fun ae ρ b h1 h2 g1 g2=>?_,fun ae b h1 h2=>?_,S.frame,fun b h=>S.old b (gr b h),S.ft.less fun b _=>gr b⟩,cq,fun h=>h.goes G (Nat.le_refl _) hlt⟩
 ·have gm:look (cI st.sites n b') ae=some s:=hs;rw[dm] at gm;by_cases e:n=ae
  ·subst e;simp only[if_true,bE] at gm;subst gm;exact f_ rfl (by simp) (fun h=>h.goes G (Nat.le_refl _) hlt) cq
  ·have cU:¬ae=n:=fun h=>e h.symm
   simp only[e,if_false] at gm;exact(S.sites ae s gm).goes G (Nat.le_refl _) hlt (by simp[cU]) (fun _ _ _=>rfl)
 ·rcases c8 ae h1 with rfl|⟨n1,ed⟩<;>rcases c8 ρ h2 with rfl|⟨n2,fU⟩
  ·rfl
  ·simp only[if_true] at g1;simp only[n2,if_false] at g2;exact absurd (hb b g1).1 (S.cF ρ b fU g2).1
  ·simp only[if_true] at g2;simp only[n1,if_false] at g1;exact absurd (hb b g2).1 (S.cF ae b ed g1).1
  ·simp only[n1,if_false] at g1;simp only[n2,if_false] at g2;exact S.eB ae ρ b ed fU g1 g2
 ·rcases c8 ae h1 with rfl|⟨n1,ed⟩
  ·simp only[if_true] at h2;exact⟨(hb b h2).2.1,(hb b h2).2.2⟩
  ·simp only[n1,if_false] at h2;exact⟨fun hx=>(S.cF ae b ed h2).1 (gr b hx),(S.cF ae b ed h2).2⟩
end
def k3(w:World)(av:Nat->Prop):List (List bk)->List Value->Prop
 |[],[]=>True
 |ds::r,v::vs=>(∃b,∃cs:List Value,v=.pointer (some ⟨b,0,none⟩)/\¬av b/\b<w.heap.size/\iD w b 0 cs/\dj w av ds cs)/\k3 w av r vs
 |_,_=>False
theorem k3.fn{w:World}{av:Nat->Prop}{g:FuncId}:∀{bM:List (List bk)} {vs:List Value},k3 w av bM vs->bT w av (.fn g bM) (.func (.func g) #[] vs.toArray):=by
 intro bM vs h;have key:∀{bM:List (List bk)} {vs:List Value},k3 w av bM vs->∃oi:List Nat,∃fv:List (List Value),vs=oi.map (fun b=>Value.pointer (some ⟨b,0,none⟩))/\oi.length=bM.length/\fv.length=bM.length/\
   (∀b,b∈oi->¬av b/\b<w.heap.size)/\(∀i (h:i<oi.length) (an:i<fv.length),iD w oi[i] 0 fv[i])/\(∀i (h:i<bM.length) (an:i<fv.length),dj w av bM[i] fv[i]):=by
  intro bM;induction bM with
  |nil=>
   intro vs h;match vs,h with
   |[],_=>exact⟨[],[],rfl,rfl,rfl,fun b h=>by simp at h,fun i h=>by simp at h,fun i h=>by simp at h⟩
  |cons ds bM ih=>
   intro vs h;match vs,h with
   |v::vs,⟨⟨b,cs,h1,h2,h3,aF,bo⟩,cp⟩=>
    obtain⟨oi,fv,aI,aJ,bS,cY,gq,iT⟩:=ih cp;refine⟨b::oi,cs::fv,by simp[h1,aI],by simp[aJ],by simp[bS],fun c hc=>?_,fun i g1 g2=>?_,fun i g1 g2=>?_⟩
    ·rcases bO.1 hc with rfl|hc
     ·exact⟨h2,h3⟩
     ·exact cY c hc
    ·cases i with
     |zero=>exact aF
     |succ i=>exact gq i (by simpa using g1) (by simpa using g2)
    ·cases i with
     |zero=>exact bo
     |succ i=>exact iT i (by simpa using g1) (by simpa using g2)
 obtain⟨oi,fv,aI,aJ,bS,cY,gq,iT⟩:=key h;refine .fn g bM oi (fun i=>fv.getD i []) _ (by rw[aI]) aJ (fun b hb=>(cY b hb).1) (fun b hb=>(cY b hb).2) (fun i hi=>?_) (fun i hi j u hu=>?_) (fun i hi j h1 h2=>?_)
 ·have an:i<fv.length:=by omega
  have:=(iT i hi an).1;simpa[List.getD,an] using this
 ·have an:i<fv.length:=by omega
  have:=gq i hi an j u (by simpa[List.getD,an] using hu)
  simpa using this
 ·have an:i<fv.length:=by omega
  have h2':j<fv[i].length:=by simpa[List.getD,an] using h2
  have:=(iT i hi an).2 j h1 h2';simpa[List.getD,an] using this
theorem k3.WW{w:World}{av:Nat->Prop}{g:FuncId}{bM:List (List bk)}{v:Value}(h:bT w av (.fn g bM) v):∃vs:List Value,v=.func (.func g) #[] vs.toArray/\k3 w av bM vs:=by
 cases h with
 |fn _ _ bs jz lb hlb uW hb hlt hl hc hr=>
  refine⟨bs.map fun b=>Value.pointer (some ⟨b,0,none⟩),by rw[hlb],?_⟩
  have key:∀(bM:List (List bk)) (bs:List Nat) (jz:Nat->List Value),bs.length=bM.length->(∀b,b∈bs->¬av b/\b<w.heap.size)->(∀i (h:i<bM.length),(jz i).length=(bM[i]).length)->
    (∀i (h:i<bs.length) j u,(jz i)[j]? =some u->w.cell? ⟨bs[i],j,none⟩=some u)->(∀i (h:i<bM.length) j (h1:j<(bM[i]).length) (h2:j<(jz i).length),bT w av ((bM[i])[j]) ((jz i)[j]))->
    k3 w av bM (bs.map fun b=>Value.pointer (some ⟨b,0,none⟩)):=by
   intro bM;induction bM with
   |nil=>intro bs jz h _ _ _ _;rw[fP h];trivial
   |cons ds bM ih=>
    intro bs jz h h1 h2 h3 aF;match bs,h with
    |b::bs,h=>
     refine⟨⟨b,jz 0,rfl,(h1 b ci).1,(h1 b ci).2,fun j u hu=>?_,h2 0 (by simp),fun j g1 g2=>aF 0 (by simp) j g1 g2⟩,?_⟩
     ·have:=h3 0 (by simp) j u hu
      simpa using this
     ·exact ih bs (fun i=>jz (i+1)) (by simpa using h) (fun c hc=>h1 c (cf _ hc)) (fun i hi=>h2 (i+1) (by simpa using hi)) (fun i hi j u hu=>h3 (i+1) (by simpa using hi) j u hu)
       (fun i hi j g1 g2=>aF (i+1) (by simpa using hi) j g1 g2)
  exact key bM bs jz uW (fun b h=>⟨hb b h,hlt b h⟩) hl hc hr
section
variable {U:World}{Z:List Nat}{X:Nat->Prop}{F:Nat->Value}{st:ao}{M:Array Value}{w:World}
structure fW(U:World)(Z:List Nat)(X:Nat->Prop)(F:Nat->Value)(st:ao)(M:Array Value)(w:World)(dE:List (Nat×Site))(fp:List Nat)(av:Nat->Prop):Prop where
 fz:lF U Z X F st M w dE
 le:∀b,av b->aN X F (bB st.sites dE) b
 aBz:∀o,o∈fp->∀b,bZ (F o)=some b->¬av b
variable {dE:List (Nat×Site)}{fp:List Nat}{av:Nat->Prop}
theorem fW.lt(L:fW U Z X F st M w dE fp av){b:Nat}(h:av b):b<w.heap.size:=L.fz.new.lt (L.le b h)
theorem fW.sub(L:fW U Z X F st M w dE fp av){b:Nat}(h:av b):aN X F st.sites b:=by
 rcases L.le b h with h|⟨o,⟨ai,h1,h2⟩,h3⟩
 ·exact .inl h
 ·refine .inr ⟨o,?_,h3⟩;rcases ms L.fz.fz o with h|⟨s,t,xs,aF,bo⟩
  ·exact⟨ai,h▸h1,h2⟩
  ·rw[bo] at h1;cases h1;cases h2
theorem fW.rd(L:fW U Z X F st M w dE fp av){d:bk}{v:Value}(h:bT w (aN X F (bB st.sites dE)) d v):bT w av d v:=
 cy.hS (F:=F) (sites:=[]) (a:=one d) (v:=v) L.le (fun b hb=>L.lt hb) h
theorem fW.xL(L:fW U Z X F st M w dE fp av){d:bk}{v:Value}(h:bT w (aN X F st.sites) d v):bT w av d v:=
 cy.hS (F:=F) (sites:=[]) (a:=one d) (v:=v) (fun b hb=>L.sub hb) (fun b hb=>L.lt hb) h
theorem Rv(L:fW U Z X F st M w dE fp av):∀{bM:List (Nat×Nat)} {cs:List (List bk)} {us:List (Nat×Site)} {bs:List Nat} {vs:List Value},lR st bM=some (cs,us,bs)->
  (∀p,p∈us->p∈dE)->(∀o,o∈bs->o∈fp)->vs.length=bM.length->(∀i (h:i<bM.length) (an:i<vs.length),Ref st.sites (bM[i]).1 (bM[i]).2 (vs[i]=F (bM[i]).1))->k3 w av cs vs:=by
 intro bM;induction bM with
 |nil=>
  intro cs us bs vs h _ _ hl _;simp only[lR] at h;cases h;rw[fP hl];trivial
 |cons c bM ih=>
  obtain⟨o,s⟩:=c;intro cs us bs vs h hU eQ hl hr;simp only[lR] at h;split at h
  ·rename_i cells mQ;split at h
   ·rename_i ds u1 rest u2 b2 hq p1;cases h;match vs,hl with
    |v::vs,hl=>
     have kd:=hD mQ;obtain⟨b,T,cur,h1,h2,h3,aF,_,bo⟩:=L.fz.old.sites o _ kd;have hv:v=F o:=Ref.at (hr 0 (by simp) (by simp)) kd rfl
     have ej:=BZ hq ⟨h3,bo⟩ L.fz (fun p hp=>hU p (bp.2 (.inl hp)))
     refine⟨⟨b,cur,by rw[hv,h1],L.aBz o (eQ o ci) b (by rw[h1];rfl),L.fz.old.gd ⟨_,kd,rfl⟩ (by rw[h1];rfl),.row h2,ej.1,fun j g1 g2=>L.rd (ej.2 j g1 g2)⟩,?_⟩
     exact ih p1 (fun p hp=>hU p (bp.2 (.inr hp))) (fun ae b6=>eQ ae (cf _ b6)) (by simpa using hl) (fun i g1 g2=>hr (i+1) (by simpa using g1) (by simpa using g2))
   ·cases h
  ·cases h
theorem IM(L:fW U Z X F st M w dE fp av){l gW:aU}{us:List (Nat×Site)}{bs:List Nat}{v:Value}(h:nO st l=some (gW,us,bs))(hU:∀p,p∈us->p∈dE)(eQ:∀o,o∈bs->o∈fp)
  (hv:eu F st.sites w (aN X F st.sites) l v):nL w av gW v []:=by
 unfold nO at h;split at h
 ·rename_i cells;cases h;obtain⟨b,D,h1,h2,h3,cs,aF,bo,cp⟩:=hv;exact⟨rfl,b,D,h1,fun hx=>h2 (L.sub hx),h3,cs,aF,bo,fun j g1 g2=>L.xL (cp j g1 g2)⟩
 ·rename_i g c cs;split at h
  ·rename_i ds u b hc;cases h;obtain⟨vs,h1,h2,h3⟩:=hv;rw[h1];exact⟨rfl,(Rv L hc hU eQ h2 h3).fn⟩
  ·cases h
 ·split at h
  ·rename_i d u aa;cases h;exact⟨rfl,L.rd (Wj aa hv L.fz hU)⟩
  ·cases h
theorem alG(L:fW U Z X F st M w dE fp av):∀{al gS:List aU} {us:List (Nat×Site)} {bs:List Nat} {vs:List Value},mH st al=some (gS,us,bs)->(∀p,p∈us->p∈dE)->(∀o,o∈bs->o∈fp)->
  cM F st.sites w (aN X F st.sites) al vs->l1 w av gS vs []:=by
 intro al;induction al with
 |nil=>intro gS us bs vs h _ _ hv;simp only[mH] at h;cases h;rw[hv.oF];rfl
 |cons l al ih=>
  intro gS us bs vs h hU eQ hv;simp only[mH] at h;split at h
  ·rename_i a u1 b1 as u2 b2 h1 h2;cases h;obtain⟨v,cH,rfl,qp,qo⟩:=hv.inv;exact⟨[],[],rfl,IM L h1 (fun p hp=>hU p (bp.2 (.inl hp))) (fun p hp=>eQ p (bp.2 (.inl hp))) qp,
    ih h2 (fun p hp=>hU p (bp.2 (.inr hp))) (fun p hp=>eQ p (bp.2 (.inr hp))) qo⟩
  ·cases h
def dz(F:Nat->Value)(gI:List Nat):List Nat:=gI.filterMap fun o=>bZ (F o)
theorem kt{aD:Type}(a b:List (Nat×aD)):keys (a++b)=keys a++keys b:=by
 induction a with
 |nil=>rfl
 |cons p a ih=>simp[keys,ih]
theorem px(a b:List Nat):dz F (a++b)=dz F a++dz F b:=by simp[dz]
def hN(sites:List (Nat×Site))(us:List (Nat×Site)):Prop:=∀o aQ,(o,aQ)∈us->∃ai,look sites o=some ai/\ai.live=true/\aQ=.dead ai.cK
theorem hN.nil{sites:List (Nat×Site)}:hN sites []:=fun _ _ h=>by simp at h
theorem hN.append{sites us vs:List (Nat×Site)}(h:hN sites us)(an:hN sites vs):hN sites (us++vs):=by
 intro o s hm;rcases bp.1 hm with hm|hm
 ·exact h o s hm
 ·exact an o s hm
theorem anM(L:fW U Z X F st M w dE fp av){o s:Nat}{t:bi}{xs:List (den t)}(hl:look st.sites o=some (.row s t xs)):
  ∃e,∃cs:List Value,rowAt w t.kl e (bg t) (F o) xs.length cs/\dj w av (flat t xs) cs:=by
 obtain⟨e,cs,h1,h2⟩:=L.fz.old.sites o _ hl;refine⟨e,cs,h1,by rw[fr];exact h1.1,fun j g1 g2=>L.xL (h2 j g1 g2)⟩
theorem Ak(L:fW U Z X F st M w dE fp av){l gW:aU}{us:List (Nat×Site)}{v:Value}(h:oP st l=some (gW,us))(hv:eu F st.sites w (aN X F st.sites) l v):
  nL w av gW v (dz F (keys us))/\hN st.sites us:=by
 unfold oP at h;split at h
 ·cases h;exact⟨⟨rfl,L.xL hv⟩,.nil⟩
 ·rename_i t;cases h;have hv:v=.slice none 0 0:=hv;subst hv;exact⟨⟨rfl,0,[],⟨by simp,.inl ⟨rfl,rfl⟩⟩,rfl,fun j g=>by simp[flat] at g⟩,.nil⟩
 ·rename_i o s;split at h
  ·rename_i aQ t xs hl;cases hb:aQ.beq s with
   |false=>simp[hb] at h
   |true=>
    simp only[hb,ad,bE,Prod.mk.injEq] at h;obtain⟨rfl,rfl⟩:=h;have hs:=cg hb;subst hs;have hl:look st.sites o=some (.row aQ t xs):=hl;have n5:v=F o:=Ref.at hv.2 hl rfl;obtain⟨e,cs,h1,h2⟩:=anM L hl;refine⟨⟨?_,e,cs,by rw[n5];exact h1,h2⟩,fun ae aC3 hm=>?_⟩
    ·simp only[keys,dz,List.filterMap_cons,List.filterMap_nil,n5];cases bZ (F o)<;>rfl
    ·simp only[List.mem_singleton,Prod.mk.injEq] at hm;obtain⟨rfl,rfl⟩:=hm;exact⟨_,hl,rfl,rfl⟩
  ·rename_i aQ t xs hl;cases hb:aQ.beq s with
   |false=>simp[hb] at h
   |true=>
    simp only[hb,ad,bE,Prod.mk.injEq] at h;obtain⟨rfl,rfl⟩:=h;have hs:=cg hb;subst hs;have hl:look st.sites o=some (.dF aQ t xs):=hl;have n5:v=F o:=Ref.at hv.2 hl rfl;refine⟨⟨rfl,?_⟩,.nil⟩;rw[n5];exact L.xL (L.fz.old.sites o _ hl).1
  ·cases h
 ·cases h;exact⟨⟨rfl,trivial⟩,.nil⟩
 ·cases h;exact⟨⟨rfl,hv⟩,.nil⟩
 ·cases h
theorem Rl{al gS:List aU}{us:List (Nat×Site)}(h:lc st al=some (gS,us))(bU:gS.head?=some .dN):al.head?=some .dN:=by
 cases al with
 |nil=>simp only[lc] at h;cases h;cases bU
 |cons l al=>
  simp only[lc] at h;split at h
  ·rename_i a u1 as u2 h1 h2;cases h;simp only[List.head?_cons,bE] at bU ⊢;subst bU;unfold oP at h1;split at h1<;>try(cases h1;done)
   ·split at h1;all_goals first|cases h1;done|skip
    all_goals
     rename_i aQ t xs _;revert h1
     generalize aQ.beq _=q;intro h1;cases q<;>cases h1
   ·rfl
  ·cases h
theorem Jh(L:fW U Z X F st M w dE fp av):∀{al gS:List aU} {us:List (Nat×Site)} {vs:List Value},lc st al=some (gS,us)->cM F st.sites w (aN X F st.sites) al vs->
  l1 w av gS vs (dz F (keys us))/\hN st.sites us:=by
 intro al;induction al with
 |nil=>intro gS us vs h hv;simp only[lc] at h;cases h;rw[hv.oF];exact⟨rfl,.nil⟩
 |cons l al ih=>
  intro gS us vs h hv;simp only[lc] at h;split at h
  ·rename_i a u1 as u2 h1 h2;cases h;obtain⟨v,cH,rfl,qp,qo⟩:=hv.inv;obtain⟨aI,aJ⟩:=Ak L h1 qp;obtain⟨bS,cY⟩:=ih h2 qo;exact⟨⟨_,_,by rw[kt,px],aI,bS⟩,aJ.append cY⟩
  ·cases h
theorem jE.append{as pg:List Arg}{vs cH:List Value}{bs pf:List Nat}(h:jE w av as vs bs)(an:jE w av pg cH pf):jE w av (as++pg) (vs++cH) (bs++pf):=by
 induction as generalizing vs bs with
 |nil=>
  match vs,h with
  |[],h=>have h:bs=[]:=h;subst h;exact an
 |cons a as ih=>
  match vs,h with
  |v::vs,⟨b1,b2,h1,h2,h3⟩=>exact⟨b1,b2++pf,by rw[h1,List.append_assoc],h2,ih h3⟩
theorem ah4{cs:List (List bk)}{vs:List Value}(h:k3 w av cs vs):jE w av (oH cs) vs []:=by
 induction cs generalizing vs with
 |nil=>
  match vs,h with
  |[],_=>rfl
 |cons ds cs ih=>
  match vs,h with
  |v::vs,⟨⟨b,cur,h1,h2,h3,aF,bo⟩,cp⟩=>
   refine⟨[],[],rfl,⟨rfl,b,0,by rw[h1],h2,h3,cur,by rw[bo.1],fun j u hu=>aF j u hu,bo.2⟩,ih cp⟩
theorem O8{as pg:List Arg}{vs cH:List Value}(hl:as.length=vs.length):ep (as++pg) (vs++cH)=ep as vs++ep pg cH:=by
 induction as generalizing vs with
 |nil=>rw[fP hl.symm];rfl
 |cons a as ih=>
  match vs,hl with
  |v::vs,hl=>
   have:=ih (vs:=vs) (by simpa using hl)
   cases a with
   |av a=>cases v<;>simp[ep,this]
   |fN c=>
    cases v<;>try(simp[ep,this];done)
    rename_i p;cases p<;>simp[ep,this]
theorem ah6(cs:List (List bk))(vs:List Value):ep (oH cs) vs=[]:=by
 induction cs generalizing vs with
 |nil=>cases vs<;>rfl
 |cons c cs ih=>cases vs<;>simp[oH,ep,ih]
theorem jE.length{as:List Arg}{vs:List Value}{bs:List Nat}(h:jE w av as vs bs):as.length=vs.length:=by
 induction as generalizing vs bs with
 |nil=>
  match vs,h with
  |[],_=>rfl
 |cons a as ih=>
  match vs,h with
  |v::vs,⟨_,_,_,_,h⟩=>simp[ih h]
theorem ajv(L:fW U Z X F st M w dE fp av):∀{cQ:List bb} {a:kM} {vs:List Value},jH st cQ=some a->cQ.length=vs.length->
  (∀i (h:i<cQ.length) (an:i<vs.length),cy F st.sites w (aN X F st.sites) (cQ[i]) (vs[i]))->(∀p,p∈a.fe->p∈dE)->(∀o,o∈a.gx->o∈fp)->
  jE w av a.as vs (dz F (keys a.gone))/\hN st.sites a.gone/\ep a.as vs=dz F (keys a.boxes)/\(∀o s,(o,s)∈a.boxes->(o,.dead s)∈a.gone/\∃b,F o=.pointer (some ⟨b,0,none⟩)):=by
 intro cQ;induction cQ with
 |nil=>
  intro a vs h hl _ _ _;simp only[jH] at h;cases h;rw[fP hl.symm];exact⟨rfl,.nil,rfl,fun o s hm=>by simp at hm⟩
 |cons sy cQ ih=>
  intro a vs h hl hv hU eQ;match vs,hl with
  |v::vs,hl=>
   have n4:=hv 0 (by simp) (by simp)
   have hvs:∀i (h:i<cQ.length) (an:i<vs.length),cy F st.sites w (aN X F st.sites) (cQ[i]) (vs[i]):=fun i g1 g2=>hv (i+1) (by simpa using g1) (by simpa using g2)
   have gT:cQ.length=vs.length:=by simpa using hl
   simp only[List.getElem_cons_zero] at n4;unfold jH at h;split at h
   ·cases ‹sy::cQ=[]›
   ·rename_i o s cH cj;cases cj;split at h
    ·rename_i cells r mQ hr;split at h
     ·rename_i cs gone hg;cases h;obtain⟨aI,aJ,bS,cY⟩:=ih hr gT hvs hU eQ;have kd:=hD mQ;obtain⟨b,T,cur,e1,e2,bz,dn,e5⟩:=L.fz.old.box kd n4;have Lr:nK cells T cur b:=by
       obtain⟨b2,eT,_f,q1,q2,_,_,ec,_⟩:=L.fz.old.sites o _ kd;rw[e1] at q1;cases q1;rw[bz] at q2;cases q2;exact ec
      obtain⟨g1,g2⟩:=Jh L hg e5;subst e2;refine⟨⟨b::dz F (keys gone),_,?_,⟨b,rfl,T,cur,_,rfl,bz,dn,fun bU=>Lr (Rl hg bU),g1⟩,aI⟩,?_,?_,?_⟩
      ·show dz F (keys (((o,Site.dead s)::gone)++r.gone))=_;rw[kt,px];congr 1
       simp[keys,dz,e1,bZ]
      ·refine hN.append ?_ aJ;intro ae aQ hm;rcases bO.1 hm with hm|hm
       ·cases hm;exact⟨_,kd,rfl,rfl⟩
       ·exact g2 ae aQ hm
      ·simp[ep,bS,keys,dz,e1,bZ]
      ·intro ae aQ hm;rcases bO.1 hm with hm|hm
       ·cases hm;exact⟨by simp,b,e1⟩
       ·obtain⟨q1,q2⟩:=cY ae aQ hm;exact⟨bp.2 (.inr q1),q2⟩
     ·cases h
    ·cases h
   ·rename_i l cH _ cj;cases cj;split at h
    ·rename_i gW us bs r h1 hr;cases h;obtain⟨aI,aJ,bS,cY⟩:=ih hr gT hvs (fun p hp=>hU p (bp.2 (.inr hp))) (fun p hp=>eQ p (bp.2 (.inr hp)))
     have:=IM L h1 (fun p hp=>hU p (bp.2 (.inl hp))) (fun p hp=>eQ p (bp.2 (.inl hp))) n4
     refine⟨⟨[],_,rfl,this,aI⟩,aJ,?_,cY⟩;cases v<;>simp[ep,bS]
    ·cases h
   ·rename_i al cH cj;cases cj;split at h
    ·rename_i gS us bs r h1 hr;cases h;obtain⟨aI,aJ,bS,cY⟩:=ih hr gT hvs (fun p hp=>hU p (bp.2 (.inr hp))) (fun p hp=>eQ p (bp.2 (.inr hp)))
     obtain⟨nU,e1,e2,bz⟩:=n4;have:=alG L h1 (fun p hp=>hU p (bp.2 (.inl hp))) (fun p hp=>eQ p (bp.2 (.inl hp))) ⟨e2,bz⟩
     refine⟨⟨[],_,rfl,⟨nU,e1,this⟩,aI⟩,aJ,?_,cY⟩;cases v<;>simp[ep,bS]
    ·cases h
   ·cases h
theorem ajN(L:fW U Z X F st M w dE fp av){l gW:aU}{gs us:List (Nat×Site)}{bs:List Nat}{v:Value}(h:pT st l=some (gW,gs,us,bs))(hU:∀p,p∈us->p∈dE)(eQ:∀o,o∈bs->o∈fp)
  (hv:eu F st.sites w (aN X F st.sites) l v):nL w av gW v (dz F (keys gs))/\hN st.sites gs:=by
 unfold pT at h;split at h
 ·split at h
  ·rename_i hg;cases h;exact Ak L hg hv
  ·cases h
 ·cases h;exact Ak (l:=.nil _) (us:=[]) L rfl hv
 ·split at h
  ·rename_i hl;cases h;exact⟨IM L hl hU eQ hv,.nil⟩
  ·cases h
theorem ahM(L:fW U Z X F st M w dE fp av):∀{cQ:List bb} {a:kM} {vs:List Value},mA st cQ=some a->cQ.length=vs.length->
  (∀i (h:i<cQ.length) (an:i<vs.length),cy F st.sites w (aN X F st.sites) (cQ[i]) (vs[i]))->(∀p,p∈a.fe->p∈dE)->(∀o,o∈a.gx->o∈fp)->
  jE w av a.as vs (dz F (keys a.gone))/\hN st.sites a.gone/\ep a.as vs=dz F (keys a.boxes)/\(∀o s,(o,s)∈a.boxes->(o,.dead s)∈a.gone/\∃b,F o=.pointer (some ⟨b,0,none⟩)):=by
 intro cQ;induction cQ with
 |nil=>
  intro a vs h hl _ _ _;simp only[mA] at h;cases h;rw[fP hl.symm];exact⟨rfl,.nil,rfl,fun o s hm=>by simp at hm⟩
 |cons sy cQ ih=>
  intro a vs h hl hv hU eQ;match vs,hl with
  |v::vs,hl=>
   have n4:=hv 0 (by simp) (by simp)
   have hvs:∀i (h:i<cQ.length) (an:i<vs.length),cy F st.sites w (aN X F st.sites) (cQ[i]) (vs[i]):=fun i g1 g2=>hv (i+1) (by simpa using g1) (by simpa using g2)
   have gT:cQ.length=vs.length:=by simpa using hl
   simp only[List.getElem_cons_zero] at n4;unfold mA at h;split at h
   ·cases ‹sy::cQ=[]›
   ·rename_i l cH cj;cases cj;split at h
    ·rename_i gW gs us bs r h1 hr;cases h;obtain⟨aI,aJ,bS,cY⟩:=ih hr gT hvs (fun p hp=>hU p (bp.2 (.inr hp))) (fun p hp=>eQ p (bp.2 (.inr hp)))
     obtain⟨g1,g2⟩:=ajN L h1 (fun p hp=>hU p (bp.2 (.inl hp))) (fun p hp=>eQ p (bp.2 (.inl hp))) n4
     refine⟨⟨_,_,by rw[kt,px],g1,aI⟩,g2.append aJ,?_,fun ae aQ hm=>?_⟩
     ·cases v<;>simp[ep,bS]
     ·obtain⟨q1,q2⟩:=cY ae aQ hm;exact⟨bp.2 (.inr q1),q2⟩
    ·cases h
   ·cases h
theorem P0{b:Bool}(L:fW U Z X F st M w dE fp av){cQ:List bb}{a:kM}{vs:List Value}(h:tc b st cQ=some a)(hl:cQ.length=vs.length)
  (hv:∀i (h:i<cQ.length) (an:i<vs.length),cy F st.sites w (aN X F st.sites) (cQ[i]) (vs[i])) (h1:∀p,p∈a.fe->p∈dE) (h2:∀o,o∈a.gx->o∈fp):
  jE w av a.as vs (dz F (keys a.gone))/\hN st.sites a.gone/\ep a.as vs=dz F (keys a.boxes)/\(∀o s,(o,s)∈a.boxes->(o,.dead s)∈a.gone/\∃b,F o=.pointer (some ⟨b,0,none⟩)):=by
 cases b
 ·exact ajv L h hl hv h1 h2
 ·exact ahM L h hl hv h1 h2
end
end Go.Jk
