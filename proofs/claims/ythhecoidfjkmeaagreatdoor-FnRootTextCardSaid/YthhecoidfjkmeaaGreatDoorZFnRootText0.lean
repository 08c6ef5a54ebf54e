/- FnRootText: decoding a root inverts encoding. (part 1 of 7: JkCore, JkGlob, JkState, JkExec, JkFoot, JkCode, JkTurn, JkOps1, JkOps2, JkOps3, JkOps4, JkOps5, JkOps6, JkOps7, JkOps8, JkOps9, JkOps10, JkOps11, JkOps12, JkOps13, JkOps14, JkOps15, JkOps16, JkOps17,) Conditions: none beyond the statement. -/
import Derived.Calls
import Derived.Below
import Derived.WalkKit
import Derived.Laws.AppendOwn
import Derived.Great.BuildSlice
import Derived.IntWalk
import Derived.Laws.Tables
import Derived.MapKept
import Derived.Laws.BytesArg
import Derived.Lib.ConvBytes
set_option linter.unusedSimpArgs false
set_option linter.unusedVariables false
namespace Go.Jk
abbrev B:=List UInt8
structure aw where
 path:B
 kind:Int
 mode:Int
 text:B
structure bv where
 name:B
 kind:Int
 aX:B
structure aL where
 name:B
 aX:B
 bi:List bv
 bx:List aw
structure avL where
 name:B
 text:B
structure adM where
 name:B
 text:B
structure Source where
 name:B
 sum:B
structure Piece where
 name:B
 e9:B
structure apd where
 name:B
 aX:B
 lets:List adM
 builds:List bv
 runs:List bv
 sources:List Source
 pieces:List Piece
 steps:List B
structure au9 where
 at_:Int
 lines:List B
inductive bf where
 |i64|u8|u32|bool|str|entry|need|pack|file|lt|source|piece|recipe|hunk|tx
 deriving DecidableEq
@[reducible] def den:bf->Type
 |.i64|.u8|.u32=>Int
 |.bool=>Bool
 |.str=>B
 |.entry=>aw
 |.need=>bv
 |.pack=>aL
 |.file=>avL
 |.lt=>adM
 |.source=>Source
 |.piece=>Piece
 |.recipe=>apd
 |.hunk=>au9
 |.tx=>List Bool
inductive bh:Type where
 |int (k:IntKind) (n:Int)
 |bool (b:Bool)
 |str (s:B)
 |sl (t:bf) (xs:List (den t))
 |fn (g:FuncId) (bE:List (List bh))
 |map (t:bf) (es:List (B×den t))
 |err (T:Nat) (D:Option Int)
def enc:(t:bf)->den t->List bh
 |.i64,n=>[.int .i64 n]
 |.u8,n=>[.int .u8 n]
 |.u32,n=>[.int .u32 n]
 |.bool,b=>[.bool b]
 |.str,s=>[.str s]
 |.entry,e=>[.str e.path,.int .i64 e.kind,.int .i64 e.mode,.str e.text]
 |.need,n=>[.str n.name,.int .i64 n.kind,.str n.aX]
 |.pack,p=>[.str p.name,.str p.aX,.sl .need p.bi,.sl .entry p.bx]
 |.file,f=>[.str f.name,.str f.text]
 |.lt,f=>[.str f.name,.str f.text]
 |.source,f=>[.str f.name,.str f.sum]
 |.piece,f=>[.str f.name,.str f.e9]
 |.recipe,r=>[.str r.name,.str r.aX,.sl .lt r.lets,.sl .need r.builds,.sl .need r.runs,.sl .source r.sources,.sl .piece r.pieces,.sl .str r.steps]
 |.hunk,h=>[.int .i64 h.at_,.sl .str h.lines]
 |.tx,b=>[.sl .bool b]
def bd:bf->Nat
 |.i64|.u8|.u32|.bool|.str|.tx=>1
 |.entry=>4
 |.need=>3
 |.pack=>4
 |.file|.lt|.source|.piece|.hunk=>2
 |.recipe=>8
def dec:(t:bf)->List bh->Option (den t)
 |.i64,[.int .i64 n]=>some n
 |.u8,[.int .u8 n]=>some n
 |.u32,[.int .u32 n]=>some n
 |.bool,[.bool b]=>some b
 |.str,[.str s]=>some s
 |.entry,[.str a,.int .i64 k,.int .i64 m,.str b]=>some ⟨a,k,m,b⟩
 |.need,[.str a,.int .i64 k,.str b]=>some ⟨a,k,b⟩
 |.pack,[.str a,.str b,.sl .need ns,.sl .entry es]=>some ⟨a,b,ns,es⟩
 |.file,[.str a,.str b]=>some ⟨a,b⟩
 |.lt,[.str a,.str b]=>some ⟨a,b⟩
 |.source,[.str a,.str b]=>some ⟨a,b⟩
 |.piece,[.str a,.str b]=>some ⟨a,b⟩
 |.recipe,[.str a,.str b,.sl .lt ai,.sl .need bs,.sl .need k3,.sl .source bc,.sl .piece ps,.sl .str ci]=>some ⟨a,b,ai,bs,k3,bc,ps,ci⟩
 |.hunk,[.int .i64 n,.sl .str ai]=>some ⟨n,ai⟩
 |.tx,[.sl .bool b]=>some b
 |_,_=>none
theorem jg:∀(t:bf) (x:den t),(enc t x).length=bd t:=by
 intro t x;cases t<;>rfl
theorem l8(t:bf):0<bd t:=by cases t<;>decide
theorem Bl:∀(t:bf) (ds:List bh) (x:den t),dec t ds=some x->enc t x=ds:=by
 intro t ds x h;unfold dec at h;split at h<;>first|(cases h;rfl)|cases h
def flat(t:bf)(xs:List (den t)):List bh:=xs.flatMap (enc t)
theorem e7(t:bf)(xs:List (den t)):(flat t xs).length=xs.length*bd t:=by
 unfold flat;induction xs with
 |nil=>simp
 |cons x xs ih=>simp[List.flatMap_cons,jg,ih,Nat.add_mul,Nat.add_comm]
theorem sh(t:bf)(xs bj:List (den t)):flat t (xs++bj)=flat t xs++flat t bj:=by
 simp[flat,List.flatMap_append]
theorem flat_get(t:bf)(xs:List (den t))(i j:Nat)(x:den t)(hx:xs[i]? =some x)(hj:j<bd t):
  (flat t xs)[i*bd t+j]? =(enc t x)[j]? :=by
 induction xs generalizing i with
 |nil=>simp at hx
 |cons y bj ih=>
  cases i with
  |zero=>
   simp only[List.getElem?_cons_zero,Option.some.injEq] at hx;subst hx;simp only[Nat.zero_mul,Nat.zero_add,flat,List.flatMap_cons];rw[List.getElem?_append_left (by rw[jg];exact hj)]
  |succ i=>
   simp only[List.getElem?_cons_succ] at hx;have:=ih i hx;simp only[flat,List.flatMap_cons] at this ⊢;rw[List.getElem?_append_right (by rw[jg,Nat.add_mul];omega),jg]
   rw[<-this];congr 1
   rw[Nat.add_mul];omega
theorem akW(t:bf)(xs:List (den t))(i:Nat)(x:den t):
  flat t (xs.set i x)=(flat t xs).take (i*bd t)++(if i<xs.length then enc t x else [])++(flat t xs).drop ((i+1)*bd t):=by
 induction xs generalizing i with
 |nil=>simp[flat]
 |cons y bj ih=>
  cases i with
  |zero=>
   simp only[List.set_cons_zero,flat,List.flatMap_cons,Nat.zero_mul,List.take_zero,List.nil_append,List.length_cons,Nat.zero_lt_succ,if_true,Nat.zero_add,Nat.one_mul];rw[List.drop_append_of_le_length (by rw[jg];omega)]
   rw[show List.drop (bd t) (enc t y)=[] from List.drop_eq_nil_of_le (by rw[jg];exact Nat.le_refl _)]
   rfl
  |succ i=>
   have h:=ih i;simp only[flat] at h;simp only[List.set_cons_succ,flat,List.flatMap_cons,List.length_cons];rw[h];have e1:List.take ((i+1)*bd t) (enc t y++bj.flatMap (enc t))=enc t y++(bj.flatMap (enc t)).take (i*bd t):=by
    rw[List.take_append,List.take_of_length_le (by rw[jg,Nat.add_mul];omega),jg]
    congr 2
    rw[Nat.add_mul];omega
   have e2:List.drop ((i+1+1)*bd t) (enc t y++bj.flatMap (enc t))=(bj.flatMap (enc t)).drop ((i+1)*bd t):=by
    rw[List.drop_append,List.drop_eq_nil_of_le (by rw[jg,Nat.add_mul,Nat.add_mul];omega),jg,List.nil_append]
    congr 1
    rw[Nat.add_mul (i+1) 1];omega
   rw[e1,e2];simp only[Nat.add_lt_add_iff_right,List.append_assoc]
def iF:List Int:=[1116352408,1899447441,3049323471,3921009573,961987163,1508970993,2453635748,2870763221,3624381080,310598401,607225278,1426881987,1925078388,2162078206,2614888103,3248222580,3835390401,4022224774,264347078,604807628,770255983,1249150122,1555081692,1996064986,2554220882,2821834349,2952996808,3210313671,3336571891,3584528711,113926993,338241895,666307205,773529912,1294757372,1396182291,1695183700,1986661051,2177026350,2456956037,2730485921,2820302411,3259730800,3345764771,3516065817,3600352804,4094571909,275423344,430227734,506948616,659060556,883997877,958139571,1322822218,1537002063,1747873779,1955562222,2024104815,2227730452,2361852424,2428436474,2756734187,3204031479,3329325298]
def Xd:List Int:=(List.range 20).map fun i=>((10^i:Nat):Int)
def oj(w:World)(g:Nat)(k:IntKind)(zs:List Int):Prop:=∃T fz,w.heap[g]? =some (.cells (zs.map fun z=>Value.int k z).toArray T fz)
def rK:TypeId:=91
def mF:TypeId:=5
def kW:List Nat:=[0,1]
def nG(w:World):Prop:=oj w 0 .u32 iF/\oj w 1 .u64 Xd
theorem aqN{w w':World}(h:∀b,b∈kW->w'.heap[b]? =w.heap[b]?)(k:nG w):nG w':=by
 obtain⟨⟨NK,f0,h0⟩,⟨df,f1,h1⟩⟩:=k;exact⟨⟨NK,f0,(h 0 (by simp[kW])).trans h0⟩,⟨df,f1,(h 1 (by simp[kW])).trans h1⟩⟩
theorem oj.lt{w:World}{g:Nat}{k:IntKind}{zs:List Int}(h:oj w g k zs):g<w.heap.size:=by
 obtain⟨T,f,h⟩:=h;exact(Array.getElem?_eq_some_iff.1 h).1
theorem ayn{w:World}(k:nG w)(b:Nat)(h:b∈kW):b<w.heap.size:=by
 simp only[kW,List.mem_cons,List.not_mem_nil,or_false] at h;rcases h with rfl|rfl
 ·exact k.1.lt
 ·exact k.2.lt
inductive aR:Type where
 |d (v:bh)
 |nil (t:bf) -- tW nil slice
 |own (o s:Nat) -- tW whole of a row of Cx own
 |ptr (o s off:Nat) -- a pointer aBF a box of Cx own
 |eE (cells:List bh) (off:Nat) -- a pointer ads cells CY acq only read
 |e3 (o s:Nat) (t:bf) (k off:Nat) -- a pointer ads aBf k of a row of Cx own,aw6 cell 'pD
 |clo (g:FuncId) (bE:List (Nat×Nat)) -- a closure over boxes of Cx own
 |cV (v:Value) -- aBE this value
 |fresh (t:bf) (xs:List (den t)) -- a row CY aBl else holds (anp caller and callee alone)
 |dx -- in a aqU first cell:nil,or tW aqU own address (strings.aBh)
 |any
inductive bS:Type where
 |an (l:aR)
 |agg (ai:List aR)
inductive a8:Type where
 |av (a:bS)
 |jX (as:List bS)
inductive Site:Type where
 |box (s:Nat) (cells:List aR)
 |row (s:Nat) (t:bf) (xs:List (den t))
 |dp (s:Nat) (t:bf) (xs:List (den t))
 |map (s:Nat) (t:bf) (es:List (B×den t))
 |dead (s:Nat)
def Site.cy:Site->Nat
 |.box s _|.row s _ _|.dp s _ _|.map s _ _|.dead s=>s
def Site.live:Site->Bool
 |.box _ _|.row _ _ _|.map _ _ _=>true
 |_=>false
def look{aH:Type}:List (Nat×aH)->Nat->Option aH
 |[],_=>none
 |(k,v)::r,n=>bif k.beq n then some v else look r n
def cw{aH:Type}:List (Nat×aH)->Nat->aH->List (Nat×aH)
 |[],n,v=>[(n,v)]
 |(k,w)::r,n,v=>bif k.beq n then(k,v)::r else(k,w)::cw r n v
theorem jV{a b:Nat}(h:¬a=b):a.beq b=false:=by
 cases e:a.beq b
 ·rfl
 ·exact absurd (Nat.eq_of_beq_eq_true e) h
theorem c7{aH:Type}(l:List (Nat×aH))(n m:Nat)(v:aH):look (cw l n v) m=if n=m then some v else look l m:=by
 induction l with
 |nil=>
  simp only[cw,look];by_cases h:n=m
  ·subst h;simp
  ·have:n.beq m=false:=jV h;simp[this,h]
 |cons p l ih=>
  obtain⟨k,w⟩:=p;simp only[cw];by_cases h:k=n
  ·subst h;simp only[Nat.beq_refl,cond_true,look];by_cases hm:k=m
   ·subst hm;simp
   ·have:k.beq m=false:=jV hm;simp[this,hm]
  ·have hb:k.beq n=false:=jV h;simp only[hb,cond_false,look];by_cases hm:k=m
   ·subst hm;have:¬n=k:=fun e=>h e.symm
    simp[this]
   ·have:k.beq m=false:=jV hm;simp[this,ih]
structure al where
 cN:List (Nat×a8)
 sites:List (Nat×Site)
 nt:Nat
def al.get(st:al)(t:Nat):a8:=match look st.cN t with|some v=>v|none=>.av (.an .any)
def al.af(st:al)(o:Nat):Option Site:=look st.sites o
def al.set(st:al)(t:Nat)(v:a8):al:={st with cN:=cw st.cN t v}
def al.iy(st:al)(o:Nat)(s:Site):al:={st with sites:=cw st.sites o s}
@[simp] theorem al.IH(st:al)(t u:Nat)(v:a8):(st.set t v).get u=if t=u then v else st.get u:=by
 unfold al.set al.get;rw[c7];by_cases h:t=u<;>simp[h]
@[simp] theorem al.ajI(st:al)(t o:Nat)(v:a8):(st.set t v).af o=st.af o:=rfl
@[simp] theorem al.aoF(st:al)(t:Nat)(v:a8):(st.set t v).nt=st.nt:=rfl
@[simp] theorem al.af1(st:al)(o u:Nat)(s:Site):(st.iy o s).get u=st.get u:=rfl
@[simp] theorem al.yj(st:al)(o ab:Nat)(s:Site):(st.iy o s).af ab=if o=ab then some s else st.af ab:=by
 unfold al.iy al.af;simp only[c7]
@[simp] theorem al.agP(st:al)(o:Nat)(s:Site):(st.iy o s).nt=st.nt:=rfl
def nK:(t:bf)->den t->Value
 |.i64,n=>.int .i64 n
 |.bool,b=>.bool b
 |_,_=>undef
def gZ(l:B):Value:=.string ⟨l.toArray⟩
def mZ(arr:Array MapEntry):List (Value×Value):=arr.toList.map fun e=>(e.key,e.val)
def kd(t:bf)(es:List (B×den t)):List (Value×Value):=es.map fun p=>(gZ p.1,nK t p.2)
def mg(w:World)(b:Nat)(t:bf)(es:List (B×den t)):Prop:=∃arr clock,w.heap[b]? =some (.map arr clock)/\mZ arr=kd t es
theorem mg.of{w w':World}{b:Nat}{t:bf}{es:List (B×den t)}(h:w'.heap[b]? =w.heap[b]?)(m:mg w b t es):mg w' b t es:=by
 obtain⟨arr,c,h1,h2⟩:=m;exact⟨arr,c,h.trans h1,h2⟩
theorem mg.lt{w:World}{b:Nat}{t:bf}{es:List (B×den t)}(m:mg w b t es):b<w.heap.size:=by
 obtain⟨arr,c,h1,h2⟩:=m;rcases Nat.lt_or_ge b w.heap.size with h|h
 ·exact h
 ·rw[Array.getElem?_eq_none h] at h1;cases h1
inductive bK(w:World)(av:Nat->Prop):bh->Value->Prop where
 |int (k:IntKind) (n:Int):bK w av (.int k n) (.int k n)
 |bool (b:Bool):bK w av (.bool b) (.bool b)
 |str (l:B) (s:ByteArray) (h:s.data.toList=l):bK w av (.str l) (.string s)
 |nil (t:bf):bK w av (.sl t []) (.slice none 0 0)
 |sl (t:bf) (xs:List (den t)) (a:Addr) (cap:Nat) (cs:List Value) (n:Nat) (hn:n=xs.length) (hcap:n<=cap) (hb:xs≠[]->¬av a.block)
   (hl:cs.length=(flat t xs).length)
   (hc:∀j u,cs[j]? =some u->w.cell? (a.add j)=some u)
   (hr:∀j (h:j<(flat t xs).length) (ak:j<cs.length),bK w av ((flat t xs)[j]) (cs[j])):bK w av (.sl t xs) (.slice (some a) n cap)
 |fn (g:FuncId) (bE:List (List bh)) (bs:List Nat) (jd:Nat->List Value) (lb:Array Value) (hlb:lb=(bs.map fun b=>Value.pointer (some ⟨b,0,none⟩)).toArray) (uo:bs.length=bE.length)
   (hb:∀b,b∈bs->¬av b) (hlt:∀b,b∈bs->b<w.heap.size)
   (hl:∀i (h:i<bE.length),(jd i).length=(bE[i]).length)
   (hc:∀i (h:i<bs.length) j u,(jd i)[j]? =some u->w.cell? ⟨bs[i],j,none⟩=some u)
   (hr:∀i (h:i<bE.length) j (h1:j<(bE[i]).length) (h2:j<(jd i).length),bK w av ((bE[i])[j]) ((jd i)[j])):
   bK w av (.fn g bE) (.func (.func g) #[] lb)
 |wK (t:bf):bK w av (.map t []) (.map none)
 |map (t:bf) (es:List (B×den t)) (b:Nat) (hb:¬av b) (hm:mg w b t es):bK w av (.map t es) (.map (some b))
 |wV (T:TypeId):bK w av (.err T none) .nilIface
 |err (T:TypeId) (n:Int):bK w av (.err T (some n)) (.iface T (.agg #[.int .i64 n]))
theorem bK.jI{w:World}{av:Nat->Prop}{d:bh}{v:Value}(r:bK w av d v):v.oneCell'=true:=by
 cases r<;>rfl
def Dk(v:Value):Prop:=v=.slice none 0 0\/∃b n c,v=.slice (some ⟨b,0,none⟩) n c
def bQ:Value->Option Nat
 |.slice (some a) _ _=>some a.block
 |.pointer (some a)=>some a.block
 |.map (some b)=>some b
 |_=>none
section
variable (F:Nat->Value)(sites:List (Nat×Site))(w:World)(av:Nat->Prop)
def Ref(o s:Nat)(p:Prop):Prop:=∃af,look sites o=some af/\s<=af.cy/\(af.cy=s->p)
def eb:aR->Value->Prop
 |.d x,v=>bK w av x v
 |.nil _,v=>v=.slice none 0 0
 |.own o s,v=>v.oneCell'=true/\Ref sites o s (v=F o)
 |.ptr o s off,v=>∃b,v=.pointer (some ⟨b,off,none⟩)/\Ref sites o s (F o=.pointer (some ⟨b,0,none⟩))
 |.eE cells off,v=>∃b D,v=.pointer (some ⟨b,D+off,none⟩)/\¬av b/\b<w.heap.size/\∃cs:List Value,cs.length=cells.length/\(∀j u,cs[j]? =some u->w.cell? ⟨b,D+j,none⟩=some u)/\
   ∀j (h:j<cells.length) (ak:j<cs.length),bK w av (cells[j]) (cs[j])
 |.e3 o s t k off,v=>∃b,v=.pointer (some ⟨b,k*bd t+off,none⟩)/\Ref sites o s (∃n c,F o=.slice (some ⟨b,0,none⟩) n c)
 |.clo g bE,v=>∃vs:List Value,v=.func (.func g) #[] vs.toArray/\vs.length=bE.length/\∀i (h:i<bE.length) (ak:i<vs.length),Ref sites (bE[i]).1 (bE[i]).2 (vs[i]=F (bE[i]).1)
 |.cV u,v=>v=u
 |.fresh _ _,_=>False
 |.dx,_=>True
 |.any,_=>True
def bf.jZ:bf->Bool
 |.u8=>true
 |_=>false
def nn(u:Bool)(e:TypeId)(cur:Array Value)(fz:Nat×Nat):Prop:=(u=true->e=mF)/\(fz=(0,0)\/u=true/\cur.size<=fz.1)
def rowAt(w:World)(u:Bool)(e:TypeId)(size:Nat)(v:Value)(n:Nat)(xs:List Value):Prop:=
 xs.length=n*size/\((v=.slice none 0 0/\n=0)\/
  ∃g cap cur fz,v=.slice (some ⟨g,0,none⟩) n cap/\nn u e cur fz/\w.heap[g]? =some (.cells cur e fz)/\n<=cap/\cap<=maxLen/\cur.size=cap*size/\cur.toList.take (n*size)=xs)
theorem FC(w:World)(u:Bool)(e:TypeId)(size:Nat):rowAt w u e size (.slice none 0 0) 0 []:=⟨by simp,.inl ⟨rfl,rfl⟩⟩
def nf(cells:List aR)(T:TypeId)(cur:List Value)(b:Nat):Prop:=cells.head?=some .dx->T=rK/\(cur.head?=some (.pointer none)\/cur.head?=some (.pointer (some ⟨b,0,none⟩)))
def hh:bS->Value->Prop
 |.an l,v=>eb F sites w av l v
 |.agg ai,v=>∃vs:List Value,v=.agg vs.toArray/\vs.length=ai.length/\∀j (h:j<ai.length) (ak:j<vs.length),eb F sites w av (ai[j]) (vs[j])
def ck:a8->Value->Prop
 |.av a,v=>hh F sites w av a v
 |.jX as,v=>∃vs:List Value,v=.tuple vs.toArray/\vs.length=as.length/\∀j (h:j<as.length) (ak:j<vs.length),hh F sites w av (as[j]) (vs[j])
def kc(o:Nat):Site->Prop
 |.box _ cells=>∃b T,∃cur:List Value,F o=.pointer (some ⟨b,0,none⟩)/\w.heap[b]? =some (.cells cur.toArray T (0,0))/\cur.length=cells.length/\
   (∀u∈cur,u.oneCell'=true)/\nf cells T cur b/\∀j (h:j<cells.length) (ak:j<cur.length),eb F sites w av (cells[j]) (cur[j])
 |.row _ t xs=>∃e,∃cs:List Value,rowAt w t.jZ e (bd t) (F o) xs.length cs/\∀j (h:j<(flat t xs).length) (ak:j<cs.length),bK w av ((flat t xs)[j]) (cs[j])
 |.dp _ t xs=>bK w av (.sl t xs) (F o)/\Dk (F o)
 |.map _ t es=>∃b,F o=.map (some b)/\mg w b t es
 |.dead _=>True
end
def cq(sites:List (Nat×Site))(o:Nat):Prop:=∃af,look sites o=some af/\af.live=true
def aJ(X:Nat->Prop)(F:Nat->Value)(sites:List (Nat×Site))(b:Nat):Prop:=X b\/∃o,cq sites o/\bQ (F o)=some b
structure Fr(Y:List Nat)(U w:World):Prop where
 os:w.os=U.os
 tape:w.tape=U.tape
 output:w.output=U.output
 size:U.heap.size<=w.heap.size
 block:∀b,b<U.heap.size->b∉Y->w.heap[b]? =U.heap[b]?
theorem Fr.refl(Y:List Nat)(w:World):Fr Y w w:=⟨rfl,rfl,rfl,Nat.le_refl _,fun _ _ _=>rfl⟩
structure iP(w:World)(Y:List Nat)(X:Nat->Prop):Prop where
 ok:nG w
 Y:∀b,b∈kW->b∉Y
 X:∀b,b∈kW->¬X b
 lt:∀b,b∈kW->b<w.heap.size
theorem iP.less{w:World}{Y:List Nat}{X X':Nat->Prop}(G:iP w Y X)(h:∀b,b∈kW->X' b->X b):iP w Y X':=⟨G.ok,G.Y,fun b hb hx=>G.X b hb (h b hb hx),G.lt⟩
theorem iP.aqs{w:World}{Y:List Nat}{X X':Nat->Prop}(G:iP w Y X)(h:∀b,X' b->X b\/b∈Y):iP w Y X':=⟨G.ok,G.Y,fun b hb hx=>(h b hx).elim (G.X b hb) (G.Y b hb),G.lt⟩
structure aq(U:World)(Y:List Nat)(X:Nat->Prop)(F:Nat->Value)(st:al)(M:Array Value)(w:World):Prop where
 nt:M.size=st.nt
 cN:∀t,ck F st.sites w (aJ X F st.sites) (st.get t) (M.getD t undef)
 sites:∀o af,look st.sites o=some af->kc F st.sites w (aJ X F st.sites) o af
 eh:∀o ab b,cq st.sites o->cq st.sites ab->bQ (F o)=some b->bQ (F ab)=some b->o=ab
 ct:∀o b,cq st.sites o->bQ (F o)=some b->¬X b/\(b∈Y\/U.heap.size<=b)
 frame:Fr Y U w
 old:∀b,X b->b<w.heap.size
 e9:iP U Y X
inductive cg:Type where
 |none
 |int (k:IntKind)
 |bool
 |str
 |ptr
 |func
 |slice (e:TypeId) (t:bf) (bytes:Nat)
 |struct (bR:List (Nat×Nat)) (n:Nat) (z:List aR) (eq:Bool)
 |map (k e:TypeId) (t:bf)
 |arr (e:TypeId) (t:bf) (n:Nat)
 |iface
def xX:(t:bf)->Option (den t)
 |.i64|.u8|.u32=>some (0:Int)
 |.bool=>some false
 |.str=>some ([]:B)
 |_=>none
def tT:bf->Option aR
 |.i64=>some (.d (.int .i64 0))
 |.u8=>some (.d (.int .u8 0))
 |.u32=>some (.d (.int .u32 0))
 |.bool=>some (.d (.bool false))
 |.str=>some (.d (.str []))
 |_=>none
def cg.agg:cg->Bool
 |.struct _ _ _ _|.arr _ _ _=>true
 |_=>false
def cg.known:cg->Bool
 |.none=>false
 |_=>true
def cg.size:cg->Nat
 |.struct _ n _ _=>n
 |.arr _ _ n=>n
 |_=>1
def cg.zero:cg->Option (List aR)
 |.none=>Option.none
 |.int k=>some [.d (.int k 0)]
 |.bool=>some [.d (.bool false)]
 |.str=>some [.d (.str [])]
 |.ptr=>some [.cV (.pointer Option.none)]
 |.func=>some [.cV .nilFunc]
 |.slice _ t _=>some [.nil t]
 |.struct _ _ z _=>some z
 |.map _ _ _=>some [.cV (.map Option.none)]
 |.arr _ t n=>(tT t).map (List.replicate n)
 |.iface=>some [.cV .nilIface]
inductive Arg:Type where
 |av (a:bS)
 |fs (cells:List aR)
structure wY:Type 1 where
 J:Type
 comp:Option J
 fs:J->List (List aR)
 fl:J->List bS
abbrev aD:=List Arg->wY
def wY.fail:wY:=⟨Unit,Option.none,fun _=>[],fun _=>[]⟩
structure Ctx:Type 1 where
 tt:TypeId->cg
 bR:FuncId->Option aD
 lS:FuncId->Option FuncId:=fun _=>none
 nL:FuncId->Bool:=fun _=>false
 op:FuncId->Bool:=fun _=>false
 kt:FuncId->Bool:=fun _=>false -- a ai9 copy check
 bs:FuncId->Bool:=fun _=>false -- a ai9 String
 gt:Nat->Option ((t:bf)×List (den t)):=fun _=>none -- tW aBc tables
structure dk:Type 1 where
 J:Type
 comp:Option J
 val:J->a8
 us:J->List (Nat×Site)
 rL:J->Bool
def dk.fail:dk:=⟨Unit,Option.none,fun _=>.av (.an .any),fun _=>[],fun _=>false⟩
def dk.ok(v:a8):dk:=⟨Unit,some (),fun _=>v,fun _=>[],fun _=>true⟩
def dk.fF(v:a8)(us:List (Nat×Site)):dk:=⟨Unit,some (),fun _=>v,fun _=>us,fun _=>true⟩
def dk.ey{J:Type}(c:Option J)(f:J->a8):dk:=⟨J,c,f,fun _=>[],fun _=>true⟩
def dk.hT{J:Type}(c:Option J)(f:J->a8)(us:J->List (Nat×Site)):dk:=⟨J,c,f,us,fun _=>true⟩
def aO{aH:Type}(xs:List aH)(i:Int):Option aH:=if 0<=i then xs[i.toNat]? else none
def be(n:Nat)(i:Int):Option Nat:=if 0<=i/\i<n then some i.toNat else none
def bm{aH:Type}(xs:List aH)(cW hi:Int):Option (List aH):=if 0<=cW/\cW<=hi/\hi<=xs.length then some ((xs.take hi.toNat).drop cW.toNat) else none
def room:Nat:=140737488355328
def b9{aH:Type}(bytes:Nat)(xs bj:List aH):Option (List aH):=if(xs.length+bj.length)*bytes<=room/\xs.length+bj.length<=maxLen then some (xs++bj) else none
def bZ(s t:B):Option B:=if((s.length+t.length:Nat):Int)>IntKind.i64.max then none else some (s++t)
def lE(k:IntKind)(x y:Int):Option Int:=if y=0 then none else some (k.wrap (x.tdiv y))
def iG(x y:Int):Option Int:=if y=0 then none else some (x.tmod y)
def lD(k:IntKind)(x y:Int):Option Int:=if y<0 then none else some (k.wrap (x*2^(min y.toNat k.bits)))
def fh(k:IntKind)(x y:Int):Option Int:=if y<0 then none else some (x.fdiv (2^(min y.toNat k.bits)))
def jY{aH:Type}(bytes:Nat)(n c:Int)(z:aH):Option (List aH):=if 0<=n/\n<=c/\c*bytes<=room/\c<=maxLen then some (List.replicate n.toNat z) else none
def gJ(x y:Int):Int:=if y>x then y else x
def lF(x y:Int):Int:=if y<x then y else x
def eF(k:IntKind)(x y:Int):Int:=k.wrap (BitVec.ofInt k.bits x &&& BitVec.ofInt k.bits y).toNat
def h4(k:IntKind)(x y:Int):Int:=k.wrap (BitVec.ofInt k.bits x ||| BitVec.ofInt k.bits y).toNat
def dl(k:IntKind)(x y:Int):Int:=k.wrap (BitVec.ofInt k.bits x ^^^ BitVec.ofInt k.bits y).toNat
def bytesOf(s:B):List Int:=s.map fun b=>(b.toNat:Int)
def strOf(xs:List Int):B:=xs.map fun n=>UInt8.ofNat n.toNat
abbrev one(d:bh):a8:=.av (.an (.d d))
abbrev b7(l:aR):a8:=.av (.an l)
def vJ(ti:cg):Value->a8
 |.int k n=>one (.int k n)
 |.bool b=>one (.bool b)
 |.string s=>one (.str s.data.toList)
 |.slice none 0 0=>match ti with|.slice _ t _=>b7 (.nil t)|_=>b7 (.cV (.slice none 0 0))
 |.map none=>match ti with|.map _ _ t=>one (.map t [])|_=>b7 (.cV (.map none))
 |.agg _|.tuple _=>b7 .any
 |v=>b7 (.cV v)
def bg(C:Ctx)(st:al)(T:TypeId):Operand->a8
 |.tmp t=>st.get t
 |.const v=>vJ (C.tt T) v
 |.global g=>b7 (.cV (.pointer (some ⟨g,0,none⟩)))
 |.func f=>b7 (.clo f [])
def rowOf(st:al)(o s:Nat):Option ((t:bf)×List (den t)):=
 match st.af o with
 |some (.row aN t xs)=>bif aN.beq s then some ⟨t,xs⟩ else none
 |some (.dp aN t xs)=>bif aN.beq s then some ⟨t,xs⟩ else none
 |_=>none
def fM(st:al)(o s:Nat):Option (List aR):=
 match st.af o with
 |some (.box aN cells)=>bif aN.beq s then some cells else none
 |_=>none
def mapOf(st:al):aR->Option ((t:bf)×List (B×den t))
 |.d (.map t es)=>some ⟨t,es⟩
 |.own o s=>match st.af o with
  |some (.map aN t es)=>bif aN.beq s then some ⟨t,es⟩ else none
  |_=>none
 |_=>none
def kz{aH:Type}:List (B×aH)->B->Option aH
 |[],_=>none
 |(k,v)::r,n=>bif k==n then some v else kz r n
def ph{aH:Type}:List (B×aH)->B->aH->List (B×aH)
 |[],n,v=>[(n,v)]
 |(k,w)::r,n,v=>bif k==n then(k,v)::r else(k,w)::ph r n v
def Kl:(t:bf)->bh->Option (den t)
 |.i64,.int .i64 n=>some n
 |.bool,.bool b=>some b
 |_,_=>none
def wz:(t:bf)->Option (den t)->Option bh
 |.i64,D=>some (.int .i64 (D.getD 0))
 |.bool,D=>some (.bool (D.getD false))
 |_,_=>none
def bw(st:al)(o:Nat):Nat:=match st.af o with|some x=>x.cy+1|none=>0
def mn(st:al)(o s:Nat)(t:bf)(xs:List (den t)):List (Nat×Site):=match st.af o with
 |some (.dp _ _ _)=>[]
 |_=>[(o,.dp s t xs)]
def j4(st:al):aR->Option (bh×List (Nat×Site))
 |.d v=>some (v,[])
 |.nil t=>some (.sl t [],[])
 |.own o s=>match rowOf st o s with|some ⟨t,xs⟩=>some (.sl t xs,mn st o s t xs)|none=>none
 |.clo g []=>some (.fn g [],[])
 |_=>none
def f_(st:al):List aR->Option (List bh×List (Nat×Site))
 |[]=>some ([],[])
 |l::ai=>match j4 st l,f_ st ai with
  |some (d,us),some (ds,vs)=>some (d::ds,us++vs)
  |_,_=>none
def bS.cells:bS->List aR
 |.an l=>[l]
 |.agg ai=>ai
def aR.storable:aR->Bool
 |.any|.dx|.fresh _ _|.eE _ _|.e3 _ _ _ _ _=>false
 |.cV (.agg _)|.cV (.tuple _)=>false
 |_=>true
def hK:List aR->Bool
 |[]=>true
 |l::ai=>l.storable&&hK ai
def cut(agg:Bool)(off n:Nat)(ai:List aR):Option a8:=
 bif agg then(bif Nat.ble (off+n) ai.length then some (.av (.agg ((ai.drop off).take n))) else none)
 else match ai.drop off with|l::_=>some (b7 l)|[]=>none
def cG(ds:List bh):List aR:=ds.map .d
def bP{aH:Type}(old:List aH)(off:Nat)(new:List aH):List aH:=old.take off++new++old.drop (off+new.length)
def BS:bh->bh->Option Bool
 |.int k a,.int k' b=>if k=k' then some (a==b) else none
 |.bool a,.bool b=>some (a==b)
 |.str a,.str b=>some (a==b)
 |_,_=>none
def vK:List aR->List aR->Option Bool
 |[.d a],[.d b]=>BS a b
 |.d a::as,.d b::bs=>match BS a b,vK as bs with
  |some x,some y=>some (x&&y)
  |_,_=>none
 |_,_=>none
def Wr(op:BinOp)(k:IntKind)(x y:Int):dk:=
 match op with
 |.add=>.ok (one (.int k (k.wrap (x+y))))
 |.sub=>.ok (one (.int k (k.wrap (x-y))))
 |.mul=>.ok (one (.int k (k.wrap (x*y))))
 |.quo=>.ey (lE k x y) fun n=>one (.int k n)
 |.rem=>.ey (iG x y) fun n=>one (.int k n)
 |.and=>.ok (one (.int k (eF k x y)))
 |.or=>.ok (one (.int k (h4 k x y)))
 |.xor=>.ok (one (.int k (dl k x y)))
 |.eql=>.ok (one (.bool (x==y)))
 |.neq=>.ok (one (.bool (x !=y)))
 |.lss=>.ok (one (.bool (decide (x<y))))
 |.leq=>.ok (one (.bool (decide (x<=y))))
 |.gtr=>.ok (one (.bool (decide (x>y))))
 |.geq=>.ok (one (.bool (decide (x>=y))))
 |_=>.fail
def V7(op:BinOp)(s t:B):dk:=
 match op with
 |.add=>.ey (bZ s t) fun r=>one (.str r)
 |.eql=>.ok (one (.bool (s==t)))
 |.neq=>.ok (one (.bool (!(s==t))))
 |.lss=>.ok (one (.bool (Op.bytesLess s t)))
 |.leq=>.ok (one (.bool (Op.bytesLess s t||s==t)))
 |.gtr=>.ok (one (.bool (!(Op.bytesLess s t||s==t))))
 |.geq=>.ok (one (.bool (!(Op.bytesLess s t))))
 |_=>.fail
def UY(op:BinOp)(k:IntKind)(a:Int)(k':IntKind)(b:Int):dk:=
 match op with
 |.shl=>.ey (lD k a b) fun n=>one (.int k n)
 |.shr=>.ey (fh k a b) fun n=>one (.int k n)
 |op=>if k=k' then Wr op k a b else .fail
def VA(op:BinOp)(ti:cg)(a b:Bool):dk:=
 match ti with
 |.bool=>match op with
  |.eql=>.ok (one (.bool (a==b)))
  |.neq=>.ok (one (.bool (!(a==b))))
  |_=>.fail
 |_=>.fail
def re:List aR->List aR->Bool
 |[],[]=>true
 |.d (.int _ _)::z,.d (.int _ _)::l=>re z l
 |.d (.bool _)::z,.d (.bool _)::l=>re z l
 |.d (.str _)::z,.d (.str _)::l=>re z l
 |_,_=>false
def WJ(op:BinOp)(ti:cg)(xs bj:List aR):dk:=
 match ti with
 |.struct _ n z true=>bif xs.length.beq n&&re z xs then
   match vK xs bj with
   |some b=>match op with
    |.eql=>.ok (one (.bool b))
    |.neq=>.ok (one (.bool (!b)))
    |_=>.fail
   |none=>.fail
  else .fail
 |_=>.fail
def CL(op:BinOp)(ti:cg)(D:Option Int):dk:=
 match ti with
 |.iface=>match op with
  |.eql=>.ok (one (.bool D.isNone))
  |.neq=>.ok (one (.bool D.isSome))
  |_=>.fail
 |_=>.fail
def BW:Operand->Bool
 |.const .nilIface=>true
 |_=>false
def JP(op:BinOp)(ti:cg):a8->dk
 |.av (.an (.d (.err _ D)))=>CL op ti D
 |.av (.an (.cV .nilIface))=>CL op ti none
 |_=>.fail
def K5(op:BinOp)(ti:cg)(x y:a8):dk:=
 match x,y with
 |.av (.an (.d (.int k a))),.av (.an (.d (.int k' b)))=>UY op k a k' b
 |.av (.an (.d (.str s))),.av (.an (.d (.str t)))=>V7 op s t
 |.av (.an (.d (.bool a))),.av (.an (.d (.bool b)))=>VA op ti a b
 |.av (.agg xs),.av (.agg bj)=>WJ op ti xs bj
 |_,_=>.fail
def to(agg:Bool)(n:Nat)(st:al)(a:a8):dk:=
 match a with
 |.av (.an (.ptr o s off))=>match fM st o s with
  |some cells=>match cut agg off n cells with|some v=>.ok v|none=>.fail
  |none=>.fail
 |.av (.an (.eE cells off))=>match cut agg off n (cG cells) with|some v=>.ok v|none=>.fail
 |.av (.an (.e3 o s u k off))=>match rowOf st o s with
  |some ⟨t,xs⟩=>if t=u/\off+n<=bd t then .ey (xs[k]?) fun x=>match cut agg off n (cG (enc t x)) with|some v=>v|none=>b7 .any else .fail
  |none=>.fail
 |_=>.fail
def sU(n:Nat)(st:al)(a:a8)(v:bS):dk:=
 bif v.cells.length.beq n then
 match a with
 |.av (.an (.ptr o s off))=>match fM st o s with
  |some cells=>bif Nat.ble (off+n) cells.length&&hK v.cells then .fF (b7 (.cV undef)) [(o,.box s (bP cells off v.cells))] else .fail
  |none=>.fail
 |.av (.an (.e3 o s u k off))=>match st.af o with
  |some (.row aN t xs)=>bif aN.beq s&&Nat.ble (off+n) (bd t)&&decide (t=u) then
    match f_ st v.cells with
    |some (ds,us)=>bif(look us o).isNone then .hT ((xs[k]?).bind fun x=>dec t (bP (enc t x) off ds)) (fun _=>b7 (.cV undef)) fun x=>us++[(o,.row s t (xs.set k x))] else .fail
    |none=>.fail
   else .fail
  |_=>.fail
 |_=>.fail
 else .fail
def sk(u:bf)(st:al)(x:a8)(i:Int):dk:=
 match x with
 |.av (.an (.d (.sl t xs)))=>if t=u then .ey (aO xs i) fun x=>b7 (.eE (enc t x) 0) else .fail
 |.av (.an (.own o s))=>match rowOf st o s with
  |some ⟨t,xs⟩=>if t=u then .ey (be xs.length i) fun k=>b7 (.e3 o s t k 0) else .fail
  |none=>.fail
 |_=>.fail
def Fa(off:Nat):a8->dk
 |.av (.an (.ptr o s D))=>.ok (b7 (.ptr o s (D+off)))
 |.av (.an (.eE cells D))=>.ok (b7 (.eE cells (D+off)))
 |.av (.an (.e3 o s t k D))=>.ok (b7 (.e3 o s t k (D+off)))
 |_=>.fail
def iS(lJ:Int):Option a8->Option Int
 |none=>some lJ
 |some (.av (.an (.d (.int _ n))))=>some n
 |some _=>none
def sX(ti:cg)(st:al)(x:a8)(cW hi:Option a8):dk:=
 match x with
 |.av (.an (.d (.str s)))=>match ti,iS 0 cW,iS s.length hi with
  |.str,some l,some h=>.ey (bm s l h) fun r=>one (.str r)
  |_,_,_=>.fail
 |.av (.an (.d (.sl t xs)))=>match ti,iS 0 cW,iS xs.length hi with
  |.slice _ u _,some l,some h=>if t=u then .ey (bm xs l h) fun r=>one (.sl t r) else .fail
  |_,_,_=>.fail
 |.av (.an (.nil t))=>match ti,iS 0 cW,iS 0 hi with
  |.slice _ _ _,some l,some h=>.ey (bm ([]:List (den t)) l h) fun r=>one (.sl t r)
  |_,_,_=>.fail
 |.av (.an (.own o s))=>match rowOf st o s with
  |some ⟨t,xs⟩=>match ti,iS 0 cW,iS xs.length hi with
   |.slice _ u _,some l,some h=>if t=u then .hT (bm xs l h) (fun r=>one (.sl t r)) fun _=>mn st o s t xs else .fail
   |_,_,_=>.fail
  |none=>.fail
 |_=>.fail
def tF(ti:cg)(st:al)(x:a8):dk:=
 match ti,x with
 |.str,.av (.an (.d (.str s)))=>.ok (one (.int .i64 s.length))
 |.slice _ _ _,.av (.an (.d (.sl _ xs)))=>.ok (one (.int .i64 xs.length))
 |.slice _ _ _,.av (.an (.nil _))=>.ok (one (.int .i64 0))
 |.slice _ _ _,.av (.an (.own o s))=>match rowOf st o s with
  |some ⟨_,xs⟩=>.ok (one (.int .i64 xs.length))
  |none=>.fail
 |.map _ _ _,.av (.an l)=>match mapOf st l with
  |some ⟨_,es⟩=>.ok (one (.int .i64 es.length))
  |none=>.fail
 |_,_=>.fail
def th(st:al):a8->Option bh
 |.av (.an (.d (.sl t xs)))=>some (.sl t xs)
 |.av (.an (.d (.str s)))=>some (.str s)
 |.av (.an (.nil t))=>some (.sl t [])
 |.av (.an (.own o s))=>match rowOf st o s with|some ⟨t,xs⟩=>some (.sl t xs)|none=>none
 |_=>none
def qL(bytes:Nat)(t:bf)(dst:Nat)(st:al)(s:a8)(bj:List (den t)):dk:=
 match s with
 |.av (.an (.nil _))=>.hT (b9 bytes [] bj) (fun _=>b7 (.own dst (bw st dst))) fun r=>[(dst,.row (bw st dst) t r)]
 |.av (.an (.own o s))=>match st.af o with
  |some (.row aN bo xs)=>bif aN.beq s then
    if ak:bo=t then .hT (b9 bytes (ak▸xs:List (den t)) bj) (fun _=>b7 (.own dst (bw (st.iy o (.dead s)) dst)))
     fun r=>[(o,.dead s),(dst,.row (bw (st.iy o (.dead s)) dst) t r)]
    else .fail
   else .fail
  |_=>.fail
 |_=>.fail
def sS(bytes:Nat)(t:bf)(dst:Nat)(st:al)(s x:a8):dk:=
 match th st x with
 |none=>.fail
 |some d=>match d with
  |.sl u bj=>if h:u=t then qL bytes t dst st s (h▸bj:List (den t)) else .fail
  |_=>.fail
def sT(bytes:Nat)(t:bf)(dst:Nat)(st:al)(s x:a8):dk:=
 match x with
 |.av (.an (.d (.str y)))=>if h:t=.u8 then qL bytes t dst st s (h▸(bytesOf y:List (den .u8))) else .fail
 |_=>.fail
def lK(t:bf)(st:al):List bS->Option (List (den t)×List (Nat×Site))
 |[]=>some ([],[])
 |a::as=>match f_ st a.cells with
  |some (ds,us)=>match dec t ds,lK t st as with
   |some x,some (xs,vs)=>some (x::xs,us++vs)
   |_,_=>none
  |none=>none
def mq:a8->Option bS
 |.av a=>some a
 |.jX _=>none
def oi:List a8->Option (List bS)
 |[]=>some []
 |v::vs=>match mq v,oi vs with|some a,some as=>some (a::as)|_,_=>none
def sK:Nat->List (Nat×Operand)->Bool
 |_,[]=>true
 |n,(i,_)::r=>i.beq n&&sK (n+1) r
def isByte:cg->Bool
 |.int .u8=>true
 |_=>false
def tw(C:Ctx)(src dst:TypeId)(o:Nat)(st:al)(x:a8):dk:=
 match C.tt src,C.tt dst,x with
 |.none,_,_=>.fail
 |_,.int k,.av (.an (.d (.int _ n)))=>.ok (one (.int k (k.wrap n)))
 |_,.str,.av (.an (.d (.str s)))=>.ok (one (.str s))
 |.slice e .u8 _,.str,.av (.an (.d (.sl .u8 xs)))=>bif isByte (C.tt e) then .ok (one (.str (strOf xs))) else .fail
 |.slice e .u8 _,.str,.av (.an (.nil _))=>bif isByte (C.tt e) then .ok (one (.str [])) else .fail
 |.slice e .u8 _,.str,.av (.an (.own ab s))=>match rowOf st ab s with
  |some ⟨.u8,xs⟩=>bif isByte (C.tt e) then .ok (one (.str (strOf xs))) else .fail
  |_=>.fail
 |.str,.slice e .u8 _,.av (.an (.d (.str s)))=>bif isByte (C.tt e) then .hT (if s.length<=maxLen then some () else none) (fun _=>b7 (.own o (bw st o))) fun _=>[(o,.row (bw st o) .u8 (bytesOf s))] else .fail
 |_,_,_=>.fail
def lp(st:al):List (Nat×Nat)->Option (List (List bh)×List (Nat×Site)×List Nat)
 |[]=>some ([],[],[])
 |(o,s)::r=>match fM st o s with
  |some cells=>match f_ st cells,lp st r with
   |some (ds,us),some (rest,vs,bs)=>some (ds::rest,us++vs,o::bs)
   |_,_=>none
  |none=>none
def nj(st:al):aR->Option (aR×List (Nat×Site)×List Nat)
 |.eE cells 0=>some (.eE cells 0,[],[])
 |.clo g (c::cs)=>match lp st (c::cs) with|some (ds,us,bs)=>some (.d (.fn g ds),us,bs)|none=>none
 |l=>match j4 st l with|some (d,us)=>some (.d d,us,[])|none=>none
def ma(st:al):List aR->Option (List aR×List (Nat×Site)×List Nat)
 |[]=>some ([],[],[])
 |l::ai=>match nj st l,ma st ai with
  |some (a,us,bs),some (as,vs,cs)=>some (a::as,us++vs,bs++cs)
  |_,_=>none
def og(st:al):aR->Option (aR×List (Nat×Site))
 |.d v=>some (.d v,[])
 |.nil t=>some (.fresh t [],[])
 |.own o s=>match st.af o with
  |some (.row aN t xs)=>bif aN.beq s then some (.fresh t xs,[(o,.dead s)]) else none
  |some (.dp aN t xs)=>bif aN.beq s then some (.d (.sl t xs),[]) else none
  |_=>none
 |.dx=>some (.dx,[])
 |.cV v=>some (.cV v,[])
 |_=>none
def we:List aR->List aR
 |.cV (.pointer none)::r=>.dx::r
 |l=>l
def kL(st:al):List aR->Option (List aR×List (Nat×Site))
 |[]=>some ([],[])
 |l::ai=>match og st l,kL st ai with
  |some (a,us),some (as,vs)=>some (a::as,us++vs)
  |_,_=>none
structure km where
 as:List Arg
 eU:List (Nat×Site) -- rows CY acq eU,as aBj aCA frozen
 fW:List Nat -- boxes CY acq eU
 gone:List (Nat×Site) -- boxes CY go over,and rows in aBy
 boxes:List (Nat×Nat) -- tW boxes:af,cy
def jl(st:al):List a8->Option km
 |[]=>some ⟨[],[],[],[],[]⟩
 |.av (.an (.ptr o s 0))::vs=>match fM st o s,jl st vs with
  |some cells,some r=>match kL st cells with
   |some (cs,gone)=>some ⟨.fs cs::r.as,r.eU,r.fW,((o,.dead s)::gone)++r.gone,(o,s)::r.boxes⟩
   |none=>none
  |_,_=>none
 |.av (.an l)::vs=>match nj st l,jl st vs with
  |some (a,us,bs),some r=>some ⟨.av (.an a)::r.as,us++r.eU,bs++r.fW,r.gone,r.boxes⟩
  |_,_=>none
 |.av (.agg ai)::vs=>match ma st ai,jl st vs with
  |some (as,us,bs),some r=>some ⟨.av (.agg as)::r.as,us++r.eU,bs++r.fW,r.gone,r.boxes⟩
  |_,_=>none
 |_::_=>none
def pi(st:al):aR->Option (aR×List (Nat×Site)×List (Nat×Site)×List Nat)
 |.own o s=>match og st (.own o s) with|some (a,us)=>some (a,us,[],[])|none=>none
 |.nil t=>some (.fresh t [],[],[],[])
 |l=>match nj st l with|some (a,us,bs)=>some (a,[],us,bs)|none=>none
def l6(st:al):List a8->Option km
 |[]=>some ⟨[],[],[],[],[]⟩
 |.av (.an l)::vs=>match pi st l,l6 st vs with
  |some (a,us,ai,bs),some r=>some ⟨.av (.an a)::r.as,ai++r.eU,bs++r.fW,us++r.gone,r.boxes⟩
  |_,_=>none
 |_::_=>none
def sI(b:Bool)(st:al)(vs:List a8):Option km:=bif b then l6 st vs else jl st vs
def bf.pe:bf->Bool
 |.pack|.recipe|.hunk|.tx=>true
 |_=>false
def aR.pe:aR->Bool
 |.d (.sl _ _)|.d (.fn _ _)|.d (.map _ _)=>true
 |.d _=>false
 |.fresh t _=>t.pe
 |.dx|.cV _=>false
 |_=>true
def sx:List aR->Bool
 |[]=>false
 |l::ai=>l.pe||sx ai
def sp:List bS->Bool
 |[]=>false
 |a::as=>sx a.cells||sp as
def so:List (List aR)->Bool
 |[]=>false
 |a::as=>sx a||so as
def take(st:al)(n:Nat):List aR->List aR×List (Nat×Site)
 |[]=>([],[])
 |.fresh t xs::ai=>let r:=take st (n+1) ai;(.own n (bw st n)::r.1,(n,.row (bw st n) t xs)::r.2)
 |l::ai=>let r:=take st (n+1) ai;(l::r.1,r.2)
def ef(st:al)(n:Nat):List bS->List bS×List (Nat×Site)
 |[]=>([],[])
 |.an l::as=>let x:=take st n [l];let r:=ef st (n+100) as;((match x.1 with|[gA]=>.an gA|ai=>.agg ai)::r.1,x.2++r.2)
 |.agg ai::as=>let x:=take st n ai;let r:=ef st (n+100) as;(.agg x.1::r.1,x.2++r.2)
def gW(st:al):List (Nat×Nat)->List (List aR)->List (Nat×Site)
 |(o,s)::bs,cs::cQ=>let x:=take st (1000000+o*100) cs;x.2++(o,.box s x.1)::gW st bs cQ
 |_,_=>[]
def V':List bS->a8
 |[a]=>.av a
 |as=>.jX as
def keys{aH:Type}:List (Nat×aH)->List Nat
 |[]=>[]
 |p::r=>p.1::keys r
def fZ(n:Nat):List Nat->Bool
 |[]=>false
 |m::r=>n.beq m||fZ n r
def fJ:List Nat->Bool
 |[]=>true
 |n::r=>!fZ n r&&fJ r
def e8:List Nat->List Nat->Bool
 |[],_=>true
 |n::r,l=>!fZ n l&&e8 r l
def px(dst:Nat)(st:al)(S:aD)(a:km):dk:=
 let r:=S a.as
 {J:=r.J,comp:=r.comp
  val:=fun y=>V' (ef st (2000000+dst*10000) (r.fl y)).1
  us:=fun y=>(bif sp (r.fl y)||so (r.fs y) then a.eU else [])++a.gone++gW st a.boxes (r.fs y)++(ef st (2000000+dst*10000) (r.fl y)).2
  rL:=fun y=>fJ (keys a.gone)&&e8 (keys a.eU++a.fW) (keys a.gone)&&fJ (keys (gW st a.boxes (r.fs y)++(ef st (2000000+dst*10000) (r.fl y)).2))&&
   e8 (keys a.eU++a.fW) (keys (gW st a.boxes (r.fs y)++(ef st (2000000+dst*10000) (r.fl y)).2))&&(!(sp (r.fl y)||so (r.fs y))||a.fW.isEmpty)}
def callee(v:a8):Option (FuncId×List (Nat×Nat)):=
 match v with
 |.av (.an (.clo g bE))=>some (g,bE)
 |_=>none
def gy(C:Ctx)(st:al):List Operand->List TypeId->List a8
 |[],_=>[]
 |x::xs,[]=>bg C st 0 x::gy C st xs []
 |x::xs,T::cZ=>bg C st T x::gy C st xs cZ
def n9:List (List bh)->List Arg
 |[]=>[]
 |c::cs=>.av (.an (.eE c 0))::n9 cs
def sW(g:FuncId)(n:Nat)(st:al):List a8->dk
 |[.av (.an (.d (.str s))),.av (.an (.d (.str p)))]=>.fF (b7 (.clo g [(n,bw st n),(n+1,bw st (n+1)),(n+2,bw st (n+2))]))
   [(n,.box (bw st n) [.d (.str p)]),(n+1,.box (bw st (n+1)) [.d (.str s)]),(n+2,.box (bw st (n+2)) [.d (.int .i64 0)])]
 |_=>.fail
def copyV(st:al):List a8->dk
 |[.av (.an (.ptr o s 0))]=>match st.af o with
  |some (.box aN [.dx,l])=>bif aN.beq s then .fF (.jX []) [(o,.box s [.dx,l])] else .fail
  |_=>.fail
 |_=>.fail
def sH(st:al):List a8->dk
 |[.av (.an (.ptr o s 0))]=>match fM st o s with
  |some [_,.nil .u8]=>.ok (one (.str []))
  |some [_,.own ab u]=>match st.af ab with
   |some (.row bV .u8 xs)=>bif bV.beq u then .fF (one (.str (strOf xs))) [(ab,.dp u .u8 xs)] else .fail
   |_=>.fail
  |_=>.fail
 |_=>.fail
def tl(n:Nat)(st:al):List a8->dk
 |[.av (.an (.d (.sl .u8 xs)))]=>.fF (b7 (.ptr n (bw st n) 0)) [(n,.box (bw st n) [.d (.sl .u8 (xs.take 2000)),.d (.int .i64 0)])]
 |_=>.fail
def l5(C:Ctx)(dst:Nat)(st:al)(f:a8)(vs:List a8):dk:=
  match f with
  |.av (.an (.clo g bE))=>match C.lS g with
   |some cC=>match bE with
    |[]=>sW cC (3000000+dst*10) st vs
    |_=>.fail
   |none=>bif C.op g then(match bE with
    |[]=>tl (4000000+dst) st vs
    |_=>.fail) else bif C.kt g then(match bE with
    |[]=>copyV st vs
    |_=>.fail) else bif C.bs g then(match bE with
    |[]=>sH st vs
    |_=>.fail) else match C.bR g,sI (C.nL g) st vs,lp st bE with
    |some S,some a,some (cs,us,bs)=>px dst st S {a with as:=a.as++n9 cs,eU:=a.eU++us,fW:=a.fW++bs}
    |_,_,_=>.fail
  |.av (.an (.d (.fn g bE)))=>match C.bR g,jl st vs with
    |some S,some a=>px dst st S {a with as:=a.as++n9 bE}
    |_,_=>.fail
  |_=>.fail
def Dc(t:bf)(xs:List (den t))(n:Nat):List aR:=match xX t with
 |some z=>(List.range n).flatMap fun j=>cG (enc t (xs.getD j z))
 |none=>[]
def tN(t:bf):List aR->Option (List (den t))
 |[]=>some []
 |.d d::ai=>match dec t [d],tN t ai with
  |some x,some xs=>some (x::xs)
  |_,_=>none
 |_=>none
def long{aH:Type}(n:Nat)(xs:List aH):Option (List aH):=if xs.length=n then some xs else none
def q8(o:Nat)(st:al)(t:bf)(n:Nat)(xs:List (den t)):dk:=bif xs.length.beq n&&Nat.ble n 1000 then .fF (b7 (.e3 o (bw st o) t 0 0)) [(o,.row (bw st o) t xs)] else .fail
def tc(o:Nat)(st:al)(t:bf)(n:Nat):dk:=match xX t with
 |some z=>q8 o st t n (List.replicate n z)
 |none=>.fail
def tP(o:Nat)(st:al)(t:bf)(n:Nat)(v:a8):dk:=match v with
 |.av (.agg ai)=>match tN t ai with
  |some xs=>q8 o st t n xs
  |none=>.fail
 |_=>.fail
def tp(st:al)(t:bf)(n:Nat)(a:a8):dk:=match a with
 |.av (.an (.e3 o s u 0 0))=>match rowOf st o s with
  |some ⟨bo,xs⟩=>if bo=t/\bo=u then .ey (long n xs) fun xs=>.av (.agg (Dc bo xs n)) else .fail
  |none=>.fail
 |_=>.fail
def sV(st:al)(t:bf)(n:Nat)(a:a8)(v:bS):dk:=match a,v with
 |.av (.an (.e3 o s u 0 0)),.agg ai=>match st.af o with
  |some (.row aN bo xs)=>if bo=t/\bo=u/\aN=s then(match tN bo ai with
   |some bj=>bif bj.length.beq n then .hT (long n xs) (fun _=>b7 (.cV undef)) fun _=>[(o,.row s bo bj)] else .fail
   |none=>.fail) else .fail
  |_=>.fail
 |_,_=>.fail
def sn(C:Ctx)(st:al)(t:bf)(n:Nat)(x:a8)(i:Int):dk:=match x with
 |.av (.an (.e3 o s u 0 0))=>match rowOf st o s with
  |some ⟨bo,xs⟩=>if bo=t/\bo=u then .ey ((long n xs).bind fun xs=>be xs.length i) fun k=>b7 (.e3 o s bo k 0) else .fail
  |none=>.fail
 |.av (.an (.cV (.pointer (some ⟨g,0,none⟩))))=>match C.gt g with
  |some ⟨bo,xs⟩=>bif decide (bo=t)&&xs.length.beq n then .ey (aO xs i) fun x=>b7 (.eE (enc bo x) 0) else .fail
  |none=>.fail
 |_=>.fail
def JI(t:bf)(n:Nat)(x:a8)(i:Int):dk:=match x with
 |.av (.agg ai)=>match tN t ai with
  |some xs=>bif xs.length.beq n then .ey (aO xs i) fun x=>(match enc t x with|[d]=>b7 (.d d)|_=>b7 .any) else .fail
  |none=>.fail
 |_=>.fail
def sY(st:al)(t:bf)(n:Nat)(x:a8)(cW hi:Option a8):dk:=match x with
 |.av (.an (.e3 o s u 0 0))=>match rowOf st o s,iS 0 cW,iS n hi with
  |some ⟨bo,xs⟩,some l,some h=>if bo=t/\bo=u then .hT ((long n xs).bind fun xs=>bm xs l h) (fun r=>b7 (.d (.sl bo r))) fun _=>mn st o s bo xs else .fail
  |_,_,_=>.fail
 |_=>.fail
def ln(C:Ctx)(st:al)(D:Oper):dk:=
 match D.op with
 |.makeMap t r=>match D.dst,C.tt t with
  |some o,.map _ _ ty=>match r with
   |none=>.fF (b7 (.own o (bw st o))) [(o,.map (bw st o) ty [])]
   |some x=>match bg C st 0 x with
    |.av (.an (.d (.int _ _)))=>.fF (b7 (.own o (bw st o))) [(o,.map (bw st o) ty [])]
    |_=>.fail
  |_,_=>.fail
 |.mapUpdate t m k x=>s4 C st t m k x
 |.insert t m k x=>s4 C st t m k x
 |.lookup t m k c=>match C.tt t,bg C st t m,bg C st 0 k with
  |.map _ _ ty,.av (.an l),.av (.an (.d (.str n)))=>match mapOf st l with
   |some ⟨u,es⟩=>bif decide (u=ty) then(match wz u (kz es n) with
    |some d=>.ok (bif c then .jX [.an (.d d),.an (.d (.bool (kz es n).isSome))] else one d)
    |none=>.fail) else .fail
   |none=>.fail
  |_,_,_=>.fail
 |.makeInterface t x=>match C.tt t,bg C st t x with
  |.struct _ _ _ _,.av (.agg [.d (.int .i64 n)])=>.ok (one (.err t (some n)))
  |_,_=>.fail
 |_=>.fail
where
 s4 (C:Ctx) (st:al) (t:TypeId) (m k x:Operand):dk:=match C.tt t,bg C st t m,bg C st 0 k,bg C st 0 x with
  |.map _ _ ty,.av (.an (.own o s)),.av (.an (.d (.str n))),.av (.an (.d d))=>match st.af o with
   |some (.map aN u es)=>bif aN.beq s&&decide (u=ty) then(match Kl u d with
    |some v=>.fF (b7 (.cV undef)) [(o,.map s u (ph es n v))]
    |none=>.fail) else .fail
   |_=>.fail
  |_,_,_,_=>.fail
def step(C:Ctx)(st:al)(D:Oper):dk:=
 match D.op with
 |.move x|.assign x=>.ok (bg C st D.type x)
 |.pick c a b=>match bg C st D.type c with
  |.av (.an (.d (.bool true)))=>.ok (bg C st D.type a)
  |.av (.an (.d (.bool false)))=>.ok (bg C st D.type b)
  |_=>.fail
 |.alloc elem=>match D.dst,C.tt elem with
  |some o,.arr _ t n=>tc o st t n
  |some o,ti=>match ti.zero with
   |some z=>.fF (b7 (.ptr o (bw st o) 0)) [(o,.box (bw st o) (bif elem.beq rK then we z else z))]
   |none=>.fail
  |_,_=>.fail
 |.box elem x=>match D.dst,C.tt elem with
  |some o,.arr _ t n=>tP o st t n (bg C st elem x)
  |some o,_=>match mq (bg C st elem x) with
   |some a=>bif hK a.cells then .fF (b7 (.ptr o (bw st o) 0)) [(o,.box (bw st o) a.cells)] else .fail
   |none=>.fail
  |_,_=>.fail
 |.build t parts=>match C.tt t with
  |.struct bR _ z _=>m_ C st bR z parts.toList
  |.arr _ ty n=>match tT ty with
   |some z=>m_ C st ((List.range n).map fun j=>(j,1)) (List.replicate n z) parts.toList
   |none=>.fail
  |_=>.fail
 |.buildSlice t len parts=>match D.dst,C.tt t with
  |some o,.slice e ty _=>bif parts.toList.length.beq len&&sK 0 parts.toList&&Nat.ble (len*bd ty) 1000 then
    match oi (parts.toList.map fun p=>bg C st e p.2) with
    |some as=>match lK ty st as with
     |some (xs,us)=>.fF (b7 (.own o (bw st o))) (us++[(o,.row (bw st o) ty xs)])
     |none=>.fail
    |none=>.fail
   else .fail
  |_,_=>.fail
 |.load t a=>match C.tt t with
  |.arr _ ty n=>tp st ty n (bg C st t a)
  |ti=>bif ti.known then to ti.agg ti.size st (bg C st t a) else .fail
 |.store t a x=>match mq (bg C st t x) with
  |some v=>match C.tt t with
   |.arr _ ty n=>sV st ty n (bg C st t a) v
   |ti=>bif ti.known then sU ti.size st (bg C st t a) v else .fail
  |none=>.fail
 |.nilCheck x=>match bg C st D.type x with
  |.av (.an (.ptr o s f))=>.ok (b7 (.ptr o s f))
  |.av (.an (.eE cs f))=>.ok (b7 (.eE cs f))
  |.av (.an (.e3 o s t k f))=>.ok (b7 (.e3 o s t k f))
  |_=>.fail
 |.binOp op t x y _=>bif BW y then JP op (C.tt t) (bg C st t x) else K5 op (C.tt t) (bg C st t x) (bg C st t y)
 |.unOp op _ x=>match op,bg C st D.type x with
  |.not,.av (.an (.d (.bool b)))=>.ok (one (.bool (!b)))
  |.neg,.av (.an (.d (.int k n)))=>.ok (one (.int k (k.wrap (0-n))))
  |.xor,.av (.an (.d (.int k n)))=>.ok (one (.int k (dl k (if k.signed then-1 else k.max) n)))
  |_,_=>.fail
 |.convert src dst x=>(match D.dst with|some o=>tw C src dst o st (bg C st src x)|none=>.fail)
 |.makeFunc fn first captured=>match fn with
  |.func g=>bif first.toList.isEmpty then(match oh C st captured.toList with|some bE=>.ok (b7 (.clo g bE))|none=>.fail) else .fail
  |_=>.fail
 |.makeSlice t l c=>match D.dst,C.tt t,bg C st 0 l,bg C st 0 c with
  |some o,.slice e ty bytes,.av (.an (.d (.int _ n))),.av (.an (.d (.int _ m)))=>match(C.tt e).zero with
   |some z=>match f_ st z with
    |some (ds,_)=>match dec ty ds with
     |some eY=>.hT (jY bytes n m eY) (fun _=>b7 (.own o (bw st o))) fun r=>[(o,.row (bw st o) ty r)]
     |none=>.fail
    |none=>.fail
   |none=>.fail
  |_,_,_,_=>.fail
 |.slice t x cW hi Eo=>match Eo with
  |none=>match C.tt t with
   |.arr _ ty n=>sY st ty n (bg C st t x) (cW.map (bg C st 0)) (hi.map (bg C st 0))
   |ti=>sX ti st (bg C st t x) (cW.map (bg C st 0)) (hi.map (bg C st 0))
  |some _=>.fail
 |.fieldAddr s x f=>match C.tt s with
  |.struct bR _ _ _=>match bR[f]? with
   |some (off,_)=>Fa off (bg C st 0 x)
   |none=>.fail
  |_=>.fail
 |.indexAddr t x i=>match C.tt t,bg C st 0 i with
  |.slice _ ty _,.av (.an (.d (.int _ n)))=>sk ty st (bg C st t x) n
  |.arr _ ty m,.av (.an (.d (.int _ n)))=>sn C st ty m (bg C st t x) n
  |_,_=>.fail
 |.index t x i=>match C.tt t,bg C st t x,bg C st 0 i with
  |.str,.av (.an (.d (.str s))),.av (.an (.d (.int _ n)))=>.ey (aO s n) fun b=>one (.int .u8 b.toNat)
  |.arr _ ty m,v,.av (.an (.d (.int _ n)))=>JI ty m v n
  |_,_,_=>.fail
 |.extract t i=>match bg C st 0 t with
  |.jX as=>match as[i]? with
   |some a=>.ok (.av a)
   |none=>.fail
  |_=>.fail
 |.call c=>match c.callee with
  |.value f=>match D.dst with
   |some d=>l5 C d st (bg C st 0 f) (gy C st c.args.toList c.argTypes.toList)
   |none=>l5 C 0 st (bg C st 0 f) (gy C st c.args.toList c.argTypes.toList)
  |.builtin b=>match b,D.dst,c.args.toList,c.argTypes.toList with
   |.len,_,[x],[t]=>tF (C.tt t) st (bg C st t x)
   |.append,some o,[s,x],[t,u]=>match C.tt t,C.tt u with
    |.slice _ ty bytes,.slice _ _ _=>sS bytes ty o st (bg C st t s) (bg C st u x)
    |.slice _ ty bytes,.str=>sT bytes ty o st (bg C st t s) (bg C st u x)
    |_,_=>.fail
   |.max,_,[x,y],_=>match bg C st D.type x,bg C st D.type y with
    |.av (.an (.d (.int k a))),.av (.an (.d (.int _ b)))=>.ok (one (.int k (gJ a b)))
    |_,_=>.fail
   |.max,_,[x,y,z,u,v],_=>match bg C st D.type x,bg C st D.type y,bg C st D.type z,bg C st D.type u,bg C st D.type v with
    |.av (.an (.d (.int k a))),.av (.an (.d (.int _ b))),.av (.an (.d (.int _ c))),.av (.an (.d (.int _ d))),.av (.an (.d (.int _ e)))=>.ok (one (.int k (gJ (gJ (gJ (gJ a b) c) d) e)))
    |_,_,_,_,_=>.fail
   |.min,_,[x,y],_=>match bg C st D.type x,bg C st D.type y with
    |.av (.an (.d (.int k a))),.av (.an (.d (.int _ b)))=>.ok (one (.int k (lF a b)))
    |_,_=>.fail
   |_,_,_,_=>.fail
  |_=>.fail
 |_=>ln C st D
where
 m_ (C:Ctx) (st:al) (bR:List (Nat×Nat)):List aR->List (Nat×Operand)->dk
  |z,[]=>.ok (.av (.agg z))
  |z,(i,x)::r=>match bR[i]?,mq (bg C st 0 x) with
   |some (off,n),some a=>bif a.cells.length.beq n&&hK a.cells&&Nat.ble (off+n) z.length then m_ C st bR (bP z off a.cells) r else .fail
   |_,_=>.fail
 oh (C:Ctx) (st:al):List Operand->Option (List (Nat×Nat))
  |[]=>some []
  |x::r=>match bg C st 0 x,oh C st r with
   |.av (.an (.ptr o s 0)),some l=>some ((o,s)::l)
   |_,_=>none
def Jt(C:Ctx)(st:al)(D:Oper):Option (((t:bf)×List (den t))×Bool):=
 match D.op with
 |.binOp op T x (.const (.slice none 0 0)) _=>match C.tt T with
  |.slice _ _ _=>match op with
   |.eql=>match bg C st T x with
    |.av (.an (.d (.sl t xs)))=>some (⟨t,xs⟩,false)
    |_=>none
   |.neq=>match bg C st T x with
    |.av (.an (.d (.sl t xs)))=>some (⟨t,xs⟩,true)
    |_=>none
   |_=>none
  |_=>none
 |_=>none
def aR.names:aR->List Nat
 |.own o _|.ptr o _ _|.e3 o _ _ _ _=>[o]
 |.clo _ bE=>keys bE
 |_=>[]
def dM:List aR->List Nat
 |[]=>[]
 |l::ai=>l.names++dM ai
def sE:List bS->List Nat
 |[]=>[]
 |a::as=>dM a.cells++sE as
def a8.names:a8->List Nat
 |.av a=>dM a.cells
 |.jX as=>sE as
def yM(st:al)(o:Nat):List Nat:=match st.af o with
 |some (.box _ cells)=>dM cells
 |_=>[]
def e0(st:al):List Nat->List Nat
 |[]=>[]
 |o::r=>o::(yM st o++e0 st r)
def lv:Op->List Operand
 |.move x|.assign x|.makeInterface _ x|.box _ x|.load _ x|.nilCheck x|.unOp _ _ x|.convert _ _ x|.fieldAddr _ x _|.extract x _=>[x]
 |.pick c a b=>[c,a,b]
 |.build _ ps|.buildSlice _ _ ps=>ps.toList.map (·.2)
 |.store _ a v|.binOp _ _ a v _|.makeSlice _ a v|.indexAddr _ a v|.index _ a v=>[a,v]
 |.makeFunc _ _ captured=>captured.toList
 |.slice _ x l h _=>x::(l.toList++h.toList)
 |.call c=>(match c.callee with|.value f=>[f]|_=>[])++c.args.toList
 |.lookup _ m k _=>[m,k]
 |.mapUpdate _ m k x|.insert _ m k x=>[m,k,x]
 |.makeMap _ r=>r.toList
 |_=>[]
def n4(st:al):List Operand->List Nat
 |[]=>[]
 |.tmp t::r=>(st.get t).names++n4 st r
 |_::r=>n4 st r
def o8:List Operand->List Nat
 |[]=>[]
 |.tmp t::r=>t::o8 r
 |_::r=>o8 r
def BX:Op->Bool
 |.call c=>match c.callee with
  |.value _=>true
  |_=>false
 |_=>false
def JY(C:Ctx):Op->List Nat
 |.makeSlice t _ _=>match C.tt t with
  |.slice e _ _=>match(C.tt e).zero with
   |some z=>dM z
   |none=>[]
  |_=>[]
 |_=>[]
def looks:Op->Bool
 |.load _ _|.store _ _ _|.slice _ _ _ _ _|.indexAddr _ _ _|.convert _ _ _|.buildSlice _ _ _|.call _|.lookup _ _ _ _|.mapUpdate _ _ _ _|.insert _ _ _ _=>true
 |_=>false
def J9(C:Ctx)(st:al)(D:Oper):List Nat:=(bif looks D.op then e0 st (n4 st (lv D.op)) else [])++D.dst.toList++JY C D.op
def RN(u:Nat):List Oper->List Nat
 |[]=>[]
 |D::r=>(match D.op,D.dst with
  |.move (.tmp t),some d=>bif Nat.beq d u then [t] else []
  |_,_=>[])++RN u r
def Gt(all:List Oper):List Oper->List Nat
 |[]=>[]
 |D::r=>(match D.op with
  |.slice _ (.tmp u) _ _ _=>u::RN u all
  |_=>[])++Gt all r
def WH(st:al)(t:Nat):List (Nat×Site):=match st.get t with
 |.av (.an (.own o s))=>match st.af o with
  |some (.row aN t xs)=>bif aN.beq s then [(o,.dp aN t xs)] else []
  |_=>[]
 |_=>[]
def B'(st:al):List Nat->List (Nat×Site)
 |[]=>[]
 |t::r=>WH st t++B' st r
def al.il(st:al):List (Nat×Site)->al
 |[]=>st
 |(o,s)::r=>(st.iy o s).il r
def al.cY(st:al)(dst:Option Nat)(v:a8)(us:List (Nat×Site)):al:=
 match dst with
 |some t=>(st.il us).set t v
 |none=>st.il us
def cr(st:al):Option Nat->Bool
 |some t=>Nat.blt t st.nt
 |none=>true
abbrev Br:a8:=b7 (.cV undef)
section
variable {R:Type}
open Classical in
noncomputable def qn{t:bf}(xs:List (den t))(a b:Option R):Option R:=if xs=[]->a=b then b else none
def ky(C:Ctx)(st:al)(D:Oper)(K:al->Option R):Option R:=
 bif cr st D.dst then(step C st D).comp.bind fun y=>bif(step C st D).rL y then K (st.cY D.dst ((step C st D).val y) ((step C st D).us y)) else none else none
noncomputable def wh(C:Ctx)(st:al)(D:Oper)(K:al->Option R):Option R:=
 match Jt C st D with
 |some (⟨t,xs⟩,neg)=>bif cr st D.dst then qn xs (K (st.cY D.dst (one (.bool (!neg))) [])) (K (st.cY D.dst (one (.bool neg)) [])) else none
 |none=>ky C st D K
def sZ(st:al)(D:Oper)(K:al->Option R):Option R:=
 bif cr st D.dst then K (st.cY D.dst Br []) else none
noncomputable def Tz(C:Ctx)(ops:Array Oper)(st:al)(D:Oper)(K:al->Option R):Option R:=
 match D.guard with
 |none=>wh C st D K
 |some (j,want)=>match(ops[j]?).bind (·.dst) with
  |some t=>match st.get t with
   |.av (.an (.d (.bool b)))=>bif(bif want then b else !b) then wh C (st.set t (one (.bool want))) D K else sZ (st.set t (one (.bool (!want)))) D K
   |.av (.an (.cV (.tuple _)))=>sZ st D K
   |_=>none
  |none=>none
noncomputable def vP(C:Ctx)(ops:Array Oper):List Oper->al->(al->Option R)->Option R
 |[],st,K=>K st
 |D::r,st,K=>Tz C ops st D fun ap=>vP C ops r ap K
structure Rec where
 D:Oper
 go:Bool
 v:a8
 us:List (Nat×Site)
 k3:List Nat
 rn:List Nat
 D5:Bool
def v_:List Nat->Bool
 |[]=>false
 |n::r=>Nat.ble 1000000 n||v_ r
def tE(d:Option Nat)(l:List Nat):Bool:=match d with|some d=>fZ d l|none=>false
def mi(a b:Rec):Bool:=
 tE a.D.dst b.k3||tE a.D.dst b.D.dst.toList||tE b.D.dst a.k3||
 !e8 (keys a.us) (b.rn++keys b.us)||!e8 (keys b.us) a.rn||(a.D5&&v_ (keys b.us))||(b.D5&&v_ (keys a.us))
def mf(acc:List (Nat×Rec×List Nat)):List Edge->List Nat
 |[]=>[]
 |e::r=>bif Region.binds .any e then(match look acc e.on with|some x=>e.on::(x.2++mf acc r)|none=>mf acc r) else mf acc r
def sR(i:Nat):List Edge->Bool
 |[]=>true
 |e::r=>(!Region.binds .any e||Nat.blt e.on i)&&sR i r
def s3(xN:List Nat)(x:Rec):List (Nat×Rec×List Nat)->Bool
 |[]=>true
 |(j,y,_)::r=>(fZ j xN||!mi y x)&&s3 xN x r
def Tv(i:Nat):List Oper->Bool
 |[]=>false
 |D::r=>(match D.guard with|some (j,_)=>Nat.beq i j|none=>false)||Tv i r
def KE(g:Bool)(v:a8)(K:a8->Option R):Option R:=
 bif g then(match v with
  |.av (.an (.d (.bool b)))=>bif b then K (one (.bool true)) else K (one (.bool false))
  |v=>K v) else K v
def Bk(C:Ctx)(g:Bool)(st:al)(D:Oper)(gs:List Nat)(K:Rec->Option R):Option R:=
 (step C st D).comp.bind fun y=>bif(step C st D).rL y then KE g ((step C st D).val y) fun v=>
  K ⟨D,true,v,(step C st D).us y,gs++o8 (lv D.op),J9 C st D,BX D.op⟩ else none
def G8(D:Oper)(gs:List Nat)(K:Rec->Option R):Option R:=K ⟨D,false,Br,[],gs,[],false⟩
def JR(C:Ctx)(ops:Array Oper)(g:Bool)(st:al)(D:Oper)(K:Rec->Option R):Option R:=
 match D.guard with
 |none=>Bk C g st D [] K
 |some (j,want)=>match(ops[j]?).bind (·.dst) with
  |some t=>match st.get t with
   |.av (.an (.d (.bool b)))=>bif(bif want then b else !b) then Bk C g st D [t] K else G8 D [t] K
   |.av (.an (.cV (.tuple _)))=>G8 D [t] K
   |_=>none
  |none=>none
def Cl(C:Ctx)(ops:Array Oper):List Oper->Nat->List (Nat×Rec×List Nat)->al->(al->Option R)->Option R
 |[],_,_,st,K=>K st
 |D::r,i,acc,st,K=>bif cr st D.dst&&sR i D.after.toList then JR C ops (Tv i r) st D fun x=>
   bif s3 (mf acc D.after.toList) x acc then Cl C ops r (i+1) ((i,x,mf acc D.after.toList)::acc) (st.cY D.dst x.v x.us) K else none
  else none
def TM(C:Ctx)(ops:Array Oper)(st:al)(K:al->Option R):Option R:=Cl C ops ops.toList 0 [] (st.il (B' st (Gt ops.toList ops.toList))) K
inductive Out:Type where
 |norm (st:al)
 |exit (id:Nat) (st:al)
 |ret (st:al)
structure atD:Type 1 where
 J:Type
 comp:Option J
 out:J->Out
 run:(R:Type)->J->(Out->Option R)->Option R
 run_eq:∀(R:Type) (y:J) (K:Out->Option R),run R y K=K (out y)
abbrev h5:=al->atD
structure hV:Type 1 extends Ctx where
 ov:Nat->Option h5
def wrap(C:hV)(p:Nat)(st:al)(K:Out->Option R)(x:Option R):Option R:=
 match C.ov p with
 |some f=>(f st).comp.bind fun y=>(f st).run R y K
 |none=>x
noncomputable def exec(C:hV):Code->Nat->al->(Out->Option R)->Option R
 |.skip,_,st,K=>K (.norm st)
 |.region _ ops false,p,st,K=>wrap C p st K (vP C.toCtx ops ops.toList st fun ap=>K (.norm ap))
 |.region _ ops true,p,st,K=>wrap C p st K (TM C.toCtx ops st fun ap=>K (.norm ap))
 |.seq a b,p,st,K=>wrap C p st K (exec C a (2*p) st fun
  |.norm ap=>exec C b (2*p+1) ap K
  |D=>K D)
 |.cond c a b,p,st,K=>wrap C p st K (match bg C.toCtx st 0 c with
  |.av (.an (.d (.bool t)))=>bif t then exec C a (2*p) st K else exec C b (2*p+1) st K
  |_=>none)
 |.block id c,p,st,K=>wrap C p st K (exec C c (2*p) st fun
  |.exit ja ap=>bif ja.beq id then K (.norm ap) else K (.exit ja ap)
  |D=>K D)
 |.loop _,p,st,K=>wrap C p st K none
 |.rangeFunc _ _ _ _,p,st,K=>wrap C p st K none
 |.exit id,_,st,K=>K (.exit id st)
 |.ret,_,st,K=>K (.ret st)
 |_,_,_,_=>none
end
section
variable {F a6:Nat->Value}{sites b0:List (Nat×Site)}{w w':World}{av cl:Nat->Prop}
structure io(F a6:Nat->Value)(sites b0:List (Nat×Site))(w w':World)(av cl:Nat->Prop):Prop where
 ref:∀o af,look sites o=some af->∃b5,look b0 o=some b5/\af.cy<=b5.cy/\(b5.cy=af.cy->a6 o=F o)
 bQ:∀b,¬av b->b<w.heap.size->w'.heap[b]? =w.heap[b]?
 av:∀b,¬av b->b<w.heap.size->¬cl b
theorem bK.goes{d:bh}{v:Value}(G:io F a6 sites b0 w w' av cl)(hs:w.heap.size<=w'.heap.size)(aBR:∀b,cl b->b<w'.heap.size)(r:bK w av d v):bK w' cl d v:=by
 induction r with
 |int k n=>exact .int k n
 |bool b=>exact .bool b
 |str l s h=>exact .str l s h
 |nil t=>exact .nil t
 |sl t xs a cap cs n hn hcap hb hl hc _ ih=>
  have key:xs≠[]->a.block<w.heap.size:=by
   intro hne;have nl:0<cs.length:=by
    rw[hl,e7];exact Nat.mul_pos (List.length_pos_iff.mpr hne) (l8 t)
   have:=hc 0 (cs[0]) (List.getElem?_eq_getElem nl);have h2:=World.block_lt_of_cell? w _ this;have iW:(a.add 0).block=a.block:=by unfold Addr.add;split<;>rfl
   rwa[iW] at h2
  refine .sl t xs a cap cs n hn hcap (fun hx=>G.av _ (hb hx) (key hx)) hl (fun j u hu=>?_) ih
  have hcell:=hc j u hu;have hne:xs≠[]:=by
   rintro rfl;have:cs=[]:=List.eq_nil_of_length_eq_zero (by simpa[flat] using hl)
   subst this;simp at hu
  have iW:(a.add j).block=a.block:=by unfold Addr.add;split<;>rfl
  rw[World.cell?_of_block (w:=w) (a:=a.add j) (by rw[iW];exact G.bQ _ (hb hne) (key hne))]
  exact hcell
 |fn g bE bs jd lb hlb uo hb hlt hl hc _ ih=>
  refine .fn g bE bs jd lb hlb uo (fun b hm=>G.av b (hb b hm) (hlt b hm)) (fun b hm=>Nat.lt_of_lt_of_le (hlt b hm) hs) hl (fun i hi j u hu=>?_) ih
  have hcell:=hc i hi j u hu;have hm:bs[i]∈bs:=List.getElem_mem hi;rw[World.cell?_of_block (w:=w) (a:=⟨bs[i],j,none⟩) (G.bQ _ (hb _ hm) (hlt _ hm))];exact hcell
 |wK t=>exact .wK t
 |wV T=>exact .wV T
 |err T n=>exact .err T n
 |map t es b hb hm=>exact .map t es b (G.av b hb hm.lt) (hm.of (G.bQ b hb hm.lt))
theorem Ref.goes{o s:Nat}{p hF:Prop}(G:io F a6 sites b0 w w' av cl)(h:Ref sites o s p)(hp:a6 o=F o->p->hF):Ref b0 o s hF:=by
 obtain⟨af,h1,h2,h3⟩:=h;obtain⟨b5,g1,g2,g3⟩:=G.ref o af h1;refine⟨b5,g1,Nat.le_trans h2 g2,fun e=>?_⟩
 have:b5.cy=af.cy:=by omega
 exact hp (g3 this) (h3 (by omega))
theorem eb.goes{l:aR}{v:Value}(G:io F a6 sites b0 w w' av cl)(hs:w.heap.size<=w'.heap.size)(cc:∀b,cl b->b<w'.heap.size)(h:eb F sites w av l v):eb a6 b0 w' cl l v:=by
 cases l with
 |d x=>exact bK.goes G hs cc h
 |nil t=>exact h
 |own o s=>exact⟨h.1,Ref.goes G h.2 (fun e p=>p.trans e.symm)⟩
 |ptr o s off=>obtain⟨b,h1,h2⟩:=h;exact⟨b,h1,Ref.goes G h2 (fun e p=>by rw[e];exact p)⟩
 |eE cells off=>
  obtain⟨b,D,hv,hb,hlt,cs,hl,hc,hr⟩:=h;refine⟨b,D,hv,G.av b hb hlt,Nat.lt_of_lt_of_le hlt hs,cs,hl,fun j u hu=>?_,fun j h1 h2=>(hr j h1 h2).goes G hs cc⟩
  have hcell:=hc j u hu;rw[World.cell?_of_block (w:=w) (a:=⟨b,D+j,none⟩) (G.bQ b hb hlt)];exact hcell
 |e3 o s t k off=>obtain⟨b,h1,h2⟩:=h;exact⟨b,h1,Ref.goes G h2 (fun e p=>by rw[e];exact p)⟩
 |clo g bE=>
  obtain⟨vs,hv,hl,hr⟩:=h;exact⟨vs,hv,hl,fun i h1 h2=>Ref.goes G (hr i h1 h2) (fun e p=>p.trans e.symm)⟩
 |cV u=>exact h
 |fresh t xs=>exact h
 |dx=>trivial
 |any=>trivial
theorem hh.goes{a:bS}{v:Value}(G:io F a6 sites b0 w w' av cl)(hs:w.heap.size<=w'.heap.size)(cc:∀b,cl b->b<w'.heap.size)(h:hh F sites w av a v):hh a6 b0 w' cl a v:=by
 cases a with
 |an l=>exact eb.goes G hs cc h
 |agg ai=>
  obtain⟨vs,hv,hl,hr⟩:=h;exact⟨vs,hv,hl,fun j h1 h2=>(hr j h1 h2).goes G hs cc⟩
theorem ck.goes{a:a8}{v:Value}(G:io F a6 sites b0 w w' av cl)(hs:w.heap.size<=w'.heap.size)(cc:∀b,cl b->b<w'.heap.size)(h:ck F sites w av a v):ck a6 b0 w' cl a v:=by
 cases a with
 |av a=>exact hh.goes G hs cc h
 |jX as=>
  obtain⟨vs,hv,hl,hr⟩:=h;exact⟨vs,hv,hl,fun j h1 h2=>(hr j h1 h2).goes G hs cc⟩
theorem kc.goes{o:Nat}{af:Site}(G:io F a6 sites b0 w w' av cl)(hs:w.heap.size<=w'.heap.size)(cc:∀b,cl b->b<w'.heap.size)(cU:a6 o=F o)
  (hb:af.live=true->∀b,Jk.bQ (F o)=some b->w'.heap[b]? =w.heap[b]?) (h:kc F sites w av o af):kc a6 b0 w' cl o af:=by
 cases af with
 |box s cells=>
  obtain⟨b,T,cur,h1,h2,h3,aC,oG,bk⟩:=h;have:=hb rfl b (by rw[h1];rfl)
  exact⟨b,T,cur,cU.trans h1,this.trans h2,h3,aC,oG,fun j g1 g2=>(bk j g1 g2).goes G hs cc⟩
 |row s t xs=>
  obtain⟨e,cs,h1,h2⟩:=h;refine⟨e,cs,?_,fun j g1 g2=>(h2 j g1 g2).goes G hs cc⟩
  rw[cU];refine⟨h1.1,?_⟩;rcases h1.2 with hn|⟨g,cap,cur,fz,hv,r1,r2,di⟩
  ·exact .inl hn
  ·refine .inr ⟨g,cap,cur,fz,hv,r1,?_,di⟩;rw[hb rfl g (by rw[hv];rfl)];exact r2
 |dp s t xs=>exact⟨by rw[cU];exact bK.goes G hs cc h.1,by rw[cU];exact h.2⟩
 |map s t es=>
  obtain⟨b,h1,h2⟩:=h;exact⟨b,cU.trans h1,h2.of (hb rfl b (by rw[h1];rfl))⟩
 |dead s=>trivial
end
theorem aq.q4{U:World}{Y:List Nat}{X:Nat->Prop}{F a6:Nat->Value}{st:al}{b0:List (Nat×Site)}{M:Array Value}{w w':World}
  (S:aq U Y X F st M w)
  (q':∀o af,look st.sites o=some af->∃b5,look b0 o=some b5/\af.cy<=b5.cy/\(b5.cy=af.cy->a6 o=F o))
  (iW:∀b,¬aJ X F st.sites b->b<w.heap.size->w'.heap[b]? =w.heap[b]?)
  (cc:∀b,¬aJ X F st.sites b->b<w.heap.size->¬aJ X a6 b0 b)
  (as1:(∀{a v},ck F st.sites w (aJ X F st.sites) a v->ck a6 b0 w' (aJ X a6 b0) a v)->∀o b5,look b0 o=some b5->
   (look st.sites o=some b5/\a6 o=F o/\(b5.live=true->∀b,bQ (F o)=some b->w'.heap[b]? =w.heap[b]?))\/kc a6 b0 w' (aJ X a6 b0) o b5)
  (aqJ:∀o ab b,cq b0 o->cq b0 ab->bQ (a6 o)=some b->bQ (a6 ab)=some b->o=ab)
  (aqG:∀o b,cq b0 o->bQ (a6 o)=some b->¬X b/\(b∈Y\/U.heap.size<=b))
  (hlt:∀o b,cq b0 o->bQ (a6 o)=some b->b<w'.heap.size)
  (aoR:Fr Y U w') (hs:w.heap.size<=w'.heap.size):
  aq U Y X a6 {st with sites:=b0} M w':=by
 have G:io F a6 st.sites b0 w w' (aJ X F st.sites) (aJ X a6 b0):=⟨q',iW,cc⟩;have wT:∀b,aJ X a6 b0 b->b<w'.heap.size:=by
  rintro b (hx|⟨o,h1,h2⟩)
  ·exact Nat.lt_of_lt_of_le (S.old b hx) hs
  ·exact hlt o b h1 h2
 refine⟨S.nt,fun t=>(S.cN t).goes G hs wT,fun o b5 bz=>?_,aqJ,aqG,aoR,fun b h=>Nat.lt_of_lt_of_le (S.old b h) hs,S.e9⟩
 rcases as1 (fun h=>h.goes G hs wT) o b5 bz with⟨h1,h2,h3⟩|h
 ·exact(S.sites o b5 h1).goes G hs wT h2 h3
 ·exact h
def cE(M:Array Value)(dst:Option Nat)(v:Value):Array Value:=
 match dst with
 |some d=>M.setIfInBounds d v
 |none=>M
section
variable {P:Program}{K:Act->World->Prop}{Q:Exit->Act->World->Prop}{D:Oper}{M:Array Value}{w w':World}{vv:Value}
theorem pc(h:(execOp (Act.eval ⟨M,[]⟩) D).run P w=.ok (.value vv) w')(hk:K ⟨cE M D.dst vv,[]⟩ w'):D.wp P ⟨M,[]⟩ w K Q:=by
 unfold Oper.wp;rw[h,Oper.upon_value];cases aa:D.dst with
 |none=>simp only[aa,cE] at hk;simpa[Act.put] using hk
 |some d=>simp only[aa,cE] at hk;simpa[Act.put] using hk
theorem anT(h:(execOp (Act.eval ⟨M,[]⟩) D).run P w=.ok .skip w')(hk:K ⟨cE M D.dst undef,[]⟩ w'):D.wp P ⟨M,[]⟩ w K Q:=by
 unfold Oper.wp;rw[h,Oper.upon_skip];cases aa:D.dst with
 |none=>simp only[aa,cE] at hk;simpa[Act.put] using hk
 |some d=>simp only[aa,cE] at hk;simpa[Act.put] using hk
end
def bu(sites:List (Nat×Site)):List (Nat×Site)->List (Nat×Site)
 |[]=>sites
 |(o,s)::r=>bu (cw sites o s) r
theorem al.vn(st:al)(us:List (Nat×Site)):st.il us={st with sites:=bu st.sites us}:=by
 induction us generalizing st with
 |nil=>rfl
 |cons p us ih=>obtain⟨o,s⟩:=p;simp only[al.il,bu];rw[ih];rfl
theorem ld(sites:List (Nat×Site))(us vs:List (Nat×Site)):bu sites (us++vs)=bu (bu sites us) vs:=by
 induction us generalizing sites with
 |nil=>rfl
 |cons p us ih=>obtain⟨o,s⟩:=p;simp only[List.cons_append,bu];exact ih _
section
variable {U:World}{Y:List Nat}{X:Nat->Prop}{F:Nat->Value}{st:al}{M:Array Value}{w:World}
theorem aq.put(S:aq U Y X F st M w){t:Nat}{v:a8}{vv:Value}(au:t<st.nt)(hv:ck F st.sites w (aJ X F st.sites) v vv):
  aq U Y X F (st.set t v) (M.setIfInBounds t vv) w:=by
 refine⟨by simpa using S.nt,fun u=>?_,S.sites,S.eh,S.ct,S.frame,S.old,S.e9⟩
 rw[al.IH];by_cases h:t=u
 ·subst h;simp only[if_true];have:(M.setIfInBounds t vv).getD t undef=vv:=by
   have h1:t<M.size:=by rw[S.nt];exact au
   simp[Array.getD,h1]
  rw[this];exact hv
 ·simp only[h,if_false];have:(M.setIfInBounds t vv).getD u undef=M.getD u undef:=by
   simp only[Array.getD_eq_getD_getElem?,Array.getElem?_setIfInBounds,h,if_false]
  rw[this];exact S.cN u
theorem aq.cY{dst:Option Nat}{v:a8}{vv:Value}{us:List (Nat×Site)}(S:aq U Y X F {st with sites:=bu st.sites us} M w)
  (aa:cr st dst=true) (hv:ck F (bu st.sites us) w (aJ X F (bu st.sites us)) v vv):aq U Y X F (st.cY dst v us) (cE M dst vv) w:=by
 cases dst with
 |none=>simp only[al.cY,al.vn,cE];exact S
 |some t=>
  simp only[al.cY,al.vn,cE];have au:t<st.nt:=by simpa[cr] using aa
  exact aq.put (st:={st with sites:=bu st.sites us}) S au hv
theorem dI(S:aq U Y X F st M w)(C:Ctx)(T:TypeId)(x:Operand):ck F st.sites w (aJ X F st.sites) (bg C st T x) (Act.eval ⟨M,[]⟩ x):=by
 cases x with
 |tmp t=>exact S.cN t
 |const v=>
  show ck _ _ _ _ (vJ (C.tt T) v) v;unfold vJ;split
  ·exact .int _ _
  ·exact .bool _
  ·exact .str _ _ rfl
  ·split<;>exact rfl
  ·split
   ·exact .wK _
   ·exact rfl
  ·trivial
  ·trivial
  ·exact rfl
 |global g=>exact rfl
 |func f=>
  refine⟨[],rfl,rfl,fun i h=>?_⟩
  simp at h
variable {P:Program}{C:Ctx}{D:Oper}{K:Act->World->Prop}{Q:Exit->Act->World->Prop}
def cM(P:Program)(U:World)(Y:List Nat)(X:Nat->Prop)(st:al)(M:Array Value)(w:World)(D:Oper)(v:a8)(us:List (Nat×Site)):Prop:=
 ∀(K:Act->World->Prop) (Q:Exit->Act->World->Prop),(∀a6 b6 w',aq U Y X a6 (st.cY D.dst v us) b6 w'->K ⟨b6,[]⟩ w')->D.wp P ⟨M,[]⟩ w K Q
theorem dT(S:aq U Y X F st M w)(aa:cr st D.dst=true){v:a8}{vv:Value}
  (h:(execOp (Act.eval ⟨M,[]⟩) D).run P w=.ok (.value vv) w) (hv:ck F st.sites w (aJ X F st.sites) v vv):cM P U Y X st M w D v []:=
 fun _ _ bT=>pc h (bT _ _ _ (aq.cY (us:=[]) S aa hv))
end
section
variable {P:Program}{w:World}
theorem aea(op:BinOp)(t:TypeId)(x y:Operand)(k k':IntKind)(a b:Int):(eqGuard op t x y (.int k a) (.int k' b)).run P w=.ok () w:=by
 unfold eqGuard;cases op<;>rfl
theorem adX(op:BinOp)(t:TypeId)(x y:Operand)(a b:ByteArray):(eqGuard op t x y (.string a) (.string b)).run P w=.ok () w:=by
 unfold eqGuard;cases op<;>rfl
theorem N6(op:BinOp)(t:TypeId)(x y:Operand)(a b:Bool):(eqGuard op t x y (.bool a) (.bool b)).run P w=.ok () w:=by
 unfold eqGuard;cases op<;>rfl
def Holds(r:dk)(ee:a8->List (Nat×Site)->Prop):Prop:=∀y,r.comp=some y->r.rL y=true->ee (r.val y) (r.us y)
theorem Holds.fail{ee:a8->List (Nat×Site)->Prop}:Holds .fail ee:=fun _ h _=>by cases h
theorem Holds.ok{v:a8}{ee:a8->List (Nat×Site)->Prop}(h:ee v []):Holds (.ok v) ee:=fun _ _ _=>h
theorem Holds.fF{v:a8}{us:List (Nat×Site)}{ee:a8->List (Nat×Site)->Prop}(h:ee v us):Holds (.fF v us) ee:=fun _ _ _=>h
theorem Holds.ey{J:Type}{c:Option J}{f:J->a8}{ee:a8->List (Nat×Site)->Prop}(h:∀y,c=some y->ee (f y) []):Holds (.ey c f) ee:=fun y hy _=>h y hy
theorem Holds.hT{J:Type}{c:Option J}{f:J->a8}{us:J->List (Nat×Site)}{ee:a8->List (Nat×Site)->Prop}(h:∀y,c=some y->ee (f y) (us y)):Holds (.hT c f us) ee:=fun y hy _=>h y hy
def Plain(P:Program)(w:World)(s:Sem Value)(v:a8)(us:List (Nat×Site)):Prop:=
 ∃vv d,s.run P w=.ok vv w/\us=[]/\v=one d/\∀av,bK w av d vv
theorem Plain.mk{s:Sem Value}{vv:Value}{d:bh}(h:s.run P w=.ok vv w)(hr:∀av,bK w av d vv):Plain P w s (one d) []:=⟨vv,d,h,rfl,rfl,hr⟩
theorem ahU(op:BinOp)(T:TypeId)(k:IntKind)(a b:Int)(hs:op≠.shl)(fP:op≠.shr):
  Holds (Wr op k a b) (Plain P w (binOp op T (.int k a) (.int k b))):=by
 cases op with
 |shl=>exact absurd rfl hs
 |shr=>exact absurd rfl fP
 |andNot=>exact .fail
 |quo=>
  refine Holds.ey fun y hy=>?_
  unfold lE at hy;split at hy
  ·cases hy
  ·rename_i hb;cases hy;exact .mk (by simp[binOp,Op.intDiv,hb]) fun av=>.int _ _
 |rem=>
  refine Holds.ey fun y hy=>?_
  unfold iG at hy;split at hy
  ·cases hy
  ·rename_i hb;cases hy;exact .mk (by simp[binOp,Op.intDiv,hb]) fun av=>.int _ _
 |add=>exact Holds.ok (.mk (by simp[binOp,Op.intArith]) fun av=>.int _ _)
 |sub=>exact Holds.ok (.mk (by simp[binOp,Op.intArith]) fun av=>.int _ _)
 |mul=>exact Holds.ok (.mk (by simp[binOp,Op.intArith]) fun av=>.int _ _)
 |and=>exact Holds.ok (.mk (by simp[binOp,Op.intBits,eF]) fun av=>.int _ _)
 |or=>exact Holds.ok (.mk (by simp[binOp,Op.intBits,h4]) fun av=>.int _ _)
 |xor=>exact Holds.ok (.mk (by simp[binOp,Op.intBits,dl]) fun av=>.int _ _)
 |eql=>exact Holds.ok (.mk (by simp[binOp,Op.intCmp]) fun av=>.bool _)
 |neq=>exact Holds.ok (.mk (by simp[binOp,Op.intCmp]) fun av=>.bool _)
 |lss=>exact Holds.ok (.mk (by simp[binOp,Op.intCmp]) fun av=>.bool _)
 |leq=>exact Holds.ok (.mk (by simp[binOp,Op.intCmp]) fun av=>.bool _)
 |gtr=>exact Holds.ok (.mk (by simp[binOp,Op.intCmp]) fun av=>.bool _)
 |geq=>exact Holds.ok (.mk (by simp[binOp,Op.intCmp]) fun av=>.bool _)
theorem ahS(op:BinOp)(T:TypeId)(a b:ByteArray):
  Holds (V7 op a.data.toList b.data.toList) (Plain P w (binOp op T (.string a) (.string b))):=by
 have e1:a.toList=a.data.toList:=ByteArray.toList_eq a;have e2:b.toList=b.data.toList:=ByteArray.toList_eq b;have dQ:a.data.toList.length=a.size:=rfl;have fy:b.data.toList.length=b.size:=rfl;cases op with
 |add=>
  refine Holds.ey fun y hy=>?_
  simp only[bZ,dQ,fy] at hy;split at hy
  ·cases hy
  ·rename_i hc;cases hy;refine .mk (vv:=.string (a++b)) ?_ fun av=>.str _ _ (by simp[ByteArray.data_append])
   simp only[binOp,Op.stringOp,hc,if_false,Sem.run_pure]
 |eql=>exact Holds.ok (.mk (by rw[<-e1,<-e2];rfl) fun av=>.bool _)
 |neq=>exact Holds.ok (.mk (by rw[<-e1,<-e2];rfl) fun av=>.bool _)
 |lss=>exact Holds.ok (.mk (by rw[<-e1,<-e2];rfl) fun av=>.bool _)
 |leq=>exact Holds.ok (.mk (by rw[<-e1,<-e2];rfl) fun av=>.bool _)
 |gtr=>exact Holds.ok (.mk (by rw[<-e1,<-e2];rfl) fun av=>.bool _)
 |geq=>exact Holds.ok (.mk (by rw[<-e1,<-e2];rfl) fun av=>.bool _)
 |_=>exact .fail
end
def qB:aR->Option Value
 |.d (.int k n)=>some (.int k n)
 |.d (.bool b)=>some (.bool b)
 |.d (.str [])=>some (.string ⟨#[]⟩)
 |.nil _=>some (.slice none 0 0)
 |.cV (.pointer none)=>some (.pointer none)
 |.cV .nilFunc=>some .nilFunc
 |.cV (.map none)=>some (.map none)
 |.cV .nilIface=>some .nilIface
 |_=>none
def lk:List aR->Option (List Value)
 |[]=>some []
 |l::ai=>match qB l,lk ai with
  |some v,some vs=>some (v::vs)
  |_,_=>none
theorem O1{l:aR}{v:Value}(h:qB l=some v)(F:Nat->Value)(sites:List (Nat×Site))(w:World)(av:Nat->Prop):eb F sites w av l v/\v.oneCell'=true:=by
 unfold qB at h;split at h<;>first|cases h|skip
 ·exact⟨.int _ _,rfl⟩
 ·exact⟨.bool _,rfl⟩
 ·exact⟨.str _ _ rfl,rfl⟩
 ·exact⟨rfl,rfl⟩
 ·exact⟨rfl,rfl⟩
 ·exact⟨rfl,rfl⟩
 ·exact⟨rfl,rfl⟩
 ·exact⟨rfl,rfl⟩
theorem uS:∀{ai:List aR} {vs:List Value},lk ai=some vs->vs.length=ai.length/\(∀u∈vs,u.oneCell'=true)/\
  ∀(F:Nat->Value) (sites:List (Nat×Site)) (w:World) (av:Nat->Prop) j (h:j<ai.length) (ak:j<vs.length),eb F sites w av (ai[j]) (vs[j]):=by
 intro ai;induction ai with
 |nil=>intro vs h;simp[lk] at h;subst h;exact⟨rfl,fun u hu=>by simp at hu,fun _ _ _ _ j h=>by simp at h⟩
 |cons l ai ih=>
  intro vs h;simp only[lk] at h;split at h
  ·rename_i v cv h1 h2;cases h;obtain⟨g1,g2,g3⟩:=ih h2;refine⟨by simp[g1],fun u hu=>?_,fun F sites w av j hj j2=>?_⟩
   ·rcases List.mem_cons.1 hu with rfl|hu
    ·exact(O1 h1 (fun _=>undef) [] default (fun _=>False)).2
    ·exact g2 u hu
   ·cases j with
    |zero=>exact(O1 h1 _ _ _ _).1
    |succ j=>exact g3 F sites w av j (by simpa using hj) (by simpa using j2)
  ·cases h
def n5:Value->Value->Option Bool
 |.int k a,.int k' b=>if k=k' then some (a==b) else none
 |.bool a,.bool b=>some (a==b)
 |.string a,.string b=>some (a==b)
 |_,_=>none
def jH:List Value->List Value->Option Bool
 |[a],[b]=>n5 a b
 |a::as,b::bs=>match n5 a b,jH as bs with
  |some x,some y=>some (x&&y)
  |_,_=>none
 |_,_=>none
def pI:List aR->List Value->Bool
 |[],[]=>true
 |.d (.int _ _)::z,.int _ _::l=>pI z l
 |.d (.bool _)::z,.bool _::l=>pI z l
 |.d (.str _)::z,.string _::l=>pI z l
 |_,_=>false
def js(P:Program)(T:TypeId)(d:TypeDesc)(z:Value):Prop:=
 P.underlying T=some d/\(∀bR,d≠.struct bR)/\(∀n e,d≠.array n e)/\(P.info? T).map (fun i=>(i.size,i.zero))=some (1,some z)
def mapElem(P:Program)(e:TypeId):bf->Prop
 |.i64=>js P e (.int .i64) (.int .i64 0)
 |.bool=>js P e .bool (.bool false)
 |_=>False
def I3(P:Program)(e:TypeId):bf->Prop
 |.i64=>js P e (.int .i64) (.int .i64 0)
 |.u32=>js P e (.int .u32) (.int .u32 0)
 |.bool=>js P e .bool (.bool false)
 |.str=>js P e .string (.string ⟨#[]⟩)
 |_=>False
def cg.ok(P:Program)(T:TypeId):cg->Prop
 |.none=>True
 |.int k=>js P T (.int k) (.int k 0)
 |.bool=>js P T .bool (.bool false)
 |.str=>js P T .string (.string ⟨#[]⟩)
 |.ptr=>∃e,js P T (.pointer e) (.pointer Option.none)
 |.func=>∃ps k3 v,js P T (.func ps k3 v) .nilFunc
 |.slice e t bytes=>js P T (.slice e) (.slice Option.none 0 0)/\∃z,(P.info? e).map (fun i=>(i.size,i.bytes,i.zero))=some (bd t,bytes,some z)/\z.cells.size=bd t/\(t.jZ=true->e=mF)
 |.struct bR n z eq=>∃fields:Array Field,P.underlying T=some (.struct fields)/\
   (fields.toList.mapM (fun f=>(P.info? f.type).map fun i=>(f.offset,i.size))=some bR/\∀p∈bR,p.2≠0)/\
   (∃gd,(P.info? T).map (fun i=>(i.size,i.zero))=some (n,some (.agg gd))/\lk z=some gd.toList/\z.length=n)/\
   (eq=true->P.eqGuardType P.depth T=false/\∀(vs us:List Value) (b:Bool) (w:World),jH vs us=some b->pI z vs=true->(Op.equal T (.agg vs.toArray) (.agg us.toArray)).run P w=.ok b w)
 |.map k e t=>js P T (.map k e) (.map Option.none)/\P.underlying k=some .string/\mapElem P e t
 |.iface=>∃jc,js P T (.interface jc) .nilIface
 |.arr e t n=>P.underlying T=some (.array n e)/\(∃gd z,(P.info? T).map (fun i=>(i.size,i.zero))=some (n,some (.agg gd))/\tT t=some z/\lk (List.replicate n z)=some gd.toList)/\I3 P e t
section
variable {P:Program}{T:TypeId}{w:World}
theorem lc{i:TypeInfo}(h:P.info? T=some i):(typeInfo T).run P w=.ok i w:=by
 simp[typeInfo,h]
theorem cg.RH{ti:cg}(h:ti.ok P T)(hn:ti≠.none):(sizeOf T).run P w=.ok ti.size w:=by
 have key:∀{z:Option Value} {n:Nat},(P.info? T).map (fun i=>(i.size,i.zero))=some (n,z)->(sizeOf T).run P w=.ok n w:=by
  intro z n h;cases hi:P.info? T with
  |none=>simp[hi] at h
  |some i=>
   simp only[hi,Option.map_some,Option.some.injEq,Prod.mk.injEq] at h;simp[sizeOf,lc hi,h.1]
 cases ti with
 |none=>exact absurd rfl hn
 |int k=>exact key h.2.2.2
 |bool=>exact key h.2.2.2
 |str=>exact key h.2.2.2
 |ptr=>obtain⟨e,h⟩:=h;exact key h.2.2.2
 |func=>obtain⟨_,_,_,h⟩:=h;exact key h.2.2.2
 |iface=>obtain⟨_,h⟩:=h;exact key h.2.2.2
 |slice e t b=>exact key h.1.2.2.2
 |map k e t=>exact key h.1.2.2.2
 |struct bR n z eq=>obtain⟨fields,_,_,⟨gd,h,_⟩,_⟩:=h;exact key h
 |arr e t n=>obtain⟨_,⟨gd,z,h,_⟩,_⟩:=h;exact key h
theorem cg.Gv{ti:cg}(h:ti.ok P T){z:List aR}(hz:ti.zero=some z):∃v,(zeroValue T).run P w=.ok v w/\lk z=some v.cells.toList:=by
 have key:∀{z:Value} {n:Nat},(P.info? T).map (fun i=>(i.size,i.zero))=some (n,some z)->(zeroValue T).run P w=.ok z w:=by
  intro z n h;cases hi:P.info? T with
  |none=>simp[hi] at h
  |some i=>
   simp only[hi,Option.map_some,Option.some.injEq,Prod.mk.injEq] at h;simp[zeroValue,lc hi,h.2]
 cases ti with
 |none=>cases hz
 |int k=>cases hz;exact⟨_,key h.2.2.2,rfl⟩
 |bool=>cases hz;exact⟨_,key h.2.2.2,rfl⟩
 |str=>cases hz;exact⟨_,key h.2.2.2,rfl⟩
 |ptr=>cases hz;obtain⟨e,h⟩:=h;exact⟨_,key h.2.2.2,rfl⟩
 |func=>cases hz;obtain⟨_,_,_,h⟩:=h;exact⟨_,key h.2.2.2,rfl⟩
 |iface=>cases hz;obtain⟨_,h⟩:=h;exact⟨_,key h.2.2.2,rfl⟩
 |slice e t b=>cases hz;exact⟨_,key h.1.2.2.2,rfl⟩
 |map k e t=>cases hz;exact⟨_,key h.1.2.2.2,rfl⟩
 |struct bR n eY eq=>cases hz;obtain⟨fields,_,_,⟨gd,h,h2,_⟩,_⟩:=h;exact⟨_,key h,h2⟩
 |arr e t n=>
  obtain⟨_,⟨gd,z0,h,h1,h2⟩,_⟩:=h;simp only[cg.zero,h1,Option.map_some,Option.some.injEq] at hz;subst hz;exact⟨_,key h,h2⟩
theorem cg.Qo{ti:cg}(h:ti.ok P T)(hn:ti≠.none):(isAgg T).run P w=.ok ti.agg w:=by
 have key:∀{d:TypeDesc},P.underlying T=some d->(∀bR,d≠.struct bR)->(∀n e,d≠.array n e)->(isAgg T).run P w=.ok false w:=by
  intro d h h1 h2;simp only[isAgg,Sem.run_bind,run_underlying h,Result.andThen_ok];cases d<;>first|rfl|exact absurd rfl (h1 _)|exact absurd rfl (h2 _ _)
 cases ti with
 |none=>exact absurd rfl hn
 |int k=>exact key h.1 h.2.1 h.2.2.1
 |bool=>exact key h.1 h.2.1 h.2.2.1
 |str=>exact key h.1 h.2.1 h.2.2.1
 |ptr=>obtain⟨e,h⟩:=h;exact key h.1 h.2.1 h.2.2.1
 |func=>obtain⟨_,_,_,h⟩:=h;exact key h.1 h.2.1 h.2.2.1
 |iface=>obtain⟨_,h⟩:=h;exact key h.1 h.2.1 h.2.2.1
 |slice e t b=>exact key h.1.1 h.1.2.1 h.1.2.2.1
 |map k e t=>exact key h.1.1 h.1.2.1 h.1.2.2.1
 |struct bR n z eq=>
  obtain⟨fields,h,_⟩:=h;simp only[isAgg,Sem.run_bind,run_underlying h,Result.andThen_ok];rfl
 |arr e t n=>
  obtain⟨h,_⟩:=h;simp only[isAgg,Sem.run_bind,run_underlying h,Result.andThen_ok];rfl
def tk(agg:Bool)(cs:List Value):Value:=bif agg then .agg cs.toArray else cs.headD undef
theorem uQ{ti:cg}(h:ti.ok P T)(hn:ti≠.none)(a:Addr)(cs:List Value)(hl:cs.length=ti.size)(hc:∀j u,cs[j]? =some u->w.cell? (a.add j)=some u):
  (loadVar T a).run P w=.ok (tk ti.agg cs) w:=by
 simp only[loadVar,Sem.run_bind,cg.Qo h hn,Result.andThen_ok];cases KZ:ti.agg with
 |true=>
  simp only[if_true,Sem.run_bind,cg.RH h hn,Result.andThen_ok,tk,cond_true];rw[<-hl,run_loadCells_list w a cs hc];rfl
 |false=>
  have h1:ti.size=1:=by cases ti<;>first|rfl|cases KZ
  rw[h1] at hl;match cs,hl with
  |[c],_=>
   have h0:=hc 0 c rfl;have ha:a.add 0=a:=by unfold Addr.add;simp
   rw[ha] at h0;simp[tk,h0]
end
section
variable {F:Nat->Value}{sites:List (Nat×Site)}{w:World}{av:Nat->Prop}
def cA(F:Nat->Value)(sites:List (Nat×Site))(w:World)(av:Nat->Prop)(ai:List aR)(vs:List Value):Prop:=
 vs.length=ai.length/\∀j (h:j<ai.length) (ak:j<vs.length),eb F sites w av (ai[j]) (vs[j])
theorem cA.nil:cA F sites w av [] []:=⟨rfl,fun j h=>by simp at h⟩
theorem cA.cons{l:aR}{ai:List aR}{v:Value}{vs:List Value}(h:eb F sites w av l v)(hs:cA F sites w av ai vs):cA F sites w av (l::ai) (v::vs):=
 ⟨by simp[hs.1],fun j h1 h2=>by
  cases j with
  |zero=>exact h
  |succ j=>exact hs.2 j (by simpa using h1) (by simpa using h2)⟩
theorem cA.inv{l:aR}{ai:List aR}{vs:List Value}(h:cA F sites w av (l::ai) vs):∃v cv,vs=v::cv/\eb F sites w av l v/\cA F sites w av ai cv:=by
 obtain⟨h1,h2⟩:=h;match vs,h1 with
 |v::cv,h1=>
  exact⟨v,cv,rfl,h2 0 (by simp) (by simp),by simpa using h1,fun j g1 g2=>h2 (j+1) (by simpa using g1) (by simpa using g2)⟩
theorem cA.n7{vs:List Value}(h:cA F sites w av [] vs):vs=[]:=List.eq_nil_of_length_eq_zero h.1
theorem cA.drop{ai:List aR}{vs:List Value}(n:Nat)(h:cA F sites w av ai vs):cA F sites w av (ai.drop n) (vs.drop n):=
 ⟨by simp[h.1],fun j h1 h2=>by simp only[List.getElem_drop];exact h.2 _ (by simp at h1;omega) (by simp at h2;omega)⟩
theorem cA.take{ai:List aR}{vs:List Value}(n:Nat)(h:cA F sites w av ai vs):cA F sites w av (ai.take n) (vs.take n):=
 ⟨by simp[h.1],fun j h1 h2=>by simp only[List.getElem_take];exact h.2 _ (by simp at h1;omega) (by simp at h2;omega)⟩
theorem cA.append{ai gw:List aR}{vs cv:List Value}(h:cA F sites w av ai vs)(ak:cA F sites w av gw cv):cA F sites w av (ai++gw) (vs++cv):=by
 induction ai generalizing vs with
 |nil=>rw[h.n7];exact ak
 |cons l ai ih=>
  obtain⟨v,xb,rfl,h1,h2⟩:=h.inv;exact .cons h1 (ih h2)
theorem cA.bP{ai gw:List aR}{vs cv:List Value}(off:Nat)(h:cA F sites w av ai vs)(ak:cA F sites w av gw cv):cA F sites w av (Jk.bP ai off gw) (Jk.bP vs off cv):=by
 unfold Jk.bP;rw[ak.1];exact((h.take off).append ak).append (h.drop _)
theorem eb.jI{l:aR}{u:Value}(h:eb F sites w av l u)(dV:l.storable=true):u.oneCell'=true:=by
 cases l with
 |d x=>exact bK.jI h
 |nil t=>rw[show u=_ from h];rfl
 |own o s=>exact h.1
 |ptr o s off=>obtain⟨b,rfl,_⟩:=h;rfl
 |eE c D=>cases dV
 |e3 _ _ _ _ _=>cases dV
 |clo g bE=>obtain⟨vs,rfl,_⟩:=h;rfl
 |cV x=>rw[show u=x from h];cases x<;>first|rfl|cases dV
 |fresh t xs=>cases dV
 |dx=>cases dV
 |any=>cases dV
theorem cA.jI{ai:List aR}{vs:List Value}(h:cA F sites w av ai vs)(dV:hK ai=true):∀u∈vs,u.oneCell'=true:=by
 induction ai generalizing vs with
 |nil=>rw[h.n7];intro u hu;simp at hu
 |cons l ai ih=>
  obtain⟨v,cv,rfl,h1,h2⟩:=h.inv;simp only[hK,Bool.and_eq_true] at dV;intro u hu;rcases List.mem_cons.1 hu with rfl|hu
  ·exact h1.jI dV.1
  ·exact ih h2 dV.2 u hu
theorem hh.cells{a:bS}{v:Value}(h:hh F sites w av a v)(dV:hK a.cells=true):cA F sites w av a.cells v.cells.toList:=by
 cases a with
 |an l=>
  have h1:v.oneCell'=true:=eb.jI h (by simpa[bS.cells,hK] using dV)
  have:v.cells=#[v]:=by cases v<;>first|rfl|cases h1
  rw[this];exact .cons h .nil
 |agg ai=>
  obtain⟨vs,rfl,h1,h2⟩:=h;exact⟨h1,h2⟩
theorem Vz{agg:Bool}{off n:Nat}{ai:List aR}{vs:List Value}{v:a8}(hc:cut agg off n ai=some v)(h1:agg=false->n=1)(h:cA F sites w av ai vs):
  off+n<=vs.length/\ck F sites w av v (tk agg ((vs.drop off).take n)):=by
 unfold cut at hc;cases agg with
 |true=>
  simp only[cond_true] at hc;cases hb:Nat.ble (off+n) ai.length with
  |false=>simp[hb] at hc
  |true=>
   simp only[hb,cond_true,Option.some.injEq] at hc;subst hc;have hle:off+n<=ai.length:=Nat.le_of_ble_eq_true hb;have:=(h.drop off).take n;exact⟨by rw[h.1];exact hle,_,rfl,this.1,this.2⟩
 |false=>
  simp only[cond_false] at hc;have hn:=h1 rfl;subst hn;cases aa:ai.drop off with
  |nil=>simp[aa] at hc
  |cons l r=>
   simp only[aa,Option.some.injEq] at hc;subst hc;have ab8:=h.drop off;rw[aa] at ab8;obtain⟨u,us,hu,hl,_⟩:=ab8.inv;have hlen:off<ai.length:=by
    rcases Nat.lt_or_ge off ai.length with h|h
    ·exact h
    ·rw[List.drop_eq_nil_of_le h] at aa;cases aa
   refine⟨by rw[h.1];omega,?_⟩
   rw[hu];exact hl
theorem hO{ds:List bh}{vs:List Value}(hl:vs.length=ds.length)(h:∀j (h:j<ds.length) (ak:j<vs.length),bK w av (ds[j]) (vs[j])):cA F sites w av (cG ds) vs:=
 ⟨by simp[cG,hl],fun j h1 h2=>by simp only[cG,List.getElem_map];exact h j (by simpa[cG] using h1) h2⟩
end
theorem gV(b D j:Nat):(⟨b,D,none⟩:Addr).add j=⟨b,D+j,none⟩:=by
 unfold Addr.add;split<;>simp_all
def ie(w:World)(b D:Nat)(cs:List Value):Prop:=∀j u,cs[j]? =some u->w.cell? ⟨b,D+j,none⟩=some u
theorem ie.drop{w:World}{b D:Nat}{cs:List Value}(h:ie w b D cs)(m:Nat):ie w b (D+m) (cs.drop m):=by
 intro j u hu;rw[List.getElem?_drop] at hu;have:=h _ _ hu;rwa[Nat.add_assoc]
theorem ie.take{w:World}{b D:Nat}{cs:List Value}(h:ie w b D cs)(m:Nat):ie w b D (cs.take m):=by
 intro j u hu;rw[List.getElem?_take] at hu;split at hu
 ·exact h _ _ hu
 ·cases hu
theorem ie.row{w:World}{b:Nat}{cur:List Value}{T:TypeId}{cL:Nat×Nat}(h:w.heap[b]? =some (.cells cur.toArray T cL)):ie w b 0 cur:=by
 intro j u hu;rw[Nat.zero_add,cell_of_row w b j _ T cL h];simpa using hu
theorem uZ(t:bf)(xs:List (den t))(k:Nat)(x:den t)(hx:xs[k]? =some x):((flat t xs).drop (k*bd t)).take (bd t)=enc t x:=by
 apply List.ext_getElem?;intro j;rw[List.getElem?_take,List.getElem?_drop];split
 ·rename_i hj;exact flat_get t xs k j x hx hj
 ·rename_i hj;rw[List.getElem?_eq_none (by rw[jg];omega)]
section
variable {P:Program}{C:hV}{U:World}{Y:List Nat}{X:Nat->Prop}{F:Nat->Value}{st:al}{M:Array Value}{w:World}
theorem gP{o s:Nat}{cells:List aR}(h:fM st o s=some cells):look st.sites o=some (.box s cells):=by
 unfold fM al.af at h;split at h
 ·rename_i aN jL hl;cases hb:aN.beq s with
  |false=>simp[hb] at h
  |true=>
   simp only[hb,cond_true,Option.some.injEq] at h;have:=Nat.eq_of_beq_eq_true hb;subst this h;exact hl
 ·cases h
theorem j8{o s:Nat}{t:bf}{xs:List (den t)}(h:rowOf st o s=some ⟨t,xs⟩):look st.sites o=some (.row s t xs)\/look st.sites o=some (.dp s t xs):=by
 unfold rowOf al.af at h;split at h
 ·rename_i aN bo iX hl;cases hb:aN.beq s with
  |false=>simp[hb] at h
  |true=>
   simp only[hb,cond_true,Option.some.injEq] at h;have:=Nat.eq_of_beq_eq_true hb;subst this;cases h;exact .inl hl
 ·rename_i aN bo iX hl;cases hb:aN.beq s with
  |false=>simp[hb] at h
  |true=>
   simp only[hb,cond_true,Option.some.injEq] at h;have:=Nat.eq_of_beq_eq_true hb;subst this;cases h;exact .inr hl
 ·cases h
theorem Ref.at{sites:List (Nat×Site)}{o s:Nat}{p:Prop}{af:Site}(h:Ref sites o s p)(hl:look sites o=some af)(hs:af.cy=s):p:=by
 obtain⟨b5,h1,_,h3⟩:=h;rw[hl] at h1;cases h1;exact h3 hs
theorem Ref.mk{sites:List (Nat×Site)}{o s:Nat}{p:Prop}{af:Site}(hl:look sites o=some af)(hs:af.cy=s)(hp:p):Ref sites o s p:=
 ⟨af,hl,by omega,fun _=>hp⟩
theorem aq.box(S:aq U Y X F st M w){o s off:Nat}{cells:List aR}(h:look st.sites o=some (.box s cells)){v:Value}(hv:eb F st.sites w (aJ X F st.sites) (.ptr o s off) v):
  ∃b T cur,F o=.pointer (some ⟨b,0,none⟩)/\v=.pointer (some ⟨b,off,none⟩)/\w.heap[b]? =some (.cells (List.toArray cur) T (0,0))/\(∀u∈cur,u.oneCell'=true)/\cA F st.sites w (aJ X F st.sites) cells cur:=by
 obtain⟨b,T,cur,h1,h2,h3,aC,_,bk⟩:=S.sites o _ h;obtain⟨bI,g2,g3⟩:=hv;have g1:=Ref.at g3 h rfl;rw[h1] at g1;cases g1;exact⟨b,T,cur,h1,g2,h2,aC,h3,bk⟩
theorem aq.row(S:aq U Y X F st M w){o s:Nat}{t:bf}{xs:List (den t)}(h:rowOf st o s=some ⟨t,xs⟩):
  ∃cs:List Value,cA F st.sites w (aJ X F st.sites) (cG (flat t xs)) cs/\
   ((F o=.slice none 0 0/\xs=[])\/∃b c,F o=.slice (some ⟨b,0,none⟩) xs.length c/\ie w b 0 cs/\xs.length<=c):=by
 rcases j8 h with h|h
 ·obtain⟨e,cs,h1,h2⟩:=S.sites o _ h;have hl:cs.length=(flat t xs).length:=by rw[e7];exact h1.1
  refine⟨cs,hO hl h2,?_⟩;rcases h1.2 with⟨hn,h0⟩|⟨g,cap,cur,fz,hv,_,hg,hnc,_,_,htk⟩
  ·exact .inl ⟨hn,List.eq_nil_of_length_eq_zero h0⟩
  ·refine .inr ⟨_,_,hv,fun j u hu=>?_,hnc⟩
   rw[Nat.zero_add,cell_of_row w g j cur e fz hg];rw[<-htk,List.getElem?_take] at hu;split at hu
   ·simpa using hu
   ·cases hu
 ·obtain⟨h1,bL⟩:bK w (aJ X F st.sites) (.sl t xs) (F o)/\Dk (F o):=S.sites o _ h;generalize hv:F o=v at h1 bL;cases h1 with
  |nil t=>exact⟨[],⟨rfl,fun j h=>by simp[cG,flat] at h⟩,.inl ⟨rfl,rfl⟩⟩
  |sl t xs a cap cs n hn hcap hb hl hc hr=>
   subst hn;rcases bL with bL|⟨b,n,c,bL⟩
   ·cases bL
   ·cases bL;exact⟨cs,hO hl hr,.inr ⟨b,cap,rfl,fun j u hu=>by have:=hc j u hu;rwa[gV] at this,hcap⟩⟩
def Dl(g:Nat)(t:bf)(xs:List (den t)):Prop:=g∈kW/\∀w (av:Nat->Prop),nG w->∃T fz,∃cs:List Value,w.heap[g]? =some (.cells cs.toArray T fz)/\cs.length=(flat t xs).length/\∀j (h:j<(flat t xs).length) (ak:j<cs.length),bK w av ((flat t xs)[j]) (cs[j])
structure CtxOk(P:Program)(C:Ctx):Prop where
 tt:∀T,(C.tt T).ok P T
 gt:∀g t xs,C.gt g=some ⟨t,xs⟩->Dl g t xs
theorem GU{ti:cg}(h:ti.known=true):ti≠.none:=by rintro rfl;cases h
theorem Ha{ti:cg}(h:ti.agg=false):ti.size=1:=by cases ti<;>first|rfl|cases h
theorem ak4{agg:Bool}{off n:Nat}{ai:List aR}(h:off+n<=ai.length)(h1:agg=false->n=1):cut agg off n ai≠none:=by
 unfold cut;cases agg with
 |true=>
  have:Nat.ble (off+n) ai.length=true:=Nat.ble_eq_true_of_le h;simp[this]
 |false=>
  have:=h1 rfl;simp only[cond_false];cases aa:ai.drop off with
  |nil=>have:=congrArg List.length aa;simp at this;omega
  |cons l r=>simp
theorem amR(S:aq U Y X F st M w){C:Ctx}(H:CtxOk P C){D:Oper}{T:TypeId}{x:Operand}(aM:D.op=.load T x)(aa:cr st D.dst=true)(hk:(C.tt T).known=true):
  Holds (to (C.tt T).agg (C.tt T).size st (bg C st T x)) (cM P U Y X st M w D):=by
 have hn:=GU hk;have bB:=dI S C T x;have fin:∀{b p:Nat} {ai:List aR} {vs:List Value} {off:Nat} {v:a8},Act.eval ⟨M,[]⟩ x=.pointer (some ⟨b,p+off,none⟩)->ie w b p vs->cA F st.sites w (aJ X F st.sites) ai vs->
   cut (C.tt T).agg off (C.tt T).size ai=some v->cM P U Y X st M w D v []:=by
  intro b p ai vs off v hx hc hl fO;obtain⟨hle,axq⟩:=Vz fO Ha hl;refine dT S aa (vv:=tk (C.tt T).agg ((vs.drop off).take (C.tt T).size)) ?_ axq;have dw:=uQ (P:=P) (w:=w) (H.tt T) hn ⟨b,p+off,none⟩ ((vs.drop off).take (C.tt T).size) (by simp;omega) (fun j u hu=>by rw[gV];exact(hc.drop off).take _ j u hu)
  unfold execOp;simp only[aM,Instr.loadAt,Instr.sureAddr,hx,Sem.run_bind,Sem.run_pure,Result.andThen_ok,dw]
 unfold to;split
 ·rename_i o s off b8;rw[b8] at bB;split
  ·rename_i cells hb;split
   ·rename_i v fO;obtain⟨b,gC,cur,_,hv,hg,_,hl⟩:=S.box (gP hb) bB;exact Holds.ok (fin (p:=0) (by rw[Nat.zero_add];exact hv) (ie.row hg) hl fO)
   ·exact .fail
  ·exact .fail
 ·rename_i cells off b8;rw[b8] at bB;split
  ·rename_i v fO;obtain⟨b,p,hv,_,_,cs,hl,hc,hr⟩:=bB;exact Holds.ok (fin hv hc (hO hl hr) fO)
  ·exact .fail
 ·rename_i o s u k off b8;rw[b8] at bB;split
  ·rename_i t xs hrow;split
   ·rename_i oz;obtain⟨rfl,hle⟩:=oz;refine Holds.ey fun y hy=>?_
    have ec:xs[k]? =some y:=hy;obtain⟨cs,hl,hcell⟩:=S.row hrow;have dV:∃af,look st.sites o=some af/\af.cy=s:=by
     rcases j8 hrow with h|h<;>exact⟨_,h,rfl⟩
    obtain⟨af,iI,lO⟩:=dV;obtain⟨b,hv,wR⟩:=bB;obtain⟨n,c,cU⟩:=Ref.at wR iI lO;cases fO:cut (C.tt T).agg off (C.tt T).size (cG (enc t y)) with
    |none=>exact absurd fO (ak4 (by simpa[cG,jg] using hle) Ha)
    |some v=>
     rcases hcell with⟨rc,_⟩|⟨bI,fr,ki,hcs,_⟩
     ·rw[cU] at rc;cases rc
     ·rw[cU] at ki;cases ki;have e1:cG (enc t y)=((cG (flat t xs)).drop (k*bd t)).take (bd t):=by
       rw[<-uZ t xs k y ec];simp[cG,List.map_drop,List.map_take]
      rw[e1] at fO;refine fin (p:=k*bd t) hv ?_ ((hl.drop (k*bd t)).take (bd t)) fO;have:=(hcs.drop (k*bd t)).take (bd t);rwa[Nat.zero_add] at this
   ·exact .fail
  ·exact .fail
 ·exact .fail
end
section
variable {P:Program}{U:World}{Y:List Nat}{X:Nat->Prop}{F:Nat->Value}{st:al}{M:Array Value}{w:World}
theorem aq.fI(S:aq U Y X F st M w){o b:Nat}(hl:cq st.sites o)(hb:bQ (F o)=some b):b<w.heap.size:=by
 obtain⟨af,h1,h2⟩:=hl;have:=S.sites o af h1;cases af with
 |box s cells=>
  obtain⟨bI,T,cur,g1,g2,_⟩:=this;rw[g1] at hb;cases hb;exact(Array.getElem?_eq_some_iff.1 g2).1
 |row s t xs=>
  obtain⟨e,cs,g1,_⟩:=this;rcases g1.2 with⟨hn,_⟩|⟨g,cap,cur,fz,hv,_,hg,_⟩
  ·rw[hn] at hb;cases hb
  ·rw[hv] at hb;cases hb;exact(Array.getElem?_eq_some_iff.1 hg).1
 |map s t es=>
  obtain⟨bI,g1,g2⟩:=this;rw[g1] at hb;cases hb;exact g2.lt
 |dp=>cases h2
 |dead=>cases h2
theorem BR{F a6:Nat->Value}{sites b0:List (Nat×Site)}{w w':World}{av cl:Nat->Prop}(go:∀{a:a8} {v:Value},ck F sites w av a v->ck a6 b0 w' cl a v){ai:List aR}{vs:List Value}
  (h:cA F sites w av ai vs):cA a6 b0 w' cl ai vs:=by
 obtain⟨cv,h1,h2,h3⟩:=go (a:=.av (.agg ai)) (v:=.agg vs.toArray) ⟨vs,rfl,h.1,h.2⟩;have:vs=cv:=by simpa using h1
 subst this;exact⟨h2,h3⟩
theorem po{F a6:Nat->Value}{sites b0:List (Nat×Site)}{w w':World}{av cl:Nat->Prop}(go:∀{a:a8} {v:Value},ck F sites w av a v->ck a6 b0 w' cl a v){d:bh}{v:Value}
  (h:bK w av d v):bK w' cl d v:=go (a:=one d) (v:=v) h
theorem Po{sites:List (Nat×Site)}{o:Nat}{af b5:Site}(hl:look sites o=some af)(h:b5.live=af.live)(ab:Nat):cq (cw sites o b5) ab <-> cq sites ab:=by
 unfold cq;rw[c7];by_cases e:o=ab
 ·subst e;simp only[if_true,hl,Option.some.injEq];constructor
  ·rintro⟨s,rfl,h2⟩;exact⟨af,rfl,h▸h2⟩
  ·rintro⟨s,rfl,h2⟩;exact⟨b5,rfl,h▸h2⟩
 ·simp only[e,if_false]
theorem aq.write(S:aq U Y X F st M w){o b:Nat}{af b5:Site}{cur cur':Array Value}{T:TypeId}{cL:Nat×Nat}(hl:look st.sites o=some af)(mc:af.live=true)(aoQ:b5.live=true)(hs:b5.cy=af.cy)
  (cU:bQ (F o)=some b) (hg:w.heap[b]? =some (.cells cur T cL))
  (fG:∀{b0:List (Nat×Site)} {w':World},b0=cw st.sites o b5->w'=w.setRow b cur'->w'.heap[b]? =some (.cells cur' T cL)->
   (∀{a v},ck F st.sites w (aJ X F st.sites) a v->ck F b0 w' (aJ X F b0) a v)->kc F b0 w' (aJ X F b0) o b5):
  aq U Y X F {st with sites:=cw st.sites o b5} M (w.setRow b cur'):=by
 have cP:cq st.sites o:=⟨af,hl,mc⟩;have mj:∀ab,cq (cw st.sites o b5) ab <-> cq st.sites ab:=Po hl (aoQ.trans mc.symm);have cc:∀bI,aJ X F (cw st.sites o b5) bI <-> aJ X F st.sites bI:=by
  intro bI;unfold aJ;simp only[mj]
 have hne:∀bI,¬aJ X F st.sites bI->bI≠b:=by
  rintro bI h rfl;exact h (.inr ⟨o,cP,cU⟩)
 refine S.q4 (fun ab s bW=>?_) (fun bI h _=>setRow_other w b bI _ (hne bI h)) (fun bI h _=>by rw[cc];exact h) (fun go ab s bW=>?_) (fun ab ρ bI h1 h2=>S.eh ab ρ bI ((mj ab).1 h1) ((mj ρ).1 h2))
  (fun ab bI h=>S.ct ab bI ((mj ab).1 h)) (fun ab bI h hb=>by rw[setRow_size];exact S.fI ((mj ab).1 h) hb) ?_ (by rw[setRow_size];exact Nat.le_refl _)
 ·rw[c7];by_cases e:o=ab
  ·subst e;rw[hl] at bW;cases bW;exact⟨b5,by simp,by omega,fun _=>rfl⟩
  ·exact⟨s,by simp[e,bW],Nat.le_refl _,fun _=>rfl⟩
 ·rw[c7] at bW;by_cases e:o=ab
  ·subst e;simp only[if_true,Option.some.injEq] at bW;subst bW;exact .inr (fG rfl rfl (setRow_heap w b cur cur' T cL hg) go)
  ·simp only[e,if_false] at bW;refine .inl ⟨bW,rfl,fun tI bI ed=>setRow_other w b bI _ ?_⟩
   rintro rfl;exact e (S.eh o ab _ cP ⟨s,bW,tI⟩ cU ed)
 ·have aT:=S.frame;refine⟨aT.os,aT.tape,aT.output,by rw[setRow_size];exact aT.size,fun bI h1 h2=>?_⟩
  rw[setRow_other w b bI _ ?_]
  ·exact aT.block bI h1 h2
  ·rintro rfl;rcases(S.ct o _ cP cU).2 with h|h
   ·exact h2 h
   ·omega
theorem aq.freeze(S:aq U Y X F st M w){o s:Nat}{t:bf}{xs:List (den t)}(hl:look st.sites o=some (.row s t xs)):
  aq U Y X F {st with sites:=cw st.sites o (.dp s t xs)} M w:=by
 have cP:cq st.sites o:=⟨_,hl,rfl⟩;have ek:∀ab,cq (cw st.sites o (.dp s t xs)) ab->cq st.sites ab/\ab≠o:=by
  rintro ab ⟨af,h1,h2⟩;rw[c7] at h1;by_cases e:o=ab
  ·subst e;simp at h1;subst h1;cases h2
  ·simp only[e,if_false] at h1;exact⟨⟨af,h1,h2⟩,fun h=>e h.symm⟩
 have cc:∀bI,aJ X F (cw st.sites o (.dp s t xs)) bI->aJ X F st.sites bI:=by
  rintro bI (h|⟨ab,h1,h2⟩)
  ·exact .inl h
  ·exact .inr ⟨ab,(ek ab h1).1,h2⟩
 refine S.q4 (fun ab af bW=>?_) (fun _ _ _=>rfl) (fun bI h _ ak=>h (cc bI ak)) (fun go ab af bW=>?_) (fun ab ρ bI h1 h2=>S.eh ab ρ bI (ek ab h1).1 (ek ρ h2).1)
  (fun ab bI h=>S.ct ab bI (ek ab h).1) (fun ab bI h hb=>S.fI (ek ab h).1 hb) S.frame (Nat.le_refl _)
 ·rw[c7];by_cases e:o=ab
  ·subst e;rw[hl] at bW;cases bW;exact⟨.dp s t xs,by simp,Nat.le_refl _,fun _=>rfl⟩
  ·exact⟨af,by simp[e,bW],Nat.le_refl _,fun _=>rfl⟩
 ·rw[c7] at bW;by_cases e:o=ab
  ·subst e;simp only[if_true,Option.some.injEq] at bW;subst bW;refine .inr ?_
   show bK _ _ (.sl t xs) (F o)/\Dk (F o);obtain⟨cI,cs,h1,h2⟩:=S.sites o _ hl;rcases h1.2 with⟨hn,h0⟩|⟨g,cap,cur,fz,hv,_,hg,hnc,_,_,htk⟩
   ·have:xs=[]:=List.eq_nil_of_length_eq_zero h0;subst this;rw[hn];exact⟨.nil t,.inl rfl⟩
   ·rw[hv];refine⟨?_,.inr ⟨_,_,_,rfl⟩⟩;have hlen:cs.length=(flat t xs).length:=by rw[e7];exact h1.1
    refine .sl t xs _ cap cs xs.length rfl hnc (fun _=>?_) hlen (fun j u hu=>?_) (fun j g1 g2=>po go (h2 j g1 g2))
    ·rintro(hx|⟨ab,g1,g2⟩)
     ·exact(S.ct o g cP (by rw[hv];rfl)).1 hx
     ·obtain⟨g3,g4⟩:=ek ab g1;exact g4 (S.eh ab o g g3 cP g2 (by rw[hv];rfl))
    ·rw[gV,Nat.zero_add,cell_of_row w g j cur cI fz hg];rw[<-htk,List.getElem?_take] at hu;split at hu
     ·simpa using hu
     ·cases hu
  ·simp only[e,if_false] at bW;exact .inl ⟨bW,rfl,fun _ _ _=>rfl⟩
theorem Q8{aH:Type}(l:List (Nat×aH))(n:Nat)(v:aH)(h:look l n=some v):cw l n v=l:=by
 induction l with
 |nil=>simp[look] at h
 |cons p l ih=>
  obtain⟨k,u⟩:=p;simp only[look] at h;simp only[cw];cases hb:k.beq n with
  |true=>simp only[hb,cond_true,Option.some.injEq] at h;subst h;simp
  |false=>simp only[hb,cond_false] at h;simp[ih h]
def dU(sites:List (Nat×Site))(us:List (Nat×Site)):Prop:=
 ∀o af,(o,af)∈us->∃s t,∃xs:List (den t),af=.dp s t xs/\(look sites o=some (.row s t xs)\/look sites o=some (.dp s t xs))
theorem dU.nil{sites:List (Nat×Site)}:dU sites []:=fun _ _ h=>by simp at h
theorem dU.append{sites us vs:List (Nat×Site)}(h:dU sites us)(ak:dU sites vs):dU sites (us++vs):=by
 intro o af hm;rcases List.mem_append.1 hm with hm|hm
 ·exact h o af hm
 ·exact ak o af hm
theorem dU.step{sites us:List (Nat×Site)}{o:Nat}{af:Site}(h:dU sites ((o,af)::us)):dU (cw sites o af) us:=by
 obtain⟨s,t,xs,rfl,hl⟩:=h o af (by simp)
 intro ab b5 hm;obtain⟨aN,bo,iX,rfl,gx⟩:=h ab b5 (by simp[hm])
 refine⟨aN,bo,iX,rfl,?_⟩;rw[c7];by_cases e:o=ab
 ·subst e;simp only[if_true];right;rcases hl with hl|hl<;>rcases gx with gx|gx<;>rw[hl] at gx<;>cases gx<;>rfl
 ·simp only[e,if_false];exact gx
theorem aq.Bh{us:List (Nat×Site)}:∀{st:al},aq U Y X F st M w->dU st.sites us->aq U Y X F {st with sites:=bu st.sites us} M w:=by
 induction us with
 |nil=>intro st S _;exact S
 |cons p us ih=>
  obtain⟨o,af⟩:=p;intro st S h;have ak:=h.step;obtain⟨s,t,xs,rfl,hl⟩:=h o af (by simp)
  simp only[bu];rcases hl with hl|hl
  ·exact ih (S.freeze hl) ak
  ·rw[Q8 _ _ _ hl] at ak ⊢;exact ih S ak
theorem lZ{us:List (Nat×Site)}:∀{sites:List (Nat×Site)},dU sites us->∀o,(look (bu sites us) o=look sites o)\/(∃s t,∃xs:List (den t),(look sites o=some (.row s t xs)\/look sites o=some (.dp s t xs))/\look (bu sites us) o=some (.dp s t xs)):=by
 induction us with
 |nil=>intro sites _ o;exact .inl rfl
 |cons p us ih=>
  obtain⟨ab,af⟩:=p;intro sites h o;obtain⟨s,t,xs,rfl,hl⟩:=h ab af (by simp)
  simp only[bu];have hc:=c7 sites ab o (.dp s t xs);rcases ih h.step o with h1|⟨aN,bo,iX,h1,h2⟩
  ·by_cases e:ab=o
   ·subst e;simp only[if_true] at hc;exact .inr ⟨s,t,xs,hl,h1.trans hc⟩
   ·simp only[e,if_false] at hc;exact .inl (h1.trans hc)
  ·by_cases e:ab=o
   ·subst e;simp only[if_true] at hc;rw[hc] at h1;rcases h1 with h1|h1
    ·cases h1
    ·cases h1;exact .inr ⟨s,t,xs,hl,h2⟩
   ·simp only[e,if_false] at hc;rw[hc] at h1;exact .inr ⟨aN,bo,iX,h1,h2⟩
theorem EB{us:List (Nat×Site)}:∀{sites:List (Nat×Site)},dU sites us->∀{o s:Nat} {t:bf} {xs:List (den t)},(o,Site.dp s t xs)∈us->look (bu sites us) o=some (.dp s t xs):=by
 intro sites h o s t xs hm;obtain⟨iw,t0,Dv,he,hl⟩:=h o _ hm;cases he;rcases lZ h o with h1|⟨aN,bo,iX,h1,h2⟩
 ·-- named,and aCq aBi
  induction us generalizing sites with
  |nil=>simp at hm
  |cons p us ih=>
   obtain⟨ab,af⟩:=p;simp only[bu] at h1 ⊢;rcases List.mem_cons.1 hm with hm|hm
   ·cases hm;rcases lZ h.step o with h2|⟨aN,bo,iX,h2,h3⟩
    ·rw[h2,c7];simp
    ·rw[c7] at h2;simp at h2;obtain⟨rfl,rfl,h2⟩:=h2;rw[h3];cases h2;rfl
   ·have hc:=c7 sites ab o af;by_cases e:ab=o
    ·subst e;obtain⟨s1,t1,awh,rfl,ht⟩:=h ab af (by simp)
     have:Site.dp s1 t1 awh=Site.dp s t xs:=by
      rcases hl with hl|hl<;>rcases ht with ht|ht<;>rw[hl] at ht<;>cases ht<;>rfl
     cases this;simp only[if_true] at hc;rcases lZ h.step ab with h2|⟨aN,bo,iX,h2,h3⟩
     ·rw[h2,hc]
     ·rw[hc] at h2;rcases h2 with h2|h2
      ·cases h2
      ·cases h2;exact h3
    ·simp only[e,if_false] at hc;refine ih h.step hm (by rw[hc];exact hl) ?_
     rw[h1,hc]
 ·rcases hl with hl|hl<;>rcases h1 with h1|h1<;>rw[hl] at h1<;>cases h1<;>exact h2
end
section
variable {P:Program}{U:World}{Y:List Nat}{X:Nat->Prop}{F:Nat->Value}{st:al}{M:Array Value}{w:World}
structure la(U:World)(Y:List Nat)(X:Nat->Prop)(F:Nat->Value)(st:al)(M:Array Value)(w:World)(vs:List (Nat×Site)):Prop where
 old:aq U Y X F st M w
 fz:dU st.sites vs
theorem la.new{vs:List (Nat×Site)}(aT:la U Y X F st M w vs):aq U Y X F {st with sites:=bu st.sites vs} M w:=aT.old.Bh aT.fz
theorem la.go{vs:List (Nat×Site)}(aT:la U Y X F st M w vs){a:a8}{v:Value}(h:ck F st.sites w (aJ X F st.sites) a v):ck F (bu st.sites vs) w (aJ X F (bu st.sites vs)) a v:=by
 have ek:∀ab,cq (bu st.sites vs) ab->cq st.sites ab:=by
  rintro ab ⟨af,h1,h2⟩;rcases lZ aT.fz ab with h|⟨s,t,xs,_,h⟩
  ·exact⟨af,h▸h1,h2⟩
  ·rw[h] at h1;cases h1;cases h2
 refine h.goes ⟨fun o af bz=>?_,fun _ _ _=>rfl,fun b hb _ ed=>hb ?_⟩ (Nat.le_refl _) ?_
 ·rcases lZ aT.fz o with h|⟨s,t,xs,h1,h2⟩
  ·exact⟨af,h.trans bz,Nat.le_refl _,fun _=>rfl⟩
  ·refine⟨_,h2,?_,fun _=>rfl⟩
   rw[bz] at h1;rcases h1 with h1|h1<;>cases h1<;>exact Nat.le_refl _
 ·rcases ed with h|⟨ab,h1,h2⟩
  ·exact .inl h
  ·exact .inr ⟨ab,ek ab h1,h2⟩
 ·rintro b (h|⟨ab,h1,h2⟩)
  ·exact aT.old.old b h
  ·exact aT.old.fI (ek ab h1) h2
theorem anb{o s:Nat}{t:bf}{xs:List (den t)}(hr:rowOf st o s=some ⟨t,xs⟩):dU st.sites (mn st o s t xs):=by
 unfold mn;split
 ·exact .nil
 ·intro ab af hm;simp only[List.mem_singleton,Prod.mk.injEq] at hm;obtain⟨rfl,rfl⟩:=hm;exact⟨s,t,xs,rfl,j8 hr⟩
theorem R5{o s:Nat}{t:bf}{xs:List (den t)}(hr:rowOf st o s=some ⟨t,xs⟩):bu st.sites (mn st o s t xs)=bu st.sites [(o,.dp s t xs)]:=by
 unfold mn;split
 ·rename_i iw t0 Dv h0;have h0:look st.sites o=some (.dp iw t0 Dv):=h0;simp only[bu];rcases j8 hr with h|h
  ·rw[h0] at h;cases h
  ·exact(Q8 _ _ _ h).symm
 ·rfl
theorem aiU{sites us:List (Nat×Site)}(h:dU sites us){o s:Nat}{t:bf}{xs:List (den t)}(hl:look sites o=some (.dp s t xs)):look (bu sites us) o=some (.dp s t xs):=by
 rcases lZ h o with h1|⟨aN,bo,iX,h1,h2⟩
 ·rw[h1];exact hl
 ·rw[hl] at h1;rcases h1 with h1|h1
  ·cases h1
  ·cases h1;exact h2
theorem Vy{l:aR}{d:bh}{us:List (Nat×Site)}(h:j4 st l=some (d,us)):dU st.sites us:=by
 unfold j4 at h;split at h
 ·cases h;exact .nil
 ·cases h;exact .nil
 ·rename_i o s;split at h
  ·rename_i t xs hr;cases h;exact anb hr
  ·cases h
 ·cases h;exact .nil
 ·cases h
theorem Vx{l:aR}{d:bh}{us vs:List (Nat×Site)}{v:Value}(h:j4 st l=some (d,us))(hv:eb F st.sites w (aJ X F st.sites) l v)
  (aT:la U Y X F st M w vs) (ek:∀p,p∈us->p∈vs):bK w (aJ X F (bu st.sites vs)) d v:=by
 unfold j4 at h;split at h
 ·cases h;exact po aT.go hv
 ·cases h;rw[show v=_ from hv];exact .nil _
 ·rename_i o s;split at h
  ·rename_i t xs hr;cases h;have hl:look (bu st.sites vs) o=some (.dp s t xs):=by
    unfold mn at ek;split at ek
    ·rename_i iw t0 Dv h0;have h0:look st.sites o=some (.dp iw t0 Dv):=h0;rcases j8 hr with h|h
     ·rw[h0] at h;cases h
     ·exact aiU aT.fz h
    ·exact EB aT.fz (ek _ (List.mem_singleton.2 rfl))
   have:=aT.new.sites o _ hl;have nB:v=F o:=by
    rcases j8 hr with h1|h1<;>exact Ref.at hv.2 h1 rfl
   rw[nB];exact this.1
  ·cases h
 ·rename_i g;cases h;obtain⟨ai,rfl,hl,_⟩:=hv;have:ai=[]:=List.eq_nil_of_length_eq_zero (by simpa using hl)
  subst this;exact .fn g [] [] (fun _=>[]) _ rfl rfl (fun b hb=>by simp at hb) (fun b hb=>by simp at hb) (fun i hi=>by simp at hi) (fun i hi=>by simp at hi) (fun i hi=>by simp at hi)
 ·cases h
theorem I0:∀{ai:List aR} {ds:List bh} {us:List (Nat×Site)},f_ st ai=some (ds,us)->dU st.sites us:=by
 intro ai;induction ai with
 |nil=>intro ds us h;simp only[f_] at h;cases h;exact .nil
 |cons l ai ih=>
  intro ds us h;simp only[f_] at h;split at h
  ·rename_i d u1 kX u2 h1 h2;cases h;exact(Vy h1).append (ih h2)
  ·cases h
def c5(w:World)(av:Nat->Prop)(ds:List bh)(vs:List Value):Prop:=vs.length=ds.length/\∀j (h:j<ds.length) (ak:j<vs.length),bK w av (ds[j]) (vs[j])
theorem Bm:∀{ai:List aR} {ds:List bh} {us vs:List (Nat×Site)} {cs:List Value},f_ st ai=some (ds,us)->cA F st.sites w (aJ X F st.sites) ai cs->
  la U Y X F st M w vs->(∀p,p∈us->p∈vs)->c5 w (aJ X F (bu st.sites vs)) ds cs:=by
 intro ai;induction ai with
 |nil=>intro ds us vs cs h hl _ _;simp only[f_] at h;cases h;rw[hl.n7];exact⟨rfl,fun j h=>by simp at h⟩
 |cons l ai ih=>
  intro ds us vs cs h hl aT ek;simp only[f_] at h;split at h
  ·rename_i d u1 kX u2 h1 h2;cases h;obtain⟨c,oI,rfl,hc,hcs⟩:=hl.inv;have r1:=Vx h1 hc aT (fun p hp=>ek p (List.mem_append.2 (.inl hp)))
   obtain⟨r2,di⟩:=ih h2 hcs aT (fun p hp=>ek p (List.mem_append.2 (.inr hp)))
   refine⟨by simp[r2],fun j g1 g2=>?_⟩
   cases j with
   |zero=>exact r1
   |succ j=>exact di j (by simpa using g1) (by simpa using g2)
  ·cases h
theorem nn.run{P:Program}{u:Bool}(g D:Nat)(t:TypeId)(fz:Nat×Nat):∀(vs:List Value) (i:Nat) (cur:Array Value) (w:World),w.heap[g]? =some (.cells cur t fz)->nn u t cur fz->D+i+vs.length<=cur.size->(∀v∈vs,v.oneCell'=true)->
  (storeCells ⟨g,D,none⟩ vs i).run P w=.ok () (w.setRow g (cur.toList.take (D+i)++vs++cur.toList.drop (D+i+vs.length)).toArray)
 |[],i,cur,w,hg,_,_,_=>by
  simp only[storeCells,List.append_nil,List.length_nil,Nat.add_zero,List.take_append_drop,Array.toArray_toList];rw[setRow_self w g cur t fz hg];rfl
 |v::rest,i,cur,w,hg,hz,hl,h1=>by
  have hi:D+i<cur.size:=by simp at hl;omega
  have atl:(⟨g,D,none⟩:Addr).add i=⟨g,D+i,none⟩:=by unfold Addr.add;split<;>simp_all
  have hcell:w.cell? ⟨g,D+i,none⟩=some cur[D+i]:=by simp[World.cell?,hg,hi]
  have ate:w.frozen? ⟨g,D+i,none⟩=false:=by
   rcases hz.2 with rfl|⟨_,hz⟩
   ·simp[World.frozen?,hg]
   ·simp only[World.frozen?,hg];have:¬fz.1<=D+i:=by omega
    simp[this]
  have dV:(store ((⟨g,D,none⟩:Addr).add i) v).run P w=.ok () (w.setRow g (cur.setIfInBounds (D+i) v)):=by
   rw[atl,run_store P w _ v _ (h1 v (by simp)),hcell]
   simp[ate,setCell_eq_setRow w g (D+i) cur t fz v hg]
  have ih:=nn.run (P:=P) (u:=u) g D t fz rest (i+1) (cur.setIfInBounds (D+i) v) (w.setRow g (cur.setIfInBounds (D+i) v)) (setRow_heap w g cur _ t _ hg)
   ⟨hz.1,hz.2.imp id fun h=>⟨h.1,by simpa using h.2⟩⟩ (by simp at hl ⊢;omega) (fun x hx=>h1 x (by simp[hx]))
  simp only[storeCells,Sem.run_bind,dV,Result.andThen_ok,ih,setRow_setRow];congr 3
  have e:=list_seg_step cur.toList (D+i) v rest (by simp at hl ⊢;omega)
  simpa[Array.toList_setIfInBounds,Nat.add_assoc] using e
theorem N8{u:Bool}{fz:Nat×Nat}{T:TypeId}{ti:cg}(h:ti.ok P T)(hn:ti≠.none){b off:Nat}{vv:Value}{cur:List Value}{gC:TypeId}(hg:w.heap[b]? =some (.cells cur.toArray gC fz))(hz:nn u gC cur.toArray fz)
  (hsz:vv.cells.toList.length=ti.size) (hle:off+vv.cells.toList.length<=cur.length) (h1:∀u∈vv.cells.toList,u.oneCell'=true):
  (storeVar T ⟨b,off,none⟩ vv).run P w=.ok () (w.setRow b (bP cur off vv.cells.toList).toArray):=by
 have hs:vv.cells.size=ti.size:=by simpa using hsz
 have:=nn.run (P:=P) b off gC fz vv.cells.toList 0 cur.toArray w hg hz (by simpa using hle) h1
 simp only[storeVar,Sem.run_bind,cg.RH h hn,Result.andThen_ok,hs,ne_eq,not_true_eq_false,if_false];rw[this];simp[bP]
variable {D:Oper}
theorem ys{a6:Nat->Value}{w':World}{us:List (Nat×Site)}(S:aq U Y X a6 {st with sites:=bu st.sites us} M w')(aa:cr st D.dst=true)
  (h:(execOp (Act.eval ⟨M,[]⟩) D).run P w=.ok .skip w'):cM P U Y X st M w D (b7 (.cV undef)) us:=
 fun _ _ bT=>anT h (bT _ _ _ (aq.cY S aa rfl))
theorem lf{a6:Nat->Value}{w':World}{us:List (Nat×Site)}{v:a8}{vv:Value}(S:aq U Y X a6 {st with sites:=bu st.sites us} M w')(aa:cr st D.dst=true)
  (h:(execOp (Act.eval ⟨M,[]⟩) D).run P w=.ok (.value vv) w') (hv:ck a6 (bu st.sites us) w' (aJ X a6 (bu st.sites us)) v vv):cM P U Y X st M w D v us:=
 fun _ _ bT=>pc h (bT _ _ _ (aq.cY S aa hv))
theorem sf{aH:Type}(a:List aH)(off:Nat)(b:List aH)(h:off+b.length<=a.length):(bP a off b).length=a.length:=by
 unfold bP;simp only[List.length_append,List.length_take,List.length_drop];omega
theorem afF{aH:Type}(a:List aH)(off n:Nat)(b:List aH)(h:off+b.length<=n)(hn:n<=a.length):(bP a off b).take n=bP (a.take n) off b:=by
 unfold bP;apply List.ext_getElem?;intro j;simp only[List.getElem?_take,List.getElem?_append,List.length_append,List.length_take,List.getElem?_drop];have m1:min off a.length=off:=by omega
 have m2:min off (min n a.length)=off:=by omega
 simp only[m1,m2];by_cases c1:j<off
 ·have c2:j<n:=by omega
  have c3:j<off+b.length:=by omega
  simp[c1,c2,c3]
 ·by_cases c3:j<off+b.length
  ·have c2:j<n:=by omega
   simp[c1,c2,c3]
  ·have e:off+b.length+(j-(off+b.length))=j:=by omega
   simp[c1,c3,e]
theorem agy{cells ai:List aR}{T:TypeId}{cur vs:List Value}{b off:Nat}(h:nf cells T cur b)(hl:vs.length=ai.length)(hns:hK ai=true):nf (bP cells off ai) T (bP cur off vs) b:=by
 intro bL;unfold bP at bL ⊢;cases off with
 |zero=>
  cases ai with
  |nil=>
   cases vs with
   |nil=>simpa using h (by simpa using bL)
   |cons=>cases hl
  |cons l ai=>
   simp only[List.take_zero,List.nil_append,List.cons_append,List.head?_cons,Option.some.injEq] at bL;subst bL;cases hns
 |succ n=>
  cases cells with
  |nil=>
   cases ai with
   |nil=>simp at bL
   |cons l ai=>
    simp only[List.take_nil,List.nil_append,List.cons_append,List.head?_cons,Option.some.injEq] at bL;subst bL;cases hns
  |cons c cells=>
   simp only[List.take_succ_cons,List.cons_append,List.head?_cons,Option.some.injEq] at bL;subst bL;have:=h rfl;cases cur with
   |nil=>simp at this
   |cons v cur=>simpa using this
theorem aq.ajD(S:aq U Y X F st M w){o s off:Nat}{cells ai:List aR}{v:Value}{vs:List Value}(hb:look st.sites o=some (.box s cells))(hv:eb F st.sites w (aJ X F st.sites) (.ptr o s off) v)
  (hl:cA F st.sites w (aJ X F st.sites) ai vs) (hle:off+ai.length<=cells.length) (h1:∀u∈vs,u.oneCell'=true) (hns:hK ai=true):
  ∃b T cur,v=.pointer (some ⟨b,off,none⟩)/\w.heap[b]? =some (.cells (List.toArray cur) T (0,0))/\off+vs.length<=cur.length/\
   aq U Y X F {st with sites:=cw st.sites o (.box s (bP cells off ai))} M (w.setRow b (bP cur off vs).toArray):=by
 obtain⟨b,T,cur,cU,xt,hg,kK,j1⟩:=S.box hb hv;have pG:off+vs.length<=cur.length:=by rw[hl.1,j1.1];exact hle
 refine⟨b,T,cur,xt,hg,pG,?_⟩;have iI:nf cells T cur b:=by
  obtain⟨b2,eC,Zz,aE,aF,_,_,bJ,_⟩:=S.sites o _ hb;rw[cU] at aE;cases aE;rw[hg] at aF;cases aF;exact bJ
 refine S.write hb rfl rfl rfl (by rw[cU];rfl) hg (fun hs hw hg' go=>?_)
 have Zk:=BR go (j1.bP off hl);refine⟨b,T,_,cU,hg',Zk.1,fun u hu=>?_,agy iI hl.1 hns,Zk.2⟩
 unfold bP at hu;simp only[List.mem_append] at hu;rcases hu with(hu|hu)|hu
 ·exact kK u (List.mem_of_mem_take hu)
 ·exact h1 u hu
 ·exact kK u (List.mem_of_mem_drop hu)
theorem jk{F:Nat->Value}{sites:List (Nat×Site)}{w:World}{av:Nat->Prop}{ds:List bh}{vs:List Value}(h:cA F sites w av (cG ds) vs):c5 w av ds vs:=
 ⟨by simpa[cG] using h.1,fun j g1 g2=>by
  have:=h.2 j (by simpa[cG] using g1) g2
  simp only[cG,List.getElem_map] at this;exact this⟩
theorem ae1{w:World}{av:Nat->Prop}{t:bf}{xs:List (den t)}{k:Nat}{iv:den t}{cs ns:List Value}(hk:k<xs.length)(h:c5 w av (flat t xs) cs)(ak:c5 w av (enc t iv) ns):
  c5 w av (flat t (xs.set k iv)) (bP cs (k*bd t) ns):=by
 have e:flat t (xs.set k iv)=bP (flat t xs) (k*bd t) (enc t iv):=by
  rw[akW,if_pos hk];unfold bP;rw[jg,Nat.add_mul,Nat.one_mul]
 rw[e];have a:=hO (F:=fun _=>undef) (sites:=[]) h.1 h.2
 have b:=hO (F:=fun _=>undef) (sites:=[]) ak.1 ak.2
 have c:=a.bP (k*bd t) b;have e2:bP (cG (flat t xs)) (k*bd t) (cG (enc t iv))=cG (bP (flat t xs) (k*bd t) (enc t iv)):=by
  simp[bP,cG,List.map_append,List.map_take,List.map_drop]
 rw[e2] at c;exact jk c
theorem aq.ajC(S:aq U Y X F st M w){o s k off:Nat}{t:bf}{xs:List (den t)}{x iv:den t}{v:Value}{ds:List bh}{vs:List Value}(hb:look st.sites o=some (.row s t xs))
  (hv:eb F st.sites w (aJ X F st.sites) (.e3 o s t k off) v) (hx:xs[k]? =some x) (pN:enc t iv=bP (enc t x) off ds)
  (hl:c5 w (aJ X F st.sites) ds vs) (hle:off+ds.length<=bd t) (h1:∀u∈vs,u.oneCell'=true):
  ∃b T cur fz,v=.pointer (some ⟨b,k*bd t+off,none⟩)/\w.heap[b]? =some (.cells (List.toArray cur) T fz)/\nn t.jZ T cur.toArray fz/\k*bd t+off+vs.length<=cur.length/\
   aq U Y X F {st with sites:=cw st.sites o (.row s t (xs.set k iv))} M (w.setRow b (bP cur (k*bd t+off) vs).toArray):=by
 obtain⟨b,xt,nz⟩:=hv;obtain⟨n,c,cU⟩:=Ref.at nz hb rfl;obtain⟨e,cs,lG,dW⟩:=S.sites o _ hb;have hk:k<xs.length:=by
  rcases Nat.lt_or_ge k xs.length with h|h
  ·exact h
  ·rw[List.getElem?_eq_none h] at hx;cases hx
 obtain⟨Mp,h⟩:=lG;rcases h with⟨hn,_⟩|⟨g,cap,cur,fz,oE,MD,hg,hnc,hcm,hcs,htk⟩
 ·rw[cU] at hn;cases hn
 ·rw[cU] at oE;cases oE;have rC:(k+1)*bd t<=xs.length*bd t:=Nat.mul_le_mul_right _ hk;have hk2:xs.length*bd t<=c*bd t:=Nat.mul_le_mul_right _ hnc;rw[Nat.add_mul,Nat.one_mul] at rC;have mw:vs.length=ds.length:=hl.1;have kK:cur.toList.length=c*bd t:=by simpa using hcs
  have pG:k*bd t+off+vs.length<=cur.toList.length:=by omega
  refine⟨b,e,cur.toList,fz,xt,by simpa using hg,by simpa using MD,pG,?_⟩
  refine S.write hb rfl rfl rfl (by rw[cU];rfl) hg (fun hs hw hg' go=>?_)
  have aBN:cs.length=xs.length*bd t:=Mp;refine⟨e,bP cs (k*bd t+off) vs,⟨?_,.inr ⟨b,c,_,fz,?_,?_,hg',?_,hcm,?_,?_⟩⟩,?_⟩
  ·rw[sf _ _ _ (by omega),List.length_set];exact Mp
  ·rw[cU,List.length_set]
  ·refine⟨MD.1,?_⟩;rcases MD.2 with h|⟨h,ak⟩
   ·exact .inl h
   ·refine .inr ⟨h,?_⟩;rw[List.size_toArray,sf _ _ _ pG];simpa using ak
  ·rw[List.length_set];exact hnc
  ·rw[List.size_toArray,sf _ _ _ pG];exact kK
  ·rw[<-htk,List.length_set,List.toList_toArray];exact afF _ _ _ _ (by omega) (by rw[kK];omega)
  ·have r0:c5 w (aJ X F st.sites) (flat t xs) cs:=⟨by rw[e7];exact Mp,dW⟩
   have iI:=uZ t xs k x hx;have r1:c5 w (aJ X F st.sites) (enc t x) ((cs.drop (k*bd t)).take (bd t)):=by
    have a:=hO (F:=fun _=>undef) (sites:=[]) r0.1 r0.2
    have bI:=(a.drop (k*bd t)).take (bd t);have e2:((cG (flat t xs)).drop (k*bd t)).take (bd t)=cG (enc t x):=by
     rw[<-iI];simp[cG,List.map_drop,List.map_take]
    rw[e2] at bI;exact jk bI
   have r2:c5 w (aJ X F st.sites) (enc t iv) (bP ((cs.drop (k*bd t)).take (bd t)) off vs):=by
    rw[pN];have a:=hO (F:=fun _=>undef) (sites:=[]) r1.1 r1.2
    have bI:=hO (F:=fun _=>undef) (sites:=[]) hl.1 hl.2
    have fr:=a.bP off bI;have e2:bP (cG (enc t x)) off (cG ds)=cG (bP (enc t x) off ds):=by
     simp[bP,cG,List.map_append,List.map_take,List.map_drop]
    rw[e2] at fr;exact jk fr
   have di:=ae1 hk r0 r2;have bC:bP cs (k*bd t) (bP ((cs.drop (k*bd t)).take (bd t)) off vs)=bP cs (k*bd t+off) vs:=by
    unfold bP;apply List.ext_getElem?;intro j;simp only[List.getElem?_append,List.length_append,List.length_take,List.length_drop,List.getElem?_take,List.getElem?_drop];have m1:min (k*bd t) cs.length=k*bd t:=by omega
    have m2:min (k*bd t+off) cs.length=k*bd t+off:=by omega
    have m3:min (bd t) (cs.length-k*bd t)=bd t:=by omega
    have m4:min off (bd t)=off:=by omega
    simp only[m1,m2,m3,m4];by_cases c1:j<k*bd t
    ·have c2:j<k*bd t+off:=by omega
     have c3:j<k*bd t+off+vs.length:=by omega
     have de:j<k*bd t+(off+vs.length+(bd t-(off+vs.length))):=by omega
     simp[c1,c2,c3,de]
    ·by_cases c2:j<k*bd t+off
     ·have d1:j-k*bd t<off:=by omega
      have d2:j-k*bd t<off+vs.length:=by omega
      have d3:j-k*bd t<bd t:=by omega
      have c3:j<k*bd t+off+vs.length:=by omega
      have de:j<k*bd t+(off+vs.length+(bd t-(off+vs.length))):=by omega
      have fT:k*bd t+(j-k*bd t)=j:=by omega
      simp[c1,c2,c3,de,d1,d2,d3,fT]
     ·by_cases c3:j<k*bd t+off+vs.length
      ·have d1:¬j-k*bd t<off:=by omega
       have d2:j-k*bd t<off+vs.length:=by omega
       have de:j<k*bd t+(off+vs.length+(bd t-(off+vs.length))):=by omega
       have fT:j-k*bd t-off=j-(k*bd t+off):=by omega
       simp[c1,c2,c3,de,d1,d2,fT]
      ·by_cases de:j<k*bd t+(off+vs.length+(bd t-(off+vs.length)))
       ·have d2:¬j-k*bd t<off+vs.length:=by omega
        have d1:¬j-k*bd t<off:=by omega
        have d5:off+vs.length+(j-k*bd t-(off+vs.length))<bd t:=by omega
        have fT:k*bd t+(off+vs.length+(j-k*bd t-(off+vs.length)))=k*bd t+off+vs.length+(j-(k*bd t+off+vs.length)):=by omega
        simp[c1,c2,c3,de,d1,d2,d5,fT]
       ·have fT:k*bd t+(off+vs.length+(bd t-(off+vs.length)))+(j-(k*bd t+(off+vs.length+(bd t-(off+vs.length)))))=k*bd t+off+vs.length+(j-(k*bd t+off+vs.length)):=by omega
        simp[c1,c2,c3,de,fT]
   rw[bC] at di;exact fun j g1 g2=>po go (di.2 j g1 g2)
end
section
variable {P:Program}{U:World}{Y:List Nat}{X:Nat->Prop}{F:Nat->Value}{st:al}{M:Array Value}{w:World}
theorem l0{o:Nat}{af:Site}(h:look st.sites o=some af):af.cy<bw st o:=by
 unfold bw al.af;rw[h];exact Nat.lt_succ_self _
theorem aq.make(S:aq U Y X F st M w){o:Nat}{b5:Site}{nv:Value}{w':World}
  (hw:∀b,b<w.heap.size->w'.heap[b]? =w.heap[b]?) (hos:w'.os=w.os) (aqB:w'.tape=w.tape) (KN:w'.output=w.output) (pr:w.heap.size<=w'.heap.size)
  (vU:∀af,look st.sites o=some af->af.cy<b5.cy) (iW:∀b,bQ nv=some b->w.heap.size<=b/\b<w'.heap.size)
  (fG:∀{b0:List (Nat×Site)} {a6:Nat->Value},b0=cw st.sites o b5->a6 o=nv->(∀{a v},ck F st.sites w (aJ X F st.sites) a v->ck a6 b0 w' (aJ X a6 b0) a v)->
   (∀b,w.heap.size<=b->bQ nv≠some b->¬aJ X a6 b0 b)->(b5.live=false->∀b,bQ nv=some b->¬aJ X a6 b0 b)->kc a6 b0 w' (aJ X a6 b0) o b5):
  aq U Y X (fun ab=>if ab=o then nv else F ab) {st with sites:=cw st.sites o b5} M w':=by
 have cP:∀ab,cq (cw st.sites o b5) ab->(ab=o/\b5.live=true)\/(ab≠o/\cq st.sites ab):=by
  rintro ab ⟨af,h1,h2⟩;rw[c7] at h1;by_cases e:o=ab
  ·subst e;simp at h1;subst h1;exact .inl ⟨rfl,h2⟩
  ·simp only[e,if_false] at h1;exact .inr ⟨fun h=>e h.symm,af,h1,h2⟩
 have cc:∀b,aJ X (fun ab=>if ab=o then nv else F ab) (cw st.sites o b5) b->aJ X F st.sites b\/(bQ nv=some b/\b5.live=true):=by
  rintro b (h|⟨ab,h1,h2⟩)
  ·exact .inl (.inl h)
  ·rcases cP ab h1 with⟨rfl,h3⟩|⟨h3,aC⟩
   ·simp at h2;exact .inr ⟨h2,h3⟩
   ·simp only[h3,if_false] at h2;exact .inl (.inr ⟨ab,aC,h2⟩)
 have hlt:∀b,aJ X F st.sites b->b<w.heap.size:=by
  rintro b (h|⟨ab,h1,h2⟩)
  ·exact S.old b h
  ·exact S.fI h1 h2
 refine S.q4 (fun ab af bW=>?_) (fun b _ hb=>hw b hb) (fun b h hb ak=>?_) (fun go ab af bW=>?_) (fun ab ρ b h1 h2 g1 g2=>?_) (fun ab b h1 g1=>?_) (fun ab b h1 g1=>?_) ?_ pr
 ·rw[c7];by_cases e:o=ab
  ·subst e;exact⟨b5,by simp,Nat.le_of_lt (vU af bW),fun h=>by have:=vU af bW;omega⟩
  ·have cI:¬ab=o:=fun h=>e h.symm
   exact⟨af,by simp[e,bW],Nat.le_refl _,fun _=>by simp[cI]⟩
 ·rcases cc b ak with ak|⟨ak,_⟩
  ·exact h ak
  ·have:=(iW b ak).1;omega
 ·rw[c7] at bW;by_cases e:o=ab
  ·subst e;simp only[if_true,Option.some.injEq] at bW;subst bW;refine .inr (fG rfl (by simp) go (fun b hb hne ak=>?_) (fun hl b hb ak=>?_))
   ·rcases cc b ak with ak|⟨ak,_⟩
    ·have:=hlt b ak;omega
    ·exact hne ak
   ·rcases cc b ak with ak|⟨_,ak⟩
    ·have:=hlt b ak;have:=(iW b hb).1;omega
    ·rw[hl] at ak;cases ak
  ·have cI:¬ab=o:=fun h=>e h.symm
   simp only[e,if_false] at bW;exact .inl ⟨bW,by simp[cI],fun hl b hb=>hw b (S.fI ⟨af,bW,hl⟩ hb)⟩
 ·rcases cP ab h1 with⟨rfl,_⟩|⟨n1,dQ⟩<;>rcases cP ρ h2 with⟨rfl,_⟩|⟨n2,fy⟩
  ·rfl
  ·simp only[if_true] at g1;simp only[n2,if_false] at g2;have:=S.fI fy g2;have:=(iW b g1).1;omega
  ·simp only[if_true] at g2;simp only[n1,if_false] at g1;have:=S.fI dQ g1;have:=(iW b g2).1;omega
  ·simp only[n1,if_false] at g1;simp only[n2,if_false] at g2;exact S.eh ab ρ b dQ fy g1 g2
 ·rcases cP ab h1 with⟨rfl,_⟩|⟨n1,dQ⟩
  ·simp only[if_true] at g1;have hb:=(iW b g1).1;exact⟨fun hx=>by have:=S.old b hx;have:=S.frame.size;omega,.inr (Nat.le_trans S.frame.size hb)⟩
  ·simp only[n1,if_false] at g1;exact S.ct ab b dQ g1
 ·rcases cP ab h1 with⟨rfl,_⟩|⟨n1,dQ⟩
  ·simp only[if_true] at g1;exact(iW b g1).2
  ·simp only[n1,if_false] at g1;exact Nat.lt_of_lt_of_le (S.fI dQ g1) pr
 ·have aT:=S.frame;exact⟨hos.trans aT.os,aqB.trans aT.tape,KN.trans aT.output,Nat.le_trans aT.size pr,fun b h1 h2=>(hw b (Nat.lt_of_lt_of_le h1 aT.size)).trans (aT.block b h1 h2)⟩
theorem aq.append(S:aq U Y X F st M w){o dst s:Nat}{t:bf}{xs r:List (den t)}(hl:look st.sites o=some (.row s t xs)){nv:Value}{w':World}
  (hg:w.grownBy w' (F o).ownBlock) (iW:∀b,bQ nv=some b->b<w'.heap.size/\(bQ (F o)=some b\/w.heap.size<=b))
  (fG:∀{b0:List (Nat×Site)} {a6:Nat->Value},a6 dst=nv->(∀{a v},ck F st.sites w (aJ X F st.sites) a v->ck a6 b0 w' (aJ X a6 b0) a v)->
   kc a6 b0 w' (aJ X a6 b0) dst (.row (bw (st.iy o (.dead s)) dst) t r)):
  aq U Y X (fun ab=>if ab=dst then nv else F ab) {st with sites:=bu st.sites [(o,.dead s),(dst,.row (bw (st.iy o (.dead s)) dst) t r)]} M w':=by
 have bz:cq st.sites o:=⟨_,hl,rfl⟩;have jR:∀ab,look (bu st.sites [(o,.dead s),(dst,.row (bw (st.iy o (.dead s)) dst) t r)]) ab=
   if dst=ab then some (.row (bw (st.iy o (.dead s)) dst) t r) else if o=ab then some (.dead s) else look st.sites ab:=by
  intro ab;simp only[bu,c7]
 have vU:∀af,look st.sites dst=some af->af.cy<bw (st.iy o (.dead s)) dst:=by
  intro af h;unfold bw;rw[al.yj];by_cases e:o=dst
  ·subst e;rw[hl] at h;cases h;simp[Site.cy]
  ·simp only[e,if_false,al.af,h];exact Nat.lt_succ_self _
 have cP:∀ab,cq (bu st.sites [(o,.dead s),(dst,.row (bw (st.iy o (.dead s)) dst) t r)]) ab->ab=dst\/(ab≠dst/\ab≠o/\cq st.sites ab):=by
  rintro ab ⟨af,h1,h2⟩;rw[jR] at h1;by_cases e:dst=ab
  ·exact .inl e.symm
  ·simp only[e,if_false] at h1;by_cases e2:o=ab
   ·simp only[e2,if_true,Option.some.injEq] at h1;subst h1;cases h2
   ·simp only[e2,if_false] at h1;exact .inr ⟨fun h=>e h.symm,fun h=>e2 h.symm,af,h1,h2⟩
 have aB6:∀b,bQ (F o)=some b->(F o).ownBlock=some b:=by
  intro b hb;obtain⟨e,cs,g1,_⟩:=S.sites o _ hl;rcases g1.2 with⟨hn,_⟩|⟨g,cap,cur,fz,hv,_⟩
  ·rw[hn] at hb;cases hb
  ·rw[hv] at hb ⊢;exact hb
 have asZ:∀b,(F o).ownBlock=some b->bQ (F o)=some b:=by
  intro b hb;cases hv:F o<;>rw[hv] at hb<;>first|cases hb|skip
  rename_i a n c;cases a<;>first|exact hb|cases hb
 have J6:∀b,b<w.heap.size->bQ (F o)≠some b->w'.heap[b]? =w.heap[b]? :=fun b hb hne=>hg.block b hb (fun e=>hne (asZ b e.symm))
 refine S.q4 (fun ab af bW=>?_) (fun b h hb=>J6 b hb (fun e=>h (.inr ⟨o,bz,e⟩))) (fun b h hb ak=>?_) (fun go ab af bW=>?_) (fun ab ρ b h1 h2 g1 g2=>?_) (fun ab b h1 g1=>?_) (fun ab b h1 g1=>?_) ?_ hg.size
 ·rw[jR];by_cases e:dst=ab
  ·subst e;refine⟨.row (bw (st.iy o (.dead s)) dst) t r,by simp,?_,fun h=>?_⟩
   ·exact Nat.le_of_lt (vU af bW)
   ·have:=vU af bW;simp only[Site.cy] at h this;omega
  ·have cI:¬ab=dst:=fun h=>e h.symm
   by_cases e2:o=ab
   ·subst e2;rw[hl] at bW;cases bW;exact⟨.dead s,by simp[e],Nat.le_refl _,fun _=>by simp[cI]⟩
   ·exact⟨af,by simp[e,e2,bW],Nat.le_refl _,fun _=>by simp[cI]⟩
 ·rcases ak with ak|⟨ab,h1,h2⟩
  ·exact h (.inl ak)
  ·rcases cP ab h1 with rfl|⟨n1,_,dQ⟩
   ·simp only[if_true] at h2;rcases(iW b h2).2 with h3|h3
    ·exact h (.inr ⟨o,bz,h3⟩)
    ·omega
   ·simp only[n1,if_false] at h2;exact h (.inr ⟨ab,dQ,h2⟩)
 ·rw[jR] at bW;by_cases e:dst=ab
  ·subst e;simp only[if_true,Option.some.injEq] at bW;subst bW;exact .inr (fG (by simp) go)
  ·have cI:¬ab=dst:=fun h=>e h.symm
   simp only[e,if_false] at bW;by_cases e2:o=ab
   ·simp only[e2,if_true,Option.some.injEq] at bW;subst bW;exact .inr trivial
   ·simp only[e2,if_false] at bW;refine .inl ⟨bW,by simp[cI],fun gx b hb=>?_⟩
    have abI:cq st.sites ab:=⟨af,bW,gx⟩;exact J6 b (S.fI abI hb) (fun h=>e2 (S.eh o ab b bz abI h hb))
 ·have key:∀ab b,ab≠dst->ab≠o->cq st.sites ab->bQ (F ab)=some b->bQ nv≠some b:=by
   intro ab b n1 n2 dQ hb hn;rcases(iW b hn).2 with h3|h3
   ·exact n2 (S.eh ab o b dQ bz hb h3)
   ·have:=S.fI dQ hb;omega
  rcases cP ab h1 with rfl|⟨n1,m1,dQ⟩<;>rcases cP ρ h2 with rfl|⟨n2,m2,fy⟩
  ·rfl
  ·simp only[if_true] at g1;simp only[n2,if_false] at g2;exact absurd g1 (key ρ b n2 m2 fy g2)
  ·simp only[if_true] at g2;simp only[n1,if_false] at g1;exact absurd g2 (key ab b n1 m1 dQ g1)
  ·simp only[n1,if_false] at g1;simp only[n2,if_false] at g2;exact S.eh ab ρ b dQ fy g1 g2
 ·rcases cP ab h1 with rfl|⟨n1,_,dQ⟩
  ·simp only[if_true] at g1;rcases(iW b g1).2 with h3|h3
   ·exact S.ct o b bz h3
   ·exact⟨fun hx=>by have:=S.old b hx;have:=S.frame.size;omega,.inr (Nat.le_trans S.frame.size h3)⟩
  ·simp only[n1,if_false] at g1;exact S.ct ab b dQ g1
 ·rcases cP ab h1 with rfl|⟨n1,_,dQ⟩
  ·simp only[if_true] at g1;exact(iW b g1).1
  ·simp only[n1,if_false] at g1;exact Nat.lt_of_lt_of_le (S.fI dQ g1) hg.size
 ·have aT:=S.frame;refine⟨hg.os.trans aT.os,hg.tape.trans aT.tape,hg.output.trans aT.output,Nat.le_trans aT.size hg.size,fun b h1 h2=>?_⟩
  rw[J6 b (Nat.lt_of_lt_of_le h1 aT.size) (fun e=>?_)]
  ·exact aT.block b h1 h2
  ·rcases(S.ct o b bz e).2 with h|h
   ·exact h2 h
   ·omega
end
def Src(w:World)(size:Nat)(x:Value)(m:Nat)(news:List Value):Prop:=
 news.length=m*size/\(∀u∈news,u.oneCell'=true)/\((x=.slice none 0 0/\m=0)\/(∃a c,x=.slice (some a) m c/\∀j u,news[j]? =some u->w.cell? (a.add j)=some u)\/∃s:ByteArray,x=.string s/\m=s.size/\size=1/\news=s.data.toList.map fun b=>Value.int .u8 b.toNat)
theorem Src.run{P:Program}{w w2:World}{size m:Nat}{x:Value}{news:List Value}(h:Src w size x m news)(hw:w2.heap=w.heap):(Builtin.firstCells size m x).run P w2=.ok news.toArray w2:=by
 obtain⟨h1,_,h2⟩:=h;rcases h2 with⟨rfl,rfl⟩|⟨a,c,rfl,h3⟩|⟨s,rfl,rfl,rfl,rfl⟩
 ·have:news=[]:=List.eq_nil_of_length_eq_zero (by simpa using h1)
  subst this;exact run_firstCells_none w2 size 0 0 0
 ·refine run_firstCells_some w2 size m a m c news h1 (fun j u hu=>?_)
  have:=h3 j u hu;unfold World.cell? at this ⊢;rw[hw];exact this
 ·have e:s.extract 0 s.size=s:=by simp
  show Result.ok ((s.extract 0 s.size).data.map fun b=>Value.int .u8 b.toNat) w2=_
  rw[e];congr 1
  apply Array.ext';simp
theorem Src.len{P:Program}{w w2:World}{size m:Nat}{x:Value}{news:List Value}(h:Src w size x m news):(Builtin.lenOf x).run P w2=.ok m w2:=by
 obtain⟨_,_,h2⟩:=h;rcases h2 with⟨rfl,rfl⟩|⟨a,c,rfl,_⟩|⟨s,rfl,rfl,_⟩<;>rfl
theorem ED{P:Program}{u:Bool}(w:World)(T Np ty e:TypeId)(gM:u=true->e=mF)(i:TypeInfo)(z:Value)(size bytes:Nat)(au:P.underlying T=some (.slice e))(jw:(∃ex,P.underlying Np=some (.slice ex))\/P.underlying Np=some .string)(hi:P.info? e=some i)
  (hz:i.zero=some z) (pr:i.size=size) (j3:i.bytes=bytes) (hzs:z.cells.size=size) (hsz:0<size)
  (v:Value) (n:Nat) (xs:List Value) (lG:∃cI,rowAt w u cI size v n xs) (x:Value) (m:Nat) (news:List Value) (fk:Src w size x m news)
  (h63:n+m<=maxLen) (Vn:(n+m)*bytes<=140737488355328):
  ∃v' w',(Builtin.append_ #[T,Np] ty #[v,x]).run P w=.ok v' w'/\(∃cI,rowAt w' u cI size v' (n+m) (xs++news))/\w.grownBy w' v.ownBlock/\
   ∀b,bQ v'=some b->b<w'.heap.size/\(bQ v=some b\/w.heap.size<=b):=by
 subst pr j3;obtain⟨cI,hl0,lG⟩:=lG;have aoN:n+m<=9223372036854775807:=by simp only[maxLen] at h63;omega
 have hlen:(xs++news).length=(n+m)*i.size:=by rw[List.length_append,hl0,fk.1,Nat.add_mul]
 have grown:∀(old:Nat),old<n+m->∀(row:Option Nat),
   rowAt (w.drew.alloc (.cells (xs.toArray++news.toArray++Builtin.zeroCells z.cells (grownCap w (n+m) old e-(n+m))) e)) u e i.size
    (.slice (some ⟨w.heap.size,0,none⟩) (n+m) (grownCap w (n+m) old e)) (n+m) (xs++news)/\
   w.grownBy (w.drew.alloc (.cells (xs.toArray++news.toArray++Builtin.zeroCells z.cells (grownCap w (n+m) old e-(n+m))) e)) row:=by
  intro old aM row;have hge:=grownCap_ge w (n+m) old e;have hcm:grownCap w (n+m) old e<=maxLen:=grownCap_le_maxLen w (n+m) old e h63;refine⟨⟨hlen,.inr ⟨w.heap.size,_,_,(0,0),rfl,⟨gM,.inl rfl⟩,heap_alloc_new w.drew _,hge,hcm,?_,?_⟩⟩,⟨rfl,rfl,rfl,by simp,fun k hk _=>RowKit.Below.heap_alloc w.drew _ k hk⟩⟩
  ·simp only[Array.size_append,List.size_toArray,size_zeroCells,hzs,hl0,fk.1,<-Nat.add_mul];congr 1
   omega
  ·simp only[Array.toList_append,List.append_assoc];rw[<-List.append_assoc,<-hlen];exact List.take_left
 have US:∀{c:Nat} {D:Obj} {v:Value} b,bQ (.slice (some ⟨w.heap.size,0,none⟩) (n+m) c)=some b->b<(w.drew.alloc D).heap.size/\(bQ v=some b\/w.heap.size<=b):=by
  intro c D v b hb;cases hb;exact⟨by simp,.inr (Nat.le_refl _)⟩
 rcases lG with⟨rfl,rfl⟩|⟨g,cap,cur,fz,rfl,hfz,hg,hnc,hcm,hcs,mb⟩
 ·have hx:xs=[]:=List.eq_nil_of_length_eq_zero (by simpa using hl0)
  subst hx;by_cases hm:m=0
  ·subst hm;have hn:news=[]:=List.eq_nil_of_length_eq_zero (by simpa using fk.1)
   subst hn;refine⟨.slice none 0 0,w,?_,⟨e,FC w u e i.size⟩,⟨rfl,rfl,rfl,Nat.le_refl _,fun _ _ _=>rfl⟩,fun b hb=>by cases hb⟩
   rcases jw with⟨ex,jw⟩|jw<;>simp[Builtin.append_,run_underlying au,run_underlying jw,sizeOf,typeInfo,hi,fk.len,fk.run (w2:=w) rfl]
  ·have xE:=grown 0 (by omega) (Value.ownBlock (.slice none 0 0))
   refine⟨_,_,?_,⟨e,xE.1⟩,xE.2,US⟩;have h63':¬(9223372036854775807<(m:Int)):=by omega
   have hb:=Vn;simp only[Nat.zero_add] at hb;have K0:¬(281474976710656<Builtin.nextslicecap m 0*i.bytes):=by rw[nextslicecap_zero (by omega)];omega
   rcases jw with⟨ex,jw⟩|jw<;>simp[Builtin.append_,run_underlying au,run_underlying jw,sizeOf,typeInfo,zeroValue,hi,hz,fk.len,hm,h63',K0,Question.forced,run_firstCells_none,fk.run (w2:=w.drew) rfl,newRow,grownCap]
 ·by_cases hroom:n+m<=cap
  ·have lH:n*i.size+news.length<=cur.size:=by rw[fk.1,hcs,<-Nat.add_mul];exact Nat.mul_le_mul_right _ hroom
   have dV:=nn.run (P:=P) g (n*i.size) cI fz news 0 cur w hg hfz (by simpa using lH) fk.2.1
   simp only[Nat.add_zero] at dV;refine⟨.slice (some ⟨g,0,none⟩) (n+m) cap,w.setRow g (cur.toList.take (n*i.size)++news++cur.toList.drop (n*i.size+news.length)).toArray,?_,
    ⟨cI,hlen,.inr ⟨g,cap,_,fz,rfl,⟨hfz.1,hfz.2.imp id (fun h=>⟨h.1,?_⟩)⟩,setRow_heap w g cur _ cI _ hg,hroom,hcm,?_,?_⟩⟩,⟨rfl,rfl,rfl,by simp,fun k _ hk=>setRow_other w g k _ (fun e=>hk (by simp[Value.ownBlock,e]))⟩,fun b hb=>?_⟩
   ·rcases jw with⟨ex,jw⟩|jw<;>simp[Builtin.append_,run_underlying au,run_underlying jw,sizeOf,typeInfo,hi,fk.len,hroom,fk.run (w2:=w) rfl,Addr.add_lit,dV]
   ·have:=h.2;simp only[List.size_toArray,List.length_append,List.length_take,List.length_drop,Array.length_toList];omega
   ·simp only[List.size_toArray,List.length_append,List.length_take,List.length_drop,Array.length_toList];omega
   ·rw[mb,<-hlen];exact List.take_left
   ·cases hb;exact⟨by rw[setRow_size];exact(Array.getElem?_eq_some_iff.1 hg).1,.inl rfl⟩
  ·have xE:=grown cap (by omega) (Value.ownBlock (.slice (some ⟨g,0,none⟩) n cap))
   refine⟨_,_,?_,⟨e,xE.1⟩,xE.2,US⟩;have holds:∀j u,xs[j]? =some u->w.drew.cell? ((⟨g,0,none⟩:Addr).add j)=some u:=by
    intro j u hu;rw[gV,Nat.zero_add,World.cell?_drew,cell_of_row w g j cur cI fz hg];rw[<-mb,List.getElem?_take] at hu;split at hu
    ·simpa using hu
    ·cases hu
   have h63':¬(9223372036854775807<((n:Int)+(m:Int))):=by omega
   have lH:=growslice_fits (need:=n+m) (old:=cap) (bytes:=i.bytes) (by omega) Vn
   have K0:¬(281474976710656<Builtin.nextslicecap (n+m) cap*i.bytes):=by omega
   have DZ:=run_firstCells_some (P:=P) w.drew i.size n ⟨g,0,none⟩ n cap xs hl0 holds;rcases jw with⟨ex,jw⟩|jw<;>simp[Builtin.append_,run_underlying au,run_underlying jw,sizeOf,typeInfo,zeroValue,hi,hz,fk.len,hroom,h63',K0,Question.forced,fk.run (w2:=w.drew) rfl,DZ,newRow,grownCap]
   all_goals
    congr 2
    apply Array.ext';simp[List.append_assoc]
section
variable {P:Program}{U:World}{Y:List Nat}{X:Nat->Prop}{F:Nat->Value}{st:al}{M:Array Value}{w:World}{D:Oper}
theorem ajF(S:aq U Y X F st M w){x:a8}{v:Value}{t:bf}{bj:List (den t)}(hx:ck F st.sites w (aJ X F st.sites) x v)(h:th st x=some (.sl t bj)):
  ∃news,Src w (bd t) v bj.length news/\c5 w (aJ X F st.sites) (flat t bj) news:=by
 have one:∀{news:List Value},cA F st.sites w (aJ X F st.sites) (cG (flat t bj)) news->(∀u∈news,u.oneCell'=true):=by
  intro news h;refine h.jI ?_
  unfold cG;generalize flat t bj=l;induction l with
  |nil=>rfl
  |cons d l ih=>simpa[hK,aR.storable] using ih
 unfold th at h;split at h
 ·rename_i bo iX;cases h;have hx:bK w (aJ X F st.sites) (.sl t bj) v:=hx;cases hx with
  |nil t=>exact⟨[],⟨by simp,fun u hu=>by simp at hu,.inl ⟨rfl,rfl⟩⟩,rfl,fun j h=>by simp[flat] at h⟩
  |sl t xs a cap cs n hn hcap hb hl hc hr=>
   subst hn;have j1:=hO (F:=F) (sites:=st.sites) hl hr;exact⟨cs,⟨by rw[hl,e7],one j1,.inr (.inl ⟨a,cap,rfl,hc⟩)⟩,hl,hr⟩
 ·cases h
 ·rename_i bo;cases h;rw[show v=_ from hx]
  exact⟨[],⟨by simp,fun u hu=>by simp at hu,.inl ⟨rfl,rfl⟩⟩,rfl,fun j h=>by simp[flat] at h⟩
 ·rename_i o s;split at h
  ·rename_i bo iX hr;cases h;obtain⟨cs,hl,hc⟩:=S.row hr;have hv:v=F o:=by
    rcases j8 hr with h1|h1<;>exact Ref.at hx.2 h1 rfl
   have c_:=jk hl;refine⟨cs,⟨by rw[c_.1,e7],one hl,?_⟩,c_⟩
   rw[hv];rcases hc with⟨h1,h2⟩|⟨b,c,h1,h2,_⟩
   ·subst h2;exact .inl ⟨h1,rfl⟩
   ·exact .inr (.inl ⟨⟨b,0,none⟩,c,h1,fun j u hu=>by rw[gV];exact h2 j u hu⟩)
  ·cases h
 ·cases h
theorem Px(S:aq U Y X F st M w){C:Ctx}(H:CtxOk P C){T d':TypeId}{s x:Operand}{e:TypeId}{t:bf}{bytes:Nat}{dst:Nat}(bl:C.tt T=.slice e t bytes)(WA:(∃ex,P.underlying d'=some (.slice ex))\/P.underlying d'=some .string)
  (aM:D.op=.call {callee:=.builtin .append,args:=#[s,x],argTypes:=#[T,d']}) (dJ:D.dst=some dst) (aa:cr st D.dst=true) {bj:List (den t)} {news:List Value} (fk:Src w (bd t) (Act.eval ⟨M,[]⟩ x) bj.length news)
  (dW:c5 w (aJ X F st.sites) (flat t bj) news):Holds (qL bytes t dst st (bg C st T s) bj) (cM P U Y X st M w D):=by
 have bO:=H.tt T;rw[bl] at bO;obtain⟨⟨fE,_⟩,z,hinfo,hzs,gM⟩:=bO;obtain⟨i,hi,xD⟩:∃i,P.info? e=some i/\(i.size,i.bytes,i.zero)=(bd t,bytes,some z):=by
  cases az:P.info? e with
  |none=>simp[az] at hinfo
  |some i=>exact⟨i,rfl,by simpa[az] using hinfo⟩
 simp only[Prod.mk.injEq] at xD;obtain⟨xD,ab3,MA⟩:=xD;have C8:=dI S C T s;have runs:∀{v':Value} {w':World},(Builtin.append_ #[T,d'] D.type #[Act.eval ⟨M,[]⟩ s,Act.eval ⟨M,[]⟩ x]).run P w=.ok v' w'->
   (execOp (Act.eval ⟨M,[]⟩) D).run P w=.ok (.value v') w':=by
  intro v' w' h;unfold execOp;simp only[aM,resolve,invoke,builtin,Sem.run_bind,Sem.run_pure,Result.andThen_ok,List.map_toArray,List.map_cons,List.map_nil,h]
 have one:∀{u:Bool} {cI:TypeId} {v':Value} {n m:Nat} {l:List Value} {w':World},rowAt w' u cI n v' m l->v'.oneCell'=true:=by
  intro u cI v' n m l w' h;rcases h.2 with⟨rfl,_⟩|⟨g,cap,cur,fz,rfl,_⟩<;>rfl
 unfold qL;split
 ·-- a nil slice
  rename_i t2 b8;rw[b8] at C8;have rc:Act.eval ⟨M,[]⟩ s=.slice none 0 0:=C8;refine Holds.hT fun r hr=>?_
  have c_:b9 bytes [] bj=some r:=hr;unfold b9 at c_;split at c_
  ·rename_i hb;cases c_;simp only[List.length_nil,Nat.zero_add,room] at hb;obtain⟨v',w',h1,⟨cI,h2⟩,h3,aC⟩:=ED (P:=P) (u:=t.jZ) w T d' D.type e gM i z (bd t) bytes fE WA hi MA xD ab3 hzs (l8 _) (.slice none 0 0) 0 [] ⟨e,FC w _ e _⟩ _ _ news fk
    (by rw[Nat.zero_add];exact hb.2) (by rw[Nat.zero_add];exact hb.1)
   rw[Nat.zero_add,List.nil_append] at h2;have cm:=S.make (o:=dst) (b5:=.row (bw st dst) t ([]++bj)) (nv:=v') (w':=w') (fun b hb=>h3.block b hb (by simp[Value.ownBlock])) h3.os h3.tape h3.output h3.size
    (fun af hs=>l0 hs) (fun b hb=>by
     obtain⟨g1,g2⟩:=aC b hb;rcases g2 with g2|g2
     ·cases g2
     ·exact⟨g2,g1⟩) (fun hs cU go _ _=>by
     refine⟨cI,news,by rw[cU];simpa using h2,?_⟩
     intro j g1 g2;have ayo:j<(flat t bj).length:=by simpa using g1
     simpa using po go (dW.2 j ayo g2))
   refine lf (us:=[(dst,.row (bw st dst) t ([]++bj))]) cm aa (runs (by rw[rc];exact h1)) ?_
   refine⟨one h2,Ref.mk (af:=.row (bw st dst) t ([]++bj)) ?_ rfl (by simp)⟩
   simp only[bu,c7];simp
  ·cases c_
 ·-- a row of Cx own
  rename_i o s2 b8;rw[b8] at C8;split
  ·rename_i hD t2 xs gG;have s5:look st.sites o=some (.row hD t2 xs):=gG;cases axU:hD.beq s2 with
   |false=>simp only[cond_false];exact .fail
   |true=>
    have lO:=Nat.eq_of_beq_eq_true axU;subst lO;simp only[cond_true];split
    ·rename_i jx;subst jx;refine Holds.hT fun r hr=>?_
     have c_:b9 bytes xs bj=some r:=hr;unfold b9 at c_;split at c_
     ·rename_i hb;cases c_;simp only[room] at hb;have hv:Act.eval ⟨M,[]⟩ s=F o:=Ref.at C8.2 s5 rfl;obtain⟨e4,cs,lG,hcs⟩:=S.sites o _ s5;obtain⟨v',w',h1,⟨cI,h2⟩,h3,aC⟩:=ED (P:=P) w T d' D.type e gM i z (bd t2) bytes fE WA hi MA xD ab3 hzs (l8 _) (F o) xs.length cs ⟨e4,lG⟩ _ _ news fk hb.2 hb.1;have cm:=S.append (dst:=dst) (r:=xs++bj) s5 (nv:=v') (w':=w') h3 aC (fun cU go=>by
       refine⟨cI,cs++news,by rw[cU,List.length_append];exact h2,?_⟩
       have tZ:c5 w (aJ X F st.sites) (flat t2 xs) cs:=⟨by rw[e7];exact lG.1,hcs⟩
       have nm:=jk ((hO (F:=F) (sites:=st.sites) tZ.1 tZ.2).append (hO (F:=F) (sites:=st.sites) dW.1 dW.2)|>fun h=>by
        rw[show cG (flat t2 xs)++cG (flat t2 bj)=cG (flat t2 (xs++bj)) from by simp[cG,sh]] at h
        exact h)
       intro j g1 g2;exact po go (nm.2 j g1 g2))
      refine lf (us:=[(o,.dead hD),(dst,.row (bw (st.iy o (.dead hD)) dst) t2 (xs++bj))]) cm aa (runs (by rw[hv];exact h1)) ?_
      refine⟨one h2,Ref.mk (af:=.row (bw (st.iy o (.dead hD)) dst) t2 (xs++bj)) ?_ rfl (by simp)⟩
      simp only[bu,c7];simp
     ·cases c_
    ·exact .fail
  ·exact .fail
 ·exact .fail
theorem ai7(S:aq U Y X F st M w){C:Ctx}(H:CtxOk P C){T d':TypeId}{s x:Operand}{e ex:TypeId}{t u:bf}{bytes b2:Nat}{dst:Nat}(bl:C.tt T=.slice e t bytes)(gM:C.tt d'=.slice ex u b2)
  (aM:D.op=.call {callee:=.builtin .append,args:=#[s,x],argTypes:=#[T,d']}) (dJ:D.dst=some dst) (aa:cr st D.dst=true):
  Holds (sS bytes t dst st (bg C st T s) (bg C st d' x)) (cM P U Y X st M w D):=by
 have xH:=H.tt d';rw[gM] at xH;unfold sS;split
 ·exact .fail
 ·rename_i d rF;split
  ·rename_i bo bj;split
   ·rename_i jx;subst jx;obtain⟨news,fk,dW⟩:=ajF S (dI S C d' x) rF;exact Px S H bl (.inl ⟨_,xH.1.1⟩) aM dJ aa fk dW
   ·exact .fail
  ·exact .fail
theorem ahj(S:aq U Y X F st M w){C:Ctx}(H:CtxOk P C){T d':TypeId}{s x:Operand}{e:TypeId}{t:bf}{bytes:Nat}{dst:Nat}(bl:C.tt T=.slice e t bytes)(gM:C.tt d'=.str)
  (aM:D.op=.call {callee:=.builtin .append,args:=#[s,x],argTypes:=#[T,d']}) (dJ:D.dst=some dst) (aa:cr st D.dst=true):
  Holds (sT bytes t dst st (bg C st T s) (bg C st d' x)) (cM P U Y X st M w D):=by
 have xH:=H.tt d';rw[gM] at xH;have bB:=dI S C d' x;unfold sT;split
 ·rename_i y hx;rw[hx] at bB;split
  ·rename_i jx;subst jx;have bB:bK w (aJ X F st.sites) (.str y) (Act.eval ⟨M,[]⟩ x):=bB;generalize hv:Act.eval ⟨M,[]⟩ x=v at bB;cases bB with
   |str _ b hb=>
    subst hb;refine Px S H bl (.inr xH.1) aM dJ aa (news:=b.data.toList.map fun b=>Value.int .u8 b.toNat) ?_ ?_
    ·rw[hv];refine⟨by simp[bytesOf,bd],fun u hu=>?_,.inr (.inr ⟨b,rfl,?_,rfl,rfl⟩)⟩
     ·obtain⟨c,_,rfl⟩:=List.mem_map.1 hu;rfl
     ·simp only[bytesOf,List.length_map,Array.length_toList];rfl
    ·have e1:flat .u8 (bytesOf b.data.toList)=(b.data.toList.map fun b=>bh.int .u8 b.toNat):=by
      unfold flat bytesOf;rw[List.flatMap_map];generalize b.data.toList=l;induction l with
      |nil=>rfl
      |cons a l ih=>simp only[List.flatMap_cons,List.map_cons,ih];rfl
     rw[e1];refine⟨by simp,fun j g1 g2=>?_⟩
     simp only[List.getElem_map];exact .int _ _
  ·exact .fail
 ·exact .fail
end
theorem foldl_set:∀(vs:List Value) (off k:Nat) (arr:Array Value),off+k+vs.length<=arr.size->
  (vs.zipIdx k).foldl (fun cs (x:Value×Nat)=>cs.setIfInBounds (off+x.2) x.1) arr=(bP arr.toList (off+k) vs).toArray:=by
 intro vs;induction vs with
 |nil=>intro off k arr h;simp[bP]
 |cons v vs ih=>
  intro off k arr h;simp only[List.zipIdx_cons,List.foldl_cons];rw[ih off (k+1) _ (by simp at h ⊢;omega)]
  congr 1
  simp only[List.length_cons] at h;unfold bP;rw[Array.toList_setIfInBounds];apply List.ext_getElem?;intro j;simp only[List.getElem?_append,List.length_append,List.length_take,List.length_set,List.getElem?_take,List.getElem?_drop,List.getElem?_set,List.length_cons,Array.length_toList];have m1:min (off+k) arr.size=off+k:=by omega
  have m2:min (off+(k+1)) arr.size=off+(k+1):=by omega
  simp only[m1,m2];by_cases c1:j<off+k
  ·have c2:j<off+(k+1):=by omega
   have c3:j<off+(k+1)+vs.length:=by omega
   have de:j<off+k+(vs.length+1):=by omega
   have gN:¬off+k=j:=by omega
   simp[c1,c2,c3,de,gN]
  ·by_cases c0:j=off+k
   ·subst c0;have c2:off+k<off+(k+1):=by omega
    have c3:off+k<off+(k+1)+vs.length:=by omega
    have de:off+k<off+k+(vs.length+1):=by omega
    have gN:off+k<arr.size:=by omega
    simp[c2,c3,de,gN]
   ·by_cases de:j<off+k+(vs.length+1)
    ·have c2:¬j<off+(k+1):=by omega
     have c3:j<off+(k+1)+vs.length:=by omega
     have e:j-(off+k)=(j-(off+(k+1)))+1:=by omega
     simp[c1,c2,c3,de,e]
    ·have c3:¬j<off+(k+1)+vs.length:=by omega
     have gN:¬off+k=off+(k+1)+vs.length+(j-(off+(k+1)+vs.length)):=by omega
     have e:off+(k+1)+vs.length+(j-(off+(k+1)+vs.length))=off+k+(vs.length+1)+(j-(off+k+(vs.length+1))):=by omega
     simp[c3,de,gN,e];try(intro bk;exfalso;omega)
theorem OW(v:Value)(off:Nat)(arr:Array Value)(h:off+v.cells.size<=arr.size):
  v.cells.zipIdx.foldl (fun cs (x:Value×Nat)=>cs.setIfInBounds (off+x.2) x.1) arr=(bP arr.toList off v.cells.toList).toArray:=by
 rw[<-Array.foldl_toList,Array.toList_zipIdx];exact foldl_set v.cells.toList off 0 arr (by simpa using h)
theorem Ps(s:Nat):∀(vs:List (Nat×Value)) (n:Nat) (cells:Array Value),(∀j (h:j<vs.length),(vs[j]).1=n+j)->(∀p,p∈vs->p.2.cells.size=s)->(n+vs.length)*s<=cells.size->
  Instr.fill (fun i=>some (i*s,s)) cells vs=some (bP cells.toList (n*s) (vs.flatMap fun p=>p.2.cells.toList)).toArray:=by
 intro vs;induction vs with
 |nil=>intro n cells _ _ _;simp[Instr.fill,bP]
 |cons p vs ih=>
  obtain⟨i,v⟩:=p;intro n cells hi hs hle;have h0:i=n:=hi 0 (Nat.zero_lt_succ _);subst h0;have hv:v.cells.size=s:=hs (i,v) (by simp)
  have pG:i*s+s<=cells.size:=by
   have:(i+1)*s<=(i+(vs.length+1))*s:=Nat.mul_le_mul_right _ (by omega)
   simp only[List.length_cons] at hle;rw[Nat.add_mul,Nat.one_mul] at this;omega
  simp only[Instr.fill,hv];rw[if_neg (by simp;omega)]
  have pv:=OW v (i*s) cells (by omega)
  rw[pv];have hlen:v.cells.toList.length=s:=by simpa using hv
  have asW:(bP cells.toList (i*s) v.cells.toList).length=cells.toList.length:=sf _ _ _ (by simp;omega)
  rw[ih (i+1) _ (fun j h=>by have:=hi (j+1) (by simpa using h);simp at this;omega) (fun p hp=>hs p (by simp[hp])) (by
   simp only[List.length_cons] at hle;simp only[List.size_toArray,asW,Array.length_toList];have e:i+1+vs.length=i+(vs.length+1):=by omega
   rw[e];exact hle)]
  congr 2
  simp only[List.flatMap_cons,List.toList_toArray];have pU:(vs.flatMap fun p=>p.2.cells.toList).length=vs.length*s:=by
   clear ih hi hle;induction vs with
   |nil=>simp
   |cons q vs axa=>
    have:q.2.cells.toList.length=s:=by simpa using hs q (by simp)
    rw[List.flatMap_cons,List.length_append,this,axa (fun p hp=>hs p (by rcases List.mem_cons.1 hp with h|h<;>simp[h])),List.length_cons,Nat.add_mul];omega
  have as8:(i+(vs.length+1))*s<=cells.size:=by simpa using hle
  rw[Nat.add_mul,Nat.add_mul] at as8;unfold bP;apply List.ext_getElem?;intro j;have e1:(i+1)*s=i*s+s:=by rw[Nat.add_mul,Nat.one_mul]
  simp only[List.getElem?_append,List.length_append,List.length_take,List.getElem?_take,List.getElem?_drop,List.length_drop,Array.length_toList,hlen,pU,e1];have m1:min (i*s) cells.size=i*s:=by omega
  have m2:min (i*s+s) (i*s+s+(cells.size-(i*s+s)))=i*s+s:=by omega
  simp only[m1,m2];by_cases c1:j<i*s
  ·have c2:j<i*s+s:=by omega
   have c3:j<i*s+s+vs.length*s:=by omega
   have de:j<i*s+(s+vs.length*s):=by omega
   simp[c1,c2,c3,de]
  ·by_cases c2:j<i*s+s
   ·have c3:j<i*s+s+vs.length*s:=by omega
    have de:j<i*s+(s+vs.length*s):=by omega
    have gN:j-i*s<s:=by omega
    simp[c1,c2,c3,de,gN]
   ·by_cases c3:j<i*s+s+vs.length*s
    ·have de:j<i*s+(s+vs.length*s):=by omega
     have gN:¬j-i*s<s:=by omega
     have e:j-i*s-s=j-(i*s+s):=by omega
     simp[c1,c2,c3,de,gN,e]
    ·have de:¬j<i*s+(s+vs.length*s):=by omega
     have gN:¬i*s+s+vs.length*s+(j-(i*s+s+vs.length*s))<i*s:=by omega
     have c6:¬i*s+s+vs.length*s+(j-(i*s+s+vs.length*s))<i*s+s:=by omega
     have e:i*s+s+(i*s+s+vs.length*s+(j-(i*s+s+vs.length*s))-(i*s+s))=i*s+(s+vs.length*s)+(j-(i*s+(s+vs.length*s))):=by omega
     simp[c3,de,gN,c6,e]
theorem ag2:∀(l:List (Nat×Operand)) (n:Nat),sK n l=true->∀j (h:j<l.length),(l[j]).1=n+j:=by
 intro l;induction l with
 |nil=>intro n _ j h;simp at h
 |cons p l ih=>
  obtain⟨i,x⟩:=p;intro n h j hj;simp only[sK,Bool.and_eq_true] at h;cases j with
  |zero=>simpa using Nat.eq_of_beq_eq_true h.1
  |succ j=>have:=ih (n+1) h.2 j (by simpa using hj);simp;omega
section
variable {P:Program}{U:World}{Y:List Nat}{X:Nat->Prop}{F:Nat->Value}{st:al}{M:Array Value}{w:World}{D:Oper}
theorem aet{ai:List aR}(h:hK ai=true):ai.head?≠some .dx:=by
 intro bL;cases ai with
 |nil=>cases bL
 |cons l r=>
  simp only[List.head?_cons,Option.some.injEq] at bL;subst bL;cases h
theorem aq.Te(S:aq U Y X F st M w){o:Nat}{cells:List aR}{vs:List Value}{T:TypeId}(hl:cA F st.sites w (aJ X F st.sites) cells vs)(h1:∀u∈vs,u.oneCell'=true)(hns:nf cells T vs w.heap.size):
  aq U Y X (fun ab=>if ab=o then .pointer (some ⟨w.heap.size,0,none⟩) else F ab) {st with sites:=cw st.sites o (.box (bw st o) cells)} M (w.alloc (.cells vs.toArray T (0,0))):=
 S.make (fun b hb=>RowKit.Below.heap_alloc w _ b hb) rfl rfl rfl (by simp) (fun af hs=>l0 hs) (fun b hb=>by cases hb;exact⟨Nat.le_refl _,by simp⟩)
  (fun hs cU go _ _=>⟨w.heap.size,T,vs,cU,heap_alloc_new w _,hl.1,h1,hns,fun j g1 g2=>(BR go hl).2 j g1 g2⟩)
theorem ajJ{F:Nat->Value}{sites:List (Nat×Site)}{av:Nat->Prop}{cells:List aR}{T:TypeId}{cur:List Value}{b:Nat}(bl:T=rK)(h:cA F sites w av cells cur)(hs:cells.head?≠some .dx):cA F sites w av (we cells) cur/\nf (we cells) T cur b:=by
 unfold we;split
 ·obtain⟨v,vs,rfl,h1,h2⟩:=h.inv;exact⟨.cons (show eb F sites w av .dx v from trivial) h2,fun _=>⟨bl,.inl (by rw[show v=_ from h1];rfl)⟩⟩
 ·exact⟨h,fun ak=>absurd ak hs⟩
theorem alh(S:aq U Y X F st M w){C:Ctx}(H:CtxOk P C){elem:TypeId}{z:List aR}{o:Nat}(aM:D.op=.alloc elem)(dJ:D.dst=some o)(hz:(C.tt elem).zero=some z)(aa:cr st D.dst=true):
  cM P U Y X st M w D (b7 (.ptr o (bw st o) 0)) [(o,.box (bw st o) (bif elem.beq rK then we z else z))]:=by
 obtain⟨v,hv,ow⟩:=cg.Gv (w:=w) (H.tt elem) hz;obtain⟨h1,h2,h3⟩:=uS ow;have hns:z.head?≠some .dx:=by
  intro bL;cases z with
  |nil=>cases bL
  |cons l r=>
   simp only[List.head?_cons,Option.some.injEq] at bL;subst bL;simp[lk,qB] at ow
 have dw:(execOp (Act.eval ⟨M,[]⟩) D).run P w=.ok (.value (.pointer (some ⟨w.heap.size,0,none⟩))) (w.alloc (.cells v.cells.toList.toArray elem (0,0))):=by
  unfold execOp;simp[aM,Instr.alloc,hv,newVar,newRow]
 have key:∀cells,cA F st.sites w (aJ X F st.sites) cells v.cells.toList->nf cells elem v.cells.toList w.heap.size->
   cM P U Y X st M w D (b7 (.ptr o (bw st o) 0)) [(o,.box (bw st o) cells)]:=by
  intro cells hl hs;have cm:=S.Te (o:=o) (T:=elem) hl h2 hs;refine lf (us:=[(o,.box (bw st o) cells)]) cm aa (vv:=.pointer (some ⟨w.heap.size,0,none⟩)) dw ?_
  refine⟨_,rfl,Ref.mk (af:=.box (bw st o) cells) ?_ rfl (by simp)⟩
  simp only[bu,c7];simp
 cases bl:elem.beq rK with
 |false=>exact key z ⟨h1,h3 _ _ _ _⟩ fun h=>absurd h hns
 |true=>
  obtain⟨aE,aF⟩:=ajJ (b:=w.heap.size) (Nat.eq_of_beq_eq_true bl) (⟨h1,h3 F st.sites w (aJ X F st.sites)⟩:cA F st.sites w (aJ X F st.sites) z v.cells.toList) hns;exact key _ aE aF
theorem ao6(S:aq U Y X F st M w){elem:TypeId}{x:Operand}{a:bS}{o:Nat}(aM:D.op=.box elem x)(dJ:D.dst=some o)(ha:hh F st.sites w (aJ X F st.sites) a (Act.eval ⟨M,[]⟩ x))
  (dV:hK a.cells=true) (aa:cr st D.dst=true):cM P U Y X st M w D (b7 (.ptr o (bw st o) 0)) [(o,.box (bw st o) a.cells)]:=by
 have hl:=ha.cells dV;have cm:=S.Te (o:=o) (T:=elem) hl (hl.jI dV) (fun h=>absurd h (aet dV))
 refine lf (us:=[(o,.box (bw st o) a.cells)]) cm aa (vv:=.pointer (some ⟨w.heap.size,0,none⟩)) ?_ ?_
 ·unfold execOp;simp[aM,Instr.box,newVar,newRow]
 ·refine⟨_,rfl,Ref.mk (af:=.box (bw st o) a.cells) ?_ rfl (by simp)⟩
  simp only[bu,c7];simp
theorem aq.H8(S:aq U Y X F st M w){o:Nat}{t:bf}{xs:List (den t)}{cs rest:List Value}{T:TypeId}{cap:Nat}(hl:c5 w (aJ X F st.sites) (flat t xs) cs)(hcap:cs.length+rest.length=cap*bd t)(hm:cap<=maxLen)(gM:t.jZ=true->T=mF):
  aq U Y X (fun ab=>if ab=o then .slice (some ⟨w.heap.size,0,none⟩) xs.length cap else F ab) {st with sites:=cw st.sites o (.row (bw st o) t xs)} M (w.alloc (.cells (cs++rest).toArray T (0,0))):=by
 have hcl:cs.length=xs.length*bd t:=by rw[hl.1,e7]
 have hle:xs.length<=cap:=by
  have:xs.length*bd t<=cap*bd t:=by omega
  exact Nat.le_of_mul_le_mul_right this (l8 t)
 refine S.make (fun b hb=>RowKit.Below.heap_alloc w _ b hb) rfl rfl rfl (by simp) (fun af hs=>l0 hs) (fun b hb=>by cases hb;exact⟨Nat.le_refl _,by simp⟩)
  (fun hs cU go _ _=>⟨T,cs,⟨hcl,.inr ⟨w.heap.size,cap,_,(0,0),cU,⟨gM,.inl rfl⟩,heap_alloc_new w _,hle,hm,?_,?_⟩⟩,fun j g1 g2=>po go (hl.2 j g1 g2)⟩)
 ·simp[hcap]
 ·rw[<-hcl];simp
theorem ang:∀{as:List bS} {t:bf} {xs:List (den t)} {us vs:List (Nat×Site)} {ws:List Value},lK t st as=some (xs,us)->ws.length=as.length->
  (∀j (h:j<as.length) (ak:j<ws.length),hh F st.sites w (aJ X F st.sites) (as[j]) (ws[j]))->la U Y X F st M w vs->(∀p,p∈us->p∈vs)->
  xs.length=as.length/\c5 w (aJ X F (bu st.sites vs)) (flat t xs) (ws.flatMap fun v=>v.cells.toList)/\∀v,v∈ws->v.cells.size=bd t:=by
 intro as;induction as with
 |nil=>
  intro t xs us vs ws h hl _ _ _;simp only[lK] at h;cases h;have:ws=[]:=List.eq_nil_of_length_eq_zero hl;subst this;exact⟨rfl,⟨rfl,fun j h=>by simp[flat] at h⟩,fun v hv=>by simp at hv⟩
 |cons a as ih=>
  intro t xs us vs ws h hl fG aT ek;match ws,hl with
  |v::ws,hl=>
  simp only[lK] at h;split at h
  ·rename_i ds u1 pH;split at h
   ·rename_i x iX u2 kk pu;cases h;have cc:=fG 0 (by simp) (by simp)
    simp only[List.getElem_cons_zero] at cc;have dV:hK a.cells=true:=by
     clear pu ih fG cc hl kk;generalize a.cells=ai at pH;induction ai generalizing ds u1 with
     |nil=>rfl
     |cons l ai ih=>
      simp only[f_] at pH;split at pH
      ·rename_i d adr kX rT h1 h2;simp only[hK,Bool.and_eq_true];refine⟨?_,ih _ _ (fun p hp=>ek p (by cases pH;rcases List.mem_append.1 hp with h|h<;>simp[h])) h2⟩
       unfold j4 at h1;split at h1<;>first|rfl|cases h1
      ·cases pH
    have ht:=cc.cells dV;have Mm:=Bm pH ht aT (fun p hp=>ek p (List.mem_append.2 (.inl hp)))
    obtain⟨g1,g2,g3⟩:=ih pu (by simpa using hl) (fun j h1 h2=>fG (j+1) (by simpa using h1) (by simpa using h2)) aT (fun p hp=>ek p (List.mem_append.2 (.inr hp)))
    have Zq:=Bl _ _ _ kk;refine⟨by simp[g1],?_,fun u hu=>?_⟩
    ·simp only[flat,List.flatMap_cons];rw[Zq];have:=jk ((hO (F:=F) (sites:=st.sites) Mm.1 Mm.2).append (hO (F:=F) (sites:=st.sites) g2.1 g2.2)|>fun h=>by
      rw[show cG ds++cG (flat t iX)=cG (ds++flat t iX) from by simp[cG]] at h
      exact h)
     exact this
    ·rcases List.mem_cons.1 hu with rfl|hu
     ·have:u.cells.toList.length=ds.length:=Mm.1;rw[<-Zq,jg] at this;simpa using this
     ·exact g3 u hu
   ·cases h
  ·cases h
theorem anh:∀{as:List bS} {t:bf} {xs:List (den t)} {us:List (Nat×Site)},lK t st as=some (xs,us)->dU st.sites us:=by
 intro as;induction as with
 |nil=>intro t xs us h;simp only[lK] at h;cases h;exact .nil
 |cons a as ih=>
  intro t xs us h;simp only[lK] at h;split at h
  ·rename_i ds u1 pH;split at h
   ·rename_i x iX u2 kk pu;cases h;exact(I0 pH).append (ih pu)
   ·cases h
  ·cases h
theorem ad1{us:List (Nat×Site)}(h:dU st.sites us)(o:Nat):bw {st with sites:=bu st.sites us} o=bw st o:=by
 unfold bw al.af;simp only;rcases lZ h o with h1|⟨s,t,xs,h1,h2⟩
 ·rw[h1]
 ·rw[h2];rcases h1 with h1|h1<;>rw[h1]<;>rfl
end
section
variable {P:Program}{U:World}{Y:List Nat}{X:Nat->Prop}{F:Nat->Value}{st:al}{M:Array Value}{w:World}{D:Oper}
theorem ql{v:a8}{a:bS}(h:mq v=some a):v=.av a:=by
 cases v with
 |av b=>cases h;rfl
 |jX _=>cases h
theorem ahh:∀{vs:List a8} {as:List bS},oi vs=some as->vs.length=as.length/\∀j (h:j<vs.length) (ak:j<as.length),vs[j]=.av (as[j]):=by
 intro vs;induction vs with
 |nil=>intro as h;simp only[oi] at h;cases h;exact⟨rfl,fun j h=>by simp at h⟩
 |cons v vs ih=>
  intro as h;simp only[oi] at h;split at h
  ·rename_i a oK h1 h2;cases h;obtain⟨g1,g2⟩:=ih h2;refine⟨by simp[g1],fun j aE aF=>?_⟩
   cases j with
   |zero=>exact ql h1
   |succ j=>exact g2 j (by simpa using aE) (by simpa using aF)
  ·cases h
theorem yv{C:Ctx}(H:CtxOk P C){T e:TypeId}{t:bf}{bytes:Nat}(bl:C.tt T=.slice e t bytes):
  P.underlying T=some (.slice e)/\∃i z,P.info? e=some i/\i.size=bd t/\i.bytes=bytes/\i.zero=some z/\z.cells.size=bd t/\(t.jZ=true->e=mF):=by
 have bO:=H.tt T;rw[bl] at bO;obtain⟨⟨fE,_⟩,z,hinfo,hzs⟩:=bO;refine⟨fE,?_⟩;cases az:P.info? e with
 |none=>simp[az] at hinfo
 |some i=>
  simp only[az,Option.map_some,Option.some.injEq,Prod.mk.injEq] at hinfo;exact⟨i,z,rfl,hinfo.1,hinfo.2.1,hinfo.2.2,hzs⟩
theorem aeD(S:aq U Y X F st M w){C:Ctx}(H:CtxOk P C){T e:TypeId}{t:bf}{bytes len o:Nat}{parts:Array (Nat×Operand)}(bl:C.tt T=.slice e t bytes)(aM:D.op=.buildSlice T len parts)
  (dJ:D.dst=some o) (aa:cr st D.dst=true) (hlen:parts.toList.length=len) (ra:sK 0 parts.toList=true) (aoN:len*bd t<=1000) {as:List bS} {xs:List (den t)} {us:List (Nat×Site)}
  (has:oi (parts.toList.map fun p=>bg C st e p.2)=some as) (kk:lK t st as=some (xs,us)):
  cM P U Y X st M w D (b7 (.own o (bw st o))) (us++[(o,.row (bw st o) t xs)]):=by
 obtain⟨fE,i,z,hi,jT,Mz,ul,hzs,gM⟩:=yv H bl;have hfz:=anh kk;have aT:la U Y X F st M w us:=⟨S,hfz⟩;obtain⟨uq,mD⟩:=ahh has;let ws:List Value:=parts.toList.map fun p=>Act.eval ⟨M,[]⟩ p.2
 have abQ:ws.length=as.length:=by rw[<-uq];simp[ws]
 have asS:∀j (h:j<as.length) (ak:j<ws.length),hh F st.sites w (aJ X F st.sites) (as[j]) (ws[j]):=by
  intro j h1 h2;have hj:j<(parts.toList.map fun p=>bg C st e p.2).length:=by rw[uq];exact h1
  have:=mD j hj h1;simp only[List.getElem_map] at this;have bB:=dI S C e (parts.toList[j]'(by simpa using hj)).2
  rw[this] at bB;have h3:ck F st.sites w (aJ X F st.sites) (.av (as[j])) (ws[j]):=by simpa[ws] using bB
  exact h3
 obtain⟨hxl,dW,hcs⟩:=ang kk abQ asS aT (fun p hp=>hp)
 have CG:xs.length=len:=by rw[hxl,<-abQ];simpa[ws] using hlen
 have aoO:(parts.map fun(x:Nat×Operand)=>(x.1,Act.eval ⟨M,[]⟩ x.2)).toList=parts.toList.map fun p=>(p.1,Act.eval ⟨M,[]⟩ p.2):=by simp
 have aqI:((parts.toList.map fun p=>(p.1,Act.eval ⟨M,[]⟩ p.2)).flatMap fun p:Nat×Value=>p.2.cells.toList)=ws.flatMap fun v=>v.cells.toList:=by
  simp[ws,List.flatMap_map]
 have hcl:(ws.flatMap fun v=>v.cells.toList).length=len*bd t:=by rw[dW.1,e7,CG]
 have hm:len<=maxLen:=by
  have:len*1<=len*bd t:=Nat.mul_le_mul_left _ (l8 t);unfold maxLen;omega
 have cm:=aT.new.H8 (o:=o) (xs:=xs) (cs:=ws.flatMap fun v=>v.cells.toList) (rest:=[]) (T:=e) (cap:=len) (by exact dW) (by simp[hcl]) hm gM
 rw[ad1 hfz,CG,List.append_nil] at cm;have vV:bu st.sites (us++[(o,.row (bw st o) t xs)])=cw (bu st.sites us) o (.row (bw st o) t xs):=by rw[ld];rfl
 have dw:(Instr.buildSlice T len (parts.map fun(x:Nat×Operand)=>(x.1,Act.eval ⟨M,[]⟩ x.2))).run P w=
   .ok (.slice (some ⟨w.heap.size,0,none⟩) len len) (w.alloc (.cells (ws.flatMap fun v=>v.cells.toList).toArray e)):=by
  by_cases h0:len*i.size=0
  ·have hl0:len=0:=by
    rcases Nat.mul_eq_zero.1 h0 with h|h
    ·exact h
    ·have:=l8 t;omega
   subst hl0;have ru:parts.toList=[]:=List.eq_nil_of_length_eq_zero hlen;have DN:ws=[]:=by simp[ws,ru]
   have axz:parts=#[]:=by simpa using ru
   rw[DN];have lP:∀f:Nat->Value,Array.map f (Array.range 0)=#[]:=fun f=>by apply Array.ext';simp
   simp[Instr.buildSlice,run_underlying fE,sizeOf,typeInfo,hi,axz,Instr.fill,newRow,lP]
  ·refine run_buildSlice w T e len _ _ i z fE hi ul (by rw[jT];omega) h0 ?_
   rw[aoO];have aqx:(((Array.range (len*i.size)).map fun x=>z.cells[x%z.cells.size]!)).size=len*i.size:=by simp
   have:=Ps (bd t) (parts.toList.map fun p=>(p.1,Act.eval ⟨M,[]⟩ p.2)) 0 ((Array.range (len*i.size)).map fun x=>z.cells[x%z.cells.size]!)
    (fun j h=>by have:=ag2 _ 0 ra j (by simpa using h);simpa using this)
    (fun p hp=>by
     obtain⟨q,az,rfl⟩:=List.mem_map.1 hp;exact hcs _ (List.mem_map.2 ⟨q,az,rfl⟩))
    (by rw[aqx,jT];simp[hlen])
   rw[jT] at this ⊢;rw[this,aqI];congr 2
   unfold bP;rw[Nat.zero_mul,List.take_zero,List.nil_append,Nat.zero_add,hcl,List.drop_eq_nil_of_le (by simp),List.append_nil]
 refine lf (us:=us++[(o,.row (bw st o) t xs)]) (by rw[vV];exact cm) aa (vv:=.slice (some ⟨w.heap.size,0,none⟩) len len) ?_ ?_
 ·unfold execOp;simp only[aM,Sem.run_bind];have aqC:=dw;simp only[aqC,Result.andThen_ok,Sem.run_pure]
 ·rw[vV];refine⟨rfl,Ref.mk (af:=.row (bw st o) t xs) ?_ rfl (by simp)⟩
  simp only[c7];simp
theorem aeu{w:World}{av:Nat->Prop}{t:bf}{z:den t}{zs:List Value}(h:c5 w av (enc t z) zs)(n:Nat):c5 w av (flat t (List.replicate n z)) ((List.replicate n zs).flatten):=by
 induction n with
 |zero=>exact⟨rfl,fun j h=>by simp[flat] at h⟩
 |succ n ih=>
  have:=jk ((hO (F:=fun _=>undef) (sites:=[]) h.1 h.2).append (hO (F:=fun _=>undef) (sites:=[]) ih.1 ih.2)|>fun h=>by
   rw[show cG (enc t z)++cG (flat t (List.replicate n z))=cG (enc t z++flat t (List.replicate n z)) from by simp[cG]] at h
   exact h)
  simpa[List.replicate_succ,flat,List.flatMap_cons] using this
theorem ah2(z:Array Value)(n:Nat)(hz:0<z.size):((Array.range (n*z.size)).map fun x=>z[x%z.size]!).toList=(List.replicate n z.toList).flatten:=by
 induction n with
 |zero=>simp
 |succ n ih=>
  rw[List.replicate_succ',List.flatten_append];rw[<-ih];apply List.ext_getElem?;intro j;have e:(n+1)*z.size=n*z.size+z.size:=by rw[Nat.add_mul,Nat.one_mul]
  simp only[Array.toList_map,Array.toList_range,List.getElem?_map,List.getElem?_append,List.length_map,List.length_range,List.flatten_cons,List.flatten_nil,List.append_nil,e];by_cases h1:j<n*z.size
  ·rw[List.getElem?_range (by omega)];simp[h1]
  ·by_cases h2:j<n*z.size+z.size
   ·rw[List.getElem?_range h2];have h3:j-n*z.size<z.size:=by omega
    have aC:j%z.size=j-n*z.size:=by
     have:j=z.size*n+(j-n*z.size):=by rw[Nat.mul_comm];omega
     conv=>lhs;rw[this]
     rw[Nat.mul_add_mod,Nat.mod_eq_of_lt h3]
    simp[h1,aC,h3]
   ·rw[List.getElem?_eq_none (by simp;omega)]
    have h3:¬j-n*z.size<z.size:=by omega
    simp[h1,h3]
theorem afm{l:aR}{v:Value}{d:bh}{us:List (Nat×Site)}(h:qB l=some v)(k:j4 st l=some (d,us)):us=[]:=by
 cases l with
 |d x=>simp[j4] at k;exact k.2
 |nil t=>simp[j4] at k;exact k.2
 |own o s=>simp[qB] at h
 |clo g bE=>simp[qB] at h
 |_=>simp[j4] at k
theorem ae6(S:aq U Y X F st M w){C:Ctx}(H:CtxOk P C){T e:TypeId}{t:bf}{bytes o:Nat}{l c:Operand}{x2 x3:IntKind}{n m:Int}{z:List aR}{ds:List bh}{us:List (Nat×Site)}{eY:den t}(bl:C.tt T=.slice e t bytes)(aM:D.op=.makeSlice T l c)
  (dJ:D.dst=some o) (aa:cr st D.dst=true) (hl:bg C st 0 l=.av (.an (.d (.int x2 n)))) (hc:bg C st 0 c=.av (.an (.d (.int x3 m)))) (hz:(C.tt e).zero=some z) (gL:f_ st z=some (ds,us)) (kk:dec t ds=some eY):
  ∀r,jY bytes n m eY=some r->cM P U Y X st M w D (b7 (.own o (bw st o))) [(o,.row (bw st o) t r)]:=by
 intro r hr;obtain⟨fE,i,gd,hi,jT,Mz,ul,hzs,gM⟩:=yv H bl;obtain⟨v,hv,ow⟩:=cg.Gv (w:=w) (H.tt e) hz;have axj:v=gd:=by
  simp[zeroValue,typeInfo,hi,ul] at hv;exact hv.symm
 subst axj;obtain⟨h1,h2,h3⟩:=uS ow;have ho:us=[]:=by
  clear kk hz h3 h2 h1;have key:∀{ai:List aR} {vs:List Value} {ds:List bh} {us:List (Nat×Site)},lk ai=some vs->f_ st ai=some (ds,us)->us=[]:=by
   intro ai;induction ai with
   |nil=>intro vs ds us _ h;simp only[f_] at h;cases h;rfl
   |cons l ai ih=>
    intro vs ds us h1 h2;simp only[lk] at h1;split at h1
    ·rename_i v cv g1 g2;simp only[f_] at h2;split at h2
     ·rename_i d adr kX rT aE aF;cases h2;rw[ih g2 aF,List.append_nil];exact afm g1 aE
     ·cases h2
    ·cases h1
  exact key ow gL
 subst ho;have aT:la U Y X F st M w []:=⟨S,.nil⟩;have hrz:c5 w (aJ X F st.sites) ds v.cells.toList:=Bm gL ⟨h1,h3 _ _ _ _⟩ aT (fun p hp=>hp)
 rw[<-Bl _ _ _ kk] at hrz;unfold jY at hr;split at hr
 ·rename_i hb;obtain⟨b1,b2,b3,yb⟩:=hb;cases hr;have e1:Act.eval ⟨M,[]⟩ l=.int x2 n:=by
   have:=dI S C 0 l;rw[hl] at this;have this:bK _ _ (.int x2 n) _:=this;generalize Act.eval ⟨M,[]⟩ l=u at this;cases this;rfl
  have e2:Act.eval ⟨M,[]⟩ c=.int x3 m:=by
   have:=dI S C 0 c;rw[hc] at this;have this:bK _ _ (.int x3 m) _:=this;generalize Act.eval ⟨M,[]⟩ c=u at this;cases this;rfl
  have Zf:=aeu hrz n.toNat;have hlen:((List.replicate n.toNat v.cells.toList).flatten).length=n.toNat*bd t:=by
   rw[Zf.1,e7,List.length_replicate]
  have Vl:(List.replicate m.toNat v.cells.toList).flatten=(List.replicate n.toNat v.cells.toList).flatten++(List.replicate (m.toNat-n.toNat) v.cells.toList).flatten:=by
   rw[<-List.flatten_append,List.replicate_append_replicate];congr 2;omega
  have hcap:((List.replicate n.toNat v.cells.toList).flatten).length+((List.replicate (m.toNat-n.toNat) v.cells.toList).flatten).length=m.toNat*bd t:=by
   rw[<-List.length_append,<-Vl];simp[hzs]
  have hmax:m.toNat<=maxLen:=by omega
  have cm:=S.H8 (o:=o) (T:=e) Zf hcap hmax gM;rw[List.length_replicate,<-Vl] at cm;refine lf (us:=[(o,.row (bw st o) t (List.replicate n.toNat eY))]) cm aa (vv:=.slice (some ⟨w.heap.size,0,none⟩) n.toNat m.toNat) ?_ ?_
  ·unfold maxLen at yb;have aY:IntKind.i64.wrap n=n:=IntWalk.i64_in n (by omega)
   have w2:IntKind.i64.wrap m=m:=IntWalk.i64_in m (by omega)
   have KR:(decide (m<0)||decide (((i.bytes:Nat):Int)*m>2^48))=false:=by
    unfold room at b3;rw[Mz];have:(bytes:Int)*m<=140737488355328:=by rw[Int.mul_comm];exact b3
    simp;omega
   have BY:((Array.range (m.toNat*i.size)).map fun x=>v.cells[x%v.cells.size]!)=((List.replicate m.toNat v.cells.toList).flatten).toArray:=by
    rw[<-ah2 v.cells m.toNat (by rw[hzs];exact l8 t),hzs,jT]
   unfold execOp;simp only[aM,e1,e2,Sem.run_bind];have dw:(Instr.makeSlice T (.int x2 n) (.int x3 m)).run P w=.ok (.slice (some ⟨w.heap.size,0,none⟩) n.toNat m.toNat) (w.alloc (.cells ((List.replicate m.toNat v.cells.toList).flatten).toArray e)):=by
    have rz:¬n<0:=by omega
    have kT:¬n>m:=by omega
    unfold Instr.makeSlice;simp only[Sem.run_bind,run_underlying fE,Result.andThen_ok,asInt,asIntOf,Sem.run_pure,lc hi,aY,w2,KR,Bool.false_eq_true,rz,kT,decide_false,Bool.or_false,Bool.or_self,if_false,
     run_askRoom,sizeOf]
    by_cases hz0:m.toNat*i.size=0
    ·have ug:m.toNat=0:=by
      rcases Nat.mul_eq_zero.1 hz0 with h|h
      ·exact h
      ·have:=l8 t;omega
     have lP:∀f:Nat->Value,Array.map f (Array.range 0)=#[]:=fun f=>by apply Array.ext';simp
     simp[ug,newRow,lP]
    ·simp[hz0,ul,zeroValue,lc hi,newRow,BY]
   simp only[dw,Result.andThen_ok,Sem.run_pure]
  ·refine⟨rfl,Ref.mk (af:=.row (bw st o) t (List.replicate n.toNat eY)) ?_ rfl (by simp)⟩
   simp only[bu,c7];simp
 ·cases hr
end
theorem aiC{aH mH:Type}(g:aH->Option mH):∀{l:List aH} {r:List mH},l.mapM g=some r->∀{i:Nat} {y:mH},r[i]? =some y->∃x,l[i]? =some x/\g x=some y:=by
 intro l;induction l with
 |nil=>intro r h i y hy;simp at h;subst h;simp at hy
 |cons x l ih=>
  intro r h i y hy;simp only[List.mapM_cons,Option.bind_eq_bind,Option.pure_def] at h;cases hx:g x with
  |none=>simp[hx] at h
  |some z=>
   cases hl:l.mapM g with
   |none=>simp[hx,hl] at h
   |some eH=>
    simp only[hx,hl,Option.bind_some,Option.some.injEq] at h;subst h;cases i with
    |zero=>simp at hy;subst hy;exact⟨x,by simp,hx⟩
    |succ i=>simp at hy;simpa using ih hl hy
section
variable {P:Program}{U:World}{Y:List Nat}{X:Nat->Prop}{F:Nat->Value}{st:al}{M:Array Value}{w:World}{D:Oper}
theorem iA{k:IntKind}{n:Int}{v:Value}{av:Nat->Prop}(h:bK w av (.int k n) v):v=.int k n:=by cases h;rfl
theorem jK{b:Bool}{v:Value}{av:Nat->Prop}(h:bK w av (.bool b) v):v=.bool b:=by cases h;rfl
theorem gD{s:B}{v:Value}{av:Nat->Prop}(h:bK w av (.str s) v):∃b:ByteArray,v=.string b/\b.data.toList=s:=by
 cases h with
 |str l s h=>exact⟨s,rfl,h⟩
theorem kb(S:aq U Y X F st M w){C:Ctx}{T:TypeId}{x:Operand}{k:IntKind}{n:Int}(h:bg C st T x=.av (.an (.d (.int k n)))):Act.eval ⟨M,[]⟩ x=.int k n:=by
 have:=dI S C T x;rw[h] at this;exact iA this
theorem IW(S:aq U Y X F st M w){C:Ctx}{T:TypeId}{x:Operand}{b:Bool}(h:bg C st T x=.av (.an (.d (.bool b)))):Act.eval ⟨M,[]⟩ x=.bool b:=by
 have:=dI S C T x;rw[h] at this;exact jK this
theorem aoZ(S:aq U Y X F st M w){C:Ctx}{T:TypeId}{x:Operand}{s:B}(h:bg C st T x=.av (.an (.d (.str s)))):∃b:ByteArray,Act.eval ⟨M,[]⟩ x=.string b/\b.data.toList=s:=by
 have:=dI S C T x;rw[h] at this;exact gD this
theorem afA{C:Ctx}(H:CtxOk P C){T:TypeId}{bR:List (Nat×Nat)}{n:Nat}{z:List aR}{eq:Bool}(bl:C.tt T=.struct bR n z eq):(cg.struct bR n z eq).ok P T:=by
 have:=H.tt T;rwa[bl] at this
theorem afi(S:aq U Y X F st M w){C:Ctx}(H:CtxOk P C){T:TypeId}{x:Operand}{f off Nr:Nat}{bR:List (Nat×Nat)}{n:Nat}{z:List aR}{eq:Bool}(bl:C.tt T=.struct bR n z eq)(aM:D.op=.fieldAddr T x f)
  (aa:cr st D.dst=true) (hf:bR[f]? =some (off,Nr)):Holds (Fa off (bg C st 0 x)) (cM P U Y X st M w D):=by
 obtain⟨fields,fE,⟨as3,axB⟩,_⟩:=afA H bl;obtain⟨adF,h1,h2⟩:=aiC _ as3 hf;have h1':fields[f]? =some adF:=by simpa using h1
 cases hi:P.info? adF.type with
 |none=>simp[hi] at h2
 |some i=>
  simp only[hi,Option.map_some,Option.some.injEq,Prod.mk.injEq] at h2;have hsz:i.size≠0:=by rw[h2.2];exact axB (off,Nr) (List.mem_of_getElem? hf)
  have bB:=dI S C 0 x;have run:∀{b p:Nat},Act.eval ⟨M,[]⟩ x=.pointer (some ⟨b,p,none⟩)->(execOp (Act.eval ⟨M,[]⟩) D).run P w=.ok (.value (.pointer (some ⟨b,p+off,none⟩))) w:=by
   intro b p hx;unfold execOp;simp only[aM,hx,Instr.fieldAt,Instr.sureAddr,Sem.run_bind,run_underlying fE,Result.andThen_ok,h1',Sem.run_pure,fieldPlace,sizeOf,lc hi,hsz,if_false,h2.1,gV]
  unfold Fa;split
  ·rename_i o s p b8;rw[b8] at bB;obtain⟨b,aE,aF⟩:=bB;exact Holds.ok (dT S aa (run aE) ⟨b,rfl,aF⟩)
  ·rename_i cells p b8;rw[b8] at bB;obtain⟨b,q,aE,aF⟩:=bB;refine Holds.ok (dT S aa (run aE) ⟨b,q,by rw[Nat.add_assoc],aF⟩)
  ·rename_i o s t k p b8;rw[b8] at bB;obtain⟨b,aE,aF⟩:=bB;exact Holds.ok (dT S aa (run aE) ⟨b,by rw[Nat.add_assoc],aF⟩)
  ·exact .fail
end
section
variable {P:Program}{U:World}{Y:List Nat}{X:Nat->Prop}{F:Nat->Value}{st:al}{M:Array Value}{w:World}{D:Oper}
theorem ajB(S:aq U Y X F st M w){C:Ctx}(H:CtxOk P C){T:TypeId}{a x:Operand}{v:bS}(aM:D.op=.store T a x)(aa:cr st D.dst=true)(hk:(C.tt T).known=true)(hv:mq (bg C st T x)=some v):
  Holds (sU (C.tt T).size st (bg C st T a) v) (cM P U Y X st M w D):=by
 have hn:=GU hk;have rE:=dI S C T a;have hex:=dI S C T x;rw[ql hv] at hex;have hex:hh F st.sites w (aJ X F st.sites) v (Act.eval ⟨M,[]⟩ x):=hex;have run:∀{b p:Nat} {cur:List Value} {gC:TypeId} {u:Bool} {fz:Nat×Nat},Act.eval ⟨M,[]⟩ a=.pointer (some ⟨b,p,none⟩)->w.heap[b]? =some (.cells cur.toArray gC fz)->nn u gC cur.toArray fz->(Act.eval ⟨M,[]⟩ x).cells.toList.length=(C.tt T).size->
   p+(Act.eval ⟨M,[]⟩ x).cells.toList.length<=cur.length->(∀u∈(Act.eval ⟨M,[]⟩ x).cells.toList,u.oneCell'=true)->
   (execOp (Act.eval ⟨M,[]⟩) D).run P w=.ok .skip (w.setRow b (bP cur p (Act.eval ⟨M,[]⟩ x).cells.toList).toArray):=by
  intro b p cur gC u fz h1 h2 hz h3 aC bk;unfold execOp;simp only[aM,h1,Instr.storeAt,Instr.sureAddr,Sem.run_bind,Sem.run_pure,Result.andThen_ok,N8 (H.tt T) hn h2 hz h3 aC bk]
 unfold sU;cases hlen:v.cells.length.beq (C.tt T).size with
 |false=>simp only[cond_false];exact .fail
 |true=>
  have wq:=Nat.eq_of_beq_eq_true hlen;simp only[cond_true];split
  ·rename_i o s off b8;rw[b8] at rE;split
   ·rename_i cells hb;cases hc:(Nat.ble (off+(C.tt T).size) cells.length&&hK v.cells) with
    |false=>simp only[cond_false];exact .fail
    |true=>
     simp only[cond_true];simp only[Bool.and_eq_true] at hc;have hle:=Nat.le_of_ble_eq_true hc.1;have hl:=hex.cells hc.2;obtain⟨b,gC,cur,h1,h2,h3,cm⟩:=S.ajD (gP hb) rE hl (by rw[wq];exact hle) (hl.jI hc.2) hc.2
     exact Holds.fF (ys (us:=[(o,.box s (bP cells off v.cells))]) cm aa (run (u:=false) h1 h2 ⟨(fun h=>by cases h),.inl rfl⟩ (by rw[hl.1];exact wq) h3 (hl.jI hc.2)))
   ·exact .fail
  ·rename_i o s u k off b8;rw[b8] at rE;split
   ·rename_i aN t xs gG;have s5:look st.sites o=some (.row aN t xs):=gG;cases hc:(aN.beq s&&Nat.ble (off+(C.tt T).size) (bd t)&&decide (t=u)) with
    |false=>simp only[cond_false];exact .fail
    |true=>
     simp only[cond_true];simp only[Bool.and_eq_true,decide_eq_true_eq] at hc;obtain⟨⟨hc1,rG⟩,rfl⟩:=hc;have:=Nat.eq_of_beq_eq_true hc1;subst this;have hle:=Nat.le_of_ble_eq_true rG;split
     ·rename_i ds us gL;cases kT:(look us o).isNone with
      |false=>simp only[cond_false];exact .fail
      |true=>
       simp only[cond_true];refine Holds.hT fun iv pN=>?_
       have wM:((xs[k]?).bind fun x=>dec t (bP (enc t x) off ds))=some iv:=pN
       cases Mb:xs[k]? with
       |none=>rw[Mb] at wM;cases wM
       |some xY=>
        rw[Mb] at wM;have kk:dec t (bP (enc t xY) off ds)=some iv:=wM;have hfz:=I0 gL;have aT:la U Y X F st M w us:=⟨S,hfz⟩;have dV:hK v.cells=true:=by
         clear hlen wq pN wM kk kT hfz aT;revert gL
         generalize v.cells=ai;intro gL;induction ai generalizing ds us with
         |nil=>rfl
         |cons l ai ih=>
          simp only[f_] at gL;split at gL
          ·rename_i d adr kX rT h1 h2;simp only[hK,Bool.and_eq_true];refine⟨?_,ih _ _ h2⟩;unfold j4 at h1;split at h1<;>first|rfl|cases h1
          ·cases gL
        have hl:=hex.cells dV;have hr:=Bm gL hl aT (fun p hp=>hp)
        have hdl:ds.length=(C.tt T).size:=by
         have:=hr.1;rw[hl.1] at this;omega
        have KR:look (bu st.sites us) o=some (.row aN t xs):=by
         rcases lZ hfz o with h|⟨s2,t2,aBU,h,ak⟩
         ·rw[h];exact s5
         ·exfalso
          have:∀(us:List (Nat×Site)) (sites:List (Nat×Site)),look us o=none->look (bu sites us) o=look sites o:=by
           intro us;induction us with
           |nil=>intro sites _;rfl
           |cons p us ih=>
            obtain⟨ab,af⟩:=p;intro sites CE;simp only[look] at CE;cases hb:ab.beq o with
            |true=>simp[hb] at CE
            |false=>
             simp only[hb,cond_false] at CE;simp only[bu];rw[ih _ CE,c7,if_neg];rintro rfl;simp at hb
          have h3:=this us st.sites (by simpa using kT)
          rw[ak,s5] at h3;cases h3
        have atg:=aT.go (a:=.av (.an (.e3 o aN t k off))) rE;obtain⟨b,gC,cur,fz,h1,h2,hz,h3,cm⟩:=aT.new.ajC KR atg Mb (Bl _ _ _ kk) hr (by rw[hdl];exact hle) (hl.jI dV)
        refine ys (a6:=F) (us:=us++[(o,.row aN t (xs.set k iv))]) ?_ aa (run h1 h2 hz (by rw[hl.1];exact wq) h3 (hl.jI dV))
        rw[ld];exact cm
     ·exact .fail
   ·exact .fail
  ·exact .fail
theorem afe(S:aq U Y X F st M w){C:Ctx}(H:CtxOk P C){T e:TypeId}{t:bf}{bytes:Nat}{x i:Operand}{k:IntKind}{n:Int}(bl:C.tt T=.slice e t bytes)(hi:bg C st 0 i=.av (.an (.d (.int k n))))(aM:D.op=.indexAddr T x i)
  (aa:cr st D.dst=true):
  Holds (sk t st (bg C st T x) n) (cM P U Y X st M w D):=by
 obtain⟨fE,inf,z,kJ,jT,Mz,ul,hzs,_⟩:=yv H bl;have wQ:=kb S hi;have bB:=dI S C T x;have run:∀{a:Addr} {len cap:Nat},Act.eval ⟨M,[]⟩ x=.slice (some a) len cap->0<=n->n<len->(execOp (Act.eval ⟨M,[]⟩) D).run P w=.ok (.value (.pointer (some (a.add (n.toNat*bd t))))) w:=by
  intro a len cap hx h0 h1;unfold execOp;simp[aM,hx,wQ,Instr.indexAt,asIntOf,run_underlying fE,h0,h1,sizeOf,lc kJ,jT]
 unfold sk;split
 ·rename_i u xs b8;split;case isFalse=>exact .fail
  rename_i oz;subst oz;rw[b8] at bB;have bB:bK w (aJ X F st.sites) (.sl u xs) (Act.eval ⟨M,[]⟩ x):=bB;refine Holds.ey fun y hy=>?_
  have ec:aO xs n=some y:=hy;unfold aO at ec;split at ec
  ·rename_i h0;have hlt:n.toNat<xs.length:=by
    rcases Nat.lt_or_ge n.toNat xs.length with h|h
    ·exact h
    ·rw[List.getElem?_eq_none h] at ec;cases ec
   generalize hx:Act.eval ⟨M,[]⟩ x=v at bB;cases bB with
   |nil=>simp at hlt
   |sl _ _ a cap cs m hm hcap hb hl hc hr=>
    subst hm;have hne:xs≠[]:=by rintro rfl;simp at hlt
    have hrow:c5 w (aJ X F st.sites) (flat u xs) cs:=⟨hl,hr⟩;have j0:a.spot=none:=by
     have nl:0<cs.length:=by rw[hl,e7];exact Nat.mul_pos (List.length_pos_iff.mpr hne) (l8 u)
     have h1:=hc 0 cs[0] (List.getElem?_eq_getElem nl);have h2:a.add 0=a:=by unfold Addr.add;simp
     rw[h2] at h1;unfold World.cell? at h1;split at h1
     ·cases hs:a.spot with
      |none=>rfl
      |some _=>simp[hs] at h1
     ·cases h1
    obtain⟨oR,Ew,ayE⟩:=a;simp only at j0;subst j0;have hcs:ie w oR Ew cs:=fun j v hv=>by have:=hc j v hv;rwa[gV] at this
    refine dT S aa (run hx h0 (by omega)) ?_
    rw[gV];have iI:=uZ u xs n.toNat y ec;have aqE:=(hcs.drop (n.toNat*bd u)).take (bd u);have j1:=((hO (F:=F) (sites:=st.sites) hl hr).drop (n.toNat*bd u)).take (bd u);have e2:((cG (flat u xs)).drop (n.toNat*bd u)).take (bd u)=cG (enc u y):=by
     rw[<-iI];simp[cG,List.map_drop,List.map_take]
    rw[e2] at j1;have dW:=jk j1;have hlt2:oR<w.heap.size:=by
     have nl:0<cs.length:=by rw[hl,e7];exact Nat.mul_pos (List.length_pos_iff.mpr hne) (l8 u)
     exact World.block_lt_of_cell? w _ (hcs 0 cs[0] (List.getElem?_eq_getElem nl))
    exact⟨oR,Ew+n.toNat*bd u,by rw[Nat.add_zero],hb hne,hlt2,_,dW.1,aqE,dW.2⟩
  ·cases ec
 ·rename_i o s b8;rw[b8] at bB;split
  ·rename_i u xs hrow;split;case isFalse=>exact .fail
   rename_i oz;subst oz;refine Holds.ey fun y hy=>?_
   have ec:be xs.length n=some y:=hy;unfold be at ec;split at ec
   ·rename_i hb;cases ec;obtain⟨cs,hl,hcell⟩:=S.row hrow;have dV:∃af,look st.sites o=some af/\af.cy=s:=by
     rcases j8 hrow with h|h<;>exact⟨_,h,rfl⟩
    obtain⟨af,iI,lO⟩:=dV;have hv:Act.eval ⟨M,[]⟩ x=F o:=Ref.at bB.2 iI lO;rcases hcell with⟨hn,ox⟩|⟨b,c,cU,acb,_⟩
    ·subst ox;simp at hb;omega
    ·refine dT S aa (run (by rw[hv];exact cU) hb.1 hb.2) ?_
     rw[gV,Nat.zero_add];exact⟨b,by rw[Nat.add_zero],Ref.mk iI lO ⟨_,_,cU⟩⟩
   ·cases ec
  ·exact .fail
 ·exact .fail
end
section
variable {P:Program}{U:World}{Y:List Nat}{X:Nat->Prop}{F:Nat->Value}{st:al}{M:Array Value}{w:World}{D:Oper}
theorem Sb(S:aq U Y X F st M w){C:Ctx}{cW:Option Operand}{lJ l:Int}(h:iS lJ (cW.map (bg C st 0))=some l):
  (cW=none/\l=lJ)\/∃x k,cW=some x/\Act.eval ⟨M,[]⟩ x=.int k l:=by
 cases cW with
 |none=>simp only[Option.map_none,iS,Option.some.injEq] at h;exact .inl ⟨rfl,h.symm⟩
 |some x=>
  simp only[Option.map_some] at h;generalize hx:bg C st 0 x=v at h;unfold iS at h;split at h
  ·rename_i b8;cases b8
  ·rename_i k n b8;cases h;cases b8;exact .inr ⟨x,k,rfl,kb S hx⟩
  ·cases h
theorem mR(t:bf)(xs:List (den t))(n:Nat):flat t (xs.take n)=(flat t xs).take (n*bd t):=by
 rcases Nat.lt_or_ge xs.length n with h|h
 ·rw[List.take_of_length_le (Nat.le_of_lt h),List.take_of_length_le (by rw[e7];exact Nat.mul_le_mul_right _ (Nat.le_of_lt h))]
 ·have:=sh t (xs.take n) (xs.drop n);rw[List.take_append_drop] at this;rw[this,List.take_left' (by rw[e7,List.length_take,Nat.min_eq_left h])]
theorem QK(t:bf)(xs:List (den t))(n:Nat):flat t (xs.drop n)=(flat t xs).drop (n*bd t):=by
 rcases Nat.lt_or_ge xs.length n with h|h
 ·rw[List.drop_eq_nil_of_le (Nat.le_of_lt h),List.drop_eq_nil_of_le (by rw[e7];exact Nat.mul_le_mul_right _ (Nat.le_of_lt h))]
  rfl
 ·have:=sh t (xs.take n) (xs.drop n);rw[List.take_append_drop] at this;rw[this,List.drop_left' (by rw[e7,List.length_take,Nat.min_eq_left h])]
theorem E4{P:Program}{w:World}(isSlice:Bool)(len cap:Nat)(cW hi:Option Value)(l h:Int)(ga:(cW=none/\l=0)\/∃k,cW=some (.int k l))(hhi:(hi=none/\h=len)\/∃k,hi=some (.int k h))
  (h0:0<=l) (h1:l<=h) (h2:h<=len) (hc:len<=cap):(Instr.sliceBounds isSlice len cap cW hi none).run P w=.ok (l.toNat,h.toNat,cap) w:=by
 have bL:0<=h:=by omega
 have ab4:h<=cap:=by omega
 have axo:((h.toNat:Nat):Int)=h:=Int.toNat_of_nonneg bL;rcases ga with⟨rfl,rfl⟩|⟨k,rfl⟩<;>rcases hhi with⟨rfl,rfl⟩|⟨k',rfl⟩
 ·simp[Instr.sliceBounds]
 ·simp[Instr.sliceBounds,Instr.sliceBound,asIntOf,bL,ab4]
 ·simp[Instr.sliceBounds,Instr.sliceBound,asIntOf,h0,h1]
 ·simp[Instr.sliceBounds,Instr.sliceBound,asIntOf,bL,ab4,h0,axo,h1]
theorem ajA(s:ByteArray)(l h:Nat)(h2:h<=s.size):(s.extract l h).data.toList=(s.data.toList.take h).drop l:=by
 rw[ByteArray.data_extract,Array.toList_extract];simp[List.extract_eq_take_drop,List.drop_take]
theorem Ur{w:World}{av:Nat->Prop}{t:bf}{xs:List (den t)}{b D:Nat}{cs:List Value}(hb:xs≠[]->¬av b)(hr:c5 w av (flat t xs) cs)(hc:ie w b D cs)(l h:Nat)(h1:l<=h)(h2:h<=xs.length)(a:Addr)(fr:Nat)(ace:h-l<=fr)
  (ha:a=⟨b,D+l*bd t,none⟩\/l=h) (acf:a.block=b):bK w av (.sl t ((xs.take h).drop l)) (.slice (some a) (h-l) fr):=by
 have hlen:((xs.take h).drop l).length=h-l:=by simp;omega
 by_cases abY:l=h
 ·subst abY;have:(xs.take l).drop l=[]:=List.eq_nil_of_length_eq_zero (by rw[hlen];omega)
  rw[this];exact .sl t [] a fr [] _ (by simp) ace (fun hx=>absurd rfl hx) rfl (fun j u hu=>by simp at hu) (fun j h=>by simp[flat] at h)
 ·rcases ha with ha|ha
  ·subst ha;have hf:flat t ((xs.take h).drop l)=((flat t xs).take (h*bd t)).drop (l*bd t):=by
    rw[QK,mR]
   have j1:=((hO (F:=fun _=>undef) (sites:=[]) hr.1 hr.2).take (h*bd t)).drop (l*bd t)
   have e2:((cG (flat t xs)).take (h*bd t)).drop (l*bd t)=cG (flat t ((xs.take h).drop l)):=by
    rw[hf];simp[cG,List.map_drop,List.map_take]
   rw[e2] at j1;have c_:=jk j1;refine .sl t _ _ fr _ _ hlen.symm ace (fun hx=>hb ?_) c_.1 (fun j u hu=>?_) c_.2
   ·rintro rfl;simp at hx
   ·rw[gV];exact((hc.take (h*bd t)).drop (l*bd t)) j u hu
  ·exact absurd ha abY
theorem H6{w:World}{av:Nat->Prop}{t:bf}{xs:List (den t)}{a:Addr}{cs:List Value}(hb:xs≠[]->¬av a.block)(hr:c5 w av (flat t xs) cs)(hc:∀j u,cs[j]? =some u->w.cell? (a.add j)=some u)
  (l h cap:Nat) (h1:l<=h) (h2:h<=xs.length) (hcap:xs.length<=cap):
  bK w av (.sl t ((xs.take h).drop l)) (.slice (if cap=l then some a else(some a).map (·.add (l*bd t))) (h-l) (cap-l)):=by
 by_cases hx:xs=[]
 ·subst hx;have:h=0:=by simpa using h2
  subst this;have hl0:l=0:=by omega
  subst hl0;have:((if cap=0 then some a else(some a).map (·.add (0*bd t))):Option Addr)=some a:=by
   split
   ·rfl
   ·simp[Addr.add]
  rw[this];exact .sl t [] a (cap-0) [] 0 rfl (by omega) (fun hx=>absurd rfl hx) rfl (fun j u hu=>by simp at hu) (fun j h=>by simp[flat] at h)
 ·have j0:a.spot=none:=by
   have nl:0<cs.length:=by rw[hr.1,e7];exact Nat.mul_pos (List.length_pos_iff.mpr hx) (l8 t)
   have h1:=hc 0 cs[0] (List.getElem?_eq_getElem nl);have h2:a.add 0=a:=by unfold Addr.add;simp
   rw[h2] at h1;unfold World.cell? at h1;split at h1
   ·cases hs:a.spot with
    |none=>rfl
    |some _=>simp[hs] at h1
   ·cases h1
  obtain⟨oR,Ew,ayE⟩:=a;simp only at j0;subst j0;have hcs:ie w oR Ew cs:=fun j v hv=>by have:=hc j v hv;rwa[gV] at this
  split
  ·rename_i e;exact Ur hb hr hcs l h h1 h2 _ _ (by omega) (.inr (by omega)) rfl
  ·simp only[Option.map_some,gV];exact Ur hb hr hcs l h h1 h2 _ _ (by omega) (.inl rfl) rfl
theorem P5{v:a8}{us nq:List (Nat×Site)}(e:bu st.sites us=bu st.sites nq)(h:cM P U Y X st M w D v us):cM P U Y X st M w D v nq:=by
 have:st.cY D.dst v nq=st.cY D.dst v us:=by cases D.dst<;>simp only[al.cY,al.vn,e]
 intro K Q bT;rw[this] at bT;exact h K Q bT
theorem ajH(S:aq U Y X F st M w){C:Ctx}(H:CtxOk P C){T:TypeId}{x:Operand}{cW hi:Option Operand}(aM:D.op=.slice T x cW hi none)(aa:cr st D.dst=true):
  Holds (sX (C.tt T) st (bg C st T x) (cW.map (bg C st 0)) (hi.map (bg C st 0))) (cM P U Y X st M w D):=by
 have bB:=dI S C T x;have rb:∀{cW:Option Operand} {lJ l:Int},iS lJ (cW.map (bg C st 0))=some l->(cW.map (Act.eval ⟨M,[]⟩)=none/\l=lJ)\/∃k,cW.map (Act.eval ⟨M,[]⟩)=some (.int k l):=by
  intro cW lJ l h;rcases Sb S h with⟨rfl,ak⟩|⟨x,k,rfl,ak⟩
  ·exact .inl ⟨rfl,ak⟩
  ·exact .inr ⟨k,by simp[ak]⟩
 have runs:∀{vv:Value},(Instr.sliceAt T (Act.eval ⟨M,[]⟩ x) (cW.map (Act.eval ⟨M,[]⟩)) (hi.map (Act.eval ⟨M,[]⟩)) none).run P w=.ok vv w->(execOp (Act.eval ⟨M,[]⟩) D).run P w=.ok (.value vv) w:=by
  intro vv h;unfold execOp;simp only[aM,Option.map_none,Sem.run_bind,h,Result.andThen_ok,Sem.run_pure]
 have wg:∀{e:TypeId} {t:bf} {bytes:Nat} {a:Option Addr} {len cap:Nat} {l h:Int},C.tt T=.slice e t bytes->Act.eval ⟨M,[]⟩ x=.slice a len cap->iS 0 (cW.map (bg C st 0))=some l->iS len (hi.map (bg C st 0))=some h->
   0<=l->l<=h->h<=len->len<=cap->(execOp (Act.eval ⟨M,[]⟩) D).run P w=.ok (.value (.slice (if cap=l.toNat then a else a.map (·.add (l.toNat*bd t))) (h.toNat-l.toNat) (cap-l.toNat))) w:=by
  intro e t bytes a len cap l h bl hx ga hhi h0 h1 h2 hc;obtain⟨fE,inf,z,kJ,jT,_⟩:=yv H bl;refine runs ?_
  have hb:=E4 (P:=P) (w:=w) true len cap (cW.map (Act.eval ⟨M,[]⟩)) (hi.map (Act.eval ⟨M,[]⟩)) l h (rb ga) (rb hhi) h0 h1 h2 hc;simp only[Instr.sliceAt,Instr.slice,Sem.run_bind,run_underlying fE,Result.andThen_ok,hx,hb,sizeOf,lc kJ,jT,Sem.run_pure]
 unfold sX;split
 ·rename_i s b8;rw[b8] at bB;obtain⟨b,hx,hs⟩:=gD bB;split
  ·rename_i l h bl ga hhi;have bO:=H.tt T;rw[bl] at bO;refine Holds.ey fun r hr=>?_
   have c_:bm s l h=some r:=hr;unfold bm at c_;split at c_
   ·rename_i hb;obtain⟨h0,h1,h2⟩:=hb;cases c_;have hsz:s.length=b.size:=by rw[<-hs];rfl
    rw[hsz] at h2 hhi;refine dT S aa (vv:=.string (b.extract l.toNat h.toNat)) (runs ?_) (.str _ _ ?_)
    ·have hb:=E4 (P:=P) (w:=w) false b.size b.size (cW.map (Act.eval ⟨M,[]⟩)) (hi.map (Act.eval ⟨M,[]⟩)) l h (rb ga) (rb hhi) h0 h1 h2 (Nat.le_refl _);simp[Instr.sliceAt,Instr.slice,run_underlying bO.1,hx,hb]
    ·rw[ajA b _ _ (by omega),hs]
   ·cases c_
  ·exact .fail
 ·rename_i t xs b8;rw[b8] at bB;have bB:bK w (aJ X F st.sites) (.sl t xs) (Act.eval ⟨M,[]⟩ x):=bB;split
  ·rename_i e u bytes l h bl ga hhi;split;case isFalse=>exact .fail
   rename_i oz;subst oz;refine Holds.ey fun r hr=>?_
   have c_:bm xs l h=some r:=hr;unfold bm at c_;split at c_
   ·rename_i hb;obtain⟨h0,h1,h2⟩:=hb;cases c_;generalize hx:Act.eval ⟨M,[]⟩ x=v at bB;cases bB with
    |nil=>
     have bL:h=0:=by simp at h2;omega
     have hl:l=0:=by omega
     subst bL hl;refine dT S aa (wg bl hx ga hhi h0 h1 h2 (Nat.le_refl _)) ?_
     simp only[List.take_nil,List.drop_nil];exact bK.nil t
    |sl _ _ a cap cs m hm hcap hb hl hc hr=>
     subst hm;refine dT S aa (wg bl hx ga hhi h0 h1 h2 hcap) ?_
     exact H6 hb ⟨hl,hr⟩ hc l.toNat h.toNat cap (by omega) (by omega) hcap
   ·cases c_
  ·exact .fail
 ·rename_i t b8;rw[b8] at bB;have hx:Act.eval ⟨M,[]⟩ x=.slice none 0 0:=bB;split
  ·rename_i e u bytes l h bl ga hhi;refine Holds.ey fun r hr=>?_
   have c_:bm ([]:List (den t)) l h=some r:=hr;unfold bm at c_;split at c_
   ·rename_i hb;obtain⟨h0,h1,h2⟩:=hb;cases c_;have bL:h=0:=by simp at h2;omega
    have hl:l=0:=by omega
    subst bL hl;refine dT S aa (wg bl hx ga hhi h0 h1 h2 (Nat.le_refl _)) ?_
    simp only[List.take_nil,List.drop_nil];exact bK.nil t
   ·cases c_
  ·exact .fail
 ·rename_i o s b8;rw[b8] at bB;split
  ·rename_i t xs hrow;split
   ·rename_i e u bytes l h bl ga hhi;split;case isFalse=>exact .fail
    rename_i oz;subst oz;refine Holds.hT fun r hr=>?_
    have c_:bm xs l h=some r:=hr;unfold bm at c_;split at c_
    ·rename_i hb;obtain⟨h0,h1,h2⟩:=hb;cases c_;refine P5 (us:=[(o,.dp s t xs)]) (R5 hrow).symm ?_
     have hfz:dU st.sites [(o,.dp s t xs)]:=by
      intro ab af hm;simp only[List.mem_singleton,Prod.mk.injEq] at hm;obtain⟨rfl,rfl⟩:=hm;exact⟨s,t,xs,rfl,j8 hrow⟩
     have aT:la U Y X F st M w [(o,.dp s t xs)]:=⟨S,hfz⟩;have Mt:=EB hfz (List.mem_singleton.2 rfl);obtain⟨dW,WE⟩:=aT.new.sites o _ Mt;have hv:Act.eval ⟨M,[]⟩ x=F o:=by
      rcases j8 hrow with h1|h1<;>exact Ref.at bB.2 h1 rfl
     generalize hx:F o=v at dW WE;rw[hx] at hv;cases dW with
     |nil=>
      have bL:h=0:=by simp at h2;omega
      have hl:l=0:=by omega
      subst bL hl;refine lf (us:=[(o,.dp s t [])]) aT.new aa (wg bl hv ga hhi h0 h1 h2 (Nat.le_refl _)) ?_
      simp only[List.take_nil,List.drop_nil];exact bK.nil t
     |sl _ _ a cap cs m hm hcap hb hl hc hr=>
      subst hm;refine lf (us:=[(o,.dp s t xs)]) aT.new aa (wg bl hv ga hhi h0 h1 h2 hcap) ?_
      exact H6 hb ⟨hl,hr⟩ hc l.toNat h.toNat cap (by omega) (by omega) hcap
    ·cases c_
   ·exact .fail
  ·exact .fail
 ·exact .fail
end
section
variable {P:Program}{U:World}{Y:List Nat}{X:Nat->Prop}{F:Nat->Value}{st:al}{M:Array Value}{w:World}{D:Oper}
theorem S8{av:Nat->Prop}{o s:Nat}{t:bf}{xs:List (den t)}{v:Value}(h:ck F st.sites w av (b7 (.own o s)) v)(hr:rowOf st o s=some ⟨t,xs⟩):v=F o:=by
 rcases j8 hr with h1|h1<;>exact Ref.at h.2 h1 rfl
theorem Td(S:aq U Y X F st M w){l:aR}{v:Value}{t:bf}{es:List (B×den t)}(h:eb F st.sites w (aJ X F st.sites) l v)(hm:mapOf st l=some ⟨t,es⟩):
  (v=.map none/\es=[])\/∃b,v=.map (some b)/\mg w b t es:=by
 unfold mapOf at hm;split at hm
 ·cases hm;have h:bK w (aJ X F st.sites) (.map t es) v:=h;cases h with
  |wK=>exact .inl ⟨rfl,rfl⟩
  |map _ _ b hb hm=>exact .inr ⟨b,rfl,hm⟩
 ·rename_i o s;split at hm
  ·rename_i aN u uu hl;cases hb:aN.beq s with
   |false=>rw[hb] at hm;cases hm
   |true=>
    rw[hb] at hm;have hs:=Nat.eq_of_beq_eq_true hb;subst hs;cases hm;have hl:look st.sites o=some (.map aN _ es):=hl;have hv:v=F o:=Ref.at h.2 hl rfl;obtain⟨b,h1,h2⟩:=S.sites o _ hl;exact .inr ⟨b,hv.trans h1,h2⟩
  ·cases hm
 ·cases hm
theorem mg.size{b:Nat}{t:bf}{es:List (B×den t)}{arr:Array MapEntry}(h:mZ arr=kd t es):arr.size=es.length:=by
 have:=congrArg List.length h;simpa[mZ,kd] using this
theorem aoI(S:aq U Y X F st M w){C:Ctx}(H:CtxOk P C){T:TypeId}{x:Operand}(aM:D.op=.call {callee:=.builtin .len,args:=#[x],argTypes:=#[T]})(aa:cr st D.dst=true):
  Holds (tF (C.tt T) st (bg C st T x)) (cM P U Y X st M w D):=by
 have bB:=dI S C T x;have bO:=H.tt T;have run:∀{vv:Value},(Builtin.len_ #[T] D.type #[Act.eval ⟨M,[]⟩ x]).run P w=.ok vv w->(execOp (Act.eval ⟨M,[]⟩) D).run P w=.ok (.value vv) w:=by
  intro vv h;unfold execOp;simp only[aM,resolve,invoke,builtin,Sem.run_bind,Sem.run_pure,Result.andThen_ok,List.map_toArray,List.map_cons,List.map_nil,h]
 unfold tF;split
 ·rename_i s bl b8;rw[b8] at bB;rw[bl] at bO;obtain⟨b,hx,hs⟩:=gD bB;refine Holds.ok (dT S aa (run (vv:=.int .i64 s.length) ?_) (.int _ _));have:s.length=b.size:=by rw[<-hs];rfl
  simp[Builtin.len_,hx,run_underlying bO.1,goInt,this]
 ·rename_i e t b u xs bl b8;rw[b8] at bB;rw[bl] at bO;have bB:bK w (aJ X F st.sites) (.sl u xs) (Act.eval ⟨M,[]⟩ x):=bB;refine Holds.ok (dT S aa (run (vv:=.int .i64 xs.length) ?_) (.int _ _));generalize Act.eval ⟨M,[]⟩ x=v at bB;cases bB with
  |nil=>simp[Builtin.len_,run_underlying bO.1.1,goInt]
  |sl _ _ a cap cs n hn hcap hb hl hc hr=>simp[Builtin.len_,run_underlying bO.1.1,goInt,hn]
 ·rename_i e t b u bl b8;rw[b8] at bB;rw[bl] at bO;have hx:Act.eval ⟨M,[]⟩ x=.slice none 0 0:=bB;exact Holds.ok (dT S aa (run (vv:=.int .i64 0) (by simp[Builtin.len_,hx,run_underlying bO.1.1,goInt])) (.int _ _))
 ·rename_i e t b o s bl b8;rw[b8] at bB;rw[bl] at bO;split
  ·rename_i u xs hrow;have hv:=S8 bB hrow;refine Holds.ok (dT S aa (run (vv:=.int .i64 xs.length) ?_) (.int _ _));obtain⟨cs,_,hc⟩:=S.row hrow;rcases hc with⟨h1,h2⟩|⟨bI,c,h1,_⟩
   ·subst h2;simp[Builtin.len_,hv,h1,run_underlying bO.1.1,goInt]
   ·simp[Builtin.len_,hv,h1,run_underlying bO.1.1,goInt]
  ·exact .fail
 ·rename_i h_ k7 u l bl b8;rw[b8] at bB;rw[bl] at bO;split
  ·rename_i bV es hm;refine Holds.ok (dT S aa (run (vv:=.int .i64 es.length) ?_) (.int _ _));rcases Td S bB hm with⟨h1,rfl⟩|⟨b,h1,arr,c,h2,h3⟩
   ·simp[Builtin.len_,h1,run_underlying bO.1.1,goInt]
   ·have hsz:=mg.size (b:=b) h3;simp[Builtin.len_,h1,run_underlying bO.1.1,goInt,MapKept.run_getObj_map h2,hsz,Result.andThen]
  ·exact .fail
 ·exact .fail
theorem akM(S:aq U Y X F st M w){C:Ctx}(H:CtxOk P C){T:TypeId}{x i:Operand}{s:B}{k:IntKind}{n:Int}(aM:D.op=.index T x i)(aa:cr st D.dst=true)(bl:C.tt T=.str)
  (hx:bg C st T x=.av (.an (.d (.str s)))) (hi:bg C st 0 i=.av (.an (.d (.int k n)))):Holds (.ey (aO s n) fun b=>one (.int .u8 b.toNat)) (cM P U Y X st M w D):=by
 have bO:=H.tt T;rw[bl] at bO;obtain⟨b,hb,hs⟩:=aoZ S hx;have hn:=kb S hi;refine Holds.ey fun y hy=>?_
 have ec:aO s n=some y:=hy;unfold aO at ec;split at ec
 ·rename_i h0;refine dT S aa (vv:=.int .u8 y.toNat) ?_ (.int _ _);have tJ:b[n.toNat]? =some y:=by
   have:n.toNat<s.length:=by
    rcases Nat.lt_or_ge n.toNat s.length with h|h
    ·exact h
    ·rw[List.getElem?_eq_none h] at ec;cases ec
   rw[<-hs] at ec this;have hsz:n.toNat<b.size:=this;rw[getElem?_pos b n.toNat hsz];rw[List.getElem?_eq_getElem this] at ec;have h3:b.data[n.toNat]=y:=by simpa using ec
   rw[<-h3];rfl
  unfold execOp;simp[aM,hb,hn,Instr.index,asIntOf,run_underlying bO.1,h0,tJ]
 ·cases ec
theorem bytes_beq(x y:ByteArray):(x==y)=(x.data.toList==y.data.toList):=by
 obtain⟨a⟩:=x;obtain⟨b⟩:=y;have h:((⟨a⟩:ByteArray)==⟨b⟩)=(a==b):=rfl;rw[h,Bool.eq_iff_iff];simp
theorem akX:∀{z ai:List aR} {vs:List Value},re z ai=true->cA F st.sites w (aJ X F st.sites) ai vs->pI z vs=true:=by
 intro z;induction z with
 |nil=>
  intro ai vs h h1;cases ai with
  |nil=>rw[h1.n7];rfl
  |cons l ai=>cases h
 |cons c z ih=>
  intro ai vs h h1;unfold re at h;split at h
  ·rename_i hz;cases hz
  ·rename_i b8;cases b8;obtain⟨v,cv,rfl,a1,a2⟩:=h1.inv;rw[iA a1];exact ih h a2
  ·rename_i b8;cases b8;obtain⟨v,cv,rfl,a1,a2⟩:=h1.inv;rw[jK a1];exact ih h a2
  ·rename_i b8;cases b8;obtain⟨v,cv,rfl,a1,a2⟩:=h1.inv;obtain⟨x,rfl,hx⟩:=gD a1;exact ih h a2
  ·cases h
theorem agb:∀{ai jc:List aR} {vs us:List Value} {b:Bool},vK ai jc=some b->cA F st.sites w (aJ X F st.sites) ai vs->cA F st.sites w (aJ X F st.sites) jc us->jH vs us=some b:=by
 have leaf:∀{d e:bh} {v u:Value} {b:Bool} {av:Nat->Prop},BS d e=some b->bK w av d v->bK w av e u->n5 v u=some b:=by
  intro d e v u b av h h1 h2;unfold BS at h;split at h
  ·rw[iA h1,iA h2];exact h
  ·rw[jK h1,jK h2];exact h
  ·obtain⟨x,rfl,hx⟩:=gD h1;obtain⟨y,rfl,hy⟩:=gD h2;subst hx hy;cases h;show some (x==y)=some (x.data.toList==y.data.toList);rw[bytes_beq]
  ·cases h
 intro ai;induction ai with
 |nil=>intro jc vs us b h _ _;cases jc<;>simp[vK] at h
 |cons l ai ih=>
  intro jc vs us b h h1 h2;obtain⟨v,cv,rfl,a1,a2⟩:=h1.inv;unfold vK at h;split at h
  ·rename_i d e b8;cases b8;obtain⟨u,nq,rfl,b1,b2⟩:=h2.inv;rw[a2.n7,b2.n7];exact leaf h a1 b1
  ·rename_i d ds e es hne b8;cases b8;obtain⟨u,nq,rfl,b1,b2⟩:=h2.inv;split at h
   ·rename_i x y hx hy;cases h;have e1:=leaf hx a1 b1;have e2:=ih hy a2 b2;match cv,nq,e2 with
    |[],[],e2=>simp[jH] at e2
    |[],_::_,e2=>simp[jH] at e2
    |_::_,[],e2=>simp[jH] at e2
    |v2::aBV,u2::aBW,e2=>rw[jH,e1,e2];simp
   ·cases h
  ·cases h
theorem run_equal_bool{T:TypeId}(h:P.underlying T=some .bool)(a b:Bool):(Op.equal T (.bool a) (.bool b)).run P w=.ok (a==b) w:=by
 have e:Op.maxDepth=9999+1:=rfl;unfold Op.equal;rw[e];unfold Op.equalIn;simp only[Sem.run_bind,run_underlying h,Result.andThen_ok,Sem.run_pure]
theorem run_eql_bool{T:TypeId}(h:P.underlying T=some .bool)(a b:Bool):(binOp .eql T (.bool a) (.bool b)).run P w=.ok (.bool (a==b)) w:=by
 show((do pure (.bool (<-Op.equal T (.bool a) (.bool b)))):Sem Value).run P w=_
 simp only[Sem.run_bind,run_equal_bool h,Result.andThen_ok,Sem.run_pure]
theorem run_neq_bool{T:TypeId}(h:P.underlying T=some .bool)(a b:Bool):(binOp .neq T (.bool a) (.bool b)).run P w=.ok (.bool (!(a==b))) w:=by
 show((do pure (.bool (!(<-Op.equal T (.bool a) (.bool b))))):Sem Value).run P w=_
 simp only[Sem.run_bind,run_equal_bool h,Result.andThen_ok,Sem.run_pure]
theorem ano(S:aq U Y X F st M w){C:Ctx}(H:CtxOk P C){op:BinOp}{T nJ:TypeId}{x y:Operand}(aM:D.op=.binOp op T x y nJ)(aa:cr st D.dst=true):
  Holds (K5 op (C.tt T) (bg C st T x) (bg C st T y)) (cM P U Y X st M w D):=by
 have hx:=dI S C T x;have hy:=dI S C T y;have bO:=H.tt T;have run:∀{vv:Value},(eqGuard op T x y (Act.eval ⟨M,[]⟩ x) (Act.eval ⟨M,[]⟩ y)).run P w=.ok () w->(binOp op T (Act.eval ⟨M,[]⟩ x) (Act.eval ⟨M,[]⟩ y)).run P w=.ok vv w->
   (execOp (Act.eval ⟨M,[]⟩) D).run P w=.ok (.value vv) w:=by
  intro vv h1 h2;unfold execOp;simp only[aM,Sem.run_bind,h1,h2,Result.andThen_ok,Sem.run_pure]
 have plain:∀{r:dk},(eqGuard op T x y (Act.eval ⟨M,[]⟩ x) (Act.eval ⟨M,[]⟩ y)).run P w=.ok () w->Holds r (Plain P w (binOp op T (Act.eval ⟨M,[]⟩ x) (Act.eval ⟨M,[]⟩ y)))->Holds r (cM P U Y X st M w D):=by
  intro r h1 h2 z hz hc;obtain⟨vv,d,g1,g2,g3,g4⟩:=h2 z hz hc;rw[g2,g3];exact dT S aa (run h1 g1) (g4 _)
 unfold K5;split
 ·rename_i k a k' b hxe hye;rw[hxe] at hx;rw[hye] at hy;refine plain (by rw[iA hx,iA hy];exact aea _ _ _ _ _ _ _ _) ?_
  rw[iA hx,iA hy];unfold UY;split
  ·refine Holds.ey fun n hn=>?_
   have iJ:lD k a b=some n:=hn;unfold lD at iJ;split at iJ
   ·cases iJ
   ·rename_i hb;cases iJ;exact .mk (by simp[binOp,Op.shift,hb]) fun av=>.int _ _
  ·refine Holds.ey fun n hn=>?_
   have iJ:fh k a b=some n:=hn;unfold fh at iJ;split at iJ
   ·cases iJ
   ·rename_i hb;cases iJ;exact .mk (by simp[binOp,Op.shift,hb]) fun av=>.int _ _
  ·rename_i h1 h2;split
   ·rename_i hk;subst hk;exact ahU _ T k a b h1 h2
   ·exact .fail
 ·rename_i s t hxe hye;rw[hxe] at hx;rw[hye] at hy;obtain⟨a,ha,hs⟩:=gD hx;obtain⟨b,hb,au⟩:=gD hy;subst hs au;refine plain (by rw[ha,hb];exact adX _ _ _ _ _ _) ?_
  rw[ha,hb];exact ahS op T a b
 ·rename_i a b hxe hye;rw[hxe] at hx;rw[hye] at hy;unfold VA;split
  ·rename_i bl;rw[bl] at bO;split
   ·refine plain (by rw[jK hx,jK hy];exact N6 _ _ _ _ _ _) (Holds.ok ?_)
    rw[jK hx,jK hy];exact .mk (run_eql_bool bO.1 _ _) fun av=>.bool _
   ·refine plain (by rw[jK hx,jK hy];exact N6 _ _ _ _ _ _) (Holds.ok ?_)
    rw[jK hx,jK hy];exact .mk (run_neq_bool bO.1 _ _) fun av=>.bool _
   ·exact .fail
  ·exact .fail
 ·rename_i xs bj hxe hye;rw[hxe] at hx;rw[hye] at hy;unfold WJ;split
  ·rename_i bR n z bl;rw[bl] at bO;cases hl:xs.length.beq n&&re z xs with
   |false=>exact .fail
   |true=>
    simp only[cond_true];simp only[Bool.and_eq_true] at hl;have gx:=Nat.eq_of_beq_eq_true hl.1;split
    ·rename_i b hb;obtain⟨vs,hv,pO,nz⟩:=hx;obtain⟨us,hu,Mg,Mf⟩:=hy;have un:=agb hb ⟨pO,nz⟩ ⟨Mg,Mf⟩;obtain⟨fields,fE,_,⟨gd,hz,_,_⟩,b8⟩:=bO;obtain⟨hg,KS⟩:=b8 rfl;have:=KS vs us b w un (akX hl.2 ⟨pO,nz⟩);split
     ·refine plain ?_ (Holds.ok ?_)
      ·rw[hv,hu];simp[eqGuard,hg]
      ·rw[hv,hu];refine .mk (vv:=.bool b) ?_ fun av=>.bool _
       show((do pure (.bool (<-Op.equal T (.agg vs.toArray) (.agg us.toArray)))):Sem Value).run P w=_
       simp only[Sem.run_bind,this,Result.andThen_ok,Sem.run_pure]
     ·refine plain ?_ (Holds.ok ?_)
      ·rw[hv,hu];simp[eqGuard,hg]
      ·rw[hv,hu];refine .mk (vv:=.bool (!b)) ?_ fun av=>.bool _
       show((do pure (.bool (!(<-Op.equal T (.agg vs.toArray) (.agg us.toArray))))):Sem Value).run P w=_
       simp only[Sem.run_bind,this,Result.andThen_ok,Sem.run_pure]
     ·exact .fail
    ·exact .fail
  ·exact .fail
 ·exact .fail
theorem ae0{T:TypeId}{jc:Array (String×TypeId)}(au:P.underlying T=some (.interface jc))(gC:TypeId)(c8:Option Int)(v:Value)(hv:v=match c8 with|none=>.nilIface|some n=>.iface gC (.agg #[.int .i64 n])):
  (Op.equal T v .nilIface).run P w=.ok c8.isNone w:=by
 have h:∀d:Nat,(Op.equalIn (d+1) T v .nilIface).run P w=.ok c8.isNone w:=fun d=>by
  subst hv;cases c8<;>simp[Op.equalIn,run_underlying au]
 exact h 9999
theorem aiW(S:aq U Y X F st M w){C:Ctx}(H:CtxOk P C){op:BinOp}{T nJ:TypeId}{x y:Operand}(aM:D.op=.binOp op T x y nJ)(aa:cr st D.dst=true)(hn:BW y=true):
  Holds (JP op (C.tt T) (bg C st T x)) (cM P U Y X st M w D):=by
 have hy:y=.const .nilIface:=by
  unfold BW at hn;split at hn
  ·rfl
  ·cases hn
 subst hy;have hx:=dI S C T x;have bO:=H.tt T;have key:∀(gC:TypeId) (c8:Option Int),(Act.eval ⟨M,[]⟩ x=match c8 with|none=>.nilIface|some n=>.iface gC (.agg #[.int .i64 n]))->Holds (CL op (C.tt T) c8) (cM P U Y X st M w D):=by
  intro gC c8 hv;unfold CL;split
  ·rename_i bl;rw[bl] at bO;obtain⟨jc,bO⟩:=bO;have he:=ae0 (P:=P) (w:=w) bO.1 gC c8 _ hv;have hg:(eqGuard op T x (.const .nilIface) (Act.eval ⟨M,[]⟩ x) .nilIface).run P w=.ok () w:=by
    rw[hv];cases c8<;>cases op<;>simp[eqGuard]
   split
   ·refine Holds.ok (dT S aa (vv:=.bool c8.isNone) ?_ (.bool _));unfold execOp;simp only[aM,Act.eval,Sem.run_bind,Result.andThen_ok,Sem.run_pure] at hg ⊢;rw[hg];simp only[Result.andThen_ok];have:(binOp .eql T (Act.eval ⟨M,[]⟩ x) .nilIface).run P w=.ok (.bool c8.isNone) w:=by
     have e:binOp .eql T (Act.eval ⟨M,[]⟩ x) .nilIface=(do pure (.bool (<-Op.equal T (Act.eval ⟨M,[]⟩ x) .nilIface))):=by rw[hv];cases c8<;>rfl
     rw[e];simp only[Sem.run_bind,he,Result.andThen_ok,Sem.run_pure]
    simp only[Act.eval] at this;rw[this];rfl
   ·refine Holds.ok (dT S aa (vv:=.bool c8.isSome) ?_ (.bool _));unfold execOp;simp only[aM,Act.eval,Sem.run_bind,Result.andThen_ok,Sem.run_pure] at hg ⊢;rw[hg];simp only[Result.andThen_ok];have:(binOp .neq T (Act.eval ⟨M,[]⟩ x) .nilIface).run P w=.ok (.bool c8.isSome) w:=by
     have e:binOp .neq T (Act.eval ⟨M,[]⟩ x) .nilIface=(do pure (.bool (!(<-Op.equal T (Act.eval ⟨M,[]⟩ x) .nilIface)))):=by rw[hv];cases c8<;>rfl
     rw[e];simp only[Sem.run_bind,he,Result.andThen_ok,Sem.run_pure];cases c8<;>rfl
    simp only[Act.eval] at this;rw[this];rfl
   ·exact .fail
  ·exact .fail
 unfold JP;split
 ·rename_i gC c8 hxe;rw[hxe] at hx;have hx:bK w (aJ X F st.sites) (.err gC c8) (Act.eval ⟨M,[]⟩ x):=hx;exact key gC c8 (by revert hx;generalize Act.eval ⟨M,[]⟩ x=vv;intro hx;cases hx<;>rfl)
 ·rename_i hxe;rw[hxe] at hx;exact key 0 none hx
 ·exact .fail
theorem ad2(S:aq U Y X F st M w){C:Ctx}(H:CtxOk P C){T:TypeId}{x:Operand}{n:Int}{bR z q e}(aM:D.op=.makeInterface T x)(aa:cr st D.dst=true)(bl:C.tt T=.struct bR q z e)
  (hx:bg C st T x=.av (.agg [.d (.int .i64 n)])):cM P U Y X st M w D (one (.err T (some n))) []:=by
 have bO:=H.tt T;rw[bl] at bO;obtain⟨fields,hu,_⟩:=bO;have bB:=dI S C T x;rw[hx] at bB;obtain⟨vs,h1,h2,h3⟩:=bB;match vs,h2,h1,h3 with
 |[v],_,h1,h3=>
  have hv:=iA (h3 0 (by simp) (by simp))
  simp only[List.getElem_cons_zero] at hv;subst hv;refine dT S aa (vv:=.iface T (.agg #[.int .i64 n])) ?_ (.err _ _);unfold execOp;simp[aM,Instr.makeInterface,run_underlying hu,h1]
end
section
variable {P:Program}{U:World}{Y:List Nat}{X:Nat->Prop}{F:Nat->Value}{st:al}{M:Array Value}{w:World}{D:Oper}
theorem sQ(xs:List Int):flat .u8 xs=xs.map (bh.int .u8):=by
 unfold flat;induction xs with
 |nil=>rfl
 |cons x xs ih=>simp only[List.flatMap_cons,List.map_cons,ih];rfl
theorem Uq{w:World}{av:Nat->Prop}{xs:List Int}{cs:List Value}(h:c5 w av (flat .u8 xs) cs):cs=xs.map (Value.int .u8):=by
 obtain⟨h1,h2⟩:=h;rw[sQ] at h1;apply List.ext_getElem
 ·rw[h1];simp
 ·intro j g1 g2;have g3:j<xs.length:=by simpa using g2
  have:=h2 j (by rw[sQ];simpa using g3) g1
  have e:(flat .u8 xs)[j]'(by rw[sQ];simpa using g3)=bh.int .u8 xs[j]:=by simp[sQ]
  rw[e] at this;rw[iA this];simp
theorem Oi{src dst e:TypeId}{a:Addr}{len cap:Nat}{xs:List Int}(hs:P.underlying src=some (.slice e))(he:P.underlying e=some (.int .u8))(aa:P.underlying dst=some .string)
  (hlen:xs.length=len) (hc:∀j u,(xs.map (Value.int .u8))[j]? =some u->w.cell? (a.add j)=some u):
  ∃b:ByteArray,(convert src dst (.slice (some a) len cap)).run P w=.ok (.string b) w/\b.data.toList=strOf xs:=by
 have hl:(loadCells a len).run P w=.ok (xs.map (Value.int .u8)).toArray w:=by
  have:=run_loadCells_list (P:=P) w a (xs.map (Value.int .u8)) hc;simpa[hlen] using this
 rw[run_convert_bytes_string w src dst e _ len cap hs he aa,run_bytesToString w a len cap xs hl,foldl_push_bytes];exact⟨_,rfl,by simp[strOf]⟩
theorem yC{ti:cg}(h:isByte ti=true):ti=.int .u8:=by
 unfold isByte at h;split at h
 ·rfl
 ·cases h
theorem ai4(s:B):(bytesOf s).length=s.length:=by simp[bytesOf]
theorem ak7(S:aq U Y X F st M w){C:Ctx}(H:CtxOk P C){src dst:TypeId}{x:Operand}{o:Nat}(aM:D.op=.convert src dst x)(dJ:D.dst=some o)(aa:cr st D.dst=true):
  Holds (tw C src dst o st (bg C st src x)) (cM P U Y X st M w D):=by
 have bB:=dI S C src x;have hs:=H.tt src;have au:=H.tt dst;have run:∀{vv:Value} {w':World},(convert src dst (Act.eval ⟨M,[]⟩ x)).run P w=.ok vv w'->(execOp (Act.eval ⟨M,[]⟩) D).run P w=.ok (.value vv) w':=by
  intro vv w' h;unfold execOp;simp only[aM,Sem.run_bind,h,Result.andThen_ok,Sem.run_pure]
 have rj:∀{ti:cg},ti.ok P src->ti≠.none->∃d,P.underlying src=some d:=by
  intro ti h hn;cases ti with
  |none=>exact absurd rfl hn
  |int k=>exact⟨_,h.1⟩
  |bool=>exact⟨_,h.1⟩
  |str=>exact⟨_,h.1⟩
  |ptr=>obtain⟨_,h⟩:=h;exact⟨_,h.1⟩
  |func=>obtain⟨_,_,_,h⟩:=h;exact⟨_,h.1⟩
  |iface=>obtain⟨_,h⟩:=h;exact⟨_,h.1⟩
  |slice e t b=>exact⟨_,h.1.1⟩
  |map k e t=>exact⟨_,h.1.1⟩
  |struct bR n z eq=>obtain⟨f,h,_⟩:=h;exact⟨_,h⟩
  |arr e t n=>exact⟨_,h.1⟩
 unfold tw;split
 ·exact .fail
 ·rename_i k k' n hk hx hn;rw[hx] at bB;rw[hk] at au;obtain⟨d,rF⟩:=rj hs (by rintro h;exact absurd h (by simpa using hn))
  refine Holds.ok (dT S aa (run (vv:=.int k (k.wrap n)) ?_) (.int _ _));rw[iA bB];simp[convert,run_underlying rF,run_underlying au.1,Conv.intToInt]
 ·rename_i s hk hx hn;rw[hx] at bB;rw[hk] at au;obtain⟨b,hb,ez⟩:=gD bB;obtain⟨d,rF⟩:=rj hs (by rintro h;exact absurd h (by simpa using hn))
  refine Holds.ok (dT S aa (run (vv:=.string b) ?_) (.str _ _ ez));rw[hb];simp[convert,run_underlying rF,run_underlying au.1]
 ·rename_i e b xs fk qX hx;cases j3:isByte (C.tt e) with
  |false=>exact .fail
  |true=>
   rw[hx] at bB;rw[qX] at au;rw[fk] at hs;have he:=H.tt e;rw[yC j3] at he;have bB:bK w (aJ X F st.sites) (.sl .u8 xs) (Act.eval ⟨M,[]⟩ x):=bB;have:∃b:ByteArray,(convert src dst (Act.eval ⟨M,[]⟩ x)).run P w=.ok (.string b) w/\b.data.toList=strOf xs:=by
    generalize Act.eval ⟨M,[]⟩ x=v at bB;cases bB with
    |nil=>exact⟨_,run_convert_bytes_nil w src e hs.1.1 he.1 _ _ dst au.1,rfl⟩
    |sl _ _ a cap cs n hn hcap hb hl hc hr=>
     have:=Uq (xs:=xs) ⟨hl,hr⟩;subst this;exact Oi hs.1.1 he.1 au.1 hn.symm hc
   obtain⟨b,h1,h2⟩:=this;exact Holds.ok (dT S aa (run h1) (.str _ _ h2))
 ·rename_i e b u fk qX hx;cases j3:isByte (C.tt e) with
  |false=>exact .fail
  |true=>
   rw[hx] at bB;rw[qX] at au;rw[fk] at hs;have he:=H.tt e;rw[yC j3] at he;have bB:Act.eval ⟨M,[]⟩ x=.slice none 0 0:=bB;refine Holds.ok (dT S aa (run (vv:=.string ByteArray.empty) ?_) (.str _ _ rfl));rw[bB];exact run_convert_bytes_nil w src e hs.1.1 he.1 _ _ dst au.1
 ·rename_i e b ab s fk qX hx;split
  ·rename_i xs hrow;cases j3:isByte (C.tt e) with
   |false=>exact .fail
   |true=>
    rw[hx] at bB;rw[qX] at au;rw[fk] at hs;have he:=H.tt e;rw[yC j3] at he;have hv:=S8 bB hrow;have:∃b:ByteArray,(convert src dst (Act.eval ⟨M,[]⟩ x)).run P w=.ok (.string b) w/\b.data.toList=strOf xs:=by
     rw[hv];obtain⟨cs,h1,hc⟩:=S.row hrow;rcases hc with⟨h2,h3⟩|⟨bI,c,h2,h3,aC⟩
     ·subst h3;rw[h2];exact⟨_,run_convert_bytes_nil w src e hs.1.1 he.1 _ _ dst au.1,rfl⟩
     ·have:=Uq (xs:=xs) (jk h1);subst this;rw[h2];exact Oi hs.1.1 he.1 au.1 rfl (fun j u hu=>by rw[gV];exact h3 j u hu)
    obtain⟨b,h1,h2⟩:=this;exact Holds.ok (dT S aa (run h1) (.str _ _ h2))
  ·exact .fail
 ·rename_i e b s fk qX hx;cases j3:isByte (C.tt e) with
  |false=>exact .fail
  |true=>
   rw[hx] at bB;rw[qX] at au;rw[fk] at hs;have he:=H.tt e;rw[yC j3] at he;obtain⟨gO,hb,ez⟩:=gD bB;have dw:(convert src dst (Act.eval ⟨M,[]⟩ x)).run P w=.ok (.slice (some ⟨w.heap.size,0,none⟩) gO.size (grownCap w gO.size 0 e)) (Go.Lib.bytesWorld w e gO):=by
    rw[hb];exact Go.Lib.run_convert_string_bytes w src dst e gO hs.1 au.1.1 he.1
   have hcap:gO.size<=grownCap w gO.size 0 e:=grownCap_ge w gO.size 0 e;refine Holds.hT fun r hr=>?_
   have hmax:gO.size<=maxLen:=by
    have hr:(if s.length<=maxLen then some () else none)=some r:=hr
    split at hr
    ·rename_i h;rw[<-ez] at h;simpa using h
    ·cases hr
   have hsz:(Go.Lib.bytesCells w e gO).size=grownCap w gO.size 0 e:=by
    simp only[Go.Lib.bytesCells,Array.size_append,Array.size_map,Array.size_replicate];have:gO.data.size=gO.size:=rfl;omega
   have hlen:gO.size=(bytesOf s).length:=by rw[ai4,<-ez];rfl
   have eI:aq U Y X (fun ab=>if ab=o then .slice (some ⟨w.heap.size,0,none⟩) gO.size (grownCap w gO.size 0 e) else F ab) {st with sites:=cw st.sites o (.row (bw st o) .u8 (bytesOf s))} M (Go.Lib.bytesWorld w e gO):=by
    refine S.make (fun b hb=>Go.Lib.bytesWorld_at_old w e gO b hb) rfl rfl rfl (by rw[Go.Lib.bytesWorld_size];omega) (fun af hs=>l0 hs)
     (fun b hb=>by cases hb;exact⟨Nat.le_refl _,by rw[Go.Lib.bytesWorld_size];exact Nat.lt_succ_self _⟩) ?_
    intro b0 a6 fP ki go aBm aBt;refine⟨e,gO.data.toList.map fun b=>Value.int .u8 b.toNat,⟨?_,.inr ⟨_,_,Go.Lib.bytesCells w e gO,_,ki.trans (by rw[hlen]),⟨(fun h=>by obtain⟨_,z,_,_,gM⟩:=au;exact gM h),.inr ⟨rfl,Nat.le_refl _⟩⟩,Go.Lib.bytesWorld_at_new w e gO,by rw[<-hlen];exact hcap,grownCap_le_maxLen w gO.size 0 e hmax,?_,?_⟩⟩,fun j g1 g2=>?_⟩
    ·rw[List.length_map,<-hlen];exact(Nat.mul_one _).symm
    ·rw[hsz];exact(Nat.mul_one _).symm
    ·have h1:(bytesOf s).length*bd .u8=(gO.data.toList.map fun b=>Value.int .u8 b.toNat).length:=by rw[List.length_map,<-hlen];exact Nat.mul_one _
     rw[h1];simp only[Go.Lib.bytesCells,Array.toList_append,Array.toList_map];exact List.take_left
    ·subst ez;simp only[sQ,bytesOf,List.getElem_map];exact .int _ _
   refine lf (us:=[(o,.row (bw st o) .u8 (bytesOf s))]) eI aa (run dw) ?_
   refine⟨rfl,Ref.mk (af:=.row (bw st o) .u8 (bytesOf s)) ?_ rfl (by simp)⟩
   simp only[bu,c7];simp
 ·exact .fail
end
section
variable {P:Program}{U:World}{Y:List Nat}{X:Nat->Prop}{F:Nat->Value}{st:al}{M:Array Value}{w:World}{D:Oper}
theorem Tb(S:aq U Y X F st M w){C:Ctx}{x:Operand}(aM:D.op=.move x\/D.op=.assign x)(aa:cr st D.dst=true)(T:TypeId):cM P U Y X st M w D (bg C st T x) []:=by
 refine dT S aa (vv:=Act.eval ⟨M,[]⟩ x) ?_ (dI S C T x);unfold execOp;rcases aM with h|h<;>simp only[h,Sem.run_pure]
theorem S5(S:aq U Y X F st M w){C:Ctx}{c a b:Operand}{t:Bool}{T:TypeId}(aM:D.op=.pick c a b)(aa:cr st D.dst=true)(hc:bg C st T c=.av (.an (.d (.bool t)))):
  cM P U Y X st M w D (bg C st T (if t then a else b)) []:=by
 refine dT S aa (vv:=Act.eval ⟨M,[]⟩ (if t then a else b)) ?_ (dI S C T _)
 unfold execOp;have:=IW S hc;cases t<;>simp[aM,this,asBool]
theorem afw(S:aq U Y X F st M w){C:Ctx}{x:Operand}{t:Bool}{T d':TypeId}(aM:D.op=.unOp .not d' x)(aa:cr st D.dst=true)(hc:bg C st T x=.av (.an (.d (.bool t)))):
  cM P U Y X st M w D (one (.bool (!t))) []:=by
 refine dT S aa (vv:=.bool (!t)) ?_ (.bool _);unfold execOp;simp[aM,IW S hc,Op.unary]
theorem afx(S:aq U Y X F st M w){C:Ctx}{x:Operand}{k:IntKind}{n:Int}{T d':TypeId}(aM:D.op=.unOp .neg d' x)(aa:cr st D.dst=true)(hc:bg C st T x=.av (.an (.d (.int k n)))):
  cM P U Y X st M w D (one (.int k (k.wrap (0-n)))) []:=by
 refine dT S aa (vv:=.int k (k.wrap (0-n))) ?_ (.int _ _);unfold execOp;simp[aM,kb S hc,Op.unary,Op.intArith]
theorem ET(S:aq U Y X F st M w){C:Ctx}{x:Operand}{v:a8}{T:TypeId}(aM:D.op=.nilCheck x)(aa:cr st D.dst=true)(hc:bg C st T x=v)
  (hv:∀vv,ck F st.sites w (aJ X F st.sites) v vv->∃a,vv=.pointer (some a)):cM P U Y X st M w D v []:=by
 have:=dI S C T x;rw[hc] at this;obtain⟨a,ha⟩:=hv _ this;refine dT S aa (vv:=Act.eval ⟨M,[]⟩ x) ?_ this;unfold execOp;simp[aM,ha]
theorem ag4(S:aq U Y X F st M w){C:Ctx}{x:Operand}{i:Nat}{as:List bS}{a:bS}{T:TypeId}(aM:D.op=.extract x i)(aa:cr st D.dst=true)(hc:bg C st T x=.jX as)(ha:as[i]? =some a):
  cM P U Y X st M w D (.av a) []:=by
 have bB:=dI S C T x;rw[hc] at bB;obtain⟨vs,h1,h2,h3⟩:=bB;obtain⟨hi,axK⟩:=List.getElem?_eq_some_iff.1 ha;have jz:i<vs.length:=by omega
 refine dT S aa (vv:=vs[i]) ?_ (by rw[<-axK];exact h3 i hi jz)
 unfold execOp;simp[aM,h1,Instr.extract,jz]
theorem Qw(S:aq U Y X F st M w){C:Ctx}{x y:Operand}{k k':IntKind}{a b:Int}{T:TypeId}{tq:Bool}{cZ:Array TypeId}(aM:D.op=.call {callee:=.builtin (if tq then .max else .min),args:=#[x,y],argTypes:=cZ})(aa:cr st D.dst=true)
  (hx:bg C st T x=.av (.an (.d (.int k a)))) (hy:bg C st T y=.av (.an (.d (.int k' b)))):cM P U Y X st M w D (one (.int k (if tq then gJ a b else lF a b))) []:=by
 refine dT S aa (vv:=.int k (if tq then gJ a b else lF a b)) ?_ (.int _ _)
 unfold execOp;cases tq<;>simp[aM,resolve,invoke,builtin,kb S hx,kb S hy,Builtin.max_,Builtin.min_,Builtin.max2,Builtin.min2,gJ,lF]
theorem amP(S:aq U Y X F st M w){C:Ctx}{x y z u v:Operand}{k aE aF bJ cB:IntKind}{a b c d e:Int}{T:TypeId}{cZ:Array TypeId}(aM:D.op=.call {callee:=.builtin .max,args:=#[x,y,z,u,v],argTypes:=cZ})(aa:cr st D.dst=true)
  (hx:bg C st T x=.av (.an (.d (.int k a)))) (hy:bg C st T y=.av (.an (.d (.int aE b)))) (hz:bg C st T z=.av (.an (.d (.int aF c)))) (hu:bg C st T u=.av (.an (.d (.int bJ d)))) (hv:bg C st T v=.av (.an (.d (.int cB e)))):
  cM P U Y X st M w D (one (.int k (gJ (gJ (gJ (gJ a b) c) d) e))) []:=by
 refine dT S aa (vv:=.int k (gJ (gJ (gJ (gJ a b) c) d) e)) ?_ (.int _ _);unfold execOp;simp[aM,resolve,invoke,builtin,kb S hx,kb S hy,kb S hz,kb S hu,kb S hv,Builtin.max_,Builtin.max2,gJ]
theorem ak8(S:aq U Y X F st M w){C:Ctx}:∀{xs:List Operand} {bE:List (Nat×Nat)},step.oh C st xs=some bE->xs.length=bE.length/\
  ∀i (h:i<bE.length) (ak:i<xs.length),Ref st.sites (bE[i]).1 (bE[i]).2 (Act.eval ⟨M,[]⟩ (xs[i])=F (bE[i]).1):=by
 intro xs;induction xs with
 |nil=>intro bE h;simp only[step.oh] at h;cases h;exact⟨rfl,fun i h=>by simp at h⟩
 |cons x xs ih=>
  intro bE h;simp only[step.oh] at h;split at h
  ·rename_i o s l hx hl;cases h;obtain⟨h1,h2⟩:=ih hl;refine⟨by simp[h1],fun i g1 g2=>?_⟩
   cases i with
   |zero=>
    have:=dI S C 0 x;rw[hx] at this;obtain⟨b,hb,af,r1,r2,di⟩:=this;exact⟨af,r1,r2,fun e=>by simp only[List.getElem_cons_zero];rw[hb,di e]⟩
   |succ i=>simpa using h2 i (by simpa using g1) (by simpa using g2)
  ·cases h
theorem afU(S:aq U Y X F st M w){C:Ctx}{g:FuncId}{first captured:Array Operand}{bE:List (Nat×Nat)}(aM:D.op=.makeFunc (.func g) first captured)(aa:cr st D.dst=true)(hf:first.toList.isEmpty=true)
  (hc:step.oh C st captured.toList=some bE):cM P U Y X st M w D (b7 (.clo g bE)) []:=by
 obtain⟨h1,h2⟩:=ak8 S hc;refine dT S aa (vv:=.func (.func g) #[] (captured.toList.map (Act.eval ⟨M,[]⟩)).toArray) ?_ ⟨captured.toList.map (Act.eval ⟨M,[]⟩),rfl,by simpa using h1,fun i g1 g2=>?_⟩
 ·have:first=#[]:=by simpa using hf
  unfold execOp;simp only[aM,Instr.makeFunc,Sem.run_bind,Sem.run_pure,Result.andThen_ok,this];simp;apply Array.ext';simp
 ·have:=h2 i g1 (by simpa using g2)
  simpa using this
theorem QS(S:aq U Y X F st M w){C:Ctx}{bR:List (Nat×Nat)}:∀(parts:List (Nat×Operand)) (z:List aR) (cells:Array Value),cA F st.sites w (aJ X F st.sites) z cells.toList->
  Holds (step.m_ C st bR z parts) (fun v us=>us=[]/\∃jL,Instr.fill (bR.toArray[·]?) cells (parts.map fun p=>(p.1,Act.eval ⟨M,[]⟩ p.2))=some jL/\ck F st.sites w (aJ X F st.sites) v (.agg jL)):=by
 intro parts;induction parts with
 |nil=>intro z cells h;exact Holds.ok ⟨rfl,cells,rfl,cells.toList,by simp,h.1,h.2⟩
 |cons p parts ih=>
  obtain⟨i,x⟩:=p;intro z cells h;simp only[step.m_];split
  ·rename_i off n a hf ha;cases hb:(a.cells.length.beq n&&hK a.cells&&Nat.ble (off+n) z.length) with
   |false=>exact .fail
   |true=>
    simp only[cond_true];simp only[Bool.and_eq_true] at hb;obtain⟨⟨b1,b2⟩,b3⟩:=hb;have b1:=Nat.eq_of_beq_eq_true b1;have b3:=Nat.le_of_ble_eq_true b3;have bB:=dI S C 0 x;rw[ql ha] at bB;have BY:=hh.cells (bB:hh F st.sites w _ a _) b2;have hsz:(Act.eval ⟨M,[]⟩ x).cells.size=n:=by rw[<-b1,<-BY.1];simp
    have hle:off+(Act.eval ⟨M,[]⟩ x).cells.size<=cells.size:=by
     have:=h.1;simp at this;omega
    have:=ih (Jk.bP z off a.cells) (Jk.bP cells.toList off (Act.eval ⟨M,[]⟩ x).cells.toList).toArray (by simpa using cA.bP off h BY)
    intro y hy hc;obtain⟨g1,jL,g2,g3⟩:=this y hy hc;refine⟨g1,jL,?_,g3⟩;simp only[List.map_cons,Instr.fill];have MG:bR.toArray[i]? =some (off,n):=by simpa using hf
    simp only[MG];have c1:¬((Act.eval ⟨M,[]⟩ x).cells.size≠n\/off+(Act.eval ⟨M,[]⟩ x).cells.size>cells.size):=by omega
    have c2:(decide ((Act.eval ⟨M,[]⟩ x).cells.size≠n)||decide (off+(Act.eval ⟨M,[]⟩ x).cells.size>cells.size))=false:=by
     simp;omega
    have pG:off+n<=cells.size:=by omega
    rw[OW _ _ _ hle];simp only[Bool.decide_or,hsz] at*;simpa[c2,pG] using g2
  ·exact .fail
theorem ala(S:aq U Y X F st M w){C:Ctx}(H:CtxOk P C){T:TypeId}{parts:Array (Nat×Operand)}{bR:List (Nat×Nat)}{n:Nat}{z:List aR}{eq:Bool}(bl:C.tt T=.struct bR n z eq)(aM:D.op=.build T parts)
  (aa:cr st D.dst=true):Holds (step.m_ C st bR z parts.toList) (cM P U Y X st M w D):=by
 have bO:=H.tt T;rw[bl] at bO;obtain⟨fields,fE,⟨hf,_⟩,⟨gd,hz,hzz,DK⟩,_⟩:=bO;obtain⟨aE,aF,bJ⟩:=uS hzz;intro y hy hc;obtain⟨g1,jL,g2,g3⟩:=QS S parts.toList z gd ⟨aE,fun j h ak=>bJ _ _ _ _ j h ak⟩ y hy hc
 rw[g1];refine dT S aa (vv:=.agg jL) ?_ g3;cases hi:P.info? T with
 |none=>simp[hi] at hz
 |some it=>
  simp only[hi,Option.map_some,Option.some.injEq,Prod.mk.injEq] at hz;have hb:P.built T (parts.toList.map fun p=>(p.1,Act.eval ⟨M,[]⟩ p.2))=some jL:=by
   unfold Program.built;simp only[hi,fE,hz.2,hf];exact g2
  have ed:P.built T (parts.map fun p=>(p.1,Act.eval ⟨M,[]⟩ p.2)).toList=some jL:=by simpa using hb
  unfold execOp;simp only[aM,Sem.run_bind,run_build w T _ jL ed,Result.andThen_ok,Sem.run_pure]
end
def mX(w:World)(b:Nat)(D:Obj):World:={w with heap:=w.heap.setIfInBounds b D}
theorem SE{b:ByteArray}{l:B}(h:b.data.toList=l):Value.string b=gZ l:=by
 subst h;rfl
def lw{aH:Type}:List (B×aH)->B->Nat->Option (Nat×aH)
 |[],_,_=>none
 |(k,v)::r,n,i=>bif k==n then some (i,v) else lw r n (i+1)
theorem aiD{aH:Type}(n:B):∀(es:List (B×aH)) (i:Nat),(lw es n i).map (·.2)=kz es n:=by
 intro es;induction es with
 |nil=>intro i;rfl
 |cons p es ih=>
  intro i;simp only[lw,kz];cases p.1==n with
  |true=>rfl
  |false=>exact ih (i+1)
theorem afT{aH:Type}(n:B)(v:aH):∀(es:List (B×aH)) (i:Nat),lw es n i=none->ph es n v=es++[(n,v)]:=by
 intro es;induction es with
 |nil=>intro i _;rfl
 |cons p es ih=>
  intro i h;simp only[lw] at h;simp only[ph];cases hp:(p.1==n) with
  |true=>rw[hp] at h;cases h
  |false=>rw[hp] at h;simp only[cond_false,ih (i+1) h,List.cons_append]
theorem agY{aH:Type}(n:B)(v:aH):∀(es:List (B×aH)) (i j:Nat) (v0:aH),lw es n i=some (j,v0)->i<=j/\(∃p,es[j-i]? =some p/\p.1=n)/\ph es n v=es.modify (j-i) fun p=>(p.1,v):=by
 intro es;induction es with
 |nil=>intro i j v0 h;cases h
 |cons p es ih=>
  intro i j v0 h;simp only[lw] at h;simp only[ph];cases hp:(p.1==n) with
  |true=>
   rw[hp] at h;cases h;refine⟨Nat.le_refl _,⟨p,by simp,eq_of_beq hp⟩,?_⟩
   simp
  |false=>
   rw[hp] at h;obtain⟨h1,⟨q,h2,h3⟩,aC⟩:=ih (i+1) j v0 h;have e:j-i=(j-(i+1))+1:=by omega
   refine⟨by omega,⟨q,by rw[e];simpa using h2,h3⟩,?_⟩
   rw[e,cond_false,aC,List.modify_succ_cons]
theorem OX{t:bf}(n:B):∀(es:List (B×den t)) (jc:List MapEntry) (i:Nat),jc.map (fun e=>(e.key,e.val))=kd t es->
  Instr.findNow .string (gZ n) jc i=some ((lw es n i).map fun p=>(p.1,nK t p.2))
 |[],jc,i,h=>by
  have:jc=[]:=by simpa[kd] using h
  subst this;rfl
 |(k,v)::es,[],i,h=>by simp[kd] at h
 |(k,v)::es,m::jc,i,h=>by
  simp only[kd,List.map_cons,List.cons.injEq,Prod.mk.injEq] at h;obtain⟨⟨h1,h2⟩,h3⟩:=h;have ih:=OX n es jc (i+1) h3;have hs:Instr.sameNow .string (gZ n) m.key=some (k==n):=by
   rw[h1];show some ((⟨n.toArray⟩:ByteArray)==⟨k.toArray⟩)=_;rw[bytes_beq];congr 1
   rw[Bool.eq_iff_iff];simp only[beq_iff_eq];exact eq_comm
  unfold Instr.findNow lw;rw[hs];cases k==n with
  |true=>simp only[cond_true,Option.map_some,h2]
  |false=>simp only[cond_false];exact ih
section
variable {P:Program}{w:World}{h_ k7 T:TypeId}{t:bf}
theorem agC{h_:TypeId}(hk:P.underlying h_=some .string)(c:Bool)(s:B)(n:Nat):(Instr.checkKey c (n+1) h_ (gZ s)).run P w=.ok () w:=by
 simp[Instr.checkKey,run_underlying hk,gZ,Result.andThen]
theorem u4{h_:TypeId}(hk:P.underlying h_=some .string)(c:Bool)(s:B):(Instr.checkKey c 10000 h_ (gZ s)).run P w=.ok () w:=agC hk c s 9999
theorem zy{h_:TypeId}(hk:P.underlying h_=some .string){es:List (B×den t)}{arr:Array MapEntry}(h:mZ arr=kd t es)(n:B):
  (Instr.findKey h_ (gZ n) arr.toList).run P w=.ok ((lw es n 0).map fun p=>(p.1,nK t p.2)) w:=by
 simp[Instr.findKey,run_underlying hk,OX n es arr.toList 0 h,Result.andThen]
theorem ahT(s:B):(Instr.keyThatStays (gZ s) (gZ s)).run P w=.ok (gZ s) w:=by
 have:Instr.sameBits 10000 (gZ s) (gZ s)=true:=by
  show((⟨s.toArray⟩:ByteArray)==⟨s.toArray⟩)=true;rw[bytes_beq];simp
 simp[Instr.keyThatStays,this]
theorem aqp{t:bf}{d:bh}{x:den t}{v:Value}{av:Nat->Prop}(h:Kl t d=some x)(hr:bK w av d v):v=nK t x:=by
 unfold Kl at h;split at h
 ·cases h;cases hr;rfl
 ·cases h;cases hr;rfl
 ·cases h
theorem agA(bl:P.underlying T=some (.map h_ k7))(hk:P.underlying h_=some .string){b:Nat}{arr:Array MapEntry}{clock:Nat}{es:List (B×den t)}(hb:w.heap[b]? =some (.map arr clock))(he:mZ arr=kd t es)(n:B)(x:den t):
  ∃pJ pk,(Instr.mapUpdate T (.map (some b)) (gZ n) (nK t x)).run P w=.ok () (mX w b (.map pJ pk))/\mZ pJ=kd t (ph es n x):=by
 cases hm:lw es n 0 with
 |none=>
  refine⟨arr.push ⟨gZ n,nK t x,clock⟩,clock+1,?_,?_⟩
  ·have hf:=zy (w:=w) hk he n;rw[hm] at hf;simp[Instr.mapUpdate,run_underlying bl,MapKept.run_getObj_map hb,u4 hk,hf,MapKept.run_setObj_map _ hb,Result.andThen,mX]
  ·rw[afT n x es 0 hm];unfold mZ kd at he ⊢;simp[he]
 |some p=>
  obtain⟨j,v0⟩:=p;obtain⟨_,⟨q,h2,h3⟩,aC⟩:=agY n x es 0 j v0 hm;rw[Nat.sub_zero] at h2 aC;have hlen:arr.size=es.length:=mg.size (b:=b) he;have hj:j<arr.size:=by rw[hlen];exact(List.getElem?_eq_some_iff.1 h2).1
  have atb:((arr[j]?).map (·.key)).getD (gZ n)=gZ n:=by
   have bk:=congrArg (fun l=>l[j]?) he
   simp only[mZ,kd,List.getElem?_map,h2,Option.map_some,Array.getElem?_toList] at bk;cases ha:arr[j]? with
   |none=>rfl
   |some e=>
    rw[ha] at bk;simp only[Option.map_some,Option.some.injEq,Prod.mk.injEq] at bk;simp[bk.1,h3]
  refine⟨arr.modify j fun e=>{e with key:=gZ n,val:=nK t x},clock,?_,?_⟩
  ·have hf:=zy (w:=w) hk he n;rw[hm] at hf;simp[Instr.mapUpdate,run_underlying bl,MapKept.run_getObj_map hb,u4 hk,hf,MapKept.run_setObj_map _ hb,Result.andThen,mX,atb,ahT]
  ·rw[aC];unfold mZ kd at he ⊢;apply List.ext_getElem?;intro i;have bk:=congrArg (fun l=>l[i]?) he
   simp only[List.getElem?_map,Array.getElem?_toList] at bk;simp only[List.getElem?_map,Array.getElem?_toList,Array.getElem?_modify,List.getElem?_modify];by_cases pT:j=i
   ·subst pT;simp only[if_true,h2,Option.map_some,<-h3];cases ha:arr[j]? with
    |none=>rw[ha,h2] at bk;cases bk
    |some e=>rfl
   ·simp only[pT,if_false];cases ha:arr[i]? <;>cases ed:es[i]? <;>rw[ha,ed] at bk<;>simp_all
end
section
variable {P:Program}{U:World}{Y:List Nat}{X:Nat->Prop}{F:Nat->Value}{st:al}{M:Array Value}{w:World}{D:Oper}
theorem E8(w:World)(b bI:Nat)(D:Obj)(h:bI≠b):(mX w b D).heap[bI]? =w.heap[bI]? :=by
 simp only[mX,Array.getElem?_setIfInBounds];rw[if_neg (fun e=>h e.symm)]
theorem aec(w:World)(b:Nat)(D c8:Obj)(h:w.heap[b]? =some c8):(mX w b D).heap[b]? =some D:=by
 have:=(Array.getElem?_eq_some_iff.1 h).1;simp[mX,Array.getElem?_setIfInBounds,this]
theorem aq.aoA(S:aq U Y X F st M w){o s b:Nat}{t:bf}{es uu:List (B×den t)}{D:Obj}{pJ:Array MapEntry}{pk:Nat}(hl:look st.sites o=some (.map s t es))(cU:F o=.map (some b))(hg:w.heap[b]? =some D)
  (he:mZ pJ=kd t uu):aq U Y X F {st with sites:=cw st.sites o (.map s t uu)} M (mX w b (.map pJ pk)):=by
 have hbk:bQ (F o)=some b:=by rw[cU];rfl
 have cP:cq st.sites o:=⟨_,hl,rfl⟩;have mj:∀ab,cq (cw st.sites o (.map s t uu)) ab <-> cq st.sites ab:=Po hl rfl;have cc:∀bI,aJ X F (cw st.sites o (.map s t uu)) bI <-> aJ X F st.sites bI:=by
  intro bI;unfold aJ;simp only[mj]
 have hne:∀bI,¬aJ X F st.sites bI->bI≠b:=by
  rintro bI h rfl;exact h (.inr ⟨o,cP,hbk⟩)
 have hsz:(mX w b (.map pJ pk)).heap.size=w.heap.size:=by simp[mX]
 refine S.q4 (fun ab aN bW=>?_) (fun bI h _=>E8 w b bI _ (hne bI h)) (fun bI h _=>by rw[cc];exact h) (fun go ab aN bW=>?_) (fun ab ρ bI h1 h2=>S.eh ab ρ bI ((mj ab).1 h1) ((mj ρ).1 h2))
  (fun ab bI h=>S.ct ab bI ((mj ab).1 h)) (fun ab bI h hb=>by rw[hsz];exact S.fI ((mj ab).1 h) hb) ?_ (by rw[hsz];exact Nat.le_refl _)
 ·rw[c7];by_cases e:o=ab
  ·subst e;rw[hl] at bW;cases bW;exact⟨.map s t uu,by simp,Nat.le_refl _,fun _=>rfl⟩
  ·exact⟨aN,by simp[e,bW],Nat.le_refl _,fun _=>rfl⟩
 ·rw[c7] at bW;by_cases e:o=ab
  ·subst e;simp only[if_true,Option.some.injEq] at bW;subst bW;exact .inr ⟨b,cU,pJ,pk,aec w b _ _ hg,he⟩
  ·simp only[e,if_false] at bW;refine .inl ⟨bW,rfl,fun tI bI ed=>E8 w b bI _ ?_⟩
   rintro rfl;exact e (S.eh o ab _ cP ⟨aN,bW,tI⟩ hbk ed)
 ·have aT:=S.frame;refine⟨aT.os,aT.tape,aT.output,by rw[hsz];exact aT.size,fun bI h1 h2=>?_⟩
  rw[E8 w b bI _ ?_]
  ·exact aT.block bI h1 h2
  ·rintro rfl;rcases(S.ct o _ cP hbk).2 with h|h
   ·exact h2 h
   ·omega
theorem aq.makeMap(S:aq U Y X F st M w){o:Nat}{t:bf}:
  aq U Y X (fun ab=>if ab=o then .map (some w.heap.size) else F ab) {st with sites:=cw st.sites o (.map (bw st o) t [])} M (w.alloc (.map #[] 0)):=
 S.make (fun b hb=>RowKit.Below.heap_alloc w _ b hb) rfl rfl rfl (by simp) (fun af hs=>l0 hs) (fun b hb=>by cases hb;exact⟨Nat.le_refl _,by simp⟩)
  (fun hs cU go _ _=>⟨w.heap.size,cU,#[],0,heap_alloc_new w _,rfl⟩)
end
section
variable {P:Program}{U:World}{Y:List Nat}{X:Nat->Prop}{F:Nat->Value}{st:al}{M:Array Value}{w:World}{D:Oper}
theorem Pj(S:aq U Y X F st M w){T:TypeId}{h_ k7:TypeId}{t:bf}{r:Option Operand}{o:Nat}(aM:D.op=.makeMap T r)(dJ:D.dst=some o)(aa:cr st D.dst=true)(bl:P.underlying T=some (.map h_ k7))
  (hr:∀x,r=some x->∃k n,Act.eval ⟨M,[]⟩ x=.int k n):cM P U Y X st M w D (b7 (.own o (bw st o))) [(o,.map (bw st o) t [])]:=by
 have cm:=S.makeMap (o:=o) (t:=t);refine lf (us:=[(o,.map (bw st o) t [])]) cm aa (vv:=.map (some w.heap.size)) ?_ ?_
 ·unfold execOp;cases r with
  |none=>simp[aM,Instr.makeMap]
  |some x=>
   obtain⟨k,n,hx⟩:=hr x rfl;simp[aM,Instr.makeMap,hx,run_underlying bl,asInt,asIntOf,Result.andThen]
 ·refine⟨rfl,Ref.mk (af:=.map (bw st o) t []) ?_ rfl (by simp)⟩
  simp only[bu,c7];simp
theorem Qx(S:aq U Y X F st M w){C:Ctx}(H:CtxOk P C){T:TypeId}{m k x:Operand}(aM:D.op=.mapUpdate T m k x\/D.op=.insert T m k x)(aa:cr st D.dst=true):
  Holds (ln.s4 C st T m k x) (cM P U Y X st M w D):=by
 have bO:=H.tt T;unfold ln.s4;split
 ·rename_i h_ k7 t o s n d bl hm hk hx;rw[bl] at bO;split
  ·rename_i aN u es hl;cases hb:(aN.beq s&&decide (u=t)) with
   |false=>exact .fail
   |true=>
    simp only[cond_true];simp only[Bool.and_eq_true,decide_eq_true_eq] at hb;have hs:=Nat.eq_of_beq_eq_true hb.1;subst hs;split
    ·rename_i v hv;refine Holds.fF ?_
     have em:=dI S C T m;rw[hm] at em;have rY:=dI S C 0 k;rw[hk] at rY;have ex:=dI S C 0 x;rw[hx] at ex;have hl:look st.sites o=some (.map aN u es):=hl;have abW:Act.eval ⟨M,[]⟩ m=F o:=Ref.at em.2 hl rfl;obtain⟨b,h1,arr,clock,h2,h3⟩:=S.sites o _ hl;obtain⟨bs,Mv,hkl⟩:=gD (s:=n) rY;have DW:Act.eval ⟨M,[]⟩ k=gZ n:=by rw[Mv];exact SE hkl
     have abP:Act.eval ⟨M,[]⟩ x=nK u v:=aqp hv (av:=aJ X F st.sites) ex;obtain⟨pJ,pk,r1,r2⟩:=agA (T:=T) bO.1.1 bO.2.1 h2 h3 n v;have cm:=S.aoA hl h1 h2 (pk:=pk) r2;refine ys (us:=[(o,.map aN u (ph es n v))]) cm aa ?_
     unfold execOp;rcases aM with aM|aM
     ·simp only[aM,abW,h1,DW,abP,Sem.run_bind,r1,Result.andThen_ok,Sem.run_pure]
     ·simp only[aM,abW,h1,DW,abP,Sem.run_bind,r1,Result.andThen_ok,Sem.run_pure]
    ·exact .fail
  ·exact .fail
 ·exact .fail
theorem aiG(S:aq U Y X F st M w){C:Ctx}(H:CtxOk P C){T h_ k7:TypeId}{t:bf}{m k:Operand}{c:Bool}{l:aR}{n:B}{es:List (B×den t)}{d:bh}(aM:D.op=.lookup T m k c)(aa:cr st D.dst=true)
  (bl:C.tt T=.map h_ k7 t) (hm:bg C st T m=.av (.an l)) (hk:bg C st 0 k=.av (.an (.d (.str n)))) (MH:mapOf st l=some ⟨t,es⟩) (MI:wz t (kz es n)=some d):
  cM P U Y X st M w D (bif c then .jX [.an (.d d),.an (.d (.bool (kz es n).isSome))] else one d) []:=by
 have bO:=H.tt T;rw[bl] at bO;have em:=dI S C T m;rw[hm] at em;have rY:=dI S C 0 k;rw[hk] at rY;obtain⟨bs,Mv,hkl⟩:=gD (s:=n) rY;have DW:Act.eval ⟨M,[]⟩ k=gZ n:=by rw[Mv];exact SE hkl
 have hz:∀c8:Option (den t),wz t c8=some d->(∀x,c8=some x->∀av,bK w av d (nK t x))/\(c8=none->∃z,(zeroValue k7).run P w=.ok z w/\∀av,bK w av d z):=by
  intro c8 h;have he:=bO.2.2;have key:∀{adG:TypeDesc} {z:Value},js P k7 adG z->(zeroValue k7).run P w=.ok z w:=by
   intro adG z h;obtain⟨_,_,_,h⟩:=h;cases hi:P.info? k7 with
   |none=>simp[hi] at h
   |some i=>
    simp only[hi,Option.map_some,Option.some.injEq,Prod.mk.injEq] at h;simp[zeroValue,lc hi,h.2]
  cases t<;>first|(exact he.elim)|skip
  ·simp only[wz,Option.some.injEq] at h;subst h;refine⟨fun x hx av=>by subst hx;exact .int _ _,fun hn=>?_⟩
   subst hn;exact⟨_,key he,fun av=>.int _ _⟩
  ·simp only[wz,Option.some.injEq] at h;subst h;refine⟨fun x hx av=>by subst hx;exact .bool _,fun hn=>?_⟩
   subst hn;exact⟨_,key he,fun av=>.bool _⟩
 obtain⟨hz1,hz2⟩:=hz _ MI;have main:∃v,(Instr.lookup T (Act.eval ⟨M,[]⟩ m) (Act.eval ⟨M,[]⟩ k) c).run P w=.ok (if c then .tuple #[v,.bool (kz es n).isSome] else v) w/\∀av,bK w av d v:=by
  rw[DW];rcases Td S em MH with⟨h1,rfl⟩|⟨b,h1,arr,clock,h2,h3⟩
  ·obtain⟨z,fQ,z2⟩:=hz2 rfl;refine⟨z,?_,z2⟩;have hf:=zy (w:=w) (t:=t) bO.2.1 (es:=[]) (arr:=#[]) rfl n;have MG:(Instr.findKey h_ (gZ n) []).run P w=.ok none w:=hf;simp[Instr.lookup,run_underlying bO.1.1,h1,u4 bO.2.1,MG,fQ,kz,Result.andThen]
  ·have hf:=zy (w:=w) bO.2.1 h3 n;have hg:=aiD n es 0;cases ha:lw es n 0 with
   |none=>
    rw[ha] at hf hg;have hg:kz es n=none:=hg.symm;obtain⟨z,fQ,z2⟩:=hz2 hg;refine⟨z,?_,z2⟩;simp[Instr.lookup,run_underlying bO.1.1,h1,MapKept.run_getObj_map h2,u4 bO.2.1,hf,fQ,hg,Result.andThen]
   |some p=>
    rw[ha] at hf hg;have hg:kz es n=some p.2:=hg.symm;refine⟨nK t p.2,?_,hz1 p.2 hg⟩;simp[Instr.lookup,run_underlying bO.1.1,h1,MapKept.run_getObj_map h2,u4 bO.2.1,hf,hg,Result.andThen]
 obtain⟨v,r1,r2⟩:=main;refine dT S aa (vv:=if c then .tuple #[v,.bool (kz es n).isSome] else v) ?_ ?_
 ·unfold execOp;simp only[aM,Sem.run_bind,r1,Result.andThen_ok,Sem.run_pure]
 ·cases c with
  |true=>
   refine⟨[v,.bool (kz es n).isSome],rfl,rfl,fun j g1 g2=>?_⟩
   match j,g1 with
   |0,_=>exact r2 _
   |1,_=>exact bK.bool _
  |false=>exact r2 _
theorem agX(S:aq U Y X F st M w){C:Ctx}(H:CtxOk P C)(aa:cr st D.dst=true):Holds (ln C st D) (cM P U Y X st M w D):=by
 unfold ln;split
 ·rename_i t r aM;split
  ·rename_i o h_ k7 ty dJ bl;have bO:=H.tt t;rw[bl] at bO;split
   ·exact Holds.fF (Pj S aM dJ aa bO.1.1 (fun x h=>by cases h))
   ·rename_i x;split
    ·rename_i k n hx;refine Holds.fF (Pj S aM dJ aa bO.1.1 (fun y h=>?_))
     cases h;have ex:=dI S C 0 x;rw[hx] at ex;exact⟨k,n,iA ex⟩
    ·exact .fail
  ·exact .fail
 ·rename_i t m k x aM;exact Qx S H (.inl aM) aa
 ·rename_i t m k x aM;exact Qx S H (.inr aM) aa
 ·rename_i t m k c aM;split
  ·rename_i h_ k7 ty l n bl hm hk;split
   ·rename_i u es MH;cases hu:decide (u=ty) with
    |false=>exact .fail
    |true=>
     have hu:=of_decide_eq_true hu;subst hu;simp only[cond_true];split
     ·rename_i d MI;exact Holds.ok (aiG S H aM aa bl hm hk MH MI)
     ·exact .fail
   ·exact .fail
  ·exact .fail
 ·rename_i t x aM;split
  ·rename_i bR q z e n bl hx;exact Holds.ok (ad2 S H aM aa bl hx)
  ·exact .fail
 ·exact .fail
end
theorem nR{P:Program}{e:TypeId}{t:bf}(h:I3 P e t):bd t=1/\(∃d z,js P e d z)/\∃l eY,tT t=some l/\xX t=some eY/\cG (enc t eY)=[l]:=by
 cases t<;>first|exact h.elim|exact⟨rfl,⟨_,_,h⟩,_,_,rfl,rfl,rfl⟩
theorem Pw{P:Program}{e:TypeId}{t:bf}{T:TypeId}(h:I3 P e t):t.jZ=true->T=mF:=by intro ak;cases t<;>first|exact h.elim|cases ak
theorem F3(t:bf)(x:den t)(xs:List (den t)):flat t (x::xs)=enc t x++flat t xs:=by simp[flat]
theorem I2(a b:List bh):cG (a++b)=cG a++cG b:=by simp[cG]
theorem TQ{t:bf}{z:den t}(hz:xX t=some z)(xs:List (den t)):Dc t xs xs.length=cG (flat t xs):=by
 unfold Dc;rw[hz];suffices h:∀(bj zs:List (den t)),xs=zs++bj->((List.range' zs.length bj.length).flatMap fun j=>cG (enc t (xs.getD j z)))=cG (flat t bj) by
  have:=h xs [] rfl;rw[List.length_nil,<-List.range_eq_range'] at this;exact this
 intro bj;induction bj with
 |nil=>intro zs _;rfl
 |cons y bj ih=>
  intro zs hx;rw[List.length_cons,List.range'_succ,List.flatMap_cons,F3,I2];have e1:xs.getD zs.length z=y:=by rw[hx];simp[List.getD]
  have e2:=ih (zs++[y]) (by rw[hx];simp)
  rw[List.length_append,List.length_singleton] at e2;rw[e1,e2]
theorem IZ{t:bf}:∀{ai:List aR} {xs:List (den t)},tN t ai=some xs->ai=cG (flat t xs):=by
 intro ai;induction ai with
 |nil=>intro xs h;cases h;rfl
 |cons l ai ih=>
  intro xs h;cases l<;>try(cases h;done)
  rename_i d;simp only[tN] at h;split at h
  ·rename_i x bj h1 h2;cases h;rw[F3,I2,<-ih h2,Bl _ _ _ h1];rfl
  ·cases h
theorem u5{aH:Type}{n:Nat}{xs bj:List aH}(h:long n xs=some bj):bj=xs/\xs.length=n:=by
 unfold long at h;split at h
 ·cases h;exact⟨rfl,by assumption⟩
 ·cases h
section
variable {P:Program}{U:World}{Y:List Nat}{X:Nat->Prop}{F:Nat->Value}{st:al}{M:Array Value}{w:World}{D:Oper}
theorem aq.k5(S:aq U Y X F st M w):nG w/\∀b,b∈kW->¬aJ X F st.sites b/\b<w.heap.size:=by
 have G:=S.e9;refine⟨aqN (fun b hb=>S.frame.block b (G.lt b hb) (G.Y b hb)) G.ok,fun b hb=>⟨?_,Nat.lt_of_lt_of_le (G.lt b hb) S.frame.size⟩⟩
 rintro(h|⟨o,h1,h2⟩)
 ·exact G.X b hb h
 ·rcases(S.ct o b h1 h2).2 with h|h
  ·exact G.Y b hb h
  ·have:=G.lt b hb;omega
theorem aoE{ds:List bh}{vs:List Value}{av:Nat->Prop}(h:c5 w av ds vs):∀u∈vs,u.oneCell'=true:=by
 intro u hu;obtain⟨j,hj,rfl⟩:=List.getElem_of_mem hu;exact(h.2 j (by rw[<-h.1];exact hj) hj).jI
theorem Ta(S:aq U Y X F st M w){T:TypeId}{o n:Nat}{t:bf}{xs:List (den t)}{vs:List Value}(he:bd t=1)(gM:t.jZ=true->T=mF)(hv:c5 w (aJ X F st.sites) (flat t xs) vs)(aa:cr st D.dst=true)
  (dw:(execOp (Act.eval ⟨M,[]⟩) D).run P w=.ok (.value (.pointer (some ⟨w.heap.size,0,none⟩))) (w.alloc (.cells vs.toArray T (0,0)))):Holds (q8 o st t n xs) (cM P U Y X st M w D):=by
 unfold q8;cases hc:(xs.length.beq n&&Nat.ble n 1000) with
 |false=>exact .fail
 |true=>
  simp only[Bool.and_eq_true] at hc;have h1:=Nat.eq_of_beq_eq_true hc.1;have h2:=Nat.le_of_ble_eq_true hc.2;simp only[cond_true];have hl:vs.length=xs.length:=by rw[hv.1,e7,he,Nat.mul_one]
  have cm:=S.H8 (o:=o) (T:=T) (rest:=[]) (cap:=n) hv (by rw[he,hl,h1];simp) (by unfold maxLen;omega) gM
  rw[List.append_nil] at cm;refine Holds.fF (lf (us:=[(o,.row (bw st o) t xs)]) cm aa dw ?_);refine⟨w.heap.size,by simp,Ref.mk (af:=.row (bw st o) t xs) ?_ rfl ⟨xs.length,n,by simp⟩⟩
  simp only[bu,c7];simp
theorem ai8(S:aq U Y X F st M w){C:Ctx}(H:CtxOk P C){elem e:TypeId}{t:bf}{n o:Nat}(bl:C.tt elem=.arr e t n)(aM:D.op=.alloc elem)(aa:cr st D.dst=true):Holds (tc o st t n) (cM P U Y X st M w D):=by
 have bO:=H.tt elem;rw[bl] at bO;obtain⟨_,_,mB⟩:=id bO;obtain⟨he,_,l,eY,DK,ny,hzz⟩:=nR mB;unfold tc;rw[ny];obtain⟨v,hv,ow⟩:=cg.Gv (w:=w) bO (z:=List.replicate n l) (by simp only[cg.zero,DK,Option.map_some])
 obtain⟨h1,h2,h3⟩:=uS ow;have hr:c5 w (aJ X F st.sites) (flat t (List.replicate n eY)) v.cells.toList:=by
  have:=h3 F st.sites w (aJ X F st.sites);have e1:∀n,cG (flat t (List.replicate n eY))=List.replicate n l:=by
   intro n;induction n with
   |zero=>rfl
   |succ n ih=>rw[List.replicate_succ,F3,I2,hzz,List.replicate_succ,ih];rfl
  refine jk (F:=F) (sites:=st.sites) ?_
  rw[e1];exact⟨h1,this⟩
 refine Ta (T:=elem) S he (Pw mB) hr aa ?_
 unfold execOp;simp[aM,Instr.alloc,hv,newVar,newRow]
theorem anl(S:aq U Y X F st M w){C:Ctx}(H:CtxOk P C){elem e:TypeId}{t:bf}{n o:Nat}{x:Operand}(bl:C.tt elem=.arr e t n)(aM:D.op=.box elem x)(aa:cr st D.dst=true):Holds (tP o st t n (bg C st elem x)) (cM P U Y X st M w D):=by
 have bO:=H.tt elem;rw[bl] at bO;have he:=(nR bO.2.2).1;have bB:=dI S C elem x;unfold tP;split
 ·rename_i ai hx;rw[hx] at bB;split
  ·rename_i xs tZ;obtain⟨vs,hv,hl,hr⟩:∃vs:List Value,Act.eval ⟨M,[]⟩ x=.agg vs.toArray/\vs.length=ai.length/\∀j (h:j<ai.length) (ak:j<vs.length),eb F st.sites w (aJ X F st.sites) (ai[j]) (vs[j]):=bB;have pQ:cA F st.sites w (aJ X F st.sites) ai vs:=⟨hl,hr⟩;rw[IZ tZ] at pQ;refine Ta (T:=elem) S he (Pw bO.2.2) (jk pQ) aa ?_
   unfold execOp;simp[aM,Instr.box,newVar,newRow,hv,Value.cells]
  ·exact .fail
 ·exact .fail
theorem aq.arr(S:aq U Y X F st M w){o s:Nat}{t:bf}{xs:List (den t)}{v:Value}(hr:rowOf st o s=some ⟨t,xs⟩)(hv:eb F st.sites w (aJ X F st.sites) (.e3 o s t 0 0) v):
  ∃b c,∃cs:List Value,v=.pointer (some ⟨b,0,none⟩)/\F o=.slice (some ⟨b,0,none⟩) xs.length c/\ie w b 0 cs/\c5 w (aJ X F st.sites) (flat t xs) cs:=by
 obtain⟨cs,hl,hcell⟩:=S.row hr;obtain⟨af,iI,lO⟩:∃af,look st.sites o=some af/\af.cy=s:=by
  rcases j8 hr with h|h<;>exact⟨_,h,rfl⟩
 obtain⟨b,hv,wR⟩:=hv;obtain⟨n,c,cU⟩:=Ref.at wR iI lO;rcases hcell with⟨rc,_⟩|⟨bI,fr,ki,hcs,_⟩
 ·rw[cU] at rc;cases rc
 ·rw[cU] at ki;cases ki;exact⟨b,c,cs,by simpa using hv,cU,hcs,jk hl⟩
theorem akB(S:aq U Y X F st M w){C:Ctx}(H:CtxOk P C){T e:TypeId}{t:bf}{n:Nat}{x:Operand}(bl:C.tt T=.arr e t n)(aM:D.op=.load T x)(aa:cr st D.dst=true):Holds (tp st t n (bg C st T x)) (cM P U Y X st M w D):=by
 have bO:=H.tt T;rw[bl] at bO;obtain⟨he,_,_,eY,_,ny,_⟩:=nR bO.2.2;have bB:=dI S C T x;unfold tp;split
 ·rename_i o s u hx;rw[hx] at bB;split
  ·rename_i bo xs hrow;split
   ·rename_i jx;obtain⟨rfl,rfl⟩:=jx;refine Holds.ey fun y hy=>?_
    obtain⟨rfl,hlen⟩:=u5 (hy:long n xs=some y);obtain⟨b,c,cs,hv,_,hc,hr⟩:=S.arr hrow bB;have hcl:cs.length=n:=by rw[hr.1,e7,he,hlen,Nat.mul_one]
    refine dT S aa (vv:=.agg cs.toArray) ?_ ?_
    ·have dw:=uQ (P:=P) (w:=w) bO (by rintro h;cases h) ⟨b,0,none⟩ cs hcl (fun j u hu=>by rw[gV];exact hc j u hu)
     unfold execOp;simp only[aM,Instr.loadAt,Instr.sureAddr,hv,Sem.run_bind,Sem.run_pure,Result.andThen_ok,dw];rfl
    ·subst hlen;have:=hO (F:=F) (sites:=st.sites) hr.1 hr.2;rw[<-TQ ny] at this;exact⟨cs,rfl,this.1,this.2⟩
   ·exact .fail
  ·exact .fail
 ·exact .fail
theorem ahL(S:aq U Y X F st M w){C:Ctx}(H:CtxOk P C){T e:TypeId}{t:bf}{n:Nat}{a x:Operand}{v:bS}(bl:C.tt T=.arr e t n)(aM:D.op=.store T a x)(aa:cr st D.dst=true)(hv:mq (bg C st T x)=some v):
  Holds (sV st t n (bg C st T a) v) (cM P U Y X st M w D):=by
 have bO:=H.tt T;rw[bl] at bO;have he:=(nR bO.2.2).1;have rE:=dI S C T a;have hex:=dI S C T x;rw[ql hv] at hex;unfold sV;split
 ·rename_i o s u ai hx;rw[hx] at rE;split
  ·rename_i aN bo xs gG;have gG:look st.sites o=some (.row aN bo xs):=gG;split
   ·rename_i jx;obtain⟨rfl,rfl,rfl⟩:=jx;split
    ·rename_i bj axe;cases hc:bj.length.beq n with
     |false=>exact .fail
     |true=>
      have DL:=Nat.eq_of_beq_eq_true hc;refine Holds.hT fun r hr=>?_
      obtain⟨_,hlen⟩:=u5 (hr:long n xs=some r);obtain⟨vs,xt,hl,dW⟩:∃vs:List Value,Act.eval ⟨M,[]⟩ x=.agg vs.toArray/\vs.length=ai.length/\∀j (h:j<ai.length) (ak:j<vs.length),eb F st.sites w (aJ X F st.sites) (ai[j]) (vs[j]):=hex;have pQ:cA F st.sites w (aJ X F st.sites) ai vs:=⟨hl,dW⟩;rw[IZ axe] at pQ;have ud:=jk pQ;have mw:vs.length=n:=by rw[ud.1,e7,he,DL,Nat.mul_one]
      obtain⟨b,DR,wR⟩:=rE;obtain⟨m,c,cU⟩:=Ref.at wR gG rfl;obtain⟨cI,cs,lG,hcs⟩:=S.sites o _ gG;rcases lG.2 with⟨hn,_⟩|⟨g,cap,cur,fz,oE,hz,hg,hnc,hcm,kK,htk⟩
      ·rw[cU] at hn;cases hn
      ·rw[cU] at oE;cases oE;have axR:cur.size=c:=by rw[kK,he,Nat.mul_one]
       have lH:0+vs.length<=cur.toList.length:=by
        have:cur.toList.length=cur.size:=Array.length_toList;omega
       have cm:aq U Y X F {st with sites:=cw st.sites o (.row aN bo bj)} M (w.setRow b (bP cur.toList 0 vs).toArray):=by
        refine S.write gG rfl rfl rfl (by rw[cU];rfl) hg (fun hs hw hg' go=>?_)
        refine⟨cI,vs,⟨by rw[he,DL,Nat.mul_one];exact mw,.inr ⟨b,c,_,fz,by rw[cU,hlen,DL],?_,hg',by omega,hcm,?_,?_⟩⟩,fun j g1 g2=>po go (ud.2 j g1 g2)⟩
        ·refine⟨hz.1,hz.2.imp id fun h=>⟨h.1,?_⟩⟩
         rw[List.size_toArray,sf _ _ _ lH];simpa using h.2
        ·rw[List.size_toArray,sf _ _ _ lH,Array.length_toList,axR,he,Nat.mul_one]
        ·rw[he,Nat.mul_one,DL,<-mw];simp[bP]
       refine ys (us:=[(o,.row aN bo bj)]) cm aa ?_
       have dw:=N8 (P:=P) (w:=w) bO (by rintro h;cases h) (vv:=.agg vs.toArray) (cur:=cur.toList) (off:=0) (by simpa using hg) (by simpa using hz) (by simpa[Value.cells,cg.size] using mw) (by simpa[Value.cells] using lH) (by simpa[Value.cells] using aoE ud)
       unfold execOp;simp only[aM,DR,xt,Instr.storeAt,Instr.sureAddr,Sem.run_bind,Sem.run_pure,Result.andThen_ok,Nat.zero_mul,Nat.zero_add,dw];simp[Value.cells]
    ·exact .fail
   ·exact .fail
  ·exact .fail
 ·exact .fail
theorem aez(S:aq U Y X F st M w){C:Ctx}(H:CtxOk P C){T e:TypeId}{t:bf}{m:Nat}{x i:Operand}{k:IntKind}{n:Int}(bl:C.tt T=.arr e t m)(hi:bg C st 0 i=.av (.an (.d (.int k n))))(aM:D.op=.indexAddr T x i)(aa:cr st D.dst=true):
  Holds (sn C st t m (bg C st T x) n) (cM P U Y X st M w D):=by
 have bO:=H.tt T;rw[bl] at bO;obtain⟨fE,_,mB⟩:=bO;obtain⟨he,⟨d,z0,nE⟩,_⟩:=nR mB;have wQ:=kb S hi;have bB:=dI S C T x;obtain⟨inf,kJ,jT⟩:∃inf,P.info? e=some inf/\inf.size=1:=by
  have:=nE.2.2.2;cases az:P.info? e with
  |none=>simp[az] at this
  |some i=>simp only[az,Option.map_some,Option.some.injEq,Prod.mk.injEq] at this;exact⟨i,rfl,this.1⟩
 have run:∀{b:Nat},Act.eval ⟨M,[]⟩ x=.pointer (some ⟨b,0,none⟩)->0<=n->n<m->(execOp (Act.eval ⟨M,[]⟩) D).run P w=.ok (.value (.pointer (some ⟨b,n.toNat,none⟩))) w:=by
  intro b hx h0 h1;unfold execOp;simp[aM,hx,wQ,Instr.indexAt,Instr.sureAddr,asIntOf,run_underlying fE,h0,h1,sizeOf,lc kJ,jT,gV]
 unfold sn;split
 ·rename_i o s u hx;rw[hx] at bB;split
  ·rename_i bo xs hrow;split
   ·rename_i jx;obtain⟨rfl,rfl⟩:=jx;refine Holds.ey fun y hy=>?_
    obtain⟨zs,hz1,hz2⟩:=Option.bind_eq_some_iff.1 (hy:(long m xs).bind (fun xs=>be xs.length n)=some y)
    obtain⟨rfl,hlen⟩:=u5 hz1;unfold be at hz2;split at hz2
    ·rename_i hb;cases hz2;obtain⟨b,c,cs,hv,cU,_⟩:=S.arr hrow bB;refine dT S aa (run hv hb.1 (by rw[<-hlen];exact hb.2)) ⟨b,?_,?_⟩
     ·rw[he,Nat.mul_one,Nat.add_zero]
     ·rcases j8 hrow with h|h<;>exact Ref.mk h rfl ⟨_,_,cU⟩
    ·cases hz2
   ·exact .fail
  ·exact .fail
 ·rename_i g hx;rw[hx] at bB;split
  ·rename_i bo xs rD;cases hc:(decide (bo=t)&&xs.length.beq m) with
   |false=>exact .fail
   |true=>
    simp only[Bool.and_eq_true,decide_eq_true_eq] at hc;obtain⟨rfl,hlen⟩:=hc;have hlen:=Nat.eq_of_beq_eq_true hlen;refine Holds.ey fun y hy=>?_
    have ec:aO xs n=some y:=hy;unfold aO at ec;split at ec
    ·rename_i h0;have hlt:n.toNat<xs.length:=by
      rcases Nat.lt_or_ge n.toNat xs.length with h|h
      ·exact h
      ·rw[List.getElem?_eq_none h] at ec;cases ec
     obtain⟨ab5,um⟩:=H.gt g _ _ rD;obtain⟨fG,cc⟩:=S.k5;obtain⟨gC,fz',cs,hg,dW⟩:=um w (aJ X F st.sites) fG;have hv:Act.eval ⟨M,[]⟩ x=.pointer (some ⟨g,0,none⟩):=bB;refine dT S aa (run hv h0 (by omega)) ⟨g,n.toNat,rfl,(cc g ab5).1,(cc g ab5).2,(cs.drop n.toNat).take 1,?_,fun j u hu=>?_,?_⟩
     ·have:cs.length=xs.length:=by rw[dW.1,e7,he,Nat.mul_one]
      rw[jg,he];simp;omega
     ·exact(((ie.row hg).drop n.toNat).take 1) j u hu|>fun h=>by simpa using h
     ·have hs:=uZ bo xs n.toNat y ec;rw[he,Nat.mul_one] at hs;have nm:c5 w (aJ X F st.sites) (flat bo xs) cs:=dW;have aqL:=hO (F:=F) (sites:=st.sites) nm.1 nm.2;have h2:=jk (ds:=((flat bo xs).drop n.toNat).take 1) (by
       have:=(aqL.drop n.toNat).take 1;simpa[cG,List.map_drop,List.map_take] using this)
      rw[hs] at h2;exact h2.2
    ·cases ec
  ·exact .fail
 ·exact .fail
theorem aiO(S:aq U Y X F st M w){C:Ctx}(H:CtxOk P C){T e:TypeId}{t:bf}{m:Nat}{x i:Operand}{k:IntKind}{n:Int}(bl:C.tt T=.arr e t m)(hi:bg C st 0 i=.av (.an (.d (.int k n))))(aM:D.op=.index T x i)(aa:cr st D.dst=true):
  Holds (JI t m (bg C st T x) n) (cM P U Y X st M w D):=by
 have bO:=H.tt T;rw[bl] at bO;obtain⟨fE,_,mB⟩:=bO;obtain⟨he,⟨d,z0,nE⟩,_⟩:=nR mB;have wQ:=kb S hi;have bB:=dI S C T x;obtain⟨inf,kJ,jT⟩:∃inf,P.info? e=some inf/\inf.size=1:=by
  have:=nE.2.2.2;cases az:P.info? e with
  |none=>simp[az] at this
  |some i=>simp only[az,Option.map_some,Option.some.injEq,Prod.mk.injEq] at this;exact⟨i,rfl,this.1⟩
 unfold JI;split
 ·rename_i ai hx;rw[hx] at bB;split
  ·rename_i xs tZ;cases hc:xs.length.beq m with
   |false=>exact .fail
   |true=>
    have hlen:=Nat.eq_of_beq_eq_true hc;refine Holds.ey fun y hy=>?_
    have ec:aO xs n=some y:=hy;unfold aO at ec;split at ec
    ·rename_i h0;have hlt:n.toNat<xs.length:=by
      rcases Nat.lt_or_ge n.toNat xs.length with h|h
      ·exact h
      ·rw[List.getElem?_eq_none h] at ec;cases ec
     obtain⟨vs,hv,hl,hr⟩:∃vs:List Value,Act.eval ⟨M,[]⟩ x=.agg vs.toArray/\vs.length=ai.length/\∀j (h:j<ai.length) (ak:j<vs.length),eb F st.sites w (aJ X F st.sites) (ai[j]) (vs[j]):=bB;have pQ:cA F st.sites w (aJ X F st.sites) ai vs:=⟨hl,hr⟩;rw[IZ tZ] at pQ;have ud:=jk pQ;have mw:vs.length=xs.length:=by rw[ud.1,e7,he,Nat.mul_one]
     obtain⟨d1,hd1⟩:∃d1,enc t y=[d1]:=by
      have:=jg t y;rw[he] at this;match h:enc t y,this with
      |[d1],_=>exact⟨d1,rfl⟩
     simp only[hd1];have cP:n.toNat<vs.length:=by omega
     refine dT S aa (vv:=vs[n.toNat]) ?_ ?_
     ·have KZ:(isAgg e).run P w=.ok false w:=by
       have h1:=nE.1;simp only[isAgg,Sem.run_bind,run_underlying h1,Result.andThen_ok];have g1:=nE.2.1;have g2:=nE.2.2.1;cases d<;>first|rfl|exact absurd rfl (g1 _)|exact absurd rfl (g2 _ _)
      have h1:n<(m:Int):=by omega
      unfold execOp;simp[aM,hv,wQ,Instr.index,asIntOf,run_underlying fE,h0,h1,sizeOf,lc kJ,jT,part,KZ,cP]
     ·have hs:=uZ t xs n.toNat y ec;rw[he,Nat.mul_one,hd1] at hs;have pU:n.toNat<(flat t xs).length:=by rw[e7,he,Nat.mul_one];exact hlt
      have e1:(flat t xs)[n.toNat]=d1:=by
       have:=congrArg (fun l=>l[0]?) hs
       simp only[List.getElem?_take,List.getElem?_drop] at this;rw[if_pos (by decide),Nat.add_zero,List.getElem?_eq_getElem pU] at this
       simpa using this
      have:=ud.2 n.toNat pU cP;rw[e1] at this;exact this
    ·cases ec
  ·exact .fail
 ·exact .fail
theorem ahP(S:aq U Y X F st M w){C:Ctx}(H:CtxOk P C){T e:TypeId}{t:bf}{m:Nat}{x:Operand}{cW hi:Option Operand}(bl:C.tt T=.arr e t m)(aM:D.op=.slice T x cW hi none)(aa:cr st D.dst=true):
  Holds (sY st t m (bg C st T x) (cW.map (bg C st 0)) (hi.map (bg C st 0))) (cM P U Y X st M w D):=by
 have bO:=H.tt T;rw[bl] at bO;obtain⟨fE,_,mB⟩:=bO;obtain⟨he,⟨d,z0,nE⟩,_⟩:=nR mB;have bB:=dI S C T x;obtain⟨inf,kJ,jT⟩:∃inf,P.info? e=some inf/\inf.size=1:=by
  have:=nE.2.2.2;cases az:P.info? e with
  |none=>simp[az] at this
  |some i=>simp only[az,Option.map_some,Option.some.injEq,Prod.mk.injEq] at this;exact⟨i,rfl,this.1⟩
 have rb:∀{cW:Option Operand} {lJ l:Int},iS lJ (cW.map (bg C st 0))=some l->(cW.map (Act.eval ⟨M,[]⟩)=none/\l=lJ)\/∃k,cW.map (Act.eval ⟨M,[]⟩)=some (.int k l):=by
  intro cW lJ l h;rcases Sb S h with⟨rfl,ak⟩|⟨x,k,rfl,ak⟩
  ·exact .inl ⟨rfl,ak⟩
  ·exact .inr ⟨k,by simp[ak]⟩
 unfold sY;split
 ·rename_i o s u hx;rw[hx] at bB;split
  ·rename_i bo xs l h hrow ga hhi;split
   ·rename_i jx;obtain⟨rfl,rfl⟩:=jx;refine Holds.hT fun r hr=>?_
    obtain⟨zs,hz1,hz2⟩:=Option.bind_eq_some_iff.1 (hr:(long m xs).bind (fun xs=>bm xs l h)=some r)
    obtain⟨rfl,hlen⟩:=u5 hz1;unfold bm at hz2;split at hz2
    ·rename_i hb;obtain⟨h0,h1,h2⟩:=hb;cases hz2;obtain⟨b,c,cs,hv,cU,_⟩:=S.arr hrow bB;refine P5 (us:=[(o,.dp s bo zs)]) (R5 hrow).symm ?_
     have hfz:dU st.sites [(o,.dp s bo zs)]:=by
      intro ab af hm;simp only[List.mem_singleton,Prod.mk.injEq] at hm;obtain⟨rfl,rfl⟩:=hm;exact⟨s,bo,zs,rfl,j8 hrow⟩
     have aT:la U Y X F st M w [(o,.dp s bo zs)]:=⟨S,hfz⟩;have Mt:=EB hfz (List.mem_singleton.2 rfl);obtain⟨dW,WE⟩:=aT.new.sites o _ Mt;rw[cU] at dW;generalize abO:Value.slice (some ⟨b,0,none⟩) zs.length c=v at dW;cases dW with
     |nil=>cases abO
     |sl _ _ a cap oI k hk hcap ed hl hc hr=>
      cases abO;have axW:=E4 (P:=P) (w:=w) false m m (cW.map (Act.eval ⟨M,[]⟩)) (hi.map (Act.eval ⟨M,[]⟩)) l h (rb ga) (rb hhi) h0 h1 (by omega) (Nat.le_refl _)
      refine lf (us:=[(o,.dp s bo zs)]) aT.new aa (vv:=.slice (if m=l.toNat then some ⟨b,0,none⟩ else(some (⟨b,0,none⟩:Addr)).map (·.add (l.toNat*bd bo))) (h.toNat-l.toNat) (m-l.toNat)) ?_ ?_
      ·unfold execOp;simp only[aM,Option.map_none,Sem.run_bind,Instr.sliceAt,run_underlying fE,Result.andThen_ok,hv,Instr.sureAddr,Sem.run_pure,axW,sizeOf,lc kJ,jT,he];split<;>simp
      ·exact H6 ed ⟨hl,hr⟩ hc l.toNat h.toNat m (by omega) (by omega) (by omega)
    ·cases hz2
   ·exact .fail
  ·exact .fail
 ·exact .fail
theorem aiV{f g:Nat->Option (Nat×Nat)}(h:∀i p,f i=some p->g i=some p):∀(l:List (Nat×Value)) (cs oI:Array Value),Instr.fill f cs l=some oI->Instr.fill g cs l=some oI:=by
 intro l;induction l with
 |nil=>intro cs oI k;exact k
 |cons p l ih=>
  obtain⟨i,v⟩:=p;intro cs oI k;simp only[Instr.fill] at k ⊢;cases hf:f i with
  |none=>simp[hf] at k
  |some q=>
   obtain⟨off,size⟩:=q;rw[h i _ hf];rw[hf] at k;simp only at k ⊢;split at k
   ·cases k
   ·rename_i hn;rw[if_neg hn];exact ih _ _ k
theorem ai5(S:aq U Y X F st M w){C:Ctx}(H:CtxOk P C){T e:TypeId}{t:bf}{n:Nat}{z:aR}{parts:Array (Nat×Operand)}(bl:C.tt T=.arr e t n)(hz:tT t=some z)(aM:D.op=.build T parts)(aa:cr st D.dst=true):
  Holds (step.m_ C st ((List.range n).map fun j=>(j,1)) (List.replicate n z) parts.toList) (cM P U Y X st M w D):=by
 have bO:=H.tt T;rw[bl] at bO;obtain⟨fE,⟨gd,fQ,kJ,hz1,hzz⟩,mB⟩:=bO;rw[hz] at hz1;cases hz1;obtain⟨he,⟨d,z0,nE⟩,_⟩:=nR mB;obtain⟨aCu,axJ,atc⟩:∃inf,P.info? e=some inf/\inf.size=1:=by
  have:=nE.2.2.2;cases az:P.info? e with
  |none=>simp[az] at this
  |some i=>simp only[az,Option.map_some,Option.some.injEq,Prod.mk.injEq] at this;exact⟨i,rfl,this.1⟩
 obtain⟨aE,aF,bJ⟩:=uS hzz;intro y hy hc;obtain⟨g1,jL,g2,g3⟩:=QS S parts.toList (List.replicate n z) gd ⟨aE,fun j h ak=>bJ _ _ _ _ j h ak⟩ y hy hc
 rw[g1];refine dT S aa (vv:=.agg jL) ?_ g3;cases hi:P.info? T with
 |none=>simp[hi] at kJ
 |some it=>
  simp only[hi,Option.map_some,Option.some.injEq,Prod.mk.injEq] at kJ;have hb:P.built T (parts.toList.map fun p=>(p.1,Act.eval ⟨M,[]⟩ p.2))=some jL:=by
   unfold Program.built;simp only[hi,fE,kJ.2,axJ,atc];refine aiV (fun i p hp=>?_) _ _ _ g2
   simp only[List.getElem?_toArray,List.getElem?_map,Option.map_eq_some_iff] at hp;obtain⟨a,ha,rfl⟩:=hp;have:=List.getElem?_eq_some_iff.1 ha;obtain⟨h1,h2⟩:=this;simp at h2;subst h2;simp
  have ed:P.built T (parts.map fun p=>(p.1,Act.eval ⟨M,[]⟩ p.2)).toList=some jL:=by simpa using hb
  unfold execOp;simp only[aM,Sem.run_bind,run_build w T _ jL ed,Result.andThen_ok,Sem.run_pure]
theorem afv(S:aq U Y X F st M w){C:Ctx}{x:Operand}{k:IntKind}{n:Int}{T d':TypeId}(aM:D.op=.unOp .xor d' x)(aa:cr st D.dst=true)(hc:bg C st T x=.av (.an (.d (.int k n)))):
  cM P U Y X st M w D (one (.int k (dl k (if k.signed then-1 else k.max) n))) []:=by
 refine dT S aa (vv:=.int k (dl k (if k.signed then-1 else k.max) n)) ?_ (.int _ _)
 unfold execOp;simp[aM,kb S hc,Op.unary,Op.intBits,dl]
end
def mh:Nat->Value:=fun _=>undef
def ng(w:World)(av:Nat->Prop)(l:aR)(v:Value)(bs:List Nat):Prop:=
 match l with
 |.fresh t xs=>bs=(bQ v).toList/\∃e,∃cs:List Value,rowAt w t.jZ e (bd t) v xs.length cs/\c5 w av (flat t xs) cs
 |l=>bs=[]/\eb mh [] w av l v
def lB(w:World)(av:Nat->Prop):List aR->List Value->List Nat->Prop
 |[],[],bs=>bs=[]
 |l::ai,v::vs,bs=>∃b1 b2,bs=b1++b2/\ng w av l v b1/\lB w av ai vs b2
 |_,_,_=>False
def CQ(w:World)(av:Nat->Prop):bS->Value->List Nat->Prop
 |.an l,v,bs=>ng w av l v bs
 |.agg ai,v,bs=>∃vs:List Value,v=.agg vs.toArray/\lB w av ai vs bs
def lq(w:World)(av:Nat->Prop):List bS->List Value->List Nat->Prop
 |[],[],bs=>bs=[]
 |l::ai,v::vs,bs=>∃b1 b2,bs=b1++b2/\CQ w av l v b1/\lq w av ai vs b2
 |_,_,_=>False
def I4(w:World)(av:Nat->Prop)(b:Nat)(cells:List aR)(bs:List Nat):Prop:=
 ∃T,∃cur:List Value,∃oJ,bs=b::oJ/\w.heap[b]? =some (.cells cur.toArray T (0,0))/\(∀u∈cur,u.oneCell'=true)/\nf cells T cur b/\lB w av cells cur oJ
def TS(w:World)(av:Nat->Prop):Arg->Value->List Nat->Prop
 |.av a,v,bs=>CQ w av a v bs
 |.fs cells,v,bs=>∃b,v=.pointer (some ⟨b,0,none⟩)/\I4 w av b cells bs
def ji(w:World)(av:Nat->Prop):List Arg->List Value->List Nat->Prop
 |[],[],bs=>bs=[]
 |l::ai,v::vs,bs=>∃b1 b2,bs=b1++b2/\TS w av l v b1/\ji w av ai vs b2
 |_,_,_=>False
def d_:List Arg->List Value->List Nat
 |.fs _::as,.pointer (some a)::vs=>a.block::d_ as vs
 |_::as,_::vs=>d_ as vs
 |_,_=>[]
def jm(w:World)(av:Nat->Prop):List Nat->List (List aR)->List Nat->Prop
 |[],[],bs=>bs=[]
 |b::dG,cs::cQ,bs=>∃b1 b2,bs=b1++b2/\I4 w av b cs b1/\jm w av dG cQ b2
 |_,_,_=>False
def oa:List Value->Value
 |[v]=>v
 |vs=>.tuple vs.toArray
def Enters(P:Program)(g:FuncId)(vs:Array Value)(w:World)(R:Value->World->Prop):Prop:=
 ((callFunc g vs).run P w=.ok (.enter g vs) w/\Calls P g vs w fun|.returned v,w'=>R v w'|_,_=>False)\/(∃v w',(callFunc g vs).run P w=.ok (.value v) w'/\R v w')
def aA(P:Program)(g:FuncId)(S:aD):Prop:=
 ∀as y,(S as).comp=some y->∀(w:World) (X:Nat->Prop) (vs:List Value) (dA:List Nat),ji w (fun b=>X b\/b∈dA) as vs dA->dA.Nodup->(∀b,b∈dA->¬X b)->(∀b,X b->b<w.heap.size)->iP w dA X->
  Enters P g vs.toArray w fun v w'=>∃ev eu rv,Fr dA w w'/\jm w' (fun b=>X b\/b∈ev++eu) (d_ as vs) ((S as).fs y) ev/\lq w' (fun b=>X b\/b∈ev++eu) ((S as).fl y) rv eu/\
   v=oa rv/\(ev++eu).Nodup/\∀b,b∈ev++eu->¬X b/\(b∈dA\/w.heap.size<=b)
section
variable {U:World}{Y:List Nat}{X:Nat->Prop}{F:Nat->Value}{st:al}{M:Array Value}{w:World}
theorem ck.hd{sites:List (Nat×Site)}{av cl:Nat->Prop}(h:∀b,cl b->av b)(hlt:∀b,cl b->b<w.heap.size){a:a8}{v:Value}(k:ck F sites w av a v):ck F sites w cl a v:=by
 have G:io F F sites sites w w av cl:=⟨fun o af hs=>⟨af,hs,Nat.le_refl _,fun _=>rfl⟩,fun _ _ _=>rfl,fun b hb _ ak=>hb (h b ak)⟩
 exact k.goes G (Nat.le_refl _) hlt
theorem kc.hd{sites:List (Nat×Site)}{av cl:Nat->Prop}(h:∀b,cl b->av b)(hlt:∀b,cl b->b<w.heap.size){o:Nat}{af:Site}(k:kc F sites w av o af):kc F sites w cl o af:=by
 have G:io F F sites sites w w av cl:=⟨fun o af hs=>⟨af,hs,Nat.le_refl _,fun _=>rfl⟩,fun _ _ _=>rfl,fun b hb _ ak=>hb (h b ak)⟩
 exact k.goes G (Nat.le_refl _) hlt rfl (fun _ _ _=>rfl)
theorem aq.lt(S:aq U Y X F st M w){b:Nat}(h:aJ X F st.sites b):b<w.heap.size:=by
 rcases h with h|⟨o,h1,h2⟩
 ·exact S.old b h
 ·exact S.fI h1 h2
theorem aq.shrink(S:aq U Y X F st M w){X':Nat->Prop}(h:∀b,X' b->X b):aq U Y X' F st M w:=by
 have cc:∀b,aJ X' F st.sites b->aJ X F st.sites b:=by
  rintro b (hb|hb)
  ·exact .inl (h b hb)
  ·exact .inr hb
 have hlt:=fun b hb=>S.lt (cc b hb)
 exact⟨S.nt,fun t=>(S.cN t).hd cc hlt,fun o af hs=>(S.sites o af hs).hd cc hlt,S.eh,fun o b h1 h2=>⟨fun hx=>(S.ct o b h1 h2).1 (h b hx),(S.ct o b h1 h2).2⟩,S.frame,fun b hb=>S.old b (h b hb),S.e9.less fun b _=>h b⟩
theorem aq.kill(S:aq U Y X F st M w){o:Nat}{af:Site}(hl:look st.sites o=some af)(mc:af.live=true):
  aq U Y (fun b=>X b\/bQ (F o)=some b) F {st with sites:=cw st.sites o (.dead af.cy)} M w:=by
 have cP:∀ab,cq (cw st.sites o (.dead af.cy)) ab->ab≠o/\cq st.sites ab:=by
  rintro ab ⟨s,h1,h2⟩;rw[c7] at h1;by_cases e:o=ab
  ·subst e;simp at h1;subst h1;cases h2
  ·simp only[e,if_false] at h1;exact⟨fun h=>e h.symm,s,h1,h2⟩
 have cc:∀b,aJ (fun b=>X b\/bQ (F o)=some b) F (cw st.sites o (.dead af.cy)) b->aJ X F st.sites b:=by
  rintro b ((h|h)|⟨ab,h1,h2⟩)
  ·exact .inl h
  ·exact .inr ⟨o,⟨af,hl,mc⟩,h⟩
  ·exact .inr ⟨ab,(cP ab h1).2,h2⟩
 have hlt:=fun b hb=>S.lt (cc b hb)
 have cm:aq U Y X F {st with sites:=cw st.sites o (.dead af.cy)} M w:=by
  have wT:∀b,aJ X F (cw st.sites o (.dead af.cy)) b->aJ X F st.sites b:=by
   rintro b (h|⟨ab,h1,h2⟩)
   ·exact .inl h
   ·exact .inr ⟨ab,(cP ab h1).2,h2⟩
  refine S.q4 (fun ab s hs=>?_) (fun _ _ _=>rfl) (fun b hb _ ak=>hb (wT b ak)) (fun go ab s hs=>?_) (fun ab ρ b h1 h2 g1 g2=>S.eh ab ρ b (cP ab h1).2 (cP ρ h2).2 g1 g2) (fun ab b h1 h2=>S.ct ab b (cP ab h1).2 h2)
   (fun ab b h1 h2=>S.fI (cP ab h1).2 h2) S.frame (Nat.le_refl _)
  ·rw[c7];by_cases e:o=ab
   ·subst e;rw[hl] at hs;cases hs;exact⟨.dead af.cy,by simp,Nat.le_refl _,fun _=>rfl⟩
   ·exact⟨s,by simp[e,hs],Nat.le_refl _,fun _=>rfl⟩
  ·rw[c7] at hs;by_cases e:o=ab
   ·simp only[e,if_true,Option.some.injEq] at hs;subst hs;exact .inr trivial
   ·simp only[e,if_false] at hs;exact .inl ⟨hs,rfl,fun _ _ _=>rfl⟩
 refine⟨cm.nt,fun t=>?_,fun ab s hs=>?_,cm.eh,fun ab b h1 h2=>⟨?_,(cm.ct ab b h1 h2).2⟩,cm.frame,?_,S.e9.less fun b hb hx=>hx.elim id fun e=>absurd (.inr ⟨o,⟨af,hl,mc⟩,e⟩) (S.k5.2 b hb).1⟩
 ·have G:io F F st.sites (cw st.sites o (.dead af.cy)) w w (aJ X F st.sites) (aJ (fun b=>X b\/bQ (F o)=some b) F (cw st.sites o (.dead af.cy))):=
   ⟨fun ab s hs=>by
    rw[c7];by_cases e:o=ab
    ·subst e;rw[hl] at hs;cases hs;exact⟨.dead af.cy,by simp,Nat.le_refl _,fun _=>rfl⟩
    ·exact⟨s,by simp[e,hs],Nat.le_refl _,fun _=>rfl⟩,fun _ _ _=>rfl,fun b hb _ ak=>hb (cc b ak)⟩
  exact(S.cN t).goes G (Nat.le_refl _) hlt
 ·have fP:look (cw st.sites o (.dead af.cy)) ab=some s:=hs;rw[c7] at fP;by_cases e:o=ab
  ·simp only[e,if_true,Option.some.injEq] at fP;subst fP;trivial
  ·simp only[e,if_false] at fP;have G:io F F st.sites (cw st.sites o (.dead af.cy)) w w (aJ X F st.sites) (aJ (fun b=>X b\/bQ (F o)=some b) F (cw st.sites o (.dead af.cy))):=
    ⟨fun ab s hs=>by
     rw[c7];by_cases e:o=ab
     ·subst e;rw[hl] at hs;cases hs;exact⟨.dead af.cy,by simp,Nat.le_refl _,fun _=>rfl⟩
     ·exact⟨s,by simp[e,hs],Nat.le_refl _,fun _=>rfl⟩,fun _ _ _=>rfl,fun b hb _ ak=>hb (cc b ak)⟩
   exact(S.sites ab s fP).goes G (Nat.le_refl _) hlt rfl (fun _ _ _=>rfl)
 ·rintro(hx|hx)
  ·exact(cm.ct ab b h1 h2).1 hx
  ·exact(cP ab h1).1 (S.eh ab o b (cP ab h1).2 ⟨af,hl,mc⟩ h2 hx)
 ·rintro b (hb|hb)
  ·exact S.old b hb
  ·exact S.fI ⟨af,hl,mc⟩ hb
theorem aq.jump(S:aq U Y X F st M w){w':World}(h:∀b,¬X b->b<w.heap.size->w'.heap[b]? =w.heap[b]?)(hs:w.heap.size<=w'.heap.size)(hf:Fr Y U w'):
  aq U Y (fun b=>X b\/(w.heap.size<=b/\b<w'.heap.size)) F st M w':=by
 have hlt:∀b,aJ (fun b=>X b\/(w.heap.size<=b/\b<w'.heap.size)) F st.sites b->b<w'.heap.size:=by
  rintro b ((hb|hb)|⟨ab,h1,h2⟩)
  ·exact Nat.lt_of_lt_of_le (S.old b hb) hs
  ·exact hb.2
  ·exact Nat.lt_of_lt_of_le (S.fI h1 h2) hs
 have G:io F F st.sites st.sites w w' (aJ X F st.sites) (aJ (fun b=>X b\/(w.heap.size<=b/\b<w'.heap.size)) F st.sites):=
  ⟨fun ab s h=>⟨s,h,Nat.le_refl _,fun _=>rfl⟩,fun b hb ed=>h b (fun hx=>hb (.inl hx)) ed,fun b hb ed ak=>by
   rcases ak with(ak|ak)|ak
   ·exact hb (.inl ak)
   ·omega
   ·exact hb (.inr ak)⟩
 refine⟨S.nt,fun t=>(S.cN t).goes G hs hlt,fun o s h1=>(S.sites o s h1).goes G hs hlt rfl (fun hl b hb=>?_),S.eh,fun o b h1 h2=>⟨?_,(S.ct o b h1 h2).2⟩,hf,?_,S.e9.less fun b hb hx=>hx.elim id fun e=>absurd (S.k5.2 b hb).2 (by omega)⟩
 ·exact h b (S.ct o b ⟨s,h1,hl⟩ hb).1 (S.fI ⟨s,h1,hl⟩ hb)
 ·rintro(hx|hx)
  ·exact(S.ct o b h1 h2).1 hx
  ·have:=S.fI h1 h2;omega
 ·rintro b (hb|hb)
  ·exact Nat.lt_of_lt_of_le (S.old b hb) hs
  ·exact hb.2
theorem aq.wB(S:aq U Y X F st M w){X':Nat->Prop}{n:Nat}{b5:Site}{nv:Value}(gB:∀b,X' b->X b)
  (dV:(∀af,look st.sites n=some af->af.cy<b5.cy)\/(F n=nv/\∀af,look st.sites n=some af->af.cy=b5.cy/\af.live=false))
  (hb:∀b,bQ nv=some b->X b/\¬X' b/\(b∈Y\/U.heap.size<=b))
  (fG:∀{b0:List (Nat×Site)} {a6:Nat->Value},b0=cw st.sites n b5->a6 n=nv->(∀{a v},ck F st.sites w (aJ X F st.sites) a v->ck a6 b0 w (aJ X' a6 b0) a v)->
   (∀b,aJ X' a6 b0 b->aJ X F st.sites b)->kc a6 b0 w (aJ X' a6 b0) n b5):
  aq U Y X' (fun ab=>if ab=n then nv else F ab) {st with sites:=cw st.sites n b5} M w/\
   (∀b,aJ X' (fun ab=>if ab=n then nv else F ab) (cw st.sites n b5) b->aJ X F st.sites b)/\
   (∀{a v},ck F st.sites w (aJ X F st.sites) a v->ck (fun ab=>if ab=n then nv else F ab) (cw st.sites n b5) w (aJ X' (fun ab=>if ab=n then nv else F ab) (cw st.sites n b5)) a v):=by
 have cP:∀ab,cq (cw st.sites n b5) ab->ab=n\/(ab≠n/\cq st.sites ab):=by
  rintro ab ⟨s,h1,h2⟩;rw[c7] at h1;by_cases e:n=ab
  ·exact .inl e.symm
  ·simp only[e,if_false] at h1;exact .inr ⟨fun h=>e h.symm,s,h1,h2⟩
 have cc:∀b,aJ X' (fun ab=>if ab=n then nv else F ab) (cw st.sites n b5) b->aJ X F st.sites b:=by
  rintro b (h|⟨ab,h1,h2⟩)
  ·exact .inl (gB b h)
  ·rcases cP ab h1 with rfl|⟨h3,aC⟩
   ·simp at h2;exact .inl (hb b h2).1
   ·simp only[h3,if_false] at h2;exact .inr ⟨ab,aC,h2⟩
 have q':∀o af,look st.sites o=some af->∃aN,look (cw st.sites n b5) o=some aN/\af.cy<=aN.cy/\(aN.cy=af.cy->(fun ab=>if ab=n then nv else F ab) o=F o):=by
  intro ab s hs;rw[c7];by_cases e:n=ab
  ·subst e;refine⟨b5,by simp,?_,fun h=>?_⟩
   ·rcases dV with h|⟨_,h⟩
    ·exact Nat.le_of_lt (h s hs)
    ·exact Nat.le_of_eq (h s hs).1
   ·rcases dV with ak|⟨ak,_⟩
    ·have:=ak s hs;omega
    ·simp[ak]
  ·have cI:¬ab=n:=fun h=>e h.symm
   exact⟨s,by simp[e,hs],Nat.le_refl _,fun _=>by simp[cI]⟩
 have G:io F (fun ab=>if ab=n then nv else F ab) st.sites (cw st.sites n b5) w w (aJ X F st.sites) (aJ X' (fun ab=>if ab=n then nv else F ab) (cw st.sites n b5)):=
  ⟨q',fun _ _ _=>rfl,fun b hb _ ak=>hb (cc b ak)⟩
 have hlt:=fun b hb=>S.lt (cc b hb)
 refine⟨⟨S.nt,fun t=>(S.cN t).goes G (Nat.le_refl _) hlt,fun ab s hs=>?_,fun ab ρ b h1 h2 g1 g2=>?_,fun ab b h1 h2=>?_,S.frame,fun b h=>S.old b (gB b h),S.e9.less fun b _=>gB b⟩,cc,fun h=>h.goes G (Nat.le_refl _) hlt⟩
 ·have fP:look (cw st.sites n b5) ab=some s:=hs;rw[c7] at fP;by_cases e:n=ab
  ·subst e;simp only[if_true,Option.some.injEq] at fP;subst fP;exact fG rfl (by simp) (fun h=>h.goes G (Nat.le_refl _) hlt) cc
  ·have cI:¬ab=n:=fun h=>e h.symm
   simp only[e,if_false] at fP;exact(S.sites ab s fP).goes G (Nat.le_refl _) hlt (by simp[cI]) (fun _ _ _=>rfl)
 ·rcases cP ab h1 with rfl|⟨n1,dQ⟩<;>rcases cP ρ h2 with rfl|⟨n2,fy⟩
  ·rfl
  ·simp only[if_true] at g1;simp only[n2,if_false] at g2;exact absurd (hb b g1).1 (S.ct ρ b fy g2).1
  ·simp only[if_true] at g2;simp only[n1,if_false] at g1;exact absurd (hb b g2).1 (S.ct ab b dQ g1).1
  ·simp only[n1,if_false] at g1;simp only[n2,if_false] at g2;exact S.eh ab ρ b dQ fy g1 g2
 ·rcases cP ab h1 with rfl|⟨n1,dQ⟩
  ·simp only[if_true] at h2;exact⟨(hb b h2).2.1,(hb b h2).2.2⟩
  ·simp only[n1,if_false] at h2;exact⟨fun hx=>(S.ct ab b dQ h2).1 (gB b hx),(S.ct ab b dQ h2).2⟩
end
def kB(w:World)(av:Nat->Prop):List (List bh)->List Value->Prop
 |[],[]=>True
 |ds::r,v::vs=>(∃b,∃cs:List Value,v=.pointer (some ⟨b,0,none⟩)/\¬av b/\b<w.heap.size/\ie w b 0 cs/\c5 w av ds cs)/\kB w av r vs
 |_,_=>False
theorem kB.fn{w:World}{av:Nat->Prop}{g:FuncId}:∀{bE:List (List bh)} {vs:List Value},kB w av bE vs->bK w av (.fn g bE) (.func (.func g) #[] vs.toArray):=by
 intro bE vs h;have key:∀{bE:List (List bh)} {vs:List Value},kB w av bE vs->∃nM:List Nat,∃e_:List (List Value),vs=nM.map (fun b=>Value.pointer (some ⟨b,0,none⟩))/\nM.length=bE.length/\e_.length=bE.length/\
   (∀b,b∈nM->¬av b/\b<w.heap.size)/\(∀i (h:i<nM.length) (ak:i<e_.length),ie w nM[i] 0 e_[i])/\(∀i (h:i<bE.length) (ak:i<e_.length),c5 w av bE[i] e_[i]):=by
  intro bE;induction bE with
  |nil=>
   intro vs h;match vs,h with
   |[],_=>exact⟨[],[],rfl,rfl,rfl,fun b h=>by simp at h,fun i h=>by simp at h,fun i h=>by simp at h⟩
  |cons ds bE ih=>
   intro vs h;match vs,h with
   |v::vs,⟨⟨b,cs,h1,h2,h3,aC,bk⟩,ca⟩=>
    obtain⟨nM,e_,aE,aF,bJ,cB,fS,ix⟩:=ih ca;refine⟨b::nM,cs::e_,by simp[h1,aE],by simp[aF],by simp[bJ],fun c hc=>?_,fun i g1 g2=>?_,fun i g1 g2=>?_⟩
    ·rcases List.mem_cons.1 hc with rfl|hc
     ·exact⟨h2,h3⟩
     ·exact cB c hc
    ·cases i with
     |zero=>exact aC
     |succ i=>exact fS i (by simpa using g1) (by simpa using g2)
    ·cases i with
     |zero=>exact bk
     |succ i=>exact ix i (by simpa using g1) (by simpa using g2)
 obtain⟨nM,e_,aE,aF,bJ,cB,fS,ix⟩:=key h;refine .fn g bE nM (fun i=>e_.getD i []) _ (by rw[aE]) aF (fun b hb=>(cB b hb).1) (fun b hb=>(cB b hb).2) (fun i hi=>?_) (fun i hi j u hu=>?_) (fun i hi j h1 h2=>?_)
 ·have ak:i<e_.length:=by omega
  have:=(ix i hi ak).1;simpa[List.getD,ak] using this
 ·have ak:i<e_.length:=by omega
  have:=fS i hi ak j u (by simpa[List.getD,ak] using hu)
  simpa using this
 ·have ak:i<e_.length:=by omega
  have h2':j<e_[i].length:=by simpa[List.getD,ak] using h2
  have:=(ix i hi ak).2 j h1 h2';simpa[List.getD,ak] using this
theorem kB.Wb{w:World}{av:Nat->Prop}{g:FuncId}{bE:List (List bh)}{v:Value}(h:bK w av (.fn g bE) v):∃vs:List Value,v=.func (.func g) #[] vs.toArray/\kB w av bE vs:=by
 cases h with
 |fn _ _ bs jd lb hlb uo hb hlt hl hc hr=>
  refine⟨bs.map fun b=>Value.pointer (some ⟨b,0,none⟩),by rw[hlb],?_⟩
  have key:∀(bE:List (List bh)) (bs:List Nat) (jd:Nat->List Value),bs.length=bE.length->(∀b,b∈bs->¬av b/\b<w.heap.size)->(∀i (h:i<bE.length),(jd i).length=(bE[i]).length)->
    (∀i (h:i<bs.length) j u,(jd i)[j]? =some u->w.cell? ⟨bs[i],j,none⟩=some u)->(∀i (h:i<bE.length) j (h1:j<(bE[i]).length) (h2:j<(jd i).length),bK w av ((bE[i])[j]) ((jd i)[j]))->
    kB w av bE (bs.map fun b=>Value.pointer (some ⟨b,0,none⟩)):=by
   intro bE;induction bE with
   |nil=>intro bs jd h _ _ _ _;rw[List.eq_nil_of_length_eq_zero h];trivial
   |cons ds bE ih=>
    intro bs jd h h1 h2 h3 aC;match bs,h with
    |b::bs,h=>
     refine⟨⟨b,jd 0,rfl,(h1 b List.mem_cons_self).1,(h1 b List.mem_cons_self).2,fun j u hu=>?_,h2 0 (by simp),fun j g1 g2=>aC 0 (by simp) j g1 g2⟩,?_⟩
     ·have:=h3 0 (by simp) j u hu
      simpa using this
     ·exact ih bs (fun i=>jd (i+1)) (by simpa using h) (fun c hc=>h1 c (List.mem_cons_of_mem _ hc)) (fun i hi=>h2 (i+1) (by simpa using hi)) (fun i hi j u hu=>h3 (i+1) (by simpa using hi) j u hu)
       (fun i hi j g1 g2=>aC (i+1) (by simpa using hi) j g1 g2)
  exact key bE bs jd uo (fun b h=>⟨hb b h,hlt b h⟩) hl hc hr
section
variable {U:World}{Y:List Nat}{X:Nat->Prop}{F:Nat->Value}{st:al}{M:Array Value}{w:World}
structure fD(U:World)(Y:List Nat)(X:Nat->Prop)(F:Nat->Value)(st:al)(M:Array Value)(w:World)(dn:List (Nat×Site))(e5:List Nat)(av:Nat->Prop):Prop where
 fz:la U Y X F st M w dn
 le:∀b,av b->aJ X F (bu st.sites dn) b
 aAy:∀o,o∈e5->∀b,bQ (F o)=some b->¬av b
variable {dn:List (Nat×Site)}{e5:List Nat}{av:Nat->Prop}
theorem fD.lt(L:fD U Y X F st M w dn e5 av){b:Nat}(h:av b):b<w.heap.size:=L.fz.new.lt (L.le b h)
theorem fD.sub(L:fD U Y X F st M w dn e5 av){b:Nat}(h:av b):aJ X F st.sites b:=by
 rcases L.le b h with h|⟨o,⟨af,h1,h2⟩,h3⟩
 ·exact .inl h
 ·refine .inr ⟨o,?_,h3⟩;rcases lZ L.fz.fz o with h|⟨s,t,xs,aC,bk⟩
  ·exact⟨af,h▸h1,h2⟩
  ·rw[bk] at h1;cases h1;cases h2
theorem fD.rd(L:fD U Y X F st M w dn e5 av){d:bh}{v:Value}(h:bK w (aJ X F (bu st.sites dn)) d v):bK w av d v:=
 ck.hd (F:=F) (sites:=[]) (a:=one d) (v:=v) L.le (fun b hb=>L.lt hb) h
theorem fD.xe(L:fD U Y X F st M w dn e5 av){d:bh}{v:Value}(h:bK w (aJ X F st.sites) d v):bK w av d v:=
 ck.hd (F:=F) (sites:=[]) (a:=one d) (v:=v) (fun b hb=>L.sub hb) (fun b hb=>L.lt hb) h
theorem QQ(L:fD U Y X F st M w dn e5 av):∀{bE:List (Nat×Nat)} {cs:List (List bh)} {us:List (Nat×Site)} {bs:List Nat} {vs:List Value},lp st bE=some (cs,us,bs)->
  (∀p,p∈us->p∈dn)->(∀o,o∈bs->o∈e5)->vs.length=bE.length->(∀i (h:i<bE.length) (ak:i<vs.length),Ref st.sites (bE[i]).1 (bE[i]).2 (vs[i]=F (bE[i]).1))->kB w av cs vs:=by
 intro bE;induction bE with
 |nil=>
  intro cs us bs vs h _ _ hl _;simp only[lp] at h;cases h;rw[List.eq_nil_of_length_eq_zero hl];trivial
 |cons c bE ih=>
  obtain⟨o,s⟩:=c;intro cs us bs vs h ho ez hl hr;simp only[lp] at h;split at h
  ·rename_i cells ml;split at h
   ·rename_i ds u1 rest u2 b2 gL pu;cases h;match vs,hl with
    |v::vs,hl=>
     have jR:=gP ml;obtain⟨b,T,cur,h1,h2,h3,aC,_,bk⟩:=L.fz.old.sites o _ jR;have hv:v=F o:=Ref.at (hr 0 (by simp) (by simp)) jR rfl
     have dW:=Bm gL ⟨h3,bk⟩ L.fz (fun p hp=>ho p (List.mem_append.2 (.inl hp)))
     refine⟨⟨b,cur,by rw[hv,h1],L.aAy o (ez o List.mem_cons_self) b (by rw[h1];rfl),L.fz.old.fI ⟨_,jR,rfl⟩ (by rw[h1];rfl),.row h2,dW.1,fun j g1 g2=>L.rd (dW.2 j g1 g2)⟩,?_⟩
     exact ih pu (fun p hp=>ho p (List.mem_append.2 (.inr hp))) (fun ab bW=>ez ab (List.mem_cons_of_mem _ bW)) (by simpa using hl) (fun i g1 g2=>hr (i+1) (by simpa using g1) (by simpa using g2))
   ·cases h
  ·cases h
theorem H9(L:fD U Y X F st M w dn e5 av){l gA:aR}{us:List (Nat×Site)}{bs:List Nat}{v:Value}(h:nj st l=some (gA,us,bs))(ho:∀p,p∈us->p∈dn)(ez:∀o,o∈bs->o∈e5)
  (hv:eb F st.sites w (aJ X F st.sites) l v):ng w av gA v []:=by
 unfold nj at h;split at h
 ·rename_i cells;cases h;obtain⟨b,D,h1,h2,h3,cs,aC,bk,ca⟩:=hv;exact⟨rfl,b,D,h1,fun hx=>h2 (L.sub hx),h3,cs,aC,bk,fun j g1 g2=>L.xe (ca j g1 g2)⟩
 ·rename_i g c cs;split at h
  ·rename_i ds u b hc;cases h;obtain⟨vs,h1,h2,h3⟩:=hv;rw[h1];exact⟨rfl,(QQ L hc ho ez h2 h3).fn⟩
  ·cases h
 ·split at h
  ·rename_i d u aa;cases h;exact⟨rfl,L.rd (Vx aa hv L.fz ho)⟩
  ·cases h
theorem akF(L:fD U Y X F st M w dn e5 av):∀{ai gw:List aR} {us:List (Nat×Site)} {bs:List Nat} {vs:List Value},ma st ai=some (gw,us,bs)->(∀p,p∈us->p∈dn)->(∀o,o∈bs->o∈e5)->
  cA F st.sites w (aJ X F st.sites) ai vs->lB w av gw vs []:=by
 intro ai;induction ai with
 |nil=>intro gw us bs vs h _ _ hv;simp only[ma] at h;cases h;rw[hv.n7];rfl
 |cons l ai ih=>
  intro gw us bs vs h ho ez hv;simp only[ma] at h;split at h
  ·rename_i a u1 b1 as u2 b2 h1 h2;cases h;obtain⟨v,cv,rfl,pO,nz⟩:=hv.inv;exact⟨[],[],rfl,H9 L h1 (fun p hp=>ho p (List.mem_append.2 (.inl hp))) (fun p hp=>ez p (List.mem_append.2 (.inl hp))) pO,
    ih h2 (fun p hp=>ho p (List.mem_append.2 (.inr hp))) (fun p hp=>ez p (List.mem_append.2 (.inr hp))) nz⟩
  ·cases h
def dj(F:Nat->Value)(gh:List Nat):List Nat:=gh.filterMap fun o=>bQ (F o)
theorem j7{aH:Type}(a b:List (Nat×aH)):keys (a++b)=keys a++keys b:=by
 induction a with
 |nil=>rfl
 |cons p a ih=>simp[keys,ih]
theorem oW(a b:List Nat):dj F (a++b)=dj F a++dj F b:=by simp[dj]
def gY(sites:List (Nat×Site))(us:List (Nat×Site)):Prop:=∀o aN,(o,aN)∈us->∃af,look sites o=some af/\af.live=true/\aN=.dead af.cy
theorem gY.nil{sites:List (Nat×Site)}:gY sites []:=fun _ _ h=>by simp at h
theorem gY.append{sites us vs:List (Nat×Site)}(h:gY sites us)(ak:gY sites vs):gY sites (us++vs):=by
 intro o s hm;rcases List.mem_append.1 hm with hm|hm
 ·exact h o s hm
 ·exact ak o s hm
theorem amM(L:fD U Y X F st M w dn e5 av){o s:Nat}{t:bf}{xs:List (den t)}(hl:look st.sites o=some (.row s t xs)):
  ∃e,∃cs:List Value,rowAt w t.jZ e (bd t) (F o) xs.length cs/\c5 w av (flat t xs) cs:=by
 obtain⟨e,cs,h1,h2⟩:=L.fz.old.sites o _ hl;refine⟨e,cs,h1,by rw[e7];exact h1.1,fun j g1 g2=>L.xe (h2 j g1 g2)⟩
theorem zD(L:fD U Y X F st M w dn e5 av){l gA:aR}{us:List (Nat×Site)}{v:Value}(h:og st l=some (gA,us))(hv:eb F st.sites w (aJ X F st.sites) l v):
  ng w av gA v (dj F (keys us))/\gY st.sites us:=by
 unfold og at h;split at h
 ·cases h;exact⟨⟨rfl,L.xe hv⟩,.nil⟩
 ·rename_i t;cases h;have hv:v=.slice none 0 0:=hv;subst hv;exact⟨⟨rfl,0,[],⟨by simp,.inl ⟨rfl,rfl⟩⟩,rfl,fun j g=>by simp[flat] at g⟩,.nil⟩
 ·rename_i o s;split at h
  ·rename_i aN t xs hl;cases hb:aN.beq s with
   |false=>simp[hb] at h
   |true=>
    simp only[hb,cond_true,Option.some.injEq,Prod.mk.injEq] at h;obtain⟨rfl,rfl⟩:=h;have hs:=Nat.eq_of_beq_eq_true hb;subst hs;have hl:look st.sites o=some (.row aN t xs):=hl;have nB:v=F o:=Ref.at hv.2 hl rfl;obtain⟨e,cs,h1,h2⟩:=amM L hl;refine⟨⟨?_,e,cs,by rw[nB];exact h1,h2⟩,fun ab aB0 hm=>?_⟩
    ·simp only[keys,dj,List.filterMap_cons,List.filterMap_nil,nB];cases bQ (F o)<;>rfl
    ·simp only[List.mem_singleton,Prod.mk.injEq] at hm;obtain⟨rfl,rfl⟩:=hm;exact⟨_,hl,rfl,rfl⟩
  ·rename_i aN t xs hl;cases hb:aN.beq s with
   |false=>simp[hb] at h
   |true=>
    simp only[hb,cond_true,Option.some.injEq,Prod.mk.injEq] at h;obtain⟨rfl,rfl⟩:=h;have hs:=Nat.eq_of_beq_eq_true hb;subst hs;have hl:look st.sites o=some (.dp aN t xs):=hl;have nB:v=F o:=Ref.at hv.2 hl rfl;refine⟨⟨rfl,?_⟩,.nil⟩;rw[nB];exact L.xe (L.fz.old.sites o _ hl).1
  ·cases h
 ·cases h;exact⟨⟨rfl,trivial⟩,.nil⟩
 ·cases h;exact⟨⟨rfl,hv⟩,.nil⟩
 ·cases h
theorem QG{ai gw:List aR}{us:List (Nat×Site)}(h:kL st ai=some (gw,us))(bL:gw.head?=some .dx):ai.head?=some .dx:=by
 cases ai with
 |nil=>simp only[kL] at h;cases h;cases bL
 |cons l ai=>
  simp only[kL] at h;split at h
  ·rename_i a u1 as u2 h1 h2;cases h;simp only[List.head?_cons,Option.some.injEq] at bL ⊢;subst bL;unfold og at h1;split at h1<;>try(cases h1;done)
   ·split at h1;all_goals first|cases h1;done|skip
    all_goals
     rename_i aN t xs _;revert h1
     generalize aN.beq _=q;intro h1;cases q<;>cases h1
   ·rfl
  ·cases h
theorem IG(L:fD U Y X F st M w dn e5 av):∀{ai gw:List aR} {us:List (Nat×Site)} {vs:List Value},kL st ai=some (gw,us)->cA F st.sites w (aJ X F st.sites) ai vs->
  lB w av gw vs (dj F (keys us))/\gY st.sites us:=by
 intro ai;induction ai with
 |nil=>intro gw us vs h hv;simp only[kL] at h;cases h;rw[hv.n7];exact⟨rfl,.nil⟩
 |cons l ai ih=>
  intro gw us vs h hv;simp only[kL] at h;split at h
  ·rename_i a u1 as u2 h1 h2;cases h;obtain⟨v,cv,rfl,pO,nz⟩:=hv.inv;obtain⟨aE,aF⟩:=zD L h1 pO;obtain⟨bJ,cB⟩:=ih h2 nz;exact⟨⟨_,_,by rw[j7,oW],aE,bJ⟩,aF.append cB⟩
  ·cases h
theorem ji.append{as oK:List Arg}{vs cv:List Value}{bs oJ:List Nat}(h:ji w av as vs bs)(ak:ji w av oK cv oJ):ji w av (as++oK) (vs++cv) (bs++oJ):=by
 induction as generalizing vs bs with
 |nil=>
  match vs,h with
  |[],h=>have h:bs=[]:=h;subst h;exact ak
 |cons a as ih=>
  match vs,h with
  |v::vs,⟨b1,b2,h1,h2,h3⟩=>exact⟨b1,b2++oJ,by rw[h1,List.append_assoc],h2,ih h3⟩
theorem ahd{cs:List (List bh)}{vs:List Value}(h:kB w av cs vs):ji w av (n9 cs) vs []:=by
 induction cs generalizing vs with
 |nil=>
  match vs,h with
  |[],_=>rfl
 |cons ds cs ih=>
  match vs,h with
  |v::vs,⟨⟨b,cur,h1,h2,h3,aC,bk⟩,ca⟩=>
   refine⟨[],[],rfl,⟨rfl,b,0,by rw[h1],h2,h3,cur,by rw[bk.1],fun j u hu=>aC j u hu,bk.2⟩,ih ca⟩
theorem Oo{as oK:List Arg}{vs cv:List Value}(hl:as.length=vs.length):d_ (as++oK) (vs++cv)=d_ as vs++d_ oK cv:=by
 induction as generalizing vs with
 |nil=>rw[List.eq_nil_of_length_eq_zero hl.symm];rfl
 |cons a as ih=>
  match vs,hl with
  |v::vs,hl=>
   have:=ih (vs:=vs) (by simpa using hl)
   cases a with
   |av a=>cases v<;>simp[d_,this]
   |fs c=>
    cases v<;>try(simp[d_,this];done)
    rename_i p;cases p<;>simp[d_,this]
theorem ahf(cs:List (List bh))(vs:List Value):d_ (n9 cs) vs=[]:=by
 induction cs generalizing vs with
 |nil=>cases vs<;>rfl
 |cons c cs ih=>cases vs<;>simp[n9,d_,ih]
theorem ji.length{as:List Arg}{vs:List Value}{bs:List Nat}(h:ji w av as vs bs):as.length=vs.length:=by
 induction as generalizing vs bs with
 |nil=>
  match vs,h with
  |[],_=>rfl
 |cons a as ih=>
  match vs,h with
  |v::vs,⟨_,_,_,_,h⟩=>simp[ih h]
theorem aiz(L:fD U Y X F st M w dn e5 av):∀{cF:List a8} {a:km} {vs:List Value},jl st cF=some a->cF.length=vs.length->
  (∀i (h:i<cF.length) (ak:i<vs.length),ck F st.sites w (aJ X F st.sites) (cF[i]) (vs[i]))->(∀p,p∈a.eU->p∈dn)->(∀o,o∈a.fW->o∈e5)->
  ji w av a.as vs (dj F (keys a.gone))/\gY st.sites a.gone/\d_ a.as vs=dj F (keys a.boxes)/\(∀o s,(o,s)∈a.boxes->(o,.dead s)∈a.gone/\∃b,F o=.pointer (some ⟨b,0,none⟩)):=by
 intro cF;induction cF with
 |nil=>
  intro a vs h hl _ _ _;simp only[jl] at h;cases h;rw[List.eq_nil_of_length_eq_zero hl.symm];exact⟨rfl,.nil,rfl,fun o s hm=>by simp at hm⟩
 |cons rU cF ih=>
  intro a vs h hl hv ho ez;match vs,hl with
  |v::vs,hl=>
   have nA:=hv 0 (by simp) (by simp)
   have hvs:∀i (h:i<cF.length) (ak:i<vs.length),ck F st.sites w (aJ X F st.sites) (cF[i]) (vs[i]):=fun i g1 g2=>hv (i+1) (by simpa using g1) (by simpa using g2)
   have gx:cF.length=vs.length:=by simpa using hl
   simp only[List.getElem_cons_zero] at nA;unfold jl at h;split at h
   ·cases ‹rU::cF=[]›
   ·rename_i o s cv b8;cases b8;split at h
    ·rename_i cells r ml hr;split at h
     ·rename_i cs gone hg;cases h;obtain⟨aE,aF,bJ,cB⟩:=ih hr gx hvs ho ez;have jR:=gP ml;obtain⟨b,T,cur,e1,e2,bC,dy,fT⟩:=L.fz.old.box jR nA;have KL:nf cells T cur b:=by
       obtain⟨b2,eC,Zz,q1,q2,_,_,dF,_⟩:=L.fz.old.sites o _ jR;rw[e1] at q1;cases q1;rw[bC] at q2;cases q2;exact dF
      obtain⟨g1,g2⟩:=IG L hg fT;subst e2;refine⟨⟨b::dj F (keys gone),_,?_,⟨b,rfl,T,cur,_,rfl,bC,dy,fun bL=>KL (QG hg bL),g1⟩,aE⟩,?_,?_,?_⟩
      ·show dj F (keys (((o,Site.dead s)::gone)++r.gone))=_;rw[j7,oW];congr 1
       simp[keys,dj,e1,bQ]
      ·refine gY.append ?_ aF;intro ab aN hm;rcases List.mem_cons.1 hm with hm|hm
       ·cases hm;exact⟨_,jR,rfl,rfl⟩
       ·exact g2 ab aN hm
      ·simp[d_,bJ,keys,dj,e1,bQ]
      ·intro ab aN hm;rcases List.mem_cons.1 hm with hm|hm
       ·cases hm;exact⟨by simp,b,e1⟩
       ·obtain⟨q1,q2⟩:=cB ab aN hm;exact⟨List.mem_append.2 (.inr q1),q2⟩
     ·cases h
    ·cases h
   ·rename_i l cv _ b8;cases b8;split at h
    ·rename_i gA us bs r h1 hr;cases h;obtain⟨aE,aF,bJ,cB⟩:=ih hr gx hvs (fun p hp=>ho p (List.mem_append.2 (.inr hp))) (fun p hp=>ez p (List.mem_append.2 (.inr hp)))
     have:=H9 L h1 (fun p hp=>ho p (List.mem_append.2 (.inl hp))) (fun p hp=>ez p (List.mem_append.2 (.inl hp))) nA
     refine⟨⟨[],_,rfl,this,aE⟩,aF,?_,cB⟩;cases v<;>simp[d_,bJ]
    ·cases h
   ·rename_i ai cv b8;cases b8;split at h
    ·rename_i gw us bs r h1 hr;cases h;obtain⟨aE,aF,bJ,cB⟩:=ih hr gx hvs (fun p hp=>ho p (List.mem_append.2 (.inr hp))) (fun p hp=>ez p (List.mem_append.2 (.inr hp)))
     obtain⟨nq,e1,e2,bC⟩:=nA;have:=akF L h1 (fun p hp=>ho p (List.mem_append.2 (.inl hp))) (fun p hp=>ez p (List.mem_append.2 (.inl hp))) ⟨e2,bC⟩
     refine⟨⟨[],_,rfl,⟨nq,e1,this⟩,aE⟩,aF,?_,cB⟩;cases v<;>simp[d_,bJ]
    ·cases h
   ·cases h
theorem aiR(L:fD U Y X F st M w dn e5 av){l gA:aR}{gs us:List (Nat×Site)}{bs:List Nat}{v:Value}(h:pi st l=some (gA,gs,us,bs))(ho:∀p,p∈us->p∈dn)(ez:∀o,o∈bs->o∈e5)
  (hv:eb F st.sites w (aJ X F st.sites) l v):ng w av gA v (dj F (keys gs))/\gY st.sites gs:=by
 unfold pi at h;split at h
 ·split at h
  ·rename_i hg;cases h;exact zD L hg hv
  ·cases h
 ·cases h;exact zD (l:=.nil _) (us:=[]) L rfl hv
 ·split at h
  ·rename_i hl;cases h;exact⟨H9 L hl ho ez hv,.nil⟩
  ·cases h
theorem agV(L:fD U Y X F st M w dn e5 av):∀{cF:List a8} {a:km} {vs:List Value},l6 st cF=some a->cF.length=vs.length->
  (∀i (h:i<cF.length) (ak:i<vs.length),ck F st.sites w (aJ X F st.sites) (cF[i]) (vs[i]))->(∀p,p∈a.eU->p∈dn)->(∀o,o∈a.fW->o∈e5)->
  ji w av a.as vs (dj F (keys a.gone))/\gY st.sites a.gone/\d_ a.as vs=dj F (keys a.boxes)/\(∀o s,(o,s)∈a.boxes->(o,.dead s)∈a.gone/\∃b,F o=.pointer (some ⟨b,0,none⟩)):=by
 intro cF;induction cF with
 |nil=>
  intro a vs h hl _ _ _;simp only[l6] at h;cases h;rw[List.eq_nil_of_length_eq_zero hl.symm];exact⟨rfl,.nil,rfl,fun o s hm=>by simp at hm⟩
 |cons rU cF ih=>
  intro a vs h hl hv ho ez;match vs,hl with
  |v::vs,hl=>
   have nA:=hv 0 (by simp) (by simp)
   have hvs:∀i (h:i<cF.length) (ak:i<vs.length),ck F st.sites w (aJ X F st.sites) (cF[i]) (vs[i]):=fun i g1 g2=>hv (i+1) (by simpa using g1) (by simpa using g2)
   have gx:cF.length=vs.length:=by simpa using hl
   simp only[List.getElem_cons_zero] at nA;unfold l6 at h;split at h
   ·cases ‹rU::cF=[]›
   ·rename_i l cv b8;cases b8;split at h
    ·rename_i gA gs us bs r h1 hr;cases h;obtain⟨aE,aF,bJ,cB⟩:=ih hr gx hvs (fun p hp=>ho p (List.mem_append.2 (.inr hp))) (fun p hp=>ez p (List.mem_append.2 (.inr hp)))
     obtain⟨g1,g2⟩:=aiR L h1 (fun p hp=>ho p (List.mem_append.2 (.inl hp))) (fun p hp=>ez p (List.mem_append.2 (.inl hp))) nA
     refine⟨⟨_,_,by rw[j7,oW],g1,aE⟩,g2.append aF,?_,fun ab aN hm=>?_⟩
     ·cases v<;>simp[d_,bJ]
     ·obtain⟨q1,q2⟩:=cB ab aN hm;exact⟨List.mem_append.2 (.inr q1),q2⟩
    ·cases h
   ·cases h
theorem Ph{b:Bool}(L:fD U Y X F st M w dn e5 av){cF:List a8}{a:km}{vs:List Value}(h:sI b st cF=some a)(hl:cF.length=vs.length)
  (hv:∀i (h:i<cF.length) (ak:i<vs.length),ck F st.sites w (aJ X F st.sites) (cF[i]) (vs[i])) (h1:∀p,p∈a.eU->p∈dn) (h2:∀o,o∈a.fW->o∈e5):
  ji w av a.as vs (dj F (keys a.gone))/\gY st.sites a.gone/\d_ a.as vs=dj F (keys a.boxes)/\(∀o s,(o,s)∈a.boxes->(o,.dead s)∈a.gone/\∃b,F o=.pointer (some ⟨b,0,none⟩)):=by
 cases b
 ·exact aiz L h hl hv h1 h2
 ·exact agV L h hl hv h1 h2
end
end Go.Jk
