/- FnDiskTear: writing a root is atomic. (part 1 of 7: JkCore, JkGlob, JkState, JkExec, JkFoot, JkCode, JkTurn, JkOps1, JkOps2, JkOps3, JkOps4, JkOps5, JkOps6, JkOps7, JkOps8, JkOps9, JkOps10, JkOps11, JkOps12, JkOps13, JkOps14, JkOps15, JkOps16, JkOps17,) Conditions: none beyond the statement. -/
import Derived.Calls
import Derived.Below
import Derived.WalkKit
import Derived.Laws.AppendOwn
import Derived.Great.BuildSlice
import Derived.IntWalk
import Derived.Laws.Tables
import Derived.MapKept
import Derived.Laws.BytesArg
import Derived.Lib.ConvBytes
set_option linter.unusedSimpArgs false
set_option linter.unusedVariables false
namespace Go.Jk
abbrev B:=List UInt8
structure aw where
 path:B
 kind:Int
 mode:Int
 text:B
structure bx where
 name:B
 kind:Int
 aW:B
structure aG where
 name:B
 aW:B
 bi:List bx
 bB:List aw
structure av1 where
 name:B
 text:B
structure adV where
 name:B
 text:B
structure Source where
 name:B
 sum:B
structure Piece where
 name:B
 fa:B
structure apy where
 name:B
 aW:B
 lets:List adV
 builds:List bx
 runs:List bx
 sources:List Source
 pieces:List Piece
 steps:List B
structure avp where
 at_:Int
 lines:List B
inductive bf where
 |i64|u8|u32|bool|str|entry|need|pack|file|lt|source|piece|recipe|hunk|tJ
 deriving DecidableEq
@[reducible] def den:bf->Type
 |.i64|.u8|.u32=>Int
 |.bool=>Bool
 |.str=>B
 |.entry=>aw
 |.need=>bx
 |.pack=>aG
 |.file=>av1
 |.lt=>adV
 |.source=>Source
 |.piece=>Piece
 |.recipe=>apy
 |.hunk=>avp
 |.tJ=>List Bool
inductive bh:Type where
 |int (k:IntKind) (n:Int)
 |bool (b:Bool)
 |str (s:B)
 |sl (t:bf) (xs:List (den t))
 |fn (g:FuncId) (bE:List (List bh))
 |map (t:bf) (es:List (B×den t))
 |err (T:Nat) (D:Option Int)
def enc:(t:bf)->den t->List bh
 |.i64,n=>[.int .i64 n]
 |.u8,n=>[.int .u8 n]
 |.u32,n=>[.int .u32 n]
 |.bool,b=>[.bool b]
 |.str,s=>[.str s]
 |.entry,e=>[.str e.path,.int .i64 e.kind,.int .i64 e.mode,.str e.text]
 |.need,n=>[.str n.name,.int .i64 n.kind,.str n.aW]
 |.pack,p=>[.str p.name,.str p.aW,.sl .need p.bi,.sl .entry p.bB]
 |.file,f=>[.str f.name,.str f.text]
 |.lt,f=>[.str f.name,.str f.text]
 |.source,f=>[.str f.name,.str f.sum]
 |.piece,f=>[.str f.name,.str f.fa]
 |.recipe,r=>[.str r.name,.str r.aW,.sl .lt r.lets,.sl .need r.builds,.sl .need r.runs,.sl .source r.sources,.sl .piece r.pieces,.sl .str r.steps]
 |.hunk,h=>[.int .i64 h.at_,.sl .str h.lines]
 |.tJ,b=>[.sl .bool b]
def bd:bf->Nat
 |.i64|.u8|.u32|.bool|.str|.tJ=>1
 |.entry=>4
 |.need=>3
 |.pack=>4
 |.file|.lt|.source|.piece|.hunk=>2
 |.recipe=>8
def dec:(t:bf)->List bh->Option (den t)
 |.i64,[.int .i64 n]=>some n
 |.u8,[.int .u8 n]=>some n
 |.u32,[.int .u32 n]=>some n
 |.bool,[.bool b]=>some b
 |.str,[.str s]=>some s
 |.entry,[.str a,.int .i64 k,.int .i64 m,.str b]=>some ⟨a,k,m,b⟩
 |.need,[.str a,.int .i64 k,.str b]=>some ⟨a,k,b⟩
 |.pack,[.str a,.str b,.sl .need ns,.sl .entry es]=>some ⟨a,b,ns,es⟩
 |.file,[.str a,.str b]=>some ⟨a,b⟩
 |.lt,[.str a,.str b]=>some ⟨a,b⟩
 |.source,[.str a,.str b]=>some ⟨a,b⟩
 |.piece,[.str a,.str b]=>some ⟨a,b⟩
 |.recipe,[.str a,.str b,.sl .lt ai,.sl .need bs,.sl .need la,.sl .source bc,.sl .piece ps,.sl .str ch]=>some ⟨a,b,ai,bs,la,bc,ps,ch⟩
 |.hunk,[.int .i64 n,.sl .str ai]=>some ⟨n,ai⟩
 |.tJ,[.sl .bool b]=>some b
 |_,_=>none
theorem jj:∀(t:bf) (x:den t),(enc t x).length=bd t:=by
 intro t x;cases t<;>rfl
theorem mc(t:bf):0<bd t:=by cases t<;>decide
theorem Bw:∀(t:bf) (ds:List bh) (x:den t),dec t ds=some x->enc t x=ds:=by
 intro t ds x h;unfold dec at h;split at h<;>first|(cases h;rfl)|cases h
def flat(t:bf)(xs:List (den t)):List bh:=xs.flatMap (enc t)
theorem e9(t:bf)(xs:List (den t)):(flat t xs).length=xs.length*bd t:=by
 unfold flat;induction xs with
 |nil=>simp
 |cons x xs ih=>simp[List.flatMap_cons,jj,ih,Nat.add_mul,Nat.add_comm]
theorem ss(t:bf)(xs bj:List (den t)):flat t (xs++bj)=flat t xs++flat t bj:=by
 simp[flat,List.flatMap_append]
theorem flat_get(t:bf)(xs:List (den t))(i j:Nat)(x:den t)(hx:xs[i]? =some x)(hj:j<bd t):
  (flat t xs)[i*bd t+j]? =(enc t x)[j]? :=by
 induction xs generalizing i with
 |nil=>simp at hx
 |cons y bj ih=>
  cases i with
  |zero=>
   simp only[List.getElem?_cons_zero,Option.some.injEq] at hx;subst hx;simp only[Nat.zero_mul,Nat.zero_add,flat,List.flatMap_cons];rw[List.getElem?_append_left (by rw[jj];exact hj)]
  |succ i=>
   simp only[List.getElem?_cons_succ] at hx;have:=ih i hx;simp only[flat,List.flatMap_cons] at this ⊢;rw[List.getElem?_append_right (by rw[jj,Nat.add_mul];omega),jj]
   rw[<-this];congr 1
   rw[Nat.add_mul];omega
theorem alg(t:bf)(xs:List (den t))(i:Nat)(x:den t):
  flat t (xs.set i x)=(flat t xs).take (i*bd t)++(if i<xs.length then enc t x else [])++(flat t xs).drop ((i+1)*bd t):=by
 induction xs generalizing i with
 |nil=>simp[flat]
 |cons y bj ih=>
  cases i with
  |zero=>
   simp only[List.set_cons_zero,flat,List.flatMap_cons,Nat.zero_mul,List.take_zero,List.nil_append,List.length_cons,Nat.zero_lt_succ,if_true,Nat.zero_add,Nat.one_mul];rw[List.drop_append_of_le_length (by rw[jj];omega)]
   rw[show List.drop (bd t) (enc t y)=[] from List.drop_eq_nil_of_le (by rw[jj];exact Nat.le_refl _)]
   rfl
  |succ i=>
   have h:=ih i;simp only[flat] at h;simp only[List.set_cons_succ,flat,List.flatMap_cons,List.length_cons];rw[h];have e1:List.take ((i+1)*bd t) (enc t y++bj.flatMap (enc t))=enc t y++(bj.flatMap (enc t)).take (i*bd t):=by
    rw[List.take_append,List.take_of_length_le (by rw[jj,Nat.add_mul];omega),jj]
    congr 2
    rw[Nat.add_mul];omega
   have e2:List.drop ((i+1+1)*bd t) (enc t y++bj.flatMap (enc t))=(bj.flatMap (enc t)).drop ((i+1)*bd t):=by
    rw[List.drop_append,List.drop_eq_nil_of_le (by rw[jj,Nat.add_mul,Nat.add_mul];omega),jj,List.nil_append]
    congr 1
    rw[Nat.add_mul (i+1) 1];omega
   rw[e1,e2];simp only[Nat.add_lt_add_iff_right,List.append_assoc]
def iJ:List Int:=[1116352408,1899447441,3049323471,3921009573,961987163,1508970993,2453635748,2870763221,3624381080,310598401,607225278,1426881987,1925078388,2162078206,2614888103,3248222580,3835390401,4022224774,264347078,604807628,770255983,1249150122,1555081692,1996064986,2554220882,2821834349,2952996808,3210313671,3336571891,3584528711,113926993,338241895,666307205,773529912,1294757372,1396182291,1695183700,1986661051,2177026350,2456956037,2730485921,2820302411,3259730800,3345764771,3516065817,3600352804,4094571909,275423344,430227734,506948616,659060556,883997877,958139571,1322822218,1537002063,1747873779,1955562222,2024104815,2227730452,2361852424,2428436474,2756734187,3204031479,3329325298]
def Xk:List Int:=(List.range 20).map fun i=>((10^i:Nat):Int)
def ov(w:World)(g:Nat)(k:IntKind)(zs:List Int):Prop:=∃T fz,w.heap[g]? =some (.cells (zs.map fun z=>Value.int k z).toArray T fz)
def rS:TypeId:=91
def mN:TypeId:=5
def k4:List Nat:=[0,1]
def nM(w:World):Prop:=ov w 0 .u32 iJ/\ov w 1 .u64 Xk
theorem aq6{w w':World}(h:∀b,b∈k4->w'.heap[b]? =w.heap[b]?)(k:nM w):nM w':=by
 obtain⟨⟨N6,f0,h0⟩,⟨dh,f1,h1⟩⟩:=k;exact⟨⟨N6,f0,(h 0 (by simp[k4])).trans h0⟩,⟨dh,f1,(h 1 (by simp[k4])).trans h1⟩⟩
theorem ov.lt{w:World}{g:Nat}{k:IntKind}{zs:List Int}(h:ov w g k zs):g<w.heap.size:=by
 obtain⟨T,f,h⟩:=h;exact(Array.getElem?_eq_some_iff.1 h).1
theorem ayA{w:World}(k:nM w)(b:Nat)(h:b∈k4):b<w.heap.size:=by
 simp only[k4,List.mem_cons,List.not_mem_nil,or_false] at h;rcases h with rfl|rfl
 ·exact k.1.lt
 ·exact k.2.lt
inductive aQ:Type where
 |d (v:bh)
 |nil (t:bf) -- uf nil slice
 |own (o s:Nat) -- uf whole of a row of CJ own
 |ptr (o s off:Nat) -- a pointer aBQ a box of CJ own
 |eE (cells:List bh) (off:Nat) -- a pointer adA cells C9 acB only read
 |e5 (o s:Nat) (t:bf) (k off:Nat) -- a pointer adA aBq k of a row of CJ own,axi cell 'pK
 |clo (g:FuncId) (bE:List (Nat×Nat)) -- a closure over boxes of CJ own
 |cW (v:Value) -- aBP this value
 |fresh (t:bf) (xs:List (den t)) -- a row C9 aBw else holds (anK caller and callee alone)
 |dz -- in a ard first cell:nil,or uf ard own address (strings.aBs)
 |any
inductive bS:Type where
 |am (l:aQ)
 |agg (ai:List aQ)
inductive a7:Type where
 |av (a:bS)
 |j3 (as:List bS)
inductive Site:Type where
 |box (s:Nat) (cells:List aQ)
 |row (s:Nat) (t:bf) (xs:List (den t))
 |dq (s:Nat) (t:bf) (xs:List (den t))
 |map (s:Nat) (t:bf) (es:List (B×den t))
 |dead (s:Nat)
def Site.cy:Site->Nat
 |.box s _|.row s _ _|.dq s _ _|.map s _ _|.dead s=>s
def Site.live:Site->Bool
 |.box _ _|.row _ _ _|.map _ _ _=>true
 |_=>false
def look{aJ:Type}:List (Nat×aJ)->Nat->Option aJ
 |[],_=>none
 |(k,v)::r,n=>bif k.beq n then some v else look r n
def cw{aJ:Type}:List (Nat×aJ)->Nat->aJ->List (Nat×aJ)
 |[],n,v=>[(n,v)]
 |(k,w)::r,n,v=>bif k.beq n then(k,v)::r else(k,w)::cw r n v
theorem j1{a b:Nat}(h:¬a=b):a.beq b=false:=by
 cases e:a.beq b
 ·rfl
 ·exact absurd (Nat.eq_of_beq_eq_true e) h
theorem c9{aJ:Type}(l:List (Nat×aJ))(n m:Nat)(v:aJ):look (cw l n v) m=if n=m then some v else look l m:=by
 induction l with
 |nil=>
  simp only[cw,look];by_cases h:n=m
  ·subst h;simp
  ·have:n.beq m=false:=j1 h;simp[this,h]
 |cons p l ih=>
  obtain⟨k,w⟩:=p;simp only[cw];by_cases h:k=n
  ·subst h;simp only[Nat.beq_refl,cond_true,look];by_cases hm:k=m
   ·subst hm;simp
   ·have:k.beq m=false:=j1 hm;simp[this,hm]
  ·have hb:k.beq n=false:=j1 h;simp only[hb,cond_false,look];by_cases hm:k=m
   ·subst hm;have:¬n=k:=fun e=>h e.symm
    simp[this]
   ·have:k.beq m=false:=j1 hm;simp[this,ih]
structure al where
 cO:List (Nat×a7)
 sites:List (Nat×Site)
 nt:Nat
def al.get(st:al)(t:Nat):a7:=match look st.cO t with|some v=>v|none=>.av (.am .any)
def al.af(st:al)(o:Nat):Option Site:=look st.sites o
def al.set(st:al)(t:Nat)(v:a7):al:={st with cO:=cw st.cO t v}
def al.iC(st:al)(o:Nat)(s:Site):al:={st with sites:=cw st.sites o s}
@[simp] theorem al.IN(st:al)(t u:Nat)(v:a7):(st.set t v).get u=if t=u then v else st.get u:=by
 unfold al.set al.get;rw[c9];by_cases h:t=u<;>simp[h]
@[simp] theorem al.aj0(st:al)(t o:Nat)(v:a7):(st.set t v).af o=st.af o:=rfl
@[simp] theorem al.ao0(st:al)(t:Nat)(v:a7):(st.set t v).nt=st.nt:=rfl
@[simp] theorem al.af9(st:al)(o u:Nat)(s:Site):(st.iC o s).get u=st.get u:=rfl
@[simp] theorem al.ys(st:al)(o ab:Nat)(s:Site):(st.iC o s).af ab=if o=ab then some s else st.af ab:=by
 unfold al.iC al.af;simp only[c9]
@[simp] theorem al.agY(st:al)(o:Nat)(s:Site):(st.iC o s).nt=st.nt:=rfl
def nR:(t:bf)->den t->Value
 |.i64,n=>.int .i64 n
 |.bool,b=>.bool b
 |_,_=>undef
def g_(l:B):Value:=.string ⟨l.toArray⟩
def nf(arr:Array MapEntry):List (Value×Value):=arr.toList.map fun e=>(e.key,e.val)
def kl(t:bf)(es:List (B×den t)):List (Value×Value):=es.map fun p=>(g_ p.1,nR t p.2)
def mo(w:World)(b:Nat)(t:bf)(es:List (B×den t)):Prop:=∃arr clock,w.heap[b]? =some (.map arr clock)/\nf arr=kl t es
theorem mo.of{w w':World}{b:Nat}{t:bf}{es:List (B×den t)}(h:w'.heap[b]? =w.heap[b]?)(m:mo w b t es):mo w' b t es:=by
 obtain⟨arr,c,h1,h2⟩:=m;exact⟨arr,c,h.trans h1,h2⟩
theorem mo.lt{w:World}{b:Nat}{t:bf}{es:List (B×den t)}(m:mo w b t es):b<w.heap.size:=by
 obtain⟨arr,c,h1,h2⟩:=m;rcases Nat.lt_or_ge b w.heap.size with h|h
 ·exact h
 ·rw[Array.getElem?_eq_none h] at h1;cases h1
inductive bK(w:World)(av:Nat->Prop):bh->Value->Prop where
 |int (k:IntKind) (n:Int):bK w av (.int k n) (.int k n)
 |bool (b:Bool):bK w av (.bool b) (.bool b)
 |str (l:B) (s:ByteArray) (h:s.data.toList=l):bK w av (.str l) (.string s)
 |nil (t:bf):bK w av (.sl t []) (.slice none 0 0)
 |sl (t:bf) (xs:List (den t)) (a:Addr) (cap:Nat) (cs:List Value) (n:Nat) (hn:n=xs.length) (hcap:n<=cap) (hb:xs≠[]->¬av a.block)
   (hl:cs.length=(flat t xs).length)
   (hc:∀j u,cs[j]? =some u->w.cell? (a.add j)=some u)
   (hr:∀j (h:j<(flat t xs).length) (aj:j<cs.length),bK w av ((flat t xs)[j]) (cs[j])):bK w av (.sl t xs) (.slice (some a) n cap)
 |fn (g:FuncId) (bE:List (List bh)) (bs:List Nat) (jg:Nat->List Value) (lb:Array Value) (hlb:lb=(bs.map fun b=>Value.pointer (some ⟨b,0,none⟩)).toArray) (uA:bs.length=bE.length)
   (hb:∀b,b∈bs->¬av b) (hlt:∀b,b∈bs->b<w.heap.size)
   (hl:∀i (h:i<bE.length),(jg i).length=(bE[i]).length)
   (hc:∀i (h:i<bs.length) j u,(jg i)[j]? =some u->w.cell? ⟨bs[i],j,none⟩=some u)
   (hr:∀i (h:i<bE.length) j (h1:j<(bE[i]).length) (h2:j<(jg i).length),bK w av ((bE[i])[j]) ((jg i)[j])):
   bK w av (.fn g bE) (.func (.func g) #[] lb)
 |wV (t:bf):bK w av (.map t []) (.map none)
 |map (t:bf) (es:List (B×den t)) (b:Nat) (hb:¬av b) (hm:mo w b t es):bK w av (.map t es) (.map (some b))
 |w7 (T:TypeId):bK w av (.err T none) .nilIface
 |err (T:TypeId) (n:Int):bK w av (.err T (some n)) (.iface T (.agg #[.int .i64 n]))
theorem bK.jM{w:World}{av:Nat->Prop}{d:bh}{v:Value}(r:bK w av d v):v.oneCell'=true:=by
 cases r<;>rfl
def Dv(v:Value):Prop:=v=.slice none 0 0\/∃b n c,v=.slice (some ⟨b,0,none⟩) n c
def bQ:Value->Option Nat
 |.slice (some a) _ _=>some a.block
 |.pointer (some a)=>some a.block
 |.map (some b)=>some b
 |_=>none
section
variable (F:Nat->Value)(sites:List (Nat×Site))(w:World)(av:Nat->Prop)
def Ref(o s:Nat)(p:Prop):Prop:=∃af,look sites o=some af/\s<=af.cy/\(af.cy=s->p)
def ea:aQ->Value->Prop
 |.d x,v=>bK w av x v
 |.nil _,v=>v=.slice none 0 0
 |.own o s,v=>v.oneCell'=true/\Ref sites o s (v=F o)
 |.ptr o s off,v=>∃b,v=.pointer (some ⟨b,off,none⟩)/\Ref sites o s (F o=.pointer (some ⟨b,0,none⟩))
 |.eE cells off,v=>∃b D,v=.pointer (some ⟨b,D+off,none⟩)/\¬av b/\b<w.heap.size/\∃cs:List Value,cs.length=cells.length/\(∀j u,cs[j]? =some u->w.cell? ⟨b,D+j,none⟩=some u)/\
   ∀j (h:j<cells.length) (aj:j<cs.length),bK w av (cells[j]) (cs[j])
 |.e5 o s t k off,v=>∃b,v=.pointer (some ⟨b,k*bd t+off,none⟩)/\Ref sites o s (∃n c,F o=.slice (some ⟨b,0,none⟩) n c)
 |.clo g bE,v=>∃vs:List Value,v=.func (.func g) #[] vs.toArray/\vs.length=bE.length/\∀i (h:i<bE.length) (aj:i<vs.length),Ref sites (bE[i]).1 (bE[i]).2 (vs[i]=F (bE[i]).1)
 |.cW u,v=>v=u
 |.fresh _ _,_=>False
 |.dz,_=>True
 |.any,_=>True
def bf.j5:bf->Bool
 |.u8=>true
 |_=>false
def ny(u:Bool)(e:TypeId)(cur:Array Value)(fz:Nat×Nat):Prop:=(u=true->e=mN)/\(fz=(0,0)\/u=true/\cur.size<=fz.1)
def rowAt(w:World)(u:Bool)(e:TypeId)(size:Nat)(v:Value)(n:Nat)(xs:List Value):Prop:=
 xs.length=n*size/\((v=.slice none 0 0/\n=0)\/
  ∃g cap cur fz,v=.slice (some ⟨g,0,none⟩) n cap/\ny u e cur fz/\w.heap[g]? =some (.cells cur e fz)/\n<=cap/\cap<=maxLen/\cur.size=cap*size/\cur.toList.take (n*size)=xs)
theorem FN(w:World)(u:Bool)(e:TypeId)(size:Nat):rowAt w u e size (.slice none 0 0) 0 []:=⟨by simp,.inl ⟨rfl,rfl⟩⟩
def nm(cells:List aQ)(T:TypeId)(cur:List Value)(b:Nat):Prop:=cells.head?=some .dz->T=rS/\(cur.head?=some (.pointer none)\/cur.head?=some (.pointer (some ⟨b,0,none⟩)))
def ho:bS->Value->Prop
 |.am l,v=>ea F sites w av l v
 |.agg ai,v=>∃vs:List Value,v=.agg vs.toArray/\vs.length=ai.length/\∀j (h:j<ai.length) (aj:j<vs.length),ea F sites w av (ai[j]) (vs[j])
def ck:a7->Value->Prop
 |.av a,v=>ho F sites w av a v
 |.j3 as,v=>∃vs:List Value,v=.tuple vs.toArray/\vs.length=as.length/\∀j (h:j<as.length) (aj:j<vs.length),ho F sites w av (as[j]) (vs[j])
def kj(o:Nat):Site->Prop
 |.box _ cells=>∃b T,∃cur:List Value,F o=.pointer (some ⟨b,0,none⟩)/\w.heap[b]? =some (.cells cur.toArray T (0,0))/\cur.length=cells.length/\
   (∀u∈cur,u.oneCell'=true)/\nm cells T cur b/\∀j (h:j<cells.length) (aj:j<cur.length),ea F sites w av (cells[j]) (cur[j])
 |.row _ t xs=>∃e,∃cs:List Value,rowAt w t.j5 e (bd t) (F o) xs.length cs/\∀j (h:j<(flat t xs).length) (aj:j<cs.length),bK w av ((flat t xs)[j]) (cs[j])
 |.dq _ t xs=>bK w av (.sl t xs) (F o)/\Dv (F o)
 |.map _ t es=>∃b,F o=.map (some b)/\mo w b t es
 |.dead _=>True
end
def cq(sites:List (Nat×Site))(o:Nat):Prop:=∃af,look sites o=some af/\af.live=true
def aI(X:Nat->Prop)(F:Nat->Value)(sites:List (Nat×Site))(b:Nat):Prop:=X b\/∃o,cq sites o/\bQ (F o)=some b
structure Fr(Y:List Nat)(U w:World):Prop where
 os:w.os=U.os
 tape:w.tape=U.tape
 output:w.output=U.output
 size:U.heap.size<=w.heap.size
 block:∀b,b<U.heap.size->b∉Y->w.heap[b]? =U.heap[b]?
theorem Fr.refl(Y:List Nat)(w:World):Fr Y w w:=⟨rfl,rfl,rfl,Nat.le_refl _,fun _ _ _=>rfl⟩
structure iQ(w:World)(Y:List Nat)(X:Nat->Prop):Prop where
 ok:nM w
 Y:∀b,b∈k4->b∉Y
 X:∀b,b∈k4->¬X b
 lt:∀b,b∈k4->b<w.heap.size
theorem iQ.less{w:World}{Y:List Nat}{X X':Nat->Prop}(G:iQ w Y X)(h:∀b,b∈k4->X' b->X b):iQ w Y X':=⟨G.ok,G.Y,fun b hb hx=>G.X b hb (h b hb hx),G.lt⟩
theorem iQ.aqL{w:World}{Y:List Nat}{X X':Nat->Prop}(G:iQ w Y X)(h:∀b,X' b->X b\/b∈Y):iQ w Y X':=⟨G.ok,G.Y,fun b hb hx=>(h b hx).elim (G.X b hb) (G.Y b hb),G.lt⟩
structure ar(U:World)(Y:List Nat)(X:Nat->Prop)(F:Nat->Value)(st:al)(M:Array Value)(w:World):Prop where
 nt:M.size=st.nt
 cO:∀t,ck F st.sites w (aI X F st.sites) (st.get t) (M.getD t undef)
 sites:∀o af,look st.sites o=some af->kj F st.sites w (aI X F st.sites) o af
 eg:∀o ab b,cq st.sites o->cq st.sites ab->bQ (F o)=some b->bQ (F ab)=some b->o=ab
 ct:∀o b,cq st.sites o->bQ (F o)=some b->¬X b/\(b∈Y\/U.heap.size<=b)
 frame:Fr Y U w
 old:∀b,X b->b<w.heap.size
 fa:iQ U Y X
inductive cg:Type where
 |none
 |int (k:IntKind)
 |bool
 |str
 |ptr
 |func
 |slice (e:TypeId) (t:bf) (bytes:Nat)
 |struct (bR:List (Nat×Nat)) (n:Nat) (z:List aQ) (eq:Bool)
 |map (k e:TypeId) (t:bf)
 |arr (e:TypeId) (t:bf) (n:Nat)
 |iface
def x5:(t:bf)->Option (den t)
 |.i64|.u8|.u32=>some (0:Int)
 |.bool=>some false
 |.str=>some ([]:B)
 |_=>none
def uc:bf->Option aQ
 |.i64=>some (.d (.int .i64 0))
 |.u8=>some (.d (.int .u8 0))
 |.u32=>some (.d (.int .u32 0))
 |.bool=>some (.d (.bool false))
 |.str=>some (.d (.str []))
 |_=>none
def cg.agg:cg->Bool
 |.struct _ _ _ _|.arr _ _ _=>true
 |_=>false
def cg.known:cg->Bool
 |.none=>false
 |_=>true
def cg.size:cg->Nat
 |.struct _ n _ _=>n
 |.arr _ _ n=>n
 |_=>1
def cg.zero:cg->Option (List aQ)
 |.none=>Option.none
 |.int k=>some [.d (.int k 0)]
 |.bool=>some [.d (.bool false)]
 |.str=>some [.d (.str [])]
 |.ptr=>some [.cW (.pointer Option.none)]
 |.func=>some [.cW .nilFunc]
 |.slice _ t _=>some [.nil t]
 |.struct _ _ z _=>some z
 |.map _ _ _=>some [.cW (.map Option.none)]
 |.arr _ t n=>(uc t).map (List.replicate n)
 |.iface=>some [.cW .nilIface]
inductive Arg:Type where
 |av (a:bS)
 |fv (cells:List aQ)
structure w_:Type 1 where
 J:Type
 comp:Option J
 fv:J->List (List aQ)
 fp:J->List bS
abbrev aD:=List Arg->w_
def w_.fail:w_:=⟨Unit,Option.none,fun _=>[],fun _=>[]⟩
structure Ctx:Type 1 where
 tt:TypeId->cg
 bR:FuncId->Option aD
 lZ:FuncId->Option FuncId:=fun _=>none
 nS:FuncId->Bool:=fun _=>false
 op:FuncId->Bool:=fun _=>false
 kD:FuncId->Bool:=fun _=>false -- a ajp copy check
 bs:FuncId->Bool:=fun _=>false -- a ajp String
 gt:Nat->Option ((t:bf)×List (den t)):=fun _=>none -- uf aBn tables
structure dk:Type 1 where
 J:Type
 comp:Option J
 val:J->a7
 us:J->List (Nat×Site)
 rT:J->Bool
def dk.fail:dk:=⟨Unit,Option.none,fun _=>.av (.am .any),fun _=>[],fun _=>false⟩
def dk.ok(v:a7):dk:=⟨Unit,some (),fun _=>v,fun _=>[],fun _=>true⟩
def dk.fH(v:a7)(us:List (Nat×Site)):dk:=⟨Unit,some (),fun _=>v,fun _=>us,fun _=>true⟩
def dk.ey{J:Type}(c:Option J)(f:J->a7):dk:=⟨J,c,f,fun _=>[],fun _=>true⟩
def dk.hV{J:Type}(c:Option J)(f:J->a7)(us:J->List (Nat×Site)):dk:=⟨J,c,f,us,fun _=>true⟩
def aO{aJ:Type}(xs:List aJ)(i:Int):Option aJ:=if 0<=i then xs[i.toNat]? else none
def be(n:Nat)(i:Int):Option Nat:=if 0<=i/\i<n then some i.toNat else none
def bm{aJ:Type}(xs:List aJ)(cX hi:Int):Option (List aJ):=if 0<=cX/\cX<=hi/\hi<=xs.length then some ((xs.take hi.toNat).drop cX.toNat) else none
def room:Nat:=140737488355328
def b9{aJ:Type}(bytes:Nat)(xs bj:List aJ):Option (List aJ):=if(xs.length+bj.length)*bytes<=room/\xs.length+bj.length<=maxLen then some (xs++bj) else none
def b4(s t:B):Option B:=if((s.length+t.length:Nat):Int)>IntKind.i64.max then none else some (s++t)
def lM(k:IntKind)(x y:Int):Option Int:=if y=0 then none else some (k.wrap (x.tdiv y))
def iK(x y:Int):Option Int:=if y=0 then none else some (x.tmod y)
def lL(k:IntKind)(x y:Int):Option Int:=if y<0 then none else some (k.wrap (x*2^(min y.toNat k.bits)))
def fk(k:IntKind)(x y:Int):Option Int:=if y<0 then none else some (x.fdiv (2^(min y.toNat k.bits)))
def j4{aJ:Type}(bytes:Nat)(n c:Int)(z:aJ):Option (List aJ):=if 0<=n/\n<=c/\c*bytes<=room/\c<=maxLen then some (List.replicate n.toNat z) else none
def ga(x y:Int):Int:=if y>x then y else x
def kp(x y:Int):Int:=if y<x then y else x
def eF(k:IntKind)(x y:Int):Int:=k.wrap (BitVec.ofInt k.bits x &&& BitVec.ofInt k.bits y).toNat
def h6(k:IntKind)(x y:Int):Int:=k.wrap (BitVec.ofInt k.bits x ||| BitVec.ofInt k.bits y).toNat
def dl(k:IntKind)(x y:Int):Int:=k.wrap (BitVec.ofInt k.bits x ^^^ BitVec.ofInt k.bits y).toNat
def bytesOf(s:B):List Int:=s.map fun b=>(b.toNat:Int)
def strOf(xs:List Int):B:=xs.map fun n=>UInt8.ofNat n.toNat
abbrev one(d:bh):a7:=.av (.am (.d d))
abbrev b6(l:aQ):a7:=.av (.am l)
def vU(ti:cg):Value->a7
 |.int k n=>one (.int k n)
 |.bool b=>one (.bool b)
 |.string s=>one (.str s.data.toList)
 |.slice none 0 0=>match ti with|.slice _ t _=>b6 (.nil t)|_=>b6 (.cW (.slice none 0 0))
 |.map none=>match ti with|.map _ _ t=>one (.map t [])|_=>b6 (.cW (.map none))
 |.agg _|.tuple _=>b6 .any
 |v=>b6 (.cW v)
def bg(C:Ctx)(st:al)(T:TypeId):Operand->a7
 |.tmp t=>st.get t
 |.const v=>vU (C.tt T) v
 |.global g=>b6 (.cW (.pointer (some ⟨g,0,none⟩)))
 |.func f=>b6 (.clo f [])
def rowOf(st:al)(o s:Nat):Option ((t:bf)×List (den t)):=
 match st.af o with
 |some (.row aN t xs)=>bif aN.beq s then some ⟨t,xs⟩ else none
 |some (.dq aN t xs)=>bif aN.beq s then some ⟨t,xs⟩ else none
 |_=>none
def fP(st:al)(o s:Nat):Option (List aQ):=
 match st.af o with
 |some (.box aN cells)=>bif aN.beq s then some cells else none
 |_=>none
def mapOf(st:al):aQ->Option ((t:bf)×List (B×den t))
 |.d (.map t es)=>some ⟨t,es⟩
 |.own o s=>match st.af o with
  |some (.map aN t es)=>bif aN.beq s then some ⟨t,es⟩ else none
  |_=>none
 |_=>none
def kJ{aJ:Type}:List (B×aJ)->B->Option aJ
 |[],_=>none
 |(k,v)::r,n=>bif k==n then some v else kJ r n
def po{aJ:Type}:List (B×aJ)->B->aJ->List (B×aJ)
 |[],n,v=>[(n,v)]
 |(k,w)::r,n,v=>bif k==n then(k,v)::r else(k,w)::po r n v
def Kx:(t:bf)->bh->Option (den t)
 |.i64,.int .i64 n=>some n
 |.bool,.bool b=>some b
 |_,_=>none
def wK:(t:bf)->Option (den t)->Option bh
 |.i64,D=>some (.int .i64 (D.getD 0))
 |.bool,D=>some (.bool (D.getD false))
 |_,_=>none
def bz(st:al)(o:Nat):Nat:=match st.af o with|some x=>x.cy+1|none=>0
def mw(st:al)(o s:Nat)(t:bf)(xs:List (den t)):List (Nat×Site):=match st.af o with
 |some (.dq _ _ _)=>[]
 |_=>[(o,.dq s t xs)]
def j_(st:al):aQ->Option (bh×List (Nat×Site))
 |.d v=>some (v,[])
 |.nil t=>some (.sl t [],[])
 |.own o s=>match rowOf st o s with|some ⟨t,xs⟩=>some (.sl t xs,mw st o s t xs)|none=>none
 |.clo g []=>some (.fn g [],[])
 |_=>none
def gf(st:al):List aQ->Option (List bh×List (Nat×Site))
 |[]=>some ([],[])
 |l::ai=>match j_ st l,gf st ai with
  |some (d,us),some (ds,vs)=>some (d::ds,us++vs)
  |_,_=>none
def bS.cells:bS->List aQ
 |.am l=>[l]
 |.agg ai=>ai
def aQ.storable:aQ->Bool
 |.any|.dz|.fresh _ _|.eE _ _|.e5 _ _ _ _ _=>false
 |.cW (.agg _)|.cW (.tuple _)=>false
 |_=>true
def hL:List aQ->Bool
 |[]=>true
 |l::ai=>l.storable&&hL ai
def cut(agg:Bool)(off n:Nat)(ai:List aQ):Option a7:=
 bif agg then(bif Nat.ble (off+n) ai.length then some (.av (.agg ((ai.drop off).take n))) else none)
 else match ai.drop off with|l::_=>some (b6 l)|[]=>none
def cF(ds:List bh):List aQ:=ds.map .d
def bP{aJ:Type}(old:List aJ)(off:Nat)(new:List aJ):List aJ:=old.take off++new++old.drop (off+new.length)
def B3:bh->bh->Option Bool
 |.int k a,.int k' b=>if k=k' then some (a==b) else none
 |.bool a,.bool b=>some (a==b)
 |.str a,.str b=>some (a==b)
 |_,_=>none
def vV:List aQ->List aQ->Option Bool
 |[.d a],[.d b]=>B3 a b
 |.d a::as,.d b::bs=>match B3 a b,vV as bs with
  |some x,some y=>some (x&&y)
  |_,_=>none
 |_,_=>none
def WA(op:BinOp)(k:IntKind)(x y:Int):dk:=
 match op with
 |.add=>.ok (one (.int k (k.wrap (x+y))))
 |.sub=>.ok (one (.int k (k.wrap (x-y))))
 |.mul=>.ok (one (.int k (k.wrap (x*y))))
 |.quo=>.ey (lM k x y) fun n=>one (.int k n)
 |.rem=>.ey (iK x y) fun n=>one (.int k n)
 |.and=>.ok (one (.int k (eF k x y)))
 |.or=>.ok (one (.int k (h6 k x y)))
 |.xor=>.ok (one (.int k (dl k x y)))
 |.eql=>.ok (one (.bool (x==y)))
 |.neq=>.ok (one (.bool (x !=y)))
 |.lss=>.ok (one (.bool (decide (x<y))))
 |.leq=>.ok (one (.bool (decide (x<=y))))
 |.gtr=>.ok (one (.bool (decide (x>y))))
 |.geq=>.ok (one (.bool (decide (x>=y))))
 |_=>.fail
def Wf(op:BinOp)(s t:B):dk:=
 match op with
 |.add=>.ey (b4 s t) fun r=>one (.str r)
 |.eql=>.ok (one (.bool (s==t)))
 |.neq=>.ok (one (.bool (!(s==t))))
 |.lss=>.ok (one (.bool (Op.bytesLess s t)))
 |.leq=>.ok (one (.bool (Op.bytesLess s t||s==t)))
 |.gtr=>.ok (one (.bool (!(Op.bytesLess s t||s==t))))
 |.geq=>.ok (one (.bool (!(Op.bytesLess s t))))
 |_=>.fail
def Vf(op:BinOp)(k:IntKind)(a:Int)(k':IntKind)(b:Int):dk:=
 match op with
 |.shl=>.ey (lL k a b) fun n=>one (.int k n)
 |.shr=>.ey (fk k a b) fun n=>one (.int k n)
 |op=>if k=k' then WA op k a b else .fail
def VN(op:BinOp)(ti:cg)(a b:Bool):dk:=
 match ti with
 |.bool=>match op with
  |.eql=>.ok (one (.bool (a==b)))
  |.neq=>.ok (one (.bool (!(a==b))))
  |_=>.fail
 |_=>.fail
def rp:List aQ->List aQ->Bool
 |[],[]=>true
 |.d (.int _ _)::z,.d (.int _ _)::l=>rp z l
 |.d (.bool _)::z,.d (.bool _)::l=>rp z l
 |.d (.str _)::z,.d (.str _)::l=>rp z l
 |_,_=>false
def WR(op:BinOp)(ti:cg)(xs bj:List aQ):dk:=
 match ti with
 |.struct _ n z true=>bif xs.length.beq n&&rp z xs then
   match vV xs bj with
   |some b=>match op with
    |.eql=>.ok (one (.bool b))
    |.neq=>.ok (one (.bool (!b)))
    |_=>.fail
   |none=>.fail
  else .fail
 |_=>.fail
def CV(op:BinOp)(ti:cg)(D:Option Int):dk:=
 match ti with
 |.iface=>match op with
  |.eql=>.ok (one (.bool D.isNone))
  |.neq=>.ok (one (.bool D.isSome))
  |_=>.fail
 |_=>.fail
def B7:Operand->Bool
 |.const .nilIface=>true
 |_=>false
def JZ(op:BinOp)(ti:cg):a7->dk
 |.av (.am (.d (.err _ D)))=>CV op ti D
 |.av (.am (.cW .nilIface))=>CV op ti none
 |_=>.fail
def Lg(op:BinOp)(ti:cg)(x y:a7):dk:=
 match x,y with
 |.av (.am (.d (.int k a))),.av (.am (.d (.int k' b)))=>Vf op k a k' b
 |.av (.am (.d (.str s))),.av (.am (.d (.str t)))=>Wf op s t
 |.av (.am (.d (.bool a))),.av (.am (.d (.bool b)))=>VN op ti a b
 |.av (.agg xs),.av (.agg bj)=>WR op ti xs bj
 |_,_=>.fail
def tA(agg:Bool)(n:Nat)(st:al)(a:a7):dk:=
 match a with
 |.av (.am (.ptr o s off))=>match fP st o s with
  |some cells=>match cut agg off n cells with|some v=>.ok v|none=>.fail
  |none=>.fail
 |.av (.am (.eE cells off))=>match cut agg off n (cF cells) with|some v=>.ok v|none=>.fail
 |.av (.am (.e5 o s u k off))=>match rowOf st o s with
  |some ⟨t,xs⟩=>if t=u/\off+n<=bd t then .ey (xs[k]?) fun x=>match cut agg off n (cF (enc t x)) with|some v=>v|none=>b6 .any else .fail
  |none=>.fail
 |_=>.fail
def s6(n:Nat)(st:al)(a:a7)(v:bS):dk:=
 bif v.cells.length.beq n then
 match a with
 |.av (.am (.ptr o s off))=>match fP st o s with
  |some cells=>bif Nat.ble (off+n) cells.length&&hL v.cells then .fH (b6 (.cW undef)) [(o,.box s (bP cells off v.cells))] else .fail
  |none=>.fail
 |.av (.am (.e5 o s u k off))=>match st.af o with
  |some (.row aN t xs)=>bif aN.beq s&&Nat.ble (off+n) (bd t)&&decide (t=u) then
    match gf st v.cells with
    |some (ds,us)=>bif(look us o).isNone then .hV ((xs[k]?).bind fun x=>dec t (bP (enc t x) off ds)) (fun _=>b6 (.cW undef)) fun x=>us++[(o,.row s t (xs.set k x))] else .fail
    |none=>.fail
   else .fail
  |_=>.fail
 |_=>.fail
 else .fail
def sw(u:bf)(st:al)(x:a7)(i:Int):dk:=
 match x with
 |.av (.am (.d (.sl t xs)))=>if t=u then .ey (aO xs i) fun x=>b6 (.eE (enc t x) 0) else .fail
 |.av (.am (.own o s))=>match rowOf st o s with
  |some ⟨t,xs⟩=>if t=u then .ey (be xs.length i) fun k=>b6 (.e5 o s t k 0) else .fail
  |none=>.fail
 |_=>.fail
def Fm(off:Nat):a7->dk
 |.av (.am (.ptr o s D))=>.ok (b6 (.ptr o s (D+off)))
 |.av (.am (.eE cells D))=>.ok (b6 (.eE cells (D+off)))
 |.av (.am (.e5 o s t k D))=>.ok (b6 (.e5 o s t k (D+off)))
 |_=>.fail
def iU(lQ:Int):Option a7->Option Int
 |none=>some lQ
 |some (.av (.am (.d (.int _ n))))=>some n
 |some _=>none
def s9(ti:cg)(st:al)(x:a7)(cX hi:Option a7):dk:=
 match x with
 |.av (.am (.d (.str s)))=>match ti,iU 0 cX,iU s.length hi with
  |.str,some l,some h=>.ey (bm s l h) fun r=>one (.str r)
  |_,_,_=>.fail
 |.av (.am (.d (.sl t xs)))=>match ti,iU 0 cX,iU xs.length hi with
  |.slice _ u _,some l,some h=>if t=u then .ey (bm xs l h) fun r=>one (.sl t r) else .fail
  |_,_,_=>.fail
 |.av (.am (.nil t))=>match ti,iU 0 cX,iU 0 hi with
  |.slice _ _ _,some l,some h=>.ey (bm ([]:List (den t)) l h) fun r=>one (.sl t r)
  |_,_,_=>.fail
 |.av (.am (.own o s))=>match rowOf st o s with
  |some ⟨t,xs⟩=>match ti,iU 0 cX,iU xs.length hi with
   |.slice _ u _,some l,some h=>if t=u then .hV (bm xs l h) (fun r=>one (.sl t r)) fun _=>mw st o s t xs else .fail
   |_,_,_=>.fail
  |none=>.fail
 |_=>.fail
def tQ(ti:cg)(st:al)(x:a7):dk:=
 match ti,x with
 |.str,.av (.am (.d (.str s)))=>.ok (one (.int .i64 s.length))
 |.slice _ _ _,.av (.am (.d (.sl _ xs)))=>.ok (one (.int .i64 xs.length))
 |.slice _ _ _,.av (.am (.nil _))=>.ok (one (.int .i64 0))
 |.slice _ _ _,.av (.am (.own o s))=>match rowOf st o s with
  |some ⟨_,xs⟩=>.ok (one (.int .i64 xs.length))
  |none=>.fail
 |.map _ _ _,.av (.am l)=>match mapOf st l with
  |some ⟨_,es⟩=>.ok (one (.int .i64 es.length))
  |none=>.fail
 |_,_=>.fail
def ts(st:al):a7->Option bh
 |.av (.am (.d (.sl t xs)))=>some (.sl t xs)
 |.av (.am (.d (.str s)))=>some (.str s)
 |.av (.am (.nil t))=>some (.sl t [])
 |.av (.am (.own o s))=>match rowOf st o s with|some ⟨t,xs⟩=>some (.sl t xs)|none=>none
 |_=>none
def qU(bytes:Nat)(t:bf)(dst:Nat)(st:al)(s:a7)(bj:List (den t)):dk:=
 match s with
 |.av (.am (.nil _))=>.hV (b9 bytes [] bj) (fun _=>b6 (.own dst (bz st dst))) fun r=>[(dst,.row (bz st dst) t r)]
 |.av (.am (.own o s))=>match st.af o with
  |some (.row aN bo xs)=>bif aN.beq s then
    if aj:bo=t then .hV (b9 bytes (aj▸xs:List (den t)) bj) (fun _=>b6 (.own dst (bz (st.iC o (.dead s)) dst)))
     fun r=>[(o,.dead s),(dst,.row (bz (st.iC o (.dead s)) dst) t r)]
    else .fail
   else .fail
  |_=>.fail
 |_=>.fail
def s4(bytes:Nat)(t:bf)(dst:Nat)(st:al)(s x:a7):dk:=
 match ts st x with
 |none=>.fail
 |some d=>match d with
  |.sl u bj=>if h:u=t then qU bytes t dst st s (h▸bj:List (den t)) else .fail
  |_=>.fail
def s5(bytes:Nat)(t:bf)(dst:Nat)(st:al)(s x:a7):dk:=
 match x with
 |.av (.am (.d (.str y)))=>if h:t=.u8 then qU bytes t dst st s (h▸(bytesOf y:List (den .u8))) else .fail
 |_=>.fail
def lR(t:bf)(st:al):List bS->Option (List (den t)×List (Nat×Site))
 |[]=>some ([],[])
 |a::as=>match gf st a.cells with
  |some (ds,us)=>match dec t ds,lR t st as with
   |some x,some (xs,vs)=>some (x::xs,us++vs)
   |_,_=>none
  |none=>none
def my:a7->Option bS
 |.av a=>some a
 |.j3 _=>none
def ou:List a7->Option (List bS)
 |[]=>some []
 |v::vs=>match my v,ou vs with|some a,some as=>some (a::as)|_,_=>none
def sU:Nat->List (Nat×Operand)->Bool
 |_,[]=>true
 |n,(i,_)::r=>i.beq n&&sU (n+1) r
def isByte:cg->Bool
 |.int .u8=>true
 |_=>false
def tI(C:Ctx)(src dst:TypeId)(o:Nat)(st:al)(x:a7):dk:=
 match C.tt src,C.tt dst,x with
 |.none,_,_=>.fail
 |_,.int k,.av (.am (.d (.int _ n)))=>.ok (one (.int k (k.wrap n)))
 |_,.str,.av (.am (.d (.str s)))=>.ok (one (.str s))
 |.slice e .u8 _,.str,.av (.am (.d (.sl .u8 xs)))=>bif isByte (C.tt e) then .ok (one (.str (strOf xs))) else .fail
 |.slice e .u8 _,.str,.av (.am (.nil _))=>bif isByte (C.tt e) then .ok (one (.str [])) else .fail
 |.slice e .u8 _,.str,.av (.am (.own ab s))=>match rowOf st ab s with
  |some ⟨.u8,xs⟩=>bif isByte (C.tt e) then .ok (one (.str (strOf xs))) else .fail
  |_=>.fail
 |.str,.slice e .u8 _,.av (.am (.d (.str s)))=>bif isByte (C.tt e) then .hV (if s.length<=maxLen then some () else none) (fun _=>b6 (.own o (bz st o))) fun _=>[(o,.row (bz st o) .u8 (bytesOf s))] else .fail
 |_,_,_=>.fail
def lx(st:al):List (Nat×Nat)->Option (List (List bh)×List (Nat×Site)×List Nat)
 |[]=>some ([],[],[])
 |(o,s)::r=>match fP st o s with
  |some cells=>match gf st cells,lx st r with
   |some (ds,us),some (rest,vs,bs)=>some (ds::rest,us++vs,o::bs)
   |_,_=>none
  |none=>none
def nr(st:al):aQ->Option (aQ×List (Nat×Site)×List Nat)
 |.eE cells 0=>some (.eE cells 0,[],[])
 |.clo g (c::cs)=>match lx st (c::cs) with|some (ds,us,bs)=>some (.d (.fn g ds),us,bs)|none=>none
 |l=>match j_ st l with|some (d,us)=>some (.d d,us,[])|none=>none
def mi(st:al):List aQ->Option (List aQ×List (Nat×Site)×List Nat)
 |[]=>some ([],[],[])
 |l::ai=>match nr st l,mi st ai with
  |some (a,us,bs),some (as,vs,cs)=>some (a::as,us++vs,bs++cs)
  |_,_=>none
def oq(st:al):aQ->Option (aQ×List (Nat×Site))
 |.d v=>some (.d v,[])
 |.nil t=>some (.fresh t [],[])
 |.own o s=>match st.af o with
  |some (.row aN t xs)=>bif aN.beq s then some (.fresh t xs,[(o,.dead s)]) else none
  |some (.dq aN t xs)=>bif aN.beq s then some (.d (.sl t xs),[]) else none
  |_=>none
 |.dz=>some (.dz,[])
 |.cW v=>some (.cW v,[])
 |_=>none
def ww:List aQ->List aQ
 |.cW (.pointer none)::r=>.dz::r
 |l=>l
def kT(st:al):List aQ->Option (List aQ×List (Nat×Site))
 |[]=>some ([],[])
 |l::ai=>match oq st l,kT st ai with
  |some (a,us),some (as,vs)=>some (a::as,us++vs)
  |_,_=>none
structure kv where
 as:List Arg
 eW:List (Nat×Site) -- rows C9 acB eW,as aBu aCM frozen
 fZ:List Nat -- boxes C9 acB eW
 gone:List (Nat×Site) -- boxes C9 go over,and rows in aBJ
 boxes:List (Nat×Nat) -- uf boxes:af,cy
def jo(st:al):List a7->Option kv
 |[]=>some ⟨[],[],[],[],[]⟩
 |.av (.am (.ptr o s 0))::vs=>match fP st o s,jo st vs with
  |some cells,some r=>match kT st cells with
   |some (cs,gone)=>some ⟨.fv cs::r.as,r.eW,r.fZ,((o,.dead s)::gone)++r.gone,(o,s)::r.boxes⟩
   |none=>none
  |_,_=>none
 |.av (.am l)::vs=>match nr st l,jo st vs with
  |some (a,us,bs),some r=>some ⟨.av (.am a)::r.as,us++r.eW,bs++r.fZ,r.gone,r.boxes⟩
  |_,_=>none
 |.av (.agg ai)::vs=>match mi st ai,jo st vs with
  |some (as,us,bs),some r=>some ⟨.av (.agg as)::r.as,us++r.eW,bs++r.fZ,r.gone,r.boxes⟩
  |_,_=>none
 |_::_=>none
def pq(st:al):aQ->Option (aQ×List (Nat×Site)×List (Nat×Site)×List Nat)
 |.own o s=>match oq st (.own o s) with|some (a,us)=>some (a,us,[],[])|none=>none
 |.nil t=>some (.fresh t [],[],[],[])
 |l=>match nr st l with|some (a,us,bs)=>some (a,[],us,bs)|none=>none
def ma(st:al):List a7->Option kv
 |[]=>some ⟨[],[],[],[],[]⟩
 |.av (.am l)::vs=>match pq st l,ma st vs with
  |some (a,us,ai,bs),some r=>some ⟨.av (.am a)::r.as,ai++r.eW,bs++r.fZ,us++r.gone,r.boxes⟩
  |_,_=>none
 |_::_=>none
def sR(b:Bool)(st:al)(vs:List a7):Option kv:=bif b then ma st vs else jo st vs
def bf.pm:bf->Bool
 |.pack|.recipe|.hunk|.tJ=>true
 |_=>false
def aQ.pm:aQ->Bool
 |.d (.sl _ _)|.d (.fn _ _)|.d (.map _ _)=>true
 |.d _=>false
 |.fresh t _=>t.pm
 |.dz|.cW _=>false
 |_=>true
def sG:List aQ->Bool
 |[]=>false
 |l::ai=>l.pm||sG ai
def sz:List bS->Bool
 |[]=>false
 |a::as=>sG a.cells||sz as
def sy:List (List aQ)->Bool
 |[]=>false
 |a::as=>sG a||sy as
def take(st:al)(n:Nat):List aQ->List aQ×List (Nat×Site)
 |[]=>([],[])
 |.fresh t xs::ai=>let r:=take st (n+1) ai;(.own n (bz st n)::r.1,(n,.row (bz st n) t xs)::r.2)
 |l::ai=>let r:=take st (n+1) ai;(l::r.1,r.2)
def ee(st:al)(n:Nat):List bS->List bS×List (Nat×Site)
 |[]=>([],[])
 |.am l::as=>let x:=take st n [l];let r:=ee st (n+100) as;((match x.1 with|[gC]=>.am gC|ai=>.agg ai)::r.1,x.2++r.2)
 |.agg ai::as=>let x:=take st n ai;let r:=ee st (n+100) as;(.agg x.1::r.1,x.2++r.2)
def gX(st:al):List (Nat×Nat)->List (List aQ)->List (Nat×Site)
 |(o,s)::bs,cs::cR=>let x:=take st (1000000+o*100) cs;x.2++(o,.box s x.1)::gX st bs cR
 |_,_=>[]
def Wi:List bS->a7
 |[a]=>.av a
 |as=>.j3 as
def keys{aJ:Type}:List (Nat×aJ)->List Nat
 |[]=>[]
 |p::r=>p.1::keys r
def f'(n:Nat):List Nat->Bool
 |[]=>false
 |m::r=>n.beq m||f' n r
def fM:List Nat->Bool
 |[]=>true
 |n::r=>!f' n r&&fM r
def e_:List Nat->List Nat->Bool
 |[],_=>true
 |n::r,l=>!f' n l&&e_ r l
def pG(dst:Nat)(st:al)(S:aD)(a:kv):dk:=
 let r:=S a.as
 {J:=r.J,comp:=r.comp
  val:=fun y=>Wi (ee st (2000000+dst*10000) (r.fp y)).1
  us:=fun y=>(bif sz (r.fp y)||sy (r.fv y) then a.eW else [])++a.gone++gX st a.boxes (r.fv y)++(ee st (2000000+dst*10000) (r.fp y)).2
  rT:=fun y=>fM (keys a.gone)&&e_ (keys a.eW++a.fZ) (keys a.gone)&&fM (keys (gX st a.boxes (r.fv y)++(ee st (2000000+dst*10000) (r.fp y)).2))&&
   e_ (keys a.eW++a.fZ) (keys (gX st a.boxes (r.fv y)++(ee st (2000000+dst*10000) (r.fp y)).2))&&(!(sz (r.fp y)||sy (r.fv y))||a.fZ.isEmpty)}
def callee(v:a7):Option (FuncId×List (Nat×Nat)):=
 match v with
 |.av (.am (.clo g bE))=>some (g,bE)
 |_=>none
def gA(C:Ctx)(st:al):List Operand->List TypeId->List a7
 |[],_=>[]
 |x::xs,[]=>bg C st 0 x::gA C st xs []
 |x::xs,T::cZ=>bg C st T x::gA C st xs cZ
def oe:List (List bh)->List Arg
 |[]=>[]
 |c::cs=>.av (.am (.eE c 0))::oe cs
def s8(g:FuncId)(n:Nat)(st:al):List a7->dk
 |[.av (.am (.d (.str s))),.av (.am (.d (.str p)))]=>.fH (b6 (.clo g [(n,bz st n),(n+1,bz st (n+1)),(n+2,bz st (n+2))]))
   [(n,.box (bz st n) [.d (.str p)]),(n+1,.box (bz st (n+1)) [.d (.str s)]),(n+2,.box (bz st (n+2)) [.d (.int .i64 0)])]
 |_=>.fail
def copyV(st:al):List a7->dk
 |[.av (.am (.ptr o s 0))]=>match st.af o with
  |some (.box aN [.dz,l])=>bif aN.beq s then .fH (.j3 []) [(o,.box s [.dz,l])] else .fail
  |_=>.fail
 |_=>.fail
def sQ(st:al):List a7->dk
 |[.av (.am (.ptr o s 0))]=>match fP st o s with
  |some [_,.nil .u8]=>.ok (one (.str []))
  |some [_,.own ab u]=>match st.af ab with
   |some (.row bV .u8 xs)=>bif bV.beq u then .fH (one (.str (strOf xs))) [(ab,.dq u .u8 xs)] else .fail
   |_=>.fail
  |_=>.fail
 |_=>.fail
def tw(n:Nat)(st:al):List a7->dk
 |[.av (.am (.d (.sl .u8 xs)))]=>.fH (b6 (.ptr n (bz st n) 0)) [(n,.box (bz st n) [.d (.sl .u8 (xs.take 2000)),.d (.int .i64 0)])]
 |_=>.fail
def l'(C:Ctx)(dst:Nat)(st:al)(f:a7)(vs:List a7):dk:=
  match f with
  |.av (.am (.clo g bE))=>match C.lZ g with
   |some cB=>match bE with
    |[]=>s8 cB (3000000+dst*10) st vs
    |_=>.fail
   |none=>bif C.op g then(match bE with
    |[]=>tw (4000000+dst) st vs
    |_=>.fail) else bif C.kD g then(match bE with
    |[]=>copyV st vs
    |_=>.fail) else bif C.bs g then(match bE with
    |[]=>sQ st vs
    |_=>.fail) else match C.bR g,sR (C.nS g) st vs,lx st bE with
    |some S,some a,some (cs,us,bs)=>pG dst st S {a with as:=a.as++oe cs,eW:=a.eW++us,fZ:=a.fZ++bs}
    |_,_,_=>.fail
  |.av (.am (.d (.fn g bE)))=>match C.bR g,jo st vs with
    |some S,some a=>pG dst st S {a with as:=a.as++oe bE}
    |_,_=>.fail
  |_=>.fail
def Dn(t:bf)(xs:List (den t))(n:Nat):List aQ:=match x5 t with
 |some z=>(List.range n).flatMap fun j=>cF (enc t (xs.getD j z))
 |none=>[]
def tY(t:bf):List aQ->Option (List (den t))
 |[]=>some []
 |.d d::ai=>match dec t [d],tY t ai with
  |some x,some xs=>some (x::xs)
  |_,_=>none
 |_=>none
def long{aJ:Type}(n:Nat)(xs:List aJ):Option (List aJ):=if xs.length=n then some xs else none
def rf(o:Nat)(st:al)(t:bf)(n:Nat)(xs:List (den t)):dk:=bif xs.length.beq n&&Nat.ble n 1000 then .fH (b6 (.e5 o (bz st o) t 0 0)) [(o,.row (bz st o) t xs)] else .fail
def to(o:Nat)(st:al)(t:bf)(n:Nat):dk:=match x5 t with
 |some z=>rf o st t n (List.replicate n z)
 |none=>.fail
def t_(o:Nat)(st:al)(t:bf)(n:Nat)(v:a7):dk:=match v with
 |.av (.agg ai)=>match tY t ai with
  |some xs=>rf o st t n xs
  |none=>.fail
 |_=>.fail
def tB(st:al)(t:bf)(n:Nat)(a:a7):dk:=match a with
 |.av (.am (.e5 o s u 0 0))=>match rowOf st o s with
  |some ⟨bo,xs⟩=>if bo=t/\bo=u then .ey (long n xs) fun xs=>.av (.agg (Dn bo xs n)) else .fail
  |none=>.fail
 |_=>.fail
def s7(st:al)(t:bf)(n:Nat)(a:a7)(v:bS):dk:=match a,v with
 |.av (.am (.e5 o s u 0 0)),.agg ai=>match st.af o with
  |some (.row aN bo xs)=>if bo=t/\bo=u/\aN=s then(match tY bo ai with
   |some bj=>bif bj.length.beq n then .hV (long n xs) (fun _=>b6 (.cW undef)) fun _=>[(o,.row s bo bj)] else .fail
   |none=>.fail) else .fail
  |_=>.fail
 |_,_=>.fail
def sx(C:Ctx)(st:al)(t:bf)(n:Nat)(x:a7)(i:Int):dk:=match x with
 |.av (.am (.e5 o s u 0 0))=>match rowOf st o s with
  |some ⟨bo,xs⟩=>if bo=t/\bo=u then .ey ((long n xs).bind fun xs=>be xs.length i) fun k=>b6 (.e5 o s bo k 0) else .fail
  |none=>.fail
 |.av (.am (.cW (.pointer (some ⟨g,0,none⟩))))=>match C.gt g with
  |some ⟨bo,xs⟩=>bif decide (bo=t)&&xs.length.beq n then .ey (aO xs i) fun x=>b6 (.eE (enc bo x) 0) else .fail
  |none=>.fail
 |_=>.fail
def JN(t:bf)(n:Nat)(x:a7)(i:Int):dk:=match x with
 |.av (.agg ai)=>match tY t ai with
  |some xs=>bif xs.length.beq n then .ey (aO xs i) fun x=>(match enc t x with|[d]=>b6 (.d d)|_=>b6 .any) else .fail
  |none=>.fail
 |_=>.fail
def s_(st:al)(t:bf)(n:Nat)(x:a7)(cX hi:Option a7):dk:=match x with
 |.av (.am (.e5 o s u 0 0))=>match rowOf st o s,iU 0 cX,iU n hi with
  |some ⟨bo,xs⟩,some l,some h=>if bo=t/\bo=u then .hV ((long n xs).bind fun xs=>bm xs l h) (fun r=>b6 (.d (.sl bo r))) fun _=>mw st o s bo xs else .fail
  |_,_,_=>.fail
 |_=>.fail
def lv(C:Ctx)(st:al)(D:Oper):dk:=
 match D.op with
 |.makeMap t r=>match D.dst,C.tt t with
  |some o,.map _ _ ty=>match r with
   |none=>.fH (b6 (.own o (bz st o))) [(o,.map (bz st o) ty [])]
   |some x=>match bg C st 0 x with
    |.av (.am (.d (.int _ _)))=>.fH (b6 (.own o (bz st o))) [(o,.map (bz st o) ty [])]
    |_=>.fail
  |_,_=>.fail
 |.mapUpdate t m k x=>tc C st t m k x
 |.insert t m k x=>tc C st t m k x
 |.lookup t m k c=>match C.tt t,bg C st t m,bg C st 0 k with
  |.map _ _ ty,.av (.am l),.av (.am (.d (.str n)))=>match mapOf st l with
   |some ⟨u,es⟩=>bif decide (u=ty) then(match wK u (kJ es n) with
    |some d=>.ok (bif c then .j3 [.am (.d d),.am (.d (.bool (kJ es n).isSome))] else one d)
    |none=>.fail) else .fail
   |none=>.fail
  |_,_,_=>.fail
 |.makeInterface t x=>match C.tt t,bg C st t x with
  |.struct _ _ _ _,.av (.agg [.d (.int .i64 n)])=>.ok (one (.err t (some n)))
  |_,_=>.fail
 |_=>.fail
where
 tc (C:Ctx) (st:al) (t:TypeId) (m k x:Operand):dk:=match C.tt t,bg C st t m,bg C st 0 k,bg C st 0 x with
  |.map _ _ ty,.av (.am (.own o s)),.av (.am (.d (.str n))),.av (.am (.d d))=>match st.af o with
   |some (.map aN u es)=>bif aN.beq s&&decide (u=ty) then(match Kx u d with
    |some v=>.fH (b6 (.cW undef)) [(o,.map s u (po es n v))]
    |none=>.fail) else .fail
   |_=>.fail
  |_,_,_,_=>.fail
def step(C:Ctx)(st:al)(D:Oper):dk:=
 match D.op with
 |.move x|.assign x=>.ok (bg C st D.type x)
 |.pick c a b=>match bg C st D.type c with
  |.av (.am (.d (.bool true)))=>.ok (bg C st D.type a)
  |.av (.am (.d (.bool false)))=>.ok (bg C st D.type b)
  |_=>.fail
 |.alloc elem=>match D.dst,C.tt elem with
  |some o,.arr _ t n=>to o st t n
  |some o,ti=>match ti.zero with
   |some z=>.fH (b6 (.ptr o (bz st o) 0)) [(o,.box (bz st o) (bif elem.beq rS then ww z else z))]
   |none=>.fail
  |_,_=>.fail
 |.box elem x=>match D.dst,C.tt elem with
  |some o,.arr _ t n=>t_ o st t n (bg C st elem x)
  |some o,_=>match my (bg C st elem x) with
   |some a=>bif hL a.cells then .fH (b6 (.ptr o (bz st o) 0)) [(o,.box (bz st o) a.cells)] else .fail
   |none=>.fail
  |_,_=>.fail
 |.build t parts=>match C.tt t with
  |.struct bR _ z _=>ng C st bR z parts.toList
  |.arr _ ty n=>match uc ty with
   |some z=>ng C st ((List.range n).map fun j=>(j,1)) (List.replicate n z) parts.toList
   |none=>.fail
  |_=>.fail
 |.buildSlice t len parts=>match D.dst,C.tt t with
  |some o,.slice e ty _=>bif parts.toList.length.beq len&&sU 0 parts.toList&&Nat.ble (len*bd ty) 1000 then
    match ou (parts.toList.map fun p=>bg C st e p.2) with
    |some as=>match lR ty st as with
     |some (xs,us)=>.fH (b6 (.own o (bz st o))) (us++[(o,.row (bz st o) ty xs)])
     |none=>.fail
    |none=>.fail
   else .fail
  |_,_=>.fail
 |.load t a=>match C.tt t with
  |.arr _ ty n=>tB st ty n (bg C st t a)
  |ti=>bif ti.known then tA ti.agg ti.size st (bg C st t a) else .fail
 |.store t a x=>match my (bg C st t x) with
  |some v=>match C.tt t with
   |.arr _ ty n=>s7 st ty n (bg C st t a) v
   |ti=>bif ti.known then s6 ti.size st (bg C st t a) v else .fail
  |none=>.fail
 |.nilCheck x=>match bg C st D.type x with
  |.av (.am (.ptr o s f))=>.ok (b6 (.ptr o s f))
  |.av (.am (.eE cs f))=>.ok (b6 (.eE cs f))
  |.av (.am (.e5 o s t k f))=>.ok (b6 (.e5 o s t k f))
  |_=>.fail
 |.binOp op t x y _=>bif B7 y then JZ op (C.tt t) (bg C st t x) else Lg op (C.tt t) (bg C st t x) (bg C st t y)
 |.unOp op _ x=>match op,bg C st D.type x with
  |.not,.av (.am (.d (.bool b)))=>.ok (one (.bool (!b)))
  |.neg,.av (.am (.d (.int k n)))=>.ok (one (.int k (k.wrap (0-n))))
  |.xor,.av (.am (.d (.int k n)))=>.ok (one (.int k (dl k (if k.signed then-1 else k.max) n)))
  |_,_=>.fail
 |.convert src dst x=>(match D.dst with|some o=>tI C src dst o st (bg C st src x)|none=>.fail)
 |.makeFunc fn first captured=>match fn with
  |.func g=>bif first.toList.isEmpty then(match ot C st captured.toList with|some bE=>.ok (b6 (.clo g bE))|none=>.fail) else .fail
  |_=>.fail
 |.makeSlice t l c=>match D.dst,C.tt t,bg C st 0 l,bg C st 0 c with
  |some o,.slice e ty bytes,.av (.am (.d (.int _ n))),.av (.am (.d (.int _ m)))=>match(C.tt e).zero with
   |some z=>match gf st z with
    |some (ds,_)=>match dec ty ds with
     |some e0=>.hV (j4 bytes n m e0) (fun _=>b6 (.own o (bz st o))) fun r=>[(o,.row (bz st o) ty r)]
     |none=>.fail
    |none=>.fail
   |none=>.fail
  |_,_,_,_=>.fail
 |.slice t x cX hi Ex=>match Ex with
  |none=>match C.tt t with
   |.arr _ ty n=>s_ st ty n (bg C st t x) (cX.map (bg C st 0)) (hi.map (bg C st 0))
   |ti=>s9 ti st (bg C st t x) (cX.map (bg C st 0)) (hi.map (bg C st 0))
  |some _=>.fail
 |.fieldAddr s x f=>match C.tt s with
  |.struct bR _ _ _=>match bR[f]? with
   |some (off,_)=>Fm off (bg C st 0 x)
   |none=>.fail
  |_=>.fail
 |.indexAddr t x i=>match C.tt t,bg C st 0 i with
  |.slice _ ty _,.av (.am (.d (.int _ n)))=>sw ty st (bg C st t x) n
  |.arr _ ty m,.av (.am (.d (.int _ n)))=>sx C st ty m (bg C st t x) n
  |_,_=>.fail
 |.index t x i=>match C.tt t,bg C st t x,bg C st 0 i with
  |.str,.av (.am (.d (.str s))),.av (.am (.d (.int _ n)))=>.ey (aO s n) fun b=>one (.int .u8 b.toNat)
  |.arr _ ty m,v,.av (.am (.d (.int _ n)))=>JN ty m v n
  |_,_,_=>.fail
 |.extract t i=>match bg C st 0 t with
  |.j3 as=>match as[i]? with
   |some a=>.ok (.av a)
   |none=>.fail
  |_=>.fail
 |.call c=>match c.callee with
  |.value f=>match D.dst with
   |some d=>l' C d st (bg C st 0 f) (gA C st c.args.toList c.argTypes.toList)
   |none=>l' C 0 st (bg C st 0 f) (gA C st c.args.toList c.argTypes.toList)
  |.builtin b=>match b,D.dst,c.args.toList,c.argTypes.toList with
   |.len,_,[x],[t]=>tQ (C.tt t) st (bg C st t x)
   |.append,some o,[s,x],[t,u]=>match C.tt t,C.tt u with
    |.slice _ ty bytes,.slice _ _ _=>s4 bytes ty o st (bg C st t s) (bg C st u x)
    |.slice _ ty bytes,.str=>s5 bytes ty o st (bg C st t s) (bg C st u x)
    |_,_=>.fail
   |.max,_,[x,y],_=>match bg C st D.type x,bg C st D.type y with
    |.av (.am (.d (.int k a))),.av (.am (.d (.int _ b)))=>.ok (one (.int k (ga a b)))
    |_,_=>.fail
   |.max,_,[x,y,z,u,v],_=>match bg C st D.type x,bg C st D.type y,bg C st D.type z,bg C st D.type u,bg C st D.type v with
    |.av (.am (.d (.int k a))),.av (.am (.d (.int _ b))),.av (.am (.d (.int _ c))),.av (.am (.d (.int _ d))),.av (.am (.d (.int _ e)))=>.ok (one (.int k (ga (ga (ga (ga a b) c) d) e)))
    |_,_,_,_,_=>.fail
   |.min,_,[x,y],_=>match bg C st D.type x,bg C st D.type y with
    |.av (.am (.d (.int k a))),.av (.am (.d (.int _ b)))=>.ok (one (.int k (kp a b)))
    |_,_=>.fail
   |_,_,_,_=>.fail
  |_=>.fail
 |_=>lv C st D
where
 ng (C:Ctx) (st:al) (bR:List (Nat×Nat)):List aQ->List (Nat×Operand)->dk
  |z,[]=>.ok (.av (.agg z))
  |z,(i,x)::r=>match bR[i]?,my (bg C st 0 x) with
   |some (off,n),some a=>bif a.cells.length.beq n&&hL a.cells&&Nat.ble (off+n) z.length then ng C st bR (bP z off a.cells) r else .fail
   |_,_=>.fail
 ot (C:Ctx) (st:al):List Operand->Option (List (Nat×Nat))
  |[]=>some []
  |x::r=>match bg C st 0 x,ot C st r with
   |.av (.am (.ptr o s 0)),some l=>some ((o,s)::l)
   |_,_=>none
def Jy(C:Ctx)(st:al)(D:Oper):Option (((t:bf)×List (den t))×Bool):=
 match D.op with
 |.binOp op T x (.const (.slice none 0 0)) _=>match C.tt T with
  |.slice _ _ _=>match op with
   |.eql=>match bg C st T x with
    |.av (.am (.d (.sl t xs)))=>some (⟨t,xs⟩,false)
    |_=>none
   |.neq=>match bg C st T x with
    |.av (.am (.d (.sl t xs)))=>some (⟨t,xs⟩,true)
    |_=>none
   |_=>none
  |_=>none
 |_=>none
def aQ.names:aQ->List Nat
 |.own o _|.ptr o _ _|.e5 o _ _ _ _=>[o]
 |.clo _ bE=>keys bE
 |_=>[]
def dL:List aQ->List Nat
 |[]=>[]
 |l::ai=>l.names++dL ai
def sN:List bS->List Nat
 |[]=>[]
 |a::as=>dL a.cells++sN as
def a7.names:a7->List Nat
 |.av a=>dL a.cells
 |.j3 as=>sN as
def yX(st:al)(o:Nat):List Nat:=match st.af o with
 |some (.box _ cells)=>dL cells
 |_=>[]
def e4(st:al):List Nat->List Nat
 |[]=>[]
 |o::r=>o::(yX st o++e4 st r)
def lB:Op->List Operand
 |.move x|.assign x|.makeInterface _ x|.box _ x|.load _ x|.nilCheck x|.unOp _ _ x|.convert _ _ x|.fieldAddr _ x _|.extract x _=>[x]
 |.pick c a b=>[c,a,b]
 |.build _ ps|.buildSlice _ _ ps=>ps.toList.map (·.2)
 |.store _ a v|.binOp _ _ a v _|.makeSlice _ a v|.indexAddr _ a v|.index _ a v=>[a,v]
 |.makeFunc _ _ captured=>captured.toList
 |.slice _ x l h _=>x::(l.toList++h.toList)
 |.call c=>(match c.callee with|.value f=>[f]|_=>[])++c.args.toList
 |.lookup _ m k _=>[m,k]
 |.mapUpdate _ m k x|.insert _ m k x=>[m,k,x]
 |.makeMap _ r=>r.toList
 |_=>[]
def n'(st:al):List Operand->List Nat
 |[]=>[]
 |.tmp t::r=>(st.get t).names++n' st r
 |_::r=>n' st r
def pd:List Operand->List Nat
 |[]=>[]
 |.tmp t::r=>t::pd r
 |_::r=>pd r
def B8:Op->Bool
 |.call c=>match c.callee with
  |.value _=>true
  |_=>false
 |_=>false
def J8(C:Ctx):Op->List Nat
 |.makeSlice t _ _=>match C.tt t with
  |.slice e _ _=>match(C.tt e).zero with
   |some z=>dL z
   |none=>[]
  |_=>[]
 |_=>[]
def looks:Op->Bool
 |.load _ _|.store _ _ _|.slice _ _ _ _ _|.indexAddr _ _ _|.convert _ _ _|.buildSlice _ _ _|.call _|.lookup _ _ _ _|.mapUpdate _ _ _ _|.insert _ _ _ _=>true
 |_=>false
def Kk(C:Ctx)(st:al)(D:Oper):List Nat:=(bif looks D.op then e4 st (n' st (lB D.op)) else [])++D.dst.toList++J8 C D.op
def R9(u:Nat):List Oper->List Nat
 |[]=>[]
 |D::r=>(match D.op,D.dst with
  |.move (.tmp t),some d=>bif Nat.beq d u then [t] else []
  |_,_=>[])++R9 u r
def GD(all:List Oper):List Oper->List Nat
 |[]=>[]
 |D::r=>(match D.op with
  |.slice _ (.tmp u) _ _ _=>u::R9 u all
  |_=>[])++GD all r
def WP(st:al)(t:Nat):List (Nat×Site):=match st.get t with
 |.av (.am (.own o s))=>match st.af o with
  |some (.row aN t xs)=>bif aN.beq s then [(o,.dq aN t xs)] else []
  |_=>[]
 |_=>[]
def Cl(st:al):List Nat->List (Nat×Site)
 |[]=>[]
 |t::r=>WP st t++Cl st r
def al.io(st:al):List (Nat×Site)->al
 |[]=>st
 |(o,s)::r=>(st.iC o s).io r
def al.cY(st:al)(dst:Option Nat)(v:a7)(us:List (Nat×Site)):al:=
 match dst with
 |some t=>(st.io us).set t v
 |none=>st.io us
def cr(st:al):Option Nat->Bool
 |some t=>Nat.blt t st.nt
 |none=>true
abbrev BD:a7:=b6 (.cW undef)
section
variable {R:Type}
open Classical in
noncomputable def qy{t:bf}(xs:List (den t))(a b:Option R):Option R:=if xs=[]->a=b then b else none
def kI(C:Ctx)(st:al)(D:Oper)(K:al->Option R):Option R:=
 bif cr st D.dst then(step C st D).comp.bind fun y=>bif(step C st D).rT y then K (st.cY D.dst ((step C st D).val y) ((step C st D).us y)) else none else none
noncomputable def wz(C:Ctx)(st:al)(D:Oper)(K:al->Option R):Option R:=
 match Jy C st D with
 |some (⟨t,xs⟩,neg)=>bif cr st D.dst then qy xs (K (st.cY D.dst (one (.bool (!neg))) [])) (K (st.cY D.dst (one (.bool neg)) [])) else none
 |none=>kI C st D K
def s'(st:al)(D:Oper)(K:al->Option R):Option R:=
 bif cr st D.dst then K (st.cY D.dst BD []) else none
noncomputable def TR(C:Ctx)(ops:Array Oper)(st:al)(D:Oper)(K:al->Option R):Option R:=
 match D.guard with
 |none=>wz C st D K
 |some (j,want)=>match(ops[j]?).bind (·.dst) with
  |some t=>match st.get t with
   |.av (.am (.d (.bool b)))=>bif(bif want then b else !b) then wz C (st.set t (one (.bool want))) D K else s' (st.set t (one (.bool (!want)))) D K
   |.av (.am (.cW (.tuple _)))=>s' st D K
   |_=>none
  |none=>none
noncomputable def v6(C:Ctx)(ops:Array Oper):List Oper->al->(al->Option R)->Option R
 |[],st,K=>K st
 |D::r,st,K=>TR C ops st D fun ao=>v6 C ops r ao K
structure Rec where
 D:Oper
 go:Bool
 v:a7
 us:List (Nat×Site)
 la:List Nat
 rn:List Nat
 Ef:Bool
def wo:List Nat->Bool
 |[]=>false
 |n::r=>Nat.ble 1000000 n||wo r
def tP(d:Option Nat)(l:List Nat):Bool:=match d with|some d=>f' d l|none=>false
def mr(a b:Rec):Bool:=
 tP a.D.dst b.la||tP a.D.dst b.D.dst.toList||tP b.D.dst a.la||
 !e_ (keys a.us) (b.rn++keys b.us)||!e_ (keys b.us) a.rn||(a.Ef&&wo (keys b.us))||(b.Ef&&wo (keys a.us))
def mn(acc:List (Nat×Rec×List Nat)):List Edge->List Nat
 |[]=>[]
 |e::r=>bif Region.binds .any e then(match look acc e.on with|some x=>e.on::(x.2++mn acc r)|none=>mn acc r) else mn acc r
def s3(i:Nat):List Edge->Bool
 |[]=>true
 |e::r=>(!Region.binds .any e||Nat.blt e.on i)&&s3 i r
def tb(xW:List Nat)(x:Rec):List (Nat×Rec×List Nat)->Bool
 |[]=>true
 |(j,y,_)::r=>(f' j xW||!mr y x)&&tb xW x r
def TN(i:Nat):List Oper->Bool
 |[]=>false
 |D::r=>(match D.guard with|some (j,_)=>Nat.beq i j|none=>false)||TN i r
def KR(g:Bool)(v:a7)(K:a7->Option R):Option R:=
 bif g then(match v with
  |.av (.am (.d (.bool b)))=>bif b then K (one (.bool true)) else K (one (.bool false))
  |v=>K v) else K v
def Bv(C:Ctx)(g:Bool)(st:al)(D:Oper)(gs:List Nat)(K:Rec->Option R):Option R:=
 (step C st D).comp.bind fun y=>bif(step C st D).rT y then KR g ((step C st D).val y) fun v=>
  K ⟨D,true,v,(step C st D).us y,gs++pd (lB D.op),Kk C st D,B8 D.op⟩ else none
def Hf(D:Oper)(gs:List Nat)(K:Rec->Option R):Option R:=K ⟨D,false,BD,[],gs,[],false⟩
def J1(C:Ctx)(ops:Array Oper)(g:Bool)(st:al)(D:Oper)(K:Rec->Option R):Option R:=
 match D.guard with
 |none=>Bv C g st D [] K
 |some (j,want)=>match(ops[j]?).bind (·.dst) with
  |some t=>match st.get t with
   |.av (.am (.d (.bool b)))=>bif(bif want then b else !b) then Bv C g st D [t] K else Hf D [t] K
   |.av (.am (.cW (.tuple _)))=>Hf D [t] K
   |_=>none
  |none=>none
def Cx(C:Ctx)(ops:Array Oper):List Oper->Nat->List (Nat×Rec×List Nat)->al->(al->Option R)->Option R
 |[],_,_,st,K=>K st
 |D::r,i,acc,st,K=>bif cr st D.dst&&s3 i D.after.toList then J1 C ops (TN i r) st D fun x=>
   bif tb (mn acc D.after.toList) x acc then Cx C ops r (i+1) ((i,x,mn acc D.after.toList)::acc) (st.cY D.dst x.v x.us) K else none
  else none
def T4(C:Ctx)(ops:Array Oper)(st:al)(K:al->Option R):Option R:=Cx C ops ops.toList 0 [] (st.io (Cl st (GD ops.toList ops.toList))) K
inductive Out:Type where
 |norm (st:al)
 |exit (id:Nat) (st:al)
 |ret (st:al)
structure atU:Type 1 where
 J:Type
 comp:Option J
 out:J->Out
 run:(R:Type)->J->(Out->Option R)->Option R
 run_eq:∀(R:Type) (y:J) (K:Out->Option R),run R y K=K (out y)
abbrev h9:=al->atU
structure hY:Type 1 extends Ctx where
 oC:Nat->Option h9
def wrap(C:hY)(p:Nat)(st:al)(K:Out->Option R)(x:Option R):Option R:=
 match C.oC p with
 |some f=>(f st).comp.bind fun y=>(f st).run R y K
 |none=>x
noncomputable def exec(C:hY):Code->Nat->al->(Out->Option R)->Option R
 |.skip,_,st,K=>K (.norm st)
 |.region _ ops false,p,st,K=>wrap C p st K (v6 C.toCtx ops ops.toList st fun ao=>K (.norm ao))
 |.region _ ops true,p,st,K=>wrap C p st K (T4 C.toCtx ops st fun ao=>K (.norm ao))
 |.seq a b,p,st,K=>wrap C p st K (exec C a (2*p) st fun
  |.norm ao=>exec C b (2*p+1) ao K
  |D=>K D)
 |.cond c a b,p,st,K=>wrap C p st K (match bg C.toCtx st 0 c with
  |.av (.am (.d (.bool t)))=>bif t then exec C a (2*p) st K else exec C b (2*p+1) st K
  |_=>none)
 |.block id c,p,st,K=>wrap C p st K (exec C c (2*p) st fun
  |.exit jc ao=>bif jc.beq id then K (.norm ao) else K (.exit jc ao)
  |D=>K D)
 |.loop _,p,st,K=>wrap C p st K none
 |.rangeFunc _ _ _ _,p,st,K=>wrap C p st K none
 |.exit id,_,st,K=>K (.exit id st)
 |.ret,_,st,K=>K (.ret st)
 |_,_,_,_=>none
end
section
variable {F aY:Nat->Value}{sites bY:List (Nat×Site)}{w w':World}{av cl:Nat->Prop}
structure ir(F aY:Nat->Value)(sites bY:List (Nat×Site))(w w':World)(av cl:Nat->Prop):Prop where
 ref:∀o af,look sites o=some af->∃bZ,look bY o=some bZ/\af.cy<=bZ.cy/\(bZ.cy=af.cy->aY o=F o)
 bQ:∀b,¬av b->b<w.heap.size->w'.heap[b]? =w.heap[b]?
 av:∀b,¬av b->b<w.heap.size->¬cl b
theorem bK.goes{d:bh}{v:Value}(G:ir F aY sites bY w w' av cl)(hs:w.heap.size<=w'.heap.size)(aB2:∀b,cl b->b<w'.heap.size)(r:bK w av d v):bK w' cl d v:=by
 induction r with
 |int k n=>exact .int k n
 |bool b=>exact .bool b
 |str l s h=>exact .str l s h
 |nil t=>exact .nil t
 |sl t xs a cap cs n hn hcap hb hl hc _ ih=>
  have key:xs≠[]->a.block<w.heap.size:=by
   intro hne;have nw:0<cs.length:=by
    rw[hl,e9];exact Nat.mul_pos (List.length_pos_iff.mpr hne) (mc t)
   have:=hc 0 (cs[0]) (List.getElem?_eq_getElem nw);have h2:=World.block_lt_of_cell? w _ this;have iY:(a.add 0).block=a.block:=by unfold Addr.add;split<;>rfl
   rwa[iY] at h2
  refine .sl t xs a cap cs n hn hcap (fun hx=>G.av _ (hb hx) (key hx)) hl (fun j u hu=>?_) ih
  have hcell:=hc j u hu;have hne:xs≠[]:=by
   rintro rfl;have:cs=[]:=List.eq_nil_of_length_eq_zero (by simpa[flat] using hl)
   subst this;simp at hu
  have iY:(a.add j).block=a.block:=by unfold Addr.add;split<;>rfl
  rw[World.cell?_of_block (w:=w) (a:=a.add j) (by rw[iY];exact G.bQ _ (hb hne) (key hne))]
  exact hcell
 |fn g bE bs jg lb hlb uA hb hlt hl hc _ ih=>
  refine .fn g bE bs jg lb hlb uA (fun b hm=>G.av b (hb b hm) (hlt b hm)) (fun b hm=>Nat.lt_of_lt_of_le (hlt b hm) hs) hl (fun i hi j u hu=>?_) ih
  have hcell:=hc i hi j u hu;have hm:bs[i]∈bs:=List.getElem_mem hi;rw[World.cell?_of_block (w:=w) (a:=⟨bs[i],j,none⟩) (G.bQ _ (hb _ hm) (hlt _ hm))];exact hcell
 |wV t=>exact .wV t
 |w7 T=>exact .w7 T
 |err T n=>exact .err T n
 |map t es b hb hm=>exact .map t es b (G.av b hb hm.lt) (hm.of (G.bQ b hb hm.lt))
theorem Ref.goes{o s:Nat}{p hH:Prop}(G:ir F aY sites bY w w' av cl)(h:Ref sites o s p)(hp:aY o=F o->p->hH):Ref bY o s hH:=by
 obtain⟨af,h1,h2,h3⟩:=h;obtain⟨bZ,g1,g2,g3⟩:=G.ref o af h1;refine⟨bZ,g1,Nat.le_trans h2 g2,fun e=>?_⟩
 have:bZ.cy=af.cy:=by omega
 exact hp (g3 this) (h3 (by omega))
theorem ea.goes{l:aQ}{v:Value}(G:ir F aY sites bY w w' av cl)(hs:w.heap.size<=w'.heap.size)(cc:∀b,cl b->b<w'.heap.size)(h:ea F sites w av l v):ea aY bY w' cl l v:=by
 cases l with
 |d x=>exact bK.goes G hs cc h
 |nil t=>exact h
 |own o s=>exact⟨h.1,Ref.goes G h.2 (fun e p=>p.trans e.symm)⟩
 |ptr o s off=>obtain⟨b,h1,h2⟩:=h;exact⟨b,h1,Ref.goes G h2 (fun e p=>by rw[e];exact p)⟩
 |eE cells off=>
  obtain⟨b,D,hv,hb,hlt,cs,hl,hc,hr⟩:=h;refine⟨b,D,hv,G.av b hb hlt,Nat.lt_of_lt_of_le hlt hs,cs,hl,fun j u hu=>?_,fun j h1 h2=>(hr j h1 h2).goes G hs cc⟩
  have hcell:=hc j u hu;rw[World.cell?_of_block (w:=w) (a:=⟨b,D+j,none⟩) (G.bQ b hb hlt)];exact hcell
 |e5 o s t k off=>obtain⟨b,h1,h2⟩:=h;exact⟨b,h1,Ref.goes G h2 (fun e p=>by rw[e];exact p)⟩
 |clo g bE=>
  obtain⟨vs,hv,hl,hr⟩:=h;exact⟨vs,hv,hl,fun i h1 h2=>Ref.goes G (hr i h1 h2) (fun e p=>p.trans e.symm)⟩
 |cW u=>exact h
 |fresh t xs=>exact h
 |dz=>trivial
 |any=>trivial
theorem ho.goes{a:bS}{v:Value}(G:ir F aY sites bY w w' av cl)(hs:w.heap.size<=w'.heap.size)(cc:∀b,cl b->b<w'.heap.size)(h:ho F sites w av a v):ho aY bY w' cl a v:=by
 cases a with
 |am l=>exact ea.goes G hs cc h
 |agg ai=>
  obtain⟨vs,hv,hl,hr⟩:=h;exact⟨vs,hv,hl,fun j h1 h2=>(hr j h1 h2).goes G hs cc⟩
theorem ck.goes{a:a7}{v:Value}(G:ir F aY sites bY w w' av cl)(hs:w.heap.size<=w'.heap.size)(cc:∀b,cl b->b<w'.heap.size)(h:ck F sites w av a v):ck aY bY w' cl a v:=by
 cases a with
 |av a=>exact ho.goes G hs cc h
 |j3 as=>
  obtain⟨vs,hv,hl,hr⟩:=h;exact⟨vs,hv,hl,fun j h1 h2=>(hr j h1 h2).goes G hs cc⟩
theorem kj.goes{o:Nat}{af:Site}(G:ir F aY sites bY w w' av cl)(hs:w.heap.size<=w'.heap.size)(cc:∀b,cl b->b<w'.heap.size)(cV:aY o=F o)
  (hb:af.live=true->∀b,Jk.bQ (F o)=some b->w'.heap[b]? =w.heap[b]?) (h:kj F sites w av o af):kj aY bY w' cl o af:=by
 cases af with
 |box s cells=>
  obtain⟨b,T,cur,h1,h2,h3,aA,oN,bl⟩:=h;have:=hb rfl b (by rw[h1];rfl)
  exact⟨b,T,cur,cV.trans h1,this.trans h2,h3,aA,oN,fun j g1 g2=>(bl j g1 g2).goes G hs cc⟩
 |row s t xs=>
  obtain⟨e,cs,h1,h2⟩:=h;refine⟨e,cs,?_,fun j g1 g2=>(h2 j g1 g2).goes G hs cc⟩
  rw[cV];refine⟨h1.1,?_⟩;rcases h1.2 with hn|⟨g,cap,cur,fz,hv,r1,r2,dn⟩
  ·exact .inl hn
  ·refine .inr ⟨g,cap,cur,fz,hv,r1,?_,dn⟩;rw[hb rfl g (by rw[hv];rfl)];exact r2
 |dq s t xs=>exact⟨by rw[cV];exact bK.goes G hs cc h.1,by rw[cV];exact h.2⟩
 |map s t es=>
  obtain⟨b,h1,h2⟩:=h;exact⟨b,cV.trans h1,h2.of (hb rfl b (by rw[h1];rfl))⟩
 |dead s=>trivial
end
theorem ar.ra{U:World}{Y:List Nat}{X:Nat->Prop}{F aY:Nat->Value}{st:al}{bY:List (Nat×Site)}{M:Array Value}{w w':World}
  (S:ar U Y X F st M w)
  (rj:∀o af,look st.sites o=some af->∃bZ,look bY o=some bZ/\af.cy<=bZ.cy/\(bZ.cy=af.cy->aY o=F o))
  (iY:∀b,¬aI X F st.sites b->b<w.heap.size->w'.heap[b]? =w.heap[b]?)
  (cc:∀b,¬aI X F st.sites b->b<w.heap.size->¬aI X aY bY b)
  (ath:(∀{a v},ck F st.sites w (aI X F st.sites) a v->ck aY bY w' (aI X aY bY) a v)->∀o bZ,look bY o=some bZ->
   (look st.sites o=some bZ/\aY o=F o/\(bZ.live=true->∀b,bQ (F o)=some b->w'.heap[b]? =w.heap[b]?))\/kj aY bY w' (aI X aY bY) o bZ)
  (aq2:∀o ab b,cq bY o->cq bY ab->bQ (aY o)=some b->bQ (aY ab)=some b->o=ab)
  (aqZ:∀o b,cq bY o->bQ (aY o)=some b->¬X b/\(b∈Y\/U.heap.size<=b))
  (hlt:∀o b,cq bY o->bQ (aY o)=some b->b<w'.heap.size)
  (apc:Fr Y U w') (hs:w.heap.size<=w'.heap.size):
  ar U Y X aY {st with sites:=bY} M w':=by
 have G:ir F aY st.sites bY w w' (aI X F st.sites) (aI X aY bY):=⟨rj,iY,cc⟩;have w5:∀b,aI X aY bY b->b<w'.heap.size:=by
  rintro b (hx|⟨o,h1,h2⟩)
  ·exact Nat.lt_of_lt_of_le (S.old b hx) hs
  ·exact hlt o b h1 h2
 refine⟨S.nt,fun t=>(S.cO t).goes G hs w5,fun o bZ bA=>?_,aq2,aqZ,apc,fun b h=>Nat.lt_of_lt_of_le (S.old b h) hs,S.fa⟩
 rcases ath (fun h=>h.goes G hs w5) o bZ bA with⟨h1,h2,h3⟩|h
 ·exact(S.sites o bZ h1).goes G hs w5 h2 h3
 ·exact h
def cD(M:Array Value)(dst:Option Nat)(v:Value):Array Value:=
 match dst with
 |some d=>M.setIfInBounds d v
 |none=>M
section
variable {P:Program}{K:Act->World->Prop}{Q:Exit->Act->World->Prop}{D:Oper}{M:Array Value}{w w':World}{vv:Value}
theorem pj(h:(execOp (Act.eval ⟨M,[]⟩) D).run P w=.ok (.value vv) w')(hk:K ⟨cD M D.dst vv,[]⟩ w'):D.wp P ⟨M,[]⟩ w K Q:=by
 unfold Oper.wp;rw[h,Oper.upon_value];cases Z:D.dst with
 |none=>simp only[Z,cD] at hk;simpa[Act.put] using hk
 |some d=>simp only[Z,cD] at hk;simpa[Act.put] using hk
theorem aod(h:(execOp (Act.eval ⟨M,[]⟩) D).run P w=.ok .skip w')(hk:K ⟨cD M D.dst undef,[]⟩ w'):D.wp P ⟨M,[]⟩ w K Q:=by
 unfold Oper.wp;rw[h,Oper.upon_skip];cases Z:D.dst with
 |none=>simp only[Z,cD] at hk;simpa[Act.put] using hk
 |some d=>simp only[Z,cD] at hk;simpa[Act.put] using hk
end
def bv(sites:List (Nat×Site)):List (Nat×Site)->List (Nat×Site)
 |[]=>sites
 |(o,s)::r=>bv (cw sites o s) r
theorem al.vA(st:al)(us:List (Nat×Site)):st.io us={st with sites:=bv st.sites us}:=by
 induction us generalizing st with
 |nil=>rfl
 |cons p us ih=>obtain⟨o,s⟩:=p;simp only[al.io,bv];rw[ih];rfl
theorem lm(sites:List (Nat×Site))(us vs:List (Nat×Site)):bv sites (us++vs)=bv (bv sites us) vs:=by
 induction us generalizing sites with
 |nil=>rfl
 |cons p us ih=>obtain⟨o,s⟩:=p;simp only[List.cons_append,bv];exact ih _
section
variable {U:World}{Y:List Nat}{X:Nat->Prop}{F:Nat->Value}{st:al}{M:Array Value}{w:World}
theorem ar.put(S:ar U Y X F st M w){t:Nat}{v:a7}{vv:Value}(aq:t<st.nt)(hv:ck F st.sites w (aI X F st.sites) v vv):
  ar U Y X F (st.set t v) (M.setIfInBounds t vv) w:=by
 refine⟨by simpa using S.nt,fun u=>?_,S.sites,S.eg,S.ct,S.frame,S.old,S.fa⟩
 rw[al.IN];by_cases h:t=u
 ·subst h;simp only[if_true];have:(M.setIfInBounds t vv).getD t undef=vv:=by
   have h1:t<M.size:=by rw[S.nt];exact aq
   simp[Array.getD,h1]
  rw[this];exact hv
 ·simp only[h,if_false];have:(M.setIfInBounds t vv).getD u undef=M.getD u undef:=by
   simp only[Array.getD_eq_getD_getElem?,Array.getElem?_setIfInBounds,h,if_false]
  rw[this];exact S.cO u
theorem ar.cY{dst:Option Nat}{v:a7}{vv:Value}{us:List (Nat×Site)}(S:ar U Y X F {st with sites:=bv st.sites us} M w)
  (Z:cr st dst=true) (hv:ck F (bv st.sites us) w (aI X F (bv st.sites us)) v vv):ar U Y X F (st.cY dst v us) (cD M dst vv) w:=by
 cases dst with
 |none=>simp only[al.cY,al.vA,cD];exact S
 |some t=>
  simp only[al.cY,al.vA,cD];have aq:t<st.nt:=by simpa[cr] using Z
  exact ar.put (st:={st with sites:=bv st.sites us}) S aq hv
theorem dH(S:ar U Y X F st M w)(C:Ctx)(T:TypeId)(x:Operand):ck F st.sites w (aI X F st.sites) (bg C st T x) (Act.eval ⟨M,[]⟩ x):=by
 cases x with
 |tmp t=>exact S.cO t
 |const v=>
  show ck _ _ _ _ (vU (C.tt T) v) v;unfold vU;split
  ·exact .int _ _
  ·exact .bool _
  ·exact .str _ _ rfl
  ·split<;>exact rfl
  ·split
   ·exact .wV _
   ·exact rfl
  ·trivial
  ·trivial
  ·exact rfl
 |global g=>exact rfl
 |func f=>
  refine⟨[],rfl,rfl,fun i h=>?_⟩
  simp at h
variable {P:Program}{C:Ctx}{D:Oper}{K:Act->World->Prop}{Q:Exit->Act->World->Prop}
def cN(P:Program)(U:World)(Y:List Nat)(X:Nat->Prop)(st:al)(M:Array Value)(w:World)(D:Oper)(v:a7)(us:List (Nat×Site)):Prop:=
 ∀(K:Act->World->Prop) (Q:Exit->Act->World->Prop),(∀aY b0 w',ar U Y X aY (st.cY D.dst v us) b0 w'->K ⟨b0,[]⟩ w')->D.wp P ⟨M,[]⟩ w K Q
theorem dS(S:ar U Y X F st M w)(Z:cr st D.dst=true){v:a7}{vv:Value}
  (h:(execOp (Act.eval ⟨M,[]⟩) D).run P w=.ok (.value vv) w) (hv:ck F st.sites w (aI X F st.sites) v vv):cN P U Y X st M w D v []:=
 fun _ _ bT=>pj h (bT _ _ _ (ar.cY (us:=[]) S Z hv))
end
section
variable {P:Program}{w:World}
theorem aej(op:BinOp)(t:TypeId)(x y:Operand)(k k':IntKind)(a b:Int):(eqGuard op t x y (.int k a) (.int k' b)).run P w=.ok () w:=by
 unfold eqGuard;cases op<;>rfl
theorem ad6(op:BinOp)(t:TypeId)(x y:Operand)(a b:ByteArray):(eqGuard op t x y (.string a) (.string b)).run P w=.ok () w:=by
 unfold eqGuard;cases op<;>rfl
theorem Oq(op:BinOp)(t:TypeId)(x y:Operand)(a b:Bool):(eqGuard op t x y (.bool a) (.bool b)).run P w=.ok () w:=by
 unfold eqGuard;cases op<;>rfl
def Holds(r:dk)(ed:a7->List (Nat×Site)->Prop):Prop:=∀y,r.comp=some y->r.rT y=true->ed (r.val y) (r.us y)
theorem Holds.fail{ed:a7->List (Nat×Site)->Prop}:Holds .fail ed:=fun _ h _=>by cases h
theorem Holds.ok{v:a7}{ed:a7->List (Nat×Site)->Prop}(h:ed v []):Holds (.ok v) ed:=fun _ _ _=>h
theorem Holds.fH{v:a7}{us:List (Nat×Site)}{ed:a7->List (Nat×Site)->Prop}(h:ed v us):Holds (.fH v us) ed:=fun _ _ _=>h
theorem Holds.ey{J:Type}{c:Option J}{f:J->a7}{ed:a7->List (Nat×Site)->Prop}(h:∀y,c=some y->ed (f y) []):Holds (.ey c f) ed:=fun y hy _=>h y hy
theorem Holds.hV{J:Type}{c:Option J}{f:J->a7}{us:J->List (Nat×Site)}{ed:a7->List (Nat×Site)->Prop}(h:∀y,c=some y->ed (f y) (us y)):Holds (.hV c f us) ed:=fun y hy _=>h y hy
def Plain(P:Program)(w:World)(s:Sem Value)(v:a7)(us:List (Nat×Site)):Prop:=
 ∃vv d,s.run P w=.ok vv w/\us=[]/\v=one d/\∀av,bK w av d vv
theorem Plain.mk{s:Sem Value}{vv:Value}{d:bh}(h:s.run P w=.ok vv w)(hr:∀av,bK w av d vv):Plain P w s (one d) []:=⟨vv,d,h,rfl,rfl,hr⟩
theorem ah8(op:BinOp)(T:TypeId)(k:IntKind)(a b:Int)(hs:op≠.shl)(fS:op≠.shr):
  Holds (WA op k a b) (Plain P w (binOp op T (.int k a) (.int k b))):=by
 cases op with
 |shl=>exact absurd rfl hs
 |shr=>exact absurd rfl fS
 |andNot=>exact .fail
 |quo=>
  refine Holds.ey fun y hy=>?_
  unfold lM at hy;split at hy
  ·cases hy
  ·rename_i hb;cases hy;exact .mk (by simp[binOp,Op.intDiv,hb]) fun av=>.int _ _
 |rem=>
  refine Holds.ey fun y hy=>?_
  unfold iK at hy;split at hy
  ·cases hy
  ·rename_i hb;cases hy;exact .mk (by simp[binOp,Op.intDiv,hb]) fun av=>.int _ _
 |add=>exact Holds.ok (.mk (by simp[binOp,Op.intArith]) fun av=>.int _ _)
 |sub=>exact Holds.ok (.mk (by simp[binOp,Op.intArith]) fun av=>.int _ _)
 |mul=>exact Holds.ok (.mk (by simp[binOp,Op.intArith]) fun av=>.int _ _)
 |and=>exact Holds.ok (.mk (by simp[binOp,Op.intBits,eF]) fun av=>.int _ _)
 |or=>exact Holds.ok (.mk (by simp[binOp,Op.intBits,h6]) fun av=>.int _ _)
 |xor=>exact Holds.ok (.mk (by simp[binOp,Op.intBits,dl]) fun av=>.int _ _)
 |eql=>exact Holds.ok (.mk (by simp[binOp,Op.intCmp]) fun av=>.bool _)
 |neq=>exact Holds.ok (.mk (by simp[binOp,Op.intCmp]) fun av=>.bool _)
 |lss=>exact Holds.ok (.mk (by simp[binOp,Op.intCmp]) fun av=>.bool _)
 |leq=>exact Holds.ok (.mk (by simp[binOp,Op.intCmp]) fun av=>.bool _)
 |gtr=>exact Holds.ok (.mk (by simp[binOp,Op.intCmp]) fun av=>.bool _)
 |geq=>exact Holds.ok (.mk (by simp[binOp,Op.intCmp]) fun av=>.bool _)
theorem ah6(op:BinOp)(T:TypeId)(a b:ByteArray):
  Holds (Wf op a.data.toList b.data.toList) (Plain P w (binOp op T (.string a) (.string b))):=by
 have e1:a.toList=a.data.toList:=ByteArray.toList_eq a;have e2:b.toList=b.data.toList:=ByteArray.toList_eq b;have dP:a.data.toList.length=a.size:=rfl;have fC:b.data.toList.length=b.size:=rfl;cases op with
 |add=>
  refine Holds.ey fun y hy=>?_
  simp only[b4,dP,fC] at hy;split at hy
  ·cases hy
  ·rename_i hc;cases hy;refine .mk (vv:=.string (a++b)) ?_ fun av=>.str _ _ (by simp[ByteArray.data_append])
   simp only[binOp,Op.stringOp,hc,if_false,Sem.run_pure]
 |eql=>exact Holds.ok (.mk (by rw[<-e1,<-e2];rfl) fun av=>.bool _)
 |neq=>exact Holds.ok (.mk (by rw[<-e1,<-e2];rfl) fun av=>.bool _)
 |lss=>exact Holds.ok (.mk (by rw[<-e1,<-e2];rfl) fun av=>.bool _)
 |leq=>exact Holds.ok (.mk (by rw[<-e1,<-e2];rfl) fun av=>.bool _)
 |gtr=>exact Holds.ok (.mk (by rw[<-e1,<-e2];rfl) fun av=>.bool _)
 |geq=>exact Holds.ok (.mk (by rw[<-e1,<-e2];rfl) fun av=>.bool _)
 |_=>exact .fail
end
def qK:aQ->Option Value
 |.d (.int k n)=>some (.int k n)
 |.d (.bool b)=>some (.bool b)
 |.d (.str [])=>some (.string ⟨#[]⟩)
 |.nil _=>some (.slice none 0 0)
 |.cW (.pointer none)=>some (.pointer none)
 |.cW .nilFunc=>some .nilFunc
 |.cW (.map none)=>some (.map none)
 |.cW .nilIface=>some .nilIface
 |_=>none
def ls:List aQ->Option (List Value)
 |[]=>some []
 |l::ai=>match qK l,ls ai with
  |some v,some vs=>some (v::vs)
  |_,_=>none
theorem Pm{l:aQ}{v:Value}(h:qK l=some v)(F:Nat->Value)(sites:List (Nat×Site))(w:World)(av:Nat->Prop):ea F sites w av l v/\v.oneCell'=true:=by
 unfold qK at h;split at h<;>first|cases h|skip
 ·exact⟨.int _ _,rfl⟩
 ·exact⟨.bool _,rfl⟩
 ·exact⟨.str _ _ rfl,rfl⟩
 ·exact⟨rfl,rfl⟩
 ·exact⟨rfl,rfl⟩
 ·exact⟨rfl,rfl⟩
 ·exact⟨rfl,rfl⟩
 ·exact⟨rfl,rfl⟩
theorem u3:∀{ai:List aQ} {vs:List Value},ls ai=some vs->vs.length=ai.length/\(∀u∈vs,u.oneCell'=true)/\
  ∀(F:Nat->Value) (sites:List (Nat×Site)) (w:World) (av:Nat->Prop) j (h:j<ai.length) (aj:j<vs.length),ea F sites w av (ai[j]) (vs[j]):=by
 intro ai;induction ai with
 |nil=>intro vs h;simp[ls] at h;subst h;exact⟨rfl,fun u hu=>by simp at hu,fun _ _ _ _ j h=>by simp at h⟩
 |cons l ai ih=>
  intro vs h;simp only[ls] at h;split at h
  ·rename_i v cv h1 h2;cases h;obtain⟨g1,g2,g3⟩:=ih h2;refine⟨by simp[g1],fun u hu=>?_,fun F sites w av j hj j8=>?_⟩
   ·rcases List.mem_cons.1 hu with rfl|hu
    ·exact(Pm h1 (fun _=>undef) [] default (fun _=>False)).2
    ·exact g2 u hu
   ·cases j with
    |zero=>exact(Pm h1 _ _ _ _).1
    |succ j=>exact g3 F sites w av j (by simpa using hj) (by simpa using j8)
  ·cases h
def oa:Value->Value->Option Bool
 |.int k a,.int k' b=>if k=k' then some (a==b) else none
 |.bool a,.bool b=>some (a==b)
 |.string a,.string b=>some (a==b)
 |_,_=>none
def jL:List Value->List Value->Option Bool
 |[a],[b]=>oa a b
 |a::as,b::bs=>match oa a b,jL as bs with
  |some x,some y=>some (x&&y)
  |_,_=>none
 |_,_=>none
def pP:List aQ->List Value->Bool
 |[],[]=>true
 |.d (.int _ _)::z,.int _ _::l=>pP z l
 |.d (.bool _)::z,.bool _::l=>pP z l
 |.d (.str _)::z,.string _::l=>pP z l
 |_,_=>false
def ju(P:Program)(T:TypeId)(d:TypeDesc)(z:Value):Prop:=
 P.underlying T=some d/\(∀bR,d≠.struct bR)/\(∀n e,d≠.array n e)/\(P.info? T).map (fun i=>(i.size,i.zero))=some (1,some z)
def mapElem(P:Program)(e:TypeId):bf->Prop
 |.i64=>ju P e (.int .i64) (.int .i64 0)
 |.bool=>ju P e .bool (.bool false)
 |_=>False
def I8(P:Program)(e:TypeId):bf->Prop
 |.i64=>ju P e (.int .i64) (.int .i64 0)
 |.u32=>ju P e (.int .u32) (.int .u32 0)
 |.bool=>ju P e .bool (.bool false)
 |.str=>ju P e .string (.string ⟨#[]⟩)
 |_=>False
def cg.ok(P:Program)(T:TypeId):cg->Prop
 |.none=>True
 |.int k=>ju P T (.int k) (.int k 0)
 |.bool=>ju P T .bool (.bool false)
 |.str=>ju P T .string (.string ⟨#[]⟩)
 |.ptr=>∃e,ju P T (.pointer e) (.pointer Option.none)
 |.func=>∃ps la v,ju P T (.func ps la v) .nilFunc
 |.slice e t bytes=>ju P T (.slice e) (.slice Option.none 0 0)/\∃z,(P.info? e).map (fun i=>(i.size,i.bytes,i.zero))=some (bd t,bytes,some z)/\z.cells.size=bd t/\(t.j5=true->e=mN)
 |.struct bR n z eq=>∃fields:Array Field,P.underlying T=some (.struct fields)/\
   (fields.toList.mapM (fun f=>(P.info? f.type).map fun i=>(f.offset,i.size))=some bR/\∀p∈bR,p.2≠0)/\
   (∃gi,(P.info? T).map (fun i=>(i.size,i.zero))=some (n,some (.agg gi))/\ls z=some gi.toList/\z.length=n)/\
   (eq=true->P.eqGuardType P.depth T=false/\∀(vs us:List Value) (b:Bool) (w:World),jL vs us=some b->pP z vs=true->(Op.equal T (.agg vs.toArray) (.agg us.toArray)).run P w=.ok b w)
 |.map k e t=>ju P T (.map k e) (.map Option.none)/\P.underlying k=some .string/\mapElem P e t
 |.iface=>∃jf,ju P T (.interface jf) .nilIface
 |.arr e t n=>P.underlying T=some (.array n e)/\(∃gi z,(P.info? T).map (fun i=>(i.size,i.zero))=some (n,some (.agg gi))/\uc t=some z/\ls (List.replicate n z)=some gi.toList)/\I8 P e t
section
variable {P:Program}{T:TypeId}{w:World}
theorem ll{i:TypeInfo}(h:P.info? T=some i):(typeInfo T).run P w=.ok i w:=by
 simp[typeInfo,h]
theorem cg.R3{ti:cg}(h:ti.ok P T)(hn:ti≠.none):(sizeOf T).run P w=.ok ti.size w:=by
 have key:∀{z:Option Value} {n:Nat},(P.info? T).map (fun i=>(i.size,i.zero))=some (n,z)->(sizeOf T).run P w=.ok n w:=by
  intro z n h;cases hi:P.info? T with
  |none=>simp[hi] at h
  |some i=>
   simp only[hi,Option.map_some,Option.some.injEq,Prod.mk.injEq] at h;simp[sizeOf,ll hi,h.1]
 cases ti with
 |none=>exact absurd rfl hn
 |int k=>exact key h.2.2.2
 |bool=>exact key h.2.2.2
 |str=>exact key h.2.2.2
 |ptr=>obtain⟨e,h⟩:=h;exact key h.2.2.2
 |func=>obtain⟨_,_,_,h⟩:=h;exact key h.2.2.2
 |iface=>obtain⟨_,h⟩:=h;exact key h.2.2.2
 |slice e t b=>exact key h.1.2.2.2
 |map k e t=>exact key h.1.2.2.2
 |struct bR n z eq=>obtain⟨fields,_,_,⟨gi,h,_⟩,_⟩:=h;exact key h
 |arr e t n=>obtain⟨_,⟨gi,z,h,_⟩,_⟩:=h;exact key h
theorem cg.GG{ti:cg}(h:ti.ok P T){z:List aQ}(hz:ti.zero=some z):∃v,(zeroValue T).run P w=.ok v w/\ls z=some v.cells.toList:=by
 have key:∀{z:Value} {n:Nat},(P.info? T).map (fun i=>(i.size,i.zero))=some (n,some z)->(zeroValue T).run P w=.ok z w:=by
  intro z n h;cases hi:P.info? T with
  |none=>simp[hi] at h
  |some i=>
   simp only[hi,Option.map_some,Option.some.injEq,Prod.mk.injEq] at h;simp[zeroValue,ll hi,h.2]
 cases ti with
 |none=>cases hz
 |int k=>cases hz;exact⟨_,key h.2.2.2,rfl⟩
 |bool=>cases hz;exact⟨_,key h.2.2.2,rfl⟩
 |str=>cases hz;exact⟨_,key h.2.2.2,rfl⟩
 |ptr=>cases hz;obtain⟨e,h⟩:=h;exact⟨_,key h.2.2.2,rfl⟩
 |func=>cases hz;obtain⟨_,_,_,h⟩:=h;exact⟨_,key h.2.2.2,rfl⟩
 |iface=>cases hz;obtain⟨_,h⟩:=h;exact⟨_,key h.2.2.2,rfl⟩
 |slice e t b=>cases hz;exact⟨_,key h.1.2.2.2,rfl⟩
 |map k e t=>cases hz;exact⟨_,key h.1.2.2.2,rfl⟩
 |struct bR n e0 eq=>cases hz;obtain⟨fields,_,_,⟨gi,h,h2,_⟩,_⟩:=h;exact⟨_,key h,h2⟩
 |arr e t n=>
  obtain⟨_,⟨gi,z0,h,h1,h2⟩,_⟩:=h;simp only[cg.zero,h1,Option.map_some,Option.some.injEq] at hz;subst hz;exact⟨_,key h,h2⟩
theorem cg.QH{ti:cg}(h:ti.ok P T)(hn:ti≠.none):(isAgg T).run P w=.ok ti.agg w:=by
 have key:∀{d:TypeDesc},P.underlying T=some d->(∀bR,d≠.struct bR)->(∀n e,d≠.array n e)->(isAgg T).run P w=.ok false w:=by
  intro d h h1 h2;simp only[isAgg,Sem.run_bind,run_underlying h,Result.andThen_ok];cases d<;>first|rfl|exact absurd rfl (h1 _)|exact absurd rfl (h2 _ _)
 cases ti with
 |none=>exact absurd rfl hn
 |int k=>exact key h.1 h.2.1 h.2.2.1
 |bool=>exact key h.1 h.2.1 h.2.2.1
 |str=>exact key h.1 h.2.1 h.2.2.1
 |ptr=>obtain⟨e,h⟩:=h;exact key h.1 h.2.1 h.2.2.1
 |func=>obtain⟨_,_,_,h⟩:=h;exact key h.1 h.2.1 h.2.2.1
 |iface=>obtain⟨_,h⟩:=h;exact key h.1 h.2.1 h.2.2.1
 |slice e t b=>exact key h.1.1 h.1.2.1 h.1.2.2.1
 |map k e t=>exact key h.1.1 h.1.2.1 h.1.2.2.1
 |struct bR n z eq=>
  obtain⟨fields,h,_⟩:=h;simp only[isAgg,Sem.run_bind,run_underlying h,Result.andThen_ok];rfl
 |arr e t n=>
  obtain⟨h,_⟩:=h;simp only[isAgg,Sem.run_bind,run_underlying h,Result.andThen_ok];rfl
def tv(agg:Bool)(cs:List Value):Value:=bif agg then .agg cs.toArray else cs.headD undef
theorem uZ{ti:cg}(h:ti.ok P T)(hn:ti≠.none)(a:Addr)(cs:List Value)(hl:cs.length=ti.size)(hc:∀j u,cs[j]? =some u->w.cell? (a.add j)=some u):
  (loadVar T a).run P w=.ok (tv ti.agg cs) w:=by
 simp only[loadVar,Sem.run_bind,cg.QH h hn,Result.andThen_ok];cases La:ti.agg with
 |true=>
  simp only[if_true,Sem.run_bind,cg.R3 h hn,Result.andThen_ok,tv,cond_true];rw[<-hl,run_loadCells_list w a cs hc];rfl
 |false=>
  have h1:ti.size=1:=by cases ti<;>first|rfl|cases La
  rw[h1] at hl;match cs,hl with
  |[c],_=>
   have h0:=hc 0 c rfl;have ha:a.add 0=a:=by unfold Addr.add;simp
   rw[ha] at h0;simp[tv,h0]
end
section
variable {F:Nat->Value}{sites:List (Nat×Site)}{w:World}{av:Nat->Prop}
def cA(F:Nat->Value)(sites:List (Nat×Site))(w:World)(av:Nat->Prop)(ai:List aQ)(vs:List Value):Prop:=
 vs.length=ai.length/\∀j (h:j<ai.length) (aj:j<vs.length),ea F sites w av (ai[j]) (vs[j])
theorem cA.nil:cA F sites w av [] []:=⟨rfl,fun j h=>by simp at h⟩
theorem cA.cons{l:aQ}{ai:List aQ}{v:Value}{vs:List Value}(h:ea F sites w av l v)(hs:cA F sites w av ai vs):cA F sites w av (l::ai) (v::vs):=
 ⟨by simp[hs.1],fun j h1 h2=>by
  cases j with
  |zero=>exact h
  |succ j=>exact hs.2 j (by simpa using h1) (by simpa using h2)⟩
theorem cA.inv{l:aQ}{ai:List aQ}{vs:List Value}(h:cA F sites w av (l::ai) vs):∃v cv,vs=v::cv/\ea F sites w av l v/\cA F sites w av ai cv:=by
 obtain⟨h1,h2⟩:=h;match vs,h1 with
 |v::cv,h1=>
  exact⟨v,cv,rfl,h2 0 (by simp) (by simp),by simpa using h1,fun j g1 g2=>h2 (j+1) (by simpa using g1) (by simpa using g2)⟩
theorem cA.oc{vs:List Value}(h:cA F sites w av [] vs):vs=[]:=List.eq_nil_of_length_eq_zero h.1
theorem cA.drop{ai:List aQ}{vs:List Value}(n:Nat)(h:cA F sites w av ai vs):cA F sites w av (ai.drop n) (vs.drop n):=
 ⟨by simp[h.1],fun j h1 h2=>by simp only[List.getElem_drop];exact h.2 _ (by simp at h1;omega) (by simp at h2;omega)⟩
theorem cA.take{ai:List aQ}{vs:List Value}(n:Nat)(h:cA F sites w av ai vs):cA F sites w av (ai.take n) (vs.take n):=
 ⟨by simp[h.1],fun j h1 h2=>by simp only[List.getElem_take];exact h.2 _ (by simp at h1;omega) (by simp at h2;omega)⟩
theorem cA.append{ai gy:List aQ}{vs cv:List Value}(h:cA F sites w av ai vs)(aj:cA F sites w av gy cv):cA F sites w av (ai++gy) (vs++cv):=by
 induction ai generalizing vs with
 |nil=>rw[h.oc];exact aj
 |cons l ai ih=>
  obtain⟨v,xm,rfl,h1,h2⟩:=h.inv;exact .cons h1 (ih h2)
theorem cA.bP{ai gy:List aQ}{vs cv:List Value}(off:Nat)(h:cA F sites w av ai vs)(aj:cA F sites w av gy cv):cA F sites w av (Jk.bP ai off gy) (Jk.bP vs off cv):=by
 unfold Jk.bP;rw[aj.1];exact((h.take off).append aj).append (h.drop _)
theorem ea.jM{l:aQ}{u:Value}(h:ea F sites w av l u)(dU:l.storable=true):u.oneCell'=true:=by
 cases l with
 |d x=>exact bK.jM h
 |nil t=>rw[show u=_ from h];rfl
 |own o s=>exact h.1
 |ptr o s off=>obtain⟨b,rfl,_⟩:=h;rfl
 |eE c D=>cases dU
 |e5 _ _ _ _ _=>cases dU
 |clo g bE=>obtain⟨vs,rfl,_⟩:=h;rfl
 |cW x=>rw[show u=x from h];cases x<;>first|rfl|cases dU
 |fresh t xs=>cases dU
 |dz=>cases dU
 |any=>cases dU
theorem cA.jM{ai:List aQ}{vs:List Value}(h:cA F sites w av ai vs)(dU:hL ai=true):∀u∈vs,u.oneCell'=true:=by
 induction ai generalizing vs with
 |nil=>rw[h.oc];intro u hu;simp at hu
 |cons l ai ih=>
  obtain⟨v,cv,rfl,h1,h2⟩:=h.inv;simp only[hL,Bool.and_eq_true] at dU;intro u hu;rcases List.mem_cons.1 hu with rfl|hu
  ·exact h1.jM dU.1
  ·exact ih h2 dU.2 u hu
theorem ho.cells{a:bS}{v:Value}(h:ho F sites w av a v)(dU:hL a.cells=true):cA F sites w av a.cells v.cells.toList:=by
 cases a with
 |am l=>
  have h1:v.oneCell'=true:=ea.jM h (by simpa[bS.cells,hL] using dU)
  have:v.cells=#[v]:=by cases v<;>first|rfl|cases h1
  rw[this];exact .cons h .nil
 |agg ai=>
  obtain⟨vs,rfl,h1,h2⟩:=h;exact⟨h1,h2⟩
theorem VM{agg:Bool}{off n:Nat}{ai:List aQ}{vs:List Value}{v:a7}(hc:cut agg off n ai=some v)(h1:agg=false->n=1)(h:cA F sites w av ai vs):
  off+n<=vs.length/\ck F sites w av v (tv agg ((vs.drop off).take n)):=by
 unfold cut at hc;cases agg with
 |true=>
  simp only[cond_true] at hc;cases hb:Nat.ble (off+n) ai.length with
  |false=>simp[hb] at hc
  |true=>
   simp only[hb,cond_true,Option.some.injEq] at hc;subst hc;have hle:off+n<=ai.length:=Nat.le_of_ble_eq_true hb;have:=(h.drop off).take n;exact⟨by rw[h.1];exact hle,_,rfl,this.1,this.2⟩
 |false=>
  simp only[cond_false] at hc;have hn:=h1 rfl;subst hn;cases Z:ai.drop off with
  |nil=>simp[Z] at hc
  |cons l r=>
   simp only[Z,Option.some.injEq] at hc;subst hc;have acj:=h.drop off;rw[Z] at acj;obtain⟨u,us,hu,hl,_⟩:=acj.inv;have hlen:off<ai.length:=by
    rcases Nat.lt_or_ge off ai.length with h|h
    ·exact h
    ·rw[List.drop_eq_nil_of_le h] at Z;cases Z
   refine⟨by rw[h.1];omega,?_⟩
   rw[hu];exact hl
theorem hQ{ds:List bh}{vs:List Value}(hl:vs.length=ds.length)(h:∀j (h:j<ds.length) (aj:j<vs.length),bK w av (ds[j]) (vs[j])):cA F sites w av (cF ds) vs:=
 ⟨by simp[cF,hl],fun j h1 h2=>by simp only[cF,List.getElem_map];exact h j (by simpa[cF] using h1) h2⟩
end
theorem gW(b D j:Nat):(⟨b,D,none⟩:Addr).add j=⟨b,D+j,none⟩:=by
 unfold Addr.add;split<;>simp_all
def ii(w:World)(b D:Nat)(cs:List Value):Prop:=∀j u,cs[j]? =some u->w.cell? ⟨b,D+j,none⟩=some u
theorem ii.drop{w:World}{b D:Nat}{cs:List Value}(h:ii w b D cs)(m:Nat):ii w b (D+m) (cs.drop m):=by
 intro j u hu;rw[List.getElem?_drop] at hu;have:=h _ _ hu;rwa[Nat.add_assoc]
theorem ii.take{w:World}{b D:Nat}{cs:List Value}(h:ii w b D cs)(m:Nat):ii w b D (cs.take m):=by
 intro j u hu;rw[List.getElem?_take] at hu;split at hu
 ·exact h _ _ hu
 ·cases hu
theorem ii.row{w:World}{b:Nat}{cur:List Value}{T:TypeId}{cM:Nat×Nat}(h:w.heap[b]? =some (.cells cur.toArray T cM)):ii w b 0 cur:=by
 intro j u hu;rw[Nat.zero_add,cell_of_row w b j _ T cM h];simpa using hu
theorem u'(t:bf)(xs:List (den t))(k:Nat)(x:den t)(hx:xs[k]? =some x):((flat t xs).drop (k*bd t)).take (bd t)=enc t x:=by
 apply List.ext_getElem?;intro j;rw[List.getElem?_take,List.getElem?_drop];split
 ·rename_i hj;exact flat_get t xs k j x hx hj
 ·rename_i hj;rw[List.getElem?_eq_none (by rw[jj];omega)]
section
variable {P:Program}{C:hY}{U:World}{Y:List Nat}{X:Nat->Prop}{F:Nat->Value}{st:al}{M:Array Value}{w:World}
theorem gR{o s:Nat}{cells:List aQ}(h:fP st o s=some cells):look st.sites o=some (.box s cells):=by
 unfold fP al.af at h;split at h
 ·rename_i aN jP hl;cases hb:aN.beq s with
  |false=>simp[hb] at h
  |true=>
   simp only[hb,cond_true,Option.some.injEq] at h;have:=Nat.eq_of_beq_eq_true hb;subst this h;exact hl
 ·cases h
theorem kd{o s:Nat}{t:bf}{xs:List (den t)}(h:rowOf st o s=some ⟨t,xs⟩):look st.sites o=some (.row s t xs)\/look st.sites o=some (.dq s t xs):=by
 unfold rowOf al.af at h;split at h
 ·rename_i aN bo iZ hl;cases hb:aN.beq s with
  |false=>simp[hb] at h
  |true=>
   simp only[hb,cond_true,Option.some.injEq] at h;have:=Nat.eq_of_beq_eq_true hb;subst this;cases h;exact .inl hl
 ·rename_i aN bo iZ hl;cases hb:aN.beq s with
  |false=>simp[hb] at h
  |true=>
   simp only[hb,cond_true,Option.some.injEq] at h;have:=Nat.eq_of_beq_eq_true hb;subst this;cases h;exact .inr hl
 ·cases h
theorem Ref.at{sites:List (Nat×Site)}{o s:Nat}{p:Prop}{af:Site}(h:Ref sites o s p)(hl:look sites o=some af)(hs:af.cy=s):p:=by
 obtain⟨bZ,h1,_,h3⟩:=h;rw[hl] at h1;cases h1;exact h3 hs
theorem Ref.mk{sites:List (Nat×Site)}{o s:Nat}{p:Prop}{af:Site}(hl:look sites o=some af)(hs:af.cy=s)(hp:p):Ref sites o s p:=
 ⟨af,hl,by omega,fun _=>hp⟩
theorem ar.box(S:ar U Y X F st M w){o s off:Nat}{cells:List aQ}(h:look st.sites o=some (.box s cells)){v:Value}(hv:ea F st.sites w (aI X F st.sites) (.ptr o s off) v):
  ∃b T cur,F o=.pointer (some ⟨b,0,none⟩)/\v=.pointer (some ⟨b,off,none⟩)/\w.heap[b]? =some (.cells (List.toArray cur) T (0,0))/\(∀u∈cur,u.oneCell'=true)/\cA F st.sites w (aI X F st.sites) cells cur:=by
 obtain⟨b,T,cur,h1,h2,h3,aA,_,bl⟩:=S.sites o _ h;obtain⟨bH,g2,g3⟩:=hv;have g1:=Ref.at g3 h rfl;rw[h1] at g1;cases g1;exact⟨b,T,cur,h1,g2,h2,aA,h3,bl⟩
theorem ar.row(S:ar U Y X F st M w){o s:Nat}{t:bf}{xs:List (den t)}(h:rowOf st o s=some ⟨t,xs⟩):
  ∃cs:List Value,cA F st.sites w (aI X F st.sites) (cF (flat t xs)) cs/\
   ((F o=.slice none 0 0/\xs=[])\/∃b c,F o=.slice (some ⟨b,0,none⟩) xs.length c/\ii w b 0 cs/\xs.length<=c):=by
 rcases kd h with h|h
 ·obtain⟨e,cs,h1,h2⟩:=S.sites o _ h;have hl:cs.length=(flat t xs).length:=by rw[e9];exact h1.1
  refine⟨cs,hQ hl h2,?_⟩;rcases h1.2 with⟨hn,h0⟩|⟨g,cap,cur,fz,hv,_,hg,hnc,_,_,htk⟩
  ·exact .inl ⟨hn,List.eq_nil_of_length_eq_zero h0⟩
  ·refine .inr ⟨_,_,hv,fun j u hu=>?_,hnc⟩
   rw[Nat.zero_add,cell_of_row w g j cur e fz hg];rw[<-htk,List.getElem?_take] at hu;split at hu
   ·simpa using hu
   ·cases hu
 ·obtain⟨h1,bL⟩:bK w (aI X F st.sites) (.sl t xs) (F o)/\Dv (F o):=S.sites o _ h;generalize hv:F o=v at h1 bL;cases h1 with
  |nil t=>exact⟨[],⟨rfl,fun j h=>by simp[cF,flat] at h⟩,.inl ⟨rfl,rfl⟩⟩
  |sl t xs a cap cs n hn hcap hb hl hc hr=>
   subst hn;rcases bL with bL|⟨b,n,c,bL⟩
   ·cases bL
   ·cases bL;exact⟨cs,hQ hl hr,.inr ⟨b,cap,rfl,fun j u hu=>by have:=hc j u hu;rwa[gW] at this,hcap⟩⟩
def Dw(g:Nat)(t:bf)(xs:List (den t)):Prop:=g∈k4/\∀w (av:Nat->Prop),nM w->∃T fz,∃cs:List Value,w.heap[g]? =some (.cells cs.toArray T fz)/\cs.length=(flat t xs).length/\∀j (h:j<(flat t xs).length) (aj:j<cs.length),bK w av ((flat t xs)[j]) (cs[j])
structure CtxOk(P:Program)(C:Ctx):Prop where
 tt:∀T,(C.tt T).ok P T
 gt:∀g t xs,C.gt g=some ⟨t,xs⟩->Dw g t xs
theorem G3{ti:cg}(h:ti.known=true):ti≠.none:=by rintro rfl;cases h
theorem Hj{ti:cg}(h:ti.agg=false):ti.size=1:=by cases ti<;>first|rfl|cases h
theorem alp{agg:Bool}{off n:Nat}{ai:List aQ}(h:off+n<=ai.length)(h1:agg=false->n=1):cut agg off n ai≠none:=by
 unfold cut;cases agg with
 |true=>
  have:Nat.ble (off+n) ai.length=true:=Nat.ble_eq_true_of_le h;simp[this]
 |false=>
  have:=h1 rfl;simp only[cond_false];cases Z:ai.drop off with
  |nil=>have:=congrArg List.length Z;simp at this;omega
  |cons l r=>simp
theorem am9(S:ar U Y X F st M w){C:Ctx}(H:CtxOk P C){D:Oper}{T:TypeId}{x:Operand}(aM:D.op=.load T x)(Z:cr st D.dst=true)(hk:(C.tt T).known=true):
  Holds (tA (C.tt T).agg (C.tt T).size st (bg C st T x)) (cN P U Y X st M w D):=by
 have hn:=G3 hk;have bC:=dH S C T x;have fin:∀{b p:Nat} {ai:List aQ} {vs:List Value} {off:Nat} {v:a7},Act.eval ⟨M,[]⟩ x=.pointer (some ⟨b,p+off,none⟩)->ii w b p vs->cA F st.sites w (aI X F st.sites) ai vs->
   cut (C.tt T).agg off (C.tt T).size ai=some v->cN P U Y X st M w D v []:=by
  intro b p ai vs off v hx hc hl fR;obtain⟨hle,axC⟩:=VM fR Hj hl;refine dS S Z (vv:=tv (C.tt T).agg ((vs.drop off).take (C.tt T).size)) ?_ axC;have dy:=uZ (P:=P) (w:=w) (H.tt T) hn ⟨b,p+off,none⟩ ((vs.drop off).take (C.tt T).size) (by simp;omega) (fun j u hu=>by rw[gW];exact(hc.drop off).take _ j u hu)
  unfold execOp;simp only[aM,Instr.loadAt,Instr.sureAddr,hx,Sem.run_bind,Sem.run_pure,Result.andThen_ok,dy]
 unfold tA;split
 ·rename_i o s off b7;rw[b7] at bC;split
  ·rename_i cells hb;split
   ·rename_i v fR;obtain⟨b,gE,cur,_,hv,hg,_,hl⟩:=S.box (gR hb) bC;exact Holds.ok (fin (p:=0) (by rw[Nat.zero_add];exact hv) (ii.row hg) hl fR)
   ·exact .fail
  ·exact .fail
 ·rename_i cells off b7;rw[b7] at bC;split
  ·rename_i v fR;obtain⟨b,p,hv,_,_,cs,hl,hc,hr⟩:=bC;exact Holds.ok (fin hv hc (hQ hl hr) fR)
  ·exact .fail
 ·rename_i o s u k off b7;rw[b7] at bC;split
  ·rename_i t xs hrow;split
   ·rename_i oG;obtain⟨rfl,hle⟩:=oG;refine Holds.ey fun y hy=>?_
    have eb:xs[k]? =some y:=hy;obtain⟨cs,hl,hcell⟩:=S.row hrow;have dU:∃af,look st.sites o=some af/\af.cy=s:=by
     rcases kd hrow with h|h<;>exact⟨_,h,rfl⟩
    obtain⟨af,ix,lV⟩:=dU;obtain⟨b,hv,w3⟩:=bC;obtain⟨n,c,cV⟩:=Ref.at w3 ix lV;cases fR:cut (C.tt T).agg off (C.tt T).size (cF (enc t y)) with
    |none=>exact absurd fR (alp (by simpa[cF,jj] using hle) Hj)
    |some v=>
     rcases hcell with⟨rm,_⟩|⟨bH,fu,kr,hcs,_⟩
     ·rw[cV] at rm;cases rm
     ·rw[cV] at kr;cases kr;have e1:cF (enc t y)=((cF (flat t xs)).drop (k*bd t)).take (bd t):=by
       rw[<-u' t xs k y eb];simp[cF,List.map_drop,List.map_take]
      rw[e1] at fR;refine fin (p:=k*bd t) hv ?_ ((hl.drop (k*bd t)).take (bd t)) fR;have:=(hcs.drop (k*bd t)).take (bd t);rwa[Nat.zero_add] at this
   ·exact .fail
  ·exact .fail
 ·exact .fail
end
section
variable {P:Program}{U:World}{Y:List Nat}{X:Nat->Prop}{F:Nat->Value}{st:al}{M:Array Value}{w:World}
theorem ar.fL(S:ar U Y X F st M w){o b:Nat}(hl:cq st.sites o)(hb:bQ (F o)=some b):b<w.heap.size:=by
 obtain⟨af,h1,h2⟩:=hl;have:=S.sites o af h1;cases af with
 |box s cells=>
  obtain⟨bH,T,cur,g1,g2,_⟩:=this;rw[g1] at hb;cases hb;exact(Array.getElem?_eq_some_iff.1 g2).1
 |row s t xs=>
  obtain⟨e,cs,g1,_⟩:=this;rcases g1.2 with⟨hn,_⟩|⟨g,cap,cur,fz,hv,_,hg,_⟩
  ·rw[hn] at hb;cases hb
  ·rw[hv] at hb;cases hb;exact(Array.getElem?_eq_some_iff.1 hg).1
 |map s t es=>
  obtain⟨bH,g1,g2⟩:=this;rw[g1] at hb;cases hb;exact g2.lt
 |dq=>cases h2
 |dead=>cases h2
theorem B2{F aY:Nat->Value}{sites bY:List (Nat×Site)}{w w':World}{av cl:Nat->Prop}(go:∀{a:a7} {v:Value},ck F sites w av a v->ck aY bY w' cl a v){ai:List aQ}{vs:List Value}
  (h:cA F sites w av ai vs):cA aY bY w' cl ai vs:=by
 obtain⟨cv,h1,h2,h3⟩:=go (a:=.av (.agg ai)) (v:=.agg vs.toArray) ⟨vs,rfl,h.1,h.2⟩;have:vs=cv:=by simpa using h1
 subst this;exact⟨h2,h3⟩
theorem px{F aY:Nat->Value}{sites bY:List (Nat×Site)}{w w':World}{av cl:Nat->Prop}(go:∀{a:a7} {v:Value},ck F sites w av a v->ck aY bY w' cl a v){d:bh}{v:Value}
  (h:bK w av d v):bK w' cl d v:=go (a:=one d) (v:=v) h
theorem PK{sites:List (Nat×Site)}{o:Nat}{af bZ:Site}(hl:look sites o=some af)(h:bZ.live=af.live)(ab:Nat):cq (cw sites o bZ) ab <-> cq sites ab:=by
 unfold cq;rw[c9];by_cases e:o=ab
 ·subst e;simp only[if_true,hl,Option.some.injEq];constructor
  ·rintro⟨s,rfl,h2⟩;exact⟨af,rfl,h▸h2⟩
  ·rintro⟨s,rfl,h2⟩;exact⟨bZ,rfl,h▸h2⟩
 ·simp only[e,if_false]
theorem ar.write(S:ar U Y X F st M w){o b:Nat}{af bZ:Site}{cur cur':Array Value}{T:TypeId}{cM:Nat×Nat}(hl:look st.sites o=some af)(ml:af.live=true)(apb:bZ.live=true)(hs:bZ.cy=af.cy)
  (cV:bQ (F o)=some b) (hg:w.heap[b]? =some (.cells cur T cM))
  (fI:∀{bY:List (Nat×Site)} {w':World},bY=cw st.sites o bZ->w'=w.setRow b cur'->w'.heap[b]? =some (.cells cur' T cM)->
   (∀{a v},ck F st.sites w (aI X F st.sites) a v->ck F bY w' (aI X F bY) a v)->kj F bY w' (aI X F bY) o bZ):
  ar U Y X F {st with sites:=cw st.sites o bZ} M (w.setRow b cur'):=by
 have cQ:cq st.sites o:=⟨af,hl,ml⟩;have ms:∀ab,cq (cw st.sites o bZ) ab <-> cq st.sites ab:=PK hl (apb.trans ml.symm);have cc:∀bH,aI X F (cw st.sites o bZ) bH <-> aI X F st.sites bH:=by
  intro bH;unfold aI;simp only[ms]
 have hne:∀bH,¬aI X F st.sites bH->bH≠b:=by
  rintro bH h rfl;exact h (.inr ⟨o,cQ,cV⟩)
 refine S.ra (fun ab s bU=>?_) (fun bH h _=>setRow_other w b bH _ (hne bH h)) (fun bH h _=>by rw[cc];exact h) (fun go ab s bU=>?_) (fun ab ρ bH h1 h2=>S.eg ab ρ bH ((ms ab).1 h1) ((ms ρ).1 h2))
  (fun ab bH h=>S.ct ab bH ((ms ab).1 h)) (fun ab bH h hb=>by rw[setRow_size];exact S.fL ((ms ab).1 h) hb) ?_ (by rw[setRow_size];exact Nat.le_refl _)
 ·rw[c9];by_cases e:o=ab
  ·subst e;rw[hl] at bU;cases bU;exact⟨bZ,by simp,by omega,fun _=>rfl⟩
  ·exact⟨s,by simp[e,bU],Nat.le_refl _,fun _=>rfl⟩
 ·rw[c9] at bU;by_cases e:o=ab
  ·subst e;simp only[if_true,Option.some.injEq] at bU;subst bU;exact .inr (fI rfl rfl (setRow_heap w b cur cur' T cM hg) go)
  ·simp only[e,if_false] at bU;refine .inl ⟨bU,rfl,fun tT bH ec=>setRow_other w b bH _ ?_⟩
   rintro rfl;exact e (S.eg o ab _ cQ ⟨s,bU,tT⟩ cV ec)
 ·have aS:=S.frame;refine⟨aS.os,aS.tape,aS.output,by rw[setRow_size];exact aS.size,fun bH h1 h2=>?_⟩
  rw[setRow_other w b bH _ ?_]
  ·exact aS.block bH h1 h2
  ·rintro rfl;rcases(S.ct o _ cQ cV).2 with h|h
   ·exact h2 h
   ·omega
theorem ar.freeze(S:ar U Y X F st M w){o s:Nat}{t:bf}{xs:List (den t)}(hl:look st.sites o=some (.row s t xs)):
  ar U Y X F {st with sites:=cw st.sites o (.dq s t xs)} M w:=by
 have cQ:cq st.sites o:=⟨_,hl,rfl⟩;have ek:∀ab,cq (cw st.sites o (.dq s t xs)) ab->cq st.sites ab/\ab≠o:=by
  rintro ab ⟨af,h1,h2⟩;rw[c9] at h1;by_cases e:o=ab
  ·subst e;simp at h1;subst h1;cases h2
  ·simp only[e,if_false] at h1;exact⟨⟨af,h1,h2⟩,fun h=>e h.symm⟩
 have cc:∀bH,aI X F (cw st.sites o (.dq s t xs)) bH->aI X F st.sites bH:=by
  rintro bH (h|⟨ab,h1,h2⟩)
  ·exact .inl h
  ·exact .inr ⟨ab,(ek ab h1).1,h2⟩
 refine S.ra (fun ab af bU=>?_) (fun _ _ _=>rfl) (fun bH h _ aj=>h (cc bH aj)) (fun go ab af bU=>?_) (fun ab ρ bH h1 h2=>S.eg ab ρ bH (ek ab h1).1 (ek ρ h2).1)
  (fun ab bH h=>S.ct ab bH (ek ab h).1) (fun ab bH h hb=>S.fL (ek ab h).1 hb) S.frame (Nat.le_refl _)
 ·rw[c9];by_cases e:o=ab
  ·subst e;rw[hl] at bU;cases bU;exact⟨.dq s t xs,by simp,Nat.le_refl _,fun _=>rfl⟩
  ·exact⟨af,by simp[e,bU],Nat.le_refl _,fun _=>rfl⟩
 ·rw[c9] at bU;by_cases e:o=ab
  ·subst e;simp only[if_true,Option.some.injEq] at bU;subst bU;refine .inr ?_
   show bK _ _ (.sl t xs) (F o)/\Dv (F o);obtain⟨cI,cs,h1,h2⟩:=S.sites o _ hl;rcases h1.2 with⟨hn,h0⟩|⟨g,cap,cur,fz,hv,_,hg,hnc,_,_,htk⟩
   ·have:xs=[]:=List.eq_nil_of_length_eq_zero h0;subst this;rw[hn];exact⟨.nil t,.inl rfl⟩
   ·rw[hv];refine⟨?_,.inr ⟨_,_,_,rfl⟩⟩;have hlen:cs.length=(flat t xs).length:=by rw[e9];exact h1.1
    refine .sl t xs _ cap cs xs.length rfl hnc (fun _=>?_) hlen (fun j u hu=>?_) (fun j g1 g2=>px go (h2 j g1 g2))
    ·rintro(hx|⟨ab,g1,g2⟩)
     ·exact(S.ct o g cQ (by rw[hv];rfl)).1 hx
     ·obtain⟨g3,g4⟩:=ek ab g1;exact g4 (S.eg ab o g g3 cQ g2 (by rw[hv];rfl))
    ·rw[gW,Nat.zero_add,cell_of_row w g j cur cI fz hg];rw[<-htk,List.getElem?_take] at hu;split at hu
     ·simpa using hu
     ·cases hu
  ·simp only[e,if_false] at bU;exact .inl ⟨bU,rfl,fun _ _ _=>rfl⟩
theorem Rp{aJ:Type}(l:List (Nat×aJ))(n:Nat)(v:aJ)(h:look l n=some v):cw l n v=l:=by
 induction l with
 |nil=>simp[look] at h
 |cons p l ih=>
  obtain⟨k,u⟩:=p;simp only[look] at h;simp only[cw];cases hb:k.beq n with
  |true=>simp only[hb,cond_true,Option.some.injEq] at h;subst h;simp
  |false=>simp only[hb,cond_false] at h;simp[ih h]
def dT(sites:List (Nat×Site))(us:List (Nat×Site)):Prop:=
 ∀o af,(o,af)∈us->∃s t,∃xs:List (den t),af=.dq s t xs/\(look sites o=some (.row s t xs)\/look sites o=some (.dq s t xs))
theorem dT.nil{sites:List (Nat×Site)}:dT sites []:=fun _ _ h=>by simp at h
theorem dT.append{sites us vs:List (Nat×Site)}(h:dT sites us)(aj:dT sites vs):dT sites (us++vs):=by
 intro o af hm;rcases List.mem_append.1 hm with hm|hm
 ·exact h o af hm
 ·exact aj o af hm
theorem dT.step{sites us:List (Nat×Site)}{o:Nat}{af:Site}(h:dT sites ((o,af)::us)):dT (cw sites o af) us:=by
 obtain⟨s,t,xs,rfl,hl⟩:=h o af (by simp)
 intro ab bZ hm;obtain⟨aN,bo,iZ,rfl,gz⟩:=h ab bZ (by simp[hm])
 refine⟨aN,bo,iZ,rfl,?_⟩;rw[c9];by_cases e:o=ab
 ·subst e;simp only[if_true];right;rcases hl with hl|hl<;>rcases gz with gz|gz<;>rw[hl] at gz<;>cases gz<;>rfl
 ·simp only[e,if_false];exact gz
theorem ar.Bs{us:List (Nat×Site)}:∀{st:al},ar U Y X F st M w->dT st.sites us->ar U Y X F {st with sites:=bv st.sites us} M w:=by
 induction us with
 |nil=>intro st S _;exact S
 |cons p us ih=>
  obtain⟨o,af⟩:=p;intro st S h;have aj:=h.step;obtain⟨s,t,xs,rfl,hl⟩:=h o af (by simp)
  simp only[bv];rcases hl with hl|hl
  ·exact ih (S.freeze hl) aj
  ·rw[Rp _ _ _ hl] at aj ⊢;exact ih S aj
theorem l5{us:List (Nat×Site)}:∀{sites:List (Nat×Site)},dT sites us->∀o,(look (bv sites us) o=look sites o)\/(∃s t,∃xs:List (den t),(look sites o=some (.row s t xs)\/look sites o=some (.dq s t xs))/\look (bv sites us) o=some (.dq s t xs)):=by
 induction us with
 |nil=>intro sites _ o;exact .inl rfl
 |cons p us ih=>
  obtain⟨ab,af⟩:=p;intro sites h o;obtain⟨s,t,xs,rfl,hl⟩:=h ab af (by simp)
  simp only[bv];have hc:=c9 sites ab o (.dq s t xs);rcases ih h.step o with h1|⟨aN,bo,iZ,h1,h2⟩
  ·by_cases e:ab=o
   ·subst e;simp only[if_true] at hc;exact .inr ⟨s,t,xs,hl,h1.trans hc⟩
   ·simp only[e,if_false] at hc;exact .inl (h1.trans hc)
  ·by_cases e:ab=o
   ·subst e;simp only[if_true] at hc;rw[hc] at h1;rcases h1 with h1|h1
    ·cases h1
    ·cases h1;exact .inr ⟨s,t,xs,hl,h2⟩
   ·simp only[e,if_false] at hc;rw[hc] at h1;exact .inr ⟨aN,bo,iZ,h1,h2⟩
theorem EK{us:List (Nat×Site)}:∀{sites:List (Nat×Site)},dT sites us->∀{o s:Nat} {t:bf} {xs:List (den t)},(o,Site.dq s t xs)∈us->look (bv sites us) o=some (.dq s t xs):=by
 intro sites h o s t xs hm;obtain⟨iz,t0,DH,he,hl⟩:=h o _ hm;cases he;rcases l5 h o with h1|⟨aN,bo,iZ,h1,h2⟩
 ·-- named,and aCC aBt
  induction us generalizing sites with
  |nil=>simp at hm
  |cons p us ih=>
   obtain⟨ab,af⟩:=p;simp only[bv] at h1 ⊢;rcases List.mem_cons.1 hm with hm|hm
   ·cases hm;rcases l5 h.step o with h2|⟨aN,bo,iZ,h2,h3⟩
    ·rw[h2,c9];simp
    ·rw[c9] at h2;simp at h2;obtain⟨rfl,rfl,h2⟩:=h2;rw[h3];cases h2;rfl
   ·have hc:=c9 sites ab o af;by_cases e:ab=o
    ·subst e;obtain⟨s1,t1,awt,rfl,hA⟩:=h ab af (by simp)
     have:Site.dq s1 t1 awt=Site.dq s t xs:=by
      rcases hl with hl|hl<;>rcases hA with hA|hA<;>rw[hl] at hA<;>cases hA<;>rfl
     cases this;simp only[if_true] at hc;rcases l5 h.step ab with h2|⟨aN,bo,iZ,h2,h3⟩
     ·rw[h2,hc]
     ·rw[hc] at h2;rcases h2 with h2|h2
      ·cases h2
      ·cases h2;exact h3
    ·simp only[e,if_false] at hc;refine ih h.step hm (by rw[hc];exact hl) ?_
     rw[h1,hc]
 ·rcases hl with hl|hl<;>rcases h1 with h1|h1<;>rw[hl] at h1<;>cases h1<;>exact h2
end
section
variable {P:Program}{U:World}{Y:List Nat}{X:Nat->Prop}{F:Nat->Value}{st:al}{M:Array Value}{w:World}
structure lk(U:World)(Y:List Nat)(X:Nat->Prop)(F:Nat->Value)(st:al)(M:Array Value)(w:World)(vs:List (Nat×Site)):Prop where
 old:ar U Y X F st M w
 fz:dT st.sites vs
theorem lk.new{vs:List (Nat×Site)}(aS:lk U Y X F st M w vs):ar U Y X F {st with sites:=bv st.sites vs} M w:=aS.old.Bs aS.fz
theorem lk.go{vs:List (Nat×Site)}(aS:lk U Y X F st M w vs){a:a7}{v:Value}(h:ck F st.sites w (aI X F st.sites) a v):ck F (bv st.sites vs) w (aI X F (bv st.sites vs)) a v:=by
 have ek:∀ab,cq (bv st.sites vs) ab->cq st.sites ab:=by
  rintro ab ⟨af,h1,h2⟩;rcases l5 aS.fz ab with h|⟨s,t,xs,_,h⟩
  ·exact⟨af,h▸h1,h2⟩
  ·rw[h] at h1;cases h1;cases h2
 refine h.goes ⟨fun o af bA=>?_,fun _ _ _=>rfl,fun b hb _ ec=>hb ?_⟩ (Nat.le_refl _) ?_
 ·rcases l5 aS.fz o with h|⟨s,t,xs,h1,h2⟩
  ·exact⟨af,h.trans bA,Nat.le_refl _,fun _=>rfl⟩
  ·refine⟨_,h2,?_,fun _=>rfl⟩
   rw[bA] at h1;rcases h1 with h1|h1<;>cases h1<;>exact Nat.le_refl _
 ·rcases ec with h|⟨ab,h1,h2⟩
  ·exact .inl h
  ·exact .inr ⟨ab,ek ab h1,h2⟩
 ·rintro b (h|⟨ab,h1,h2⟩)
  ·exact aS.old.old b h
  ·exact aS.old.fL (ek ab h1) h2
theorem anu{o s:Nat}{t:bf}{xs:List (den t)}(hr:rowOf st o s=some ⟨t,xs⟩):dT st.sites (mw st o s t xs):=by
 unfold mw;split
 ·exact .nil
 ·intro ab af hm;simp only[List.mem_singleton,Prod.mk.injEq] at hm;obtain⟨rfl,rfl⟩:=hm;exact⟨s,t,xs,rfl,kd hr⟩
theorem So{o s:Nat}{t:bf}{xs:List (den t)}(hr:rowOf st o s=some ⟨t,xs⟩):bv st.sites (mw st o s t xs)=bv st.sites [(o,.dq s t xs)]:=by
 unfold mw;split
 ·rename_i iz t0 DH h0;have h0:look st.sites o=some (.dq iz t0 DH):=h0;simp only[bv];rcases kd hr with h|h
  ·rw[h0] at h;cases h
  ·exact(Rp _ _ _ h).symm
 ·rfl
theorem aja{sites us:List (Nat×Site)}(h:dT sites us){o s:Nat}{t:bf}{xs:List (den t)}(hl:look sites o=some (.dq s t xs)):look (bv sites us) o=some (.dq s t xs):=by
 rcases l5 h o with h1|⟨aN,bo,iZ,h1,h2⟩
 ·rw[h1];exact hl
 ·rw[hl] at h1;rcases h1 with h1|h1
  ·cases h1
  ·cases h1;exact h2
theorem VL{l:aQ}{d:bh}{us:List (Nat×Site)}(h:j_ st l=some (d,us)):dT st.sites us:=by
 unfold j_ at h;split at h
 ·cases h;exact .nil
 ·cases h;exact .nil
 ·rename_i o s;split at h
  ·rename_i t xs hr;cases h;exact anu hr
  ·cases h
 ·cases h;exact .nil
 ·cases h
theorem VK{l:aQ}{d:bh}{us vs:List (Nat×Site)}{v:Value}(h:j_ st l=some (d,us))(hv:ea F st.sites w (aI X F st.sites) l v)
  (aS:lk U Y X F st M w vs) (ek:∀p,p∈us->p∈vs):bK w (aI X F (bv st.sites vs)) d v:=by
 unfold j_ at h;split at h
 ·cases h;exact px aS.go hv
 ·cases h;rw[show v=_ from hv];exact .nil _
 ·rename_i o s;split at h
  ·rename_i t xs hr;cases h;have hl:look (bv st.sites vs) o=some (.dq s t xs):=by
    unfold mw at ek;split at ek
    ·rename_i iz t0 DH h0;have h0:look st.sites o=some (.dq iz t0 DH):=h0;rcases kd hr with h|h
     ·rw[h0] at h;cases h
     ·exact aja aS.fz h
    ·exact EK aS.fz (ek _ (List.mem_singleton.2 rfl))
   have:=aS.new.sites o _ hl;have nH:v=F o:=by
    rcases kd hr with h1|h1<;>exact Ref.at hv.2 h1 rfl
   rw[nH];exact this.1
  ·cases h
 ·rename_i g;cases h;obtain⟨ai,rfl,hl,_⟩:=hv;have:ai=[]:=List.eq_nil_of_length_eq_zero (by simpa using hl)
  subst this;exact .fn g [] [] (fun _=>[]) _ rfl rfl (fun b hb=>by simp at hb) (fun b hb=>by simp at hb) (fun i hi=>by simp at hi) (fun i hi=>by simp at hi) (fun i hi=>by simp at hi)
 ·cases h
theorem I5:∀{ai:List aQ} {ds:List bh} {us:List (Nat×Site)},gf st ai=some (ds,us)->dT st.sites us:=by
 intro ai;induction ai with
 |nil=>intro ds us h;simp only[gf] at h;cases h;exact .nil
 |cons l ai ih=>
  intro ds us h;simp only[gf] at h;split at h
  ·rename_i d u1 k5 u2 h1 h2;cases h;exact(VL h1).append (ih h2)
  ·cases h
def c5(w:World)(av:Nat->Prop)(ds:List bh)(vs:List Value):Prop:=vs.length=ds.length/\∀j (h:j<ds.length) (aj:j<vs.length),bK w av (ds[j]) (vs[j])
theorem Bx:∀{ai:List aQ} {ds:List bh} {us vs:List (Nat×Site)} {cs:List Value},gf st ai=some (ds,us)->cA F st.sites w (aI X F st.sites) ai cs->
  lk U Y X F st M w vs->(∀p,p∈us->p∈vs)->c5 w (aI X F (bv st.sites vs)) ds cs:=by
 intro ai;induction ai with
 |nil=>intro ds us vs cs h hl _ _;simp only[gf] at h;cases h;rw[hl.oc];exact⟨rfl,fun j h=>by simp at h⟩
 |cons l ai ih=>
  intro ds us vs cs h hl aS ek;simp only[gf] at h;split at h
  ·rename_i d u1 k5 u2 h1 h2;cases h;obtain⟨c,oP,rfl,hc,hcs⟩:=hl.inv;have r1:=VK h1 hc aS (fun p hp=>ek p (List.mem_append.2 (.inl hp)))
   obtain⟨r2,dn⟩:=ih h2 hcs aS (fun p hp=>ek p (List.mem_append.2 (.inr hp)))
   refine⟨by simp[r2],fun j g1 g2=>?_⟩
   cases j with
   |zero=>exact r1
   |succ j=>exact dn j (by simpa using g1) (by simpa using g2)
  ·cases h
theorem ny.run{P:Program}{u:Bool}(g D:Nat)(t:TypeId)(fz:Nat×Nat):∀(vs:List Value) (i:Nat) (cur:Array Value) (w:World),w.heap[g]? =some (.cells cur t fz)->ny u t cur fz->D+i+vs.length<=cur.size->(∀v∈vs,v.oneCell'=true)->
  (storeCells ⟨g,D,none⟩ vs i).run P w=.ok () (w.setRow g (cur.toList.take (D+i)++vs++cur.toList.drop (D+i+vs.length)).toArray)
 |[],i,cur,w,hg,_,_,_=>by
  simp only[storeCells,List.append_nil,List.length_nil,Nat.add_zero,List.take_append_drop,Array.toArray_toList];rw[setRow_self w g cur t fz hg];rfl
 |v::rest,i,cur,w,hg,hz,hl,h1=>by
  have hi:D+i<cur.size:=by simp at hl;omega
  have atB:(⟨g,D,none⟩:Addr).add i=⟨g,D+i,none⟩:=by unfold Addr.add;split<;>simp_all
  have hcell:w.cell? ⟨g,D+i,none⟩=some cur[D+i]:=by simp[World.cell?,hg,hi]
  have atu:w.frozen? ⟨g,D+i,none⟩=false:=by
   rcases hz.2 with rfl|⟨_,hz⟩
   ·simp[World.frozen?,hg]
   ·simp only[World.frozen?,hg];have:¬fz.1<=D+i:=by omega
    simp[this]
  have dU:(store ((⟨g,D,none⟩:Addr).add i) v).run P w=.ok () (w.setRow g (cur.setIfInBounds (D+i) v)):=by
   rw[atB,run_store P w _ v _ (h1 v (by simp)),hcell]
   simp[atu,setCell_eq_setRow w g (D+i) cur t fz v hg]
  have ih:=ny.run (P:=P) (u:=u) g D t fz rest (i+1) (cur.setIfInBounds (D+i) v) (w.setRow g (cur.setIfInBounds (D+i) v)) (setRow_heap w g cur _ t _ hg)
   ⟨hz.1,hz.2.imp id fun h=>⟨h.1,by simpa using h.2⟩⟩ (by simp at hl ⊢;omega) (fun x hx=>h1 x (by simp[hx]))
  simp only[storeCells,Sem.run_bind,dU,Result.andThen_ok,ih,setRow_setRow];congr 3
  have e:=list_seg_step cur.toList (D+i) v rest (by simp at hl ⊢;omega)
  simpa[Array.toList_setIfInBounds,Nat.add_assoc] using e
theorem Ou{u:Bool}{fz:Nat×Nat}{T:TypeId}{ti:cg}(h:ti.ok P T)(hn:ti≠.none){b off:Nat}{vv:Value}{cur:List Value}{gE:TypeId}(hg:w.heap[b]? =some (.cells cur.toArray gE fz))(hz:ny u gE cur.toArray fz)
  (hsz:vv.cells.toList.length=ti.size) (hle:off+vv.cells.toList.length<=cur.length) (h1:∀u∈vv.cells.toList,u.oneCell'=true):
  (storeVar T ⟨b,off,none⟩ vv).run P w=.ok () (w.setRow b (bP cur off vv.cells.toList).toArray):=by
 have hs:vv.cells.size=ti.size:=by simpa using hsz
 have:=ny.run (P:=P) b off gE fz vv.cells.toList 0 cur.toArray w hg hz (by simpa using hle) h1
 simp only[storeVar,Sem.run_bind,cg.R3 h hn,Result.andThen_ok,hs,ne_eq,not_true_eq_false,if_false];rw[this];simp[bP]
variable {D:Oper}
theorem yA{aY:Nat->Value}{w':World}{us:List (Nat×Site)}(S:ar U Y X aY {st with sites:=bv st.sites us} M w')(Z:cr st D.dst=true)
  (h:(execOp (Act.eval ⟨M,[]⟩) D).run P w=.ok .skip w'):cN P U Y X st M w D (b6 (.cW undef)) us:=
 fun _ _ bT=>aod h (bT _ _ _ (ar.cY S Z rfl))
theorem ln{aY:Nat->Value}{w':World}{us:List (Nat×Site)}{v:a7}{vv:Value}(S:ar U Y X aY {st with sites:=bv st.sites us} M w')(Z:cr st D.dst=true)
  (h:(execOp (Act.eval ⟨M,[]⟩) D).run P w=.ok (.value vv) w') (hv:ck aY (bv st.sites us) w' (aI X aY (bv st.sites us)) v vv):cN P U Y X st M w D v us:=
 fun _ _ bT=>pj h (bT _ _ _ (ar.cY S Z hv))
theorem sq{aJ:Type}(a:List aJ)(off:Nat)(b:List aJ)(h:off+b.length<=a.length):(bP a off b).length=a.length:=by
 unfold bP;simp only[List.length_append,List.length_take,List.length_drop];omega
theorem afN{aJ:Type}(a:List aJ)(off n:Nat)(b:List aJ)(h:off+b.length<=n)(hn:n<=a.length):(bP a off b).take n=bP (a.take n) off b:=by
 unfold bP;apply List.ext_getElem?;intro j;simp only[List.getElem?_take,List.getElem?_append,List.length_append,List.length_take,List.getElem?_drop];have m1:min off a.length=off:=by omega
 have m2:min off (min n a.length)=off:=by omega
 simp only[m1,m2];by_cases c1:j<off
 ·have c2:j<n:=by omega
  have c3:j<off+b.length:=by omega
  simp[c1,c2,c3]
 ·by_cases c3:j<off+b.length
  ·have c2:j<n:=by omega
   simp[c1,c2,c3]
  ·have e:off+b.length+(j-(off+b.length))=j:=by omega
   simp[c1,c3,e]
theorem agH{cells ai:List aQ}{T:TypeId}{cur vs:List Value}{b off:Nat}(h:nm cells T cur b)(hl:vs.length=ai.length)(hns:hL ai=true):nm (bP cells off ai) T (bP cur off vs) b:=by
 intro bL;unfold bP at bL ⊢;cases off with
 |zero=>
  cases ai with
  |nil=>
   cases vs with
   |nil=>simpa using h (by simpa using bL)
   |cons=>cases hl
  |cons l ai=>
   simp only[List.take_zero,List.nil_append,List.cons_append,List.head?_cons,Option.some.injEq] at bL;subst bL;cases hns
 |succ n=>
  cases cells with
  |nil=>
   cases ai with
   |nil=>simp at bL
   |cons l ai=>
    simp only[List.take_nil,List.nil_append,List.cons_append,List.head?_cons,Option.some.injEq] at bL;subst bL;cases hns
  |cons c cells=>
   simp only[List.take_succ_cons,List.cons_append,List.head?_cons,Option.some.injEq] at bL;subst bL;have:=h rfl;cases cur with
   |nil=>simp at this
   |cons v cur=>simpa using this
theorem ar.ajV(S:ar U Y X F st M w){o s off:Nat}{cells ai:List aQ}{v:Value}{vs:List Value}(hb:look st.sites o=some (.box s cells))(hv:ea F st.sites w (aI X F st.sites) (.ptr o s off) v)
  (hl:cA F st.sites w (aI X F st.sites) ai vs) (hle:off+ai.length<=cells.length) (h1:∀u∈vs,u.oneCell'=true) (hns:hL ai=true):
  ∃b T cur,v=.pointer (some ⟨b,off,none⟩)/\w.heap[b]? =some (.cells (List.toArray cur) T (0,0))/\off+vs.length<=cur.length/\
   ar U Y X F {st with sites:=cw st.sites o (.box s (bP cells off ai))} M (w.setRow b (bP cur off vs).toArray):=by
 obtain⟨b,T,cur,cV,xE,hg,kS,j7⟩:=S.box hb hv;have pN:off+vs.length<=cur.length:=by rw[hl.1,j7.1];exact hle
 refine⟨b,T,cur,xE,hg,pN,?_⟩;have ix:nm cells T cur b:=by
  obtain⟨b2,eC,ZG,aE,aF,_,_,bJ,_⟩:=S.sites o _ hb;rw[cV] at aE;cases aE;rw[hg] at aF;cases aF;exact bJ
 refine S.write hb rfl rfl rfl (by rw[cV];rfl) hg (fun hs hw hg' go=>?_)
 have Zr:=B2 go (j7.bP off hl);refine⟨b,T,_,cV,hg',Zr.1,fun u hu=>?_,agH ix hl.1 hns,Zr.2⟩
 unfold bP at hu;simp only[List.mem_append] at hu;rcases hu with(hu|hu)|hu
 ·exact kS u (List.mem_of_mem_take hu)
 ·exact h1 u hu
 ·exact kS u (List.mem_of_mem_drop hu)
theorem jn{F:Nat->Value}{sites:List (Nat×Site)}{w:World}{av:Nat->Prop}{ds:List bh}{vs:List Value}(h:cA F sites w av (cF ds) vs):c5 w av ds vs:=
 ⟨by simpa[cF] using h.1,fun j g1 g2=>by
  have:=h.2 j (by simpa[cF] using g1) g2
  simp only[cF,List.getElem_map] at this;exact this⟩
theorem ae9{w:World}{av:Nat->Prop}{t:bf}{xs:List (den t)}{k:Nat}{iy:den t}{cs ns:List Value}(hk:k<xs.length)(h:c5 w av (flat t xs) cs)(aj:c5 w av (enc t iy) ns):
  c5 w av (flat t (xs.set k iy)) (bP cs (k*bd t) ns):=by
 have e:flat t (xs.set k iy)=bP (flat t xs) (k*bd t) (enc t iy):=by
  rw[alg,if_pos hk];unfold bP;rw[jj,Nat.add_mul,Nat.one_mul]
 rw[e];have a:=hQ (F:=fun _=>undef) (sites:=[]) h.1 h.2
 have b:=hQ (F:=fun _=>undef) (sites:=[]) aj.1 aj.2
 have c:=a.bP (k*bd t) b;have e2:bP (cF (flat t xs)) (k*bd t) (cF (enc t iy))=cF (bP (flat t xs) (k*bd t) (enc t iy)):=by
  simp[bP,cF,List.map_append,List.map_take,List.map_drop]
 rw[e2] at c;exact jn c
theorem ar.ajU(S:ar U Y X F st M w){o s k off:Nat}{t:bf}{xs:List (den t)}{x iy:den t}{v:Value}{ds:List bh}{vs:List Value}(hb:look st.sites o=some (.row s t xs))
  (hv:ea F st.sites w (aI X F st.sites) (.e5 o s t k off) v) (hx:xs[k]? =some x) (pU:enc t iy=bP (enc t x) off ds)
  (hl:c5 w (aI X F st.sites) ds vs) (hle:off+ds.length<=bd t) (h1:∀u∈vs,u.oneCell'=true):
  ∃b T cur fz,v=.pointer (some ⟨b,k*bd t+off,none⟩)/\w.heap[b]? =some (.cells (List.toArray cur) T fz)/\ny t.j5 T cur.toArray fz/\k*bd t+off+vs.length<=cur.length/\
   ar U Y X F {st with sites:=cw st.sites o (.row s t (xs.set k iy))} M (w.setRow b (bP cur (k*bd t+off) vs).toArray):=by
 obtain⟨b,xE,pV⟩:=hv;obtain⟨n,c,cV⟩:=Ref.at pV hb rfl;obtain⟨e,cs,lN,dV⟩:=S.sites o _ hb;have hk:k<xs.length:=by
  rcases Nat.lt_or_ge k xs.length with h|h
  ·exact h
  ·rw[List.getElem?_eq_none h] at hx;cases hx
 obtain⟨Mz,h⟩:=lN;rcases h with⟨hn,_⟩|⟨g,cap,cur,fz,oL,MN,hg,hnc,hcm,hcs,htk⟩
 ·rw[cV] at hn;cases hn
 ·rw[cV] at oL;cases oL;have rK:(k+1)*bd t<=xs.length*bd t:=Nat.mul_le_mul_right _ hk;have hk2:xs.length*bd t<=c*bd t:=Nat.mul_le_mul_right _ hnc;rw[Nat.add_mul,Nat.one_mul] at rK;have mE:vs.length=ds.length:=hl.1;have kS:cur.toList.length=c*bd t:=by simpa using hcs
  have pN:k*bd t+off+vs.length<=cur.toList.length:=by omega
  refine⟨b,e,cur.toList,fz,xE,by simpa using hg,by simpa using MN,pN,?_⟩
  refine S.write hb rfl rfl rfl (by rw[cV];rfl) hg (fun hs hw hg' go=>?_)
  have aBY:cs.length=xs.length*bd t:=Mz;refine⟨e,bP cs (k*bd t+off) vs,⟨?_,.inr ⟨b,c,_,fz,?_,?_,hg',?_,hcm,?_,?_⟩⟩,?_⟩
  ·rw[sq _ _ _ (by omega),List.length_set];exact Mz
  ·rw[cV,List.length_set]
  ·refine⟨MN.1,?_⟩;rcases MN.2 with h|⟨h,aj⟩
   ·exact .inl h
   ·refine .inr ⟨h,?_⟩;rw[List.size_toArray,sq _ _ _ pN];simpa using aj
  ·rw[List.length_set];exact hnc
  ·rw[List.size_toArray,sq _ _ _ pN];exact kS
  ·rw[<-htk,List.length_set,List.toList_toArray];exact afN _ _ _ _ (by omega) (by rw[kS];omega)
  ·have r0:c5 w (aI X F st.sites) (flat t xs) cs:=⟨by rw[e9];exact Mz,dV⟩
   have ix:=u' t xs k x hx;have r1:c5 w (aI X F st.sites) (enc t x) ((cs.drop (k*bd t)).take (bd t)):=by
    have a:=hQ (F:=fun _=>undef) (sites:=[]) r0.1 r0.2
    have bH:=(a.drop (k*bd t)).take (bd t);have e2:((cF (flat t xs)).drop (k*bd t)).take (bd t)=cF (enc t x):=by
     rw[<-ix];simp[cF,List.map_drop,List.map_take]
    rw[e2] at bH;exact jn bH
   have r2:c5 w (aI X F st.sites) (enc t iy) (bP ((cs.drop (k*bd t)).take (bd t)) off vs):=by
    rw[pU];have a:=hQ (F:=fun _=>undef) (sites:=[]) r1.1 r1.2
    have bH:=hQ (F:=fun _=>undef) (sites:=[]) hl.1 hl.2
    have fu:=a.bP off bH;have e2:bP (cF (enc t x)) off (cF ds)=cF (bP (enc t x) off ds):=by
     simp[bP,cF,List.map_append,List.map_take,List.map_drop]
    rw[e2] at fu;exact jn fu
   have dn:=ae9 hk r0 r2;have br:bP cs (k*bd t) (bP ((cs.drop (k*bd t)).take (bd t)) off vs)=bP cs (k*bd t+off) vs:=by
    unfold bP;apply List.ext_getElem?;intro j;simp only[List.getElem?_append,List.length_append,List.length_take,List.length_drop,List.getElem?_take,List.getElem?_drop];have m1:min (k*bd t) cs.length=k*bd t:=by omega
    have m2:min (k*bd t+off) cs.length=k*bd t+off:=by omega
    have m3:min (bd t) (cs.length-k*bd t)=bd t:=by omega
    have m4:min off (bd t)=off:=by omega
    simp only[m1,m2,m3,m4];by_cases c1:j<k*bd t
    ·have c2:j<k*bd t+off:=by omega
     have c3:j<k*bd t+off+vs.length:=by omega
     have df:j<k*bd t+(off+vs.length+(bd t-(off+vs.length))):=by omega
     simp[c1,c2,c3,df]
    ·by_cases c2:j<k*bd t+off
     ·have d1:j-k*bd t<off:=by omega
      have d2:j-k*bd t<off+vs.length:=by omega
      have d3:j-k*bd t<bd t:=by omega
      have c3:j<k*bd t+off+vs.length:=by omega
      have df:j<k*bd t+(off+vs.length+(bd t-(off+vs.length))):=by omega
      have eS:k*bd t+(j-k*bd t)=j:=by omega
      simp[c1,c2,c3,df,d1,d2,d3,eS]
     ·by_cases c3:j<k*bd t+off+vs.length
      ·have d1:¬j-k*bd t<off:=by omega
       have d2:j-k*bd t<off+vs.length:=by omega
       have df:j<k*bd t+(off+vs.length+(bd t-(off+vs.length))):=by omega
       have eS:j-k*bd t-off=j-(k*bd t+off):=by omega
       simp[c1,c2,c3,df,d1,d2,eS]
      ·by_cases df:j<k*bd t+(off+vs.length+(bd t-(off+vs.length)))
       ·have d2:¬j-k*bd t<off+vs.length:=by omega
        have d1:¬j-k*bd t<off:=by omega
        have d5:off+vs.length+(j-k*bd t-(off+vs.length))<bd t:=by omega
        have eS:k*bd t+(off+vs.length+(j-k*bd t-(off+vs.length)))=k*bd t+off+vs.length+(j-(k*bd t+off+vs.length)):=by omega
        simp[c1,c2,c3,df,d1,d2,d5,eS]
       ·have eS:k*bd t+(off+vs.length+(bd t-(off+vs.length)))+(j-(k*bd t+(off+vs.length+(bd t-(off+vs.length)))))=k*bd t+off+vs.length+(j-(k*bd t+off+vs.length)):=by omega
        simp[c1,c2,c3,df,eS]
   rw[br] at dn;exact fun j g1 g2=>px go (dn.2 j g1 g2)
end
section
variable {P:Program}{U:World}{Y:List Nat}{X:Nat->Prop}{F:Nat->Value}{st:al}{M:Array Value}{w:World}
theorem l6{o:Nat}{af:Site}(h:look st.sites o=some af):af.cy<bz st o:=by
 unfold bz al.af;rw[h];exact Nat.lt_succ_self _
theorem ar.make(S:ar U Y X F st M w){o:Nat}{bZ:Site}{nv:Value}{w':World}
  (hw:∀b,b<w.heap.size->w'.heap[b]? =w.heap[b]?) (hos:w'.os=w.os) (aqU:w'.tape=w.tape) (K0:w'.output=w.output) (pz:w.heap.size<=w'.heap.size)
  (wb:∀af,look st.sites o=some af->af.cy<bZ.cy) (iY:∀b,bQ nv=some b->w.heap.size<=b/\b<w'.heap.size)
  (fI:∀{bY:List (Nat×Site)} {aY:Nat->Value},bY=cw st.sites o bZ->aY o=nv->(∀{a v},ck F st.sites w (aI X F st.sites) a v->ck aY bY w' (aI X aY bY) a v)->
   (∀b,w.heap.size<=b->bQ nv≠some b->¬aI X aY bY b)->(bZ.live=false->∀b,bQ nv=some b->¬aI X aY bY b)->kj aY bY w' (aI X aY bY) o bZ):
  ar U Y X (fun ab=>if ab=o then nv else F ab) {st with sites:=cw st.sites o bZ} M w':=by
 have cQ:∀ab,cq (cw st.sites o bZ) ab->(ab=o/\bZ.live=true)\/(ab≠o/\cq st.sites ab):=by
  rintro ab ⟨af,h1,h2⟩;rw[c9] at h1;by_cases e:o=ab
  ·subst e;simp at h1;subst h1;exact .inl ⟨rfl,h2⟩
  ·simp only[e,if_false] at h1;exact .inr ⟨fun h=>e h.symm,af,h1,h2⟩
 have cc:∀b,aI X (fun ab=>if ab=o then nv else F ab) (cw st.sites o bZ) b->aI X F st.sites b\/(bQ nv=some b/\bZ.live=true):=by
  rintro b (h|⟨ab,h1,h2⟩)
  ·exact .inl (.inl h)
  ·rcases cQ ab h1 with⟨rfl,h3⟩|⟨h3,aA⟩
   ·simp at h2;exact .inr ⟨h2,h3⟩
   ·simp only[h3,if_false] at h2;exact .inl (.inr ⟨ab,aA,h2⟩)
 have hlt:∀b,aI X F st.sites b->b<w.heap.size:=by
  rintro b (h|⟨ab,h1,h2⟩)
  ·exact S.old b h
  ·exact S.fL h1 h2
 refine S.ra (fun ab af bU=>?_) (fun b _ hb=>hw b hb) (fun b h hb aj=>?_) (fun go ab af bU=>?_) (fun ab ρ b h1 h2 g1 g2=>?_) (fun ab b h1 g1=>?_) (fun ab b h1 g1=>?_) ?_ pz
 ·rw[c9];by_cases e:o=ab
  ·subst e;exact⟨bZ,by simp,Nat.le_of_lt (wb af bU),fun h=>by have:=wb af bU;omega⟩
  ·have cI:¬ab=o:=fun h=>e h.symm
   exact⟨af,by simp[e,bU],Nat.le_refl _,fun _=>by simp[cI]⟩
 ·rcases cc b aj with aj|⟨aj,_⟩
  ·exact h aj
  ·have:=(iY b aj).1;omega
 ·rw[c9] at bU;by_cases e:o=ab
  ·subst e;simp only[if_true,Option.some.injEq] at bU;subst bU;refine .inr (fI rfl (by simp) go (fun b hb hne aj=>?_) (fun hl b hb aj=>?_))
   ·rcases cc b aj with aj|⟨aj,_⟩
    ·have:=hlt b aj;omega
    ·exact hne aj
   ·rcases cc b aj with aj|⟨_,aj⟩
    ·have:=hlt b aj;have:=(iY b hb).1;omega
    ·rw[hl] at aj;cases aj
  ·have cI:¬ab=o:=fun h=>e h.symm
   simp only[e,if_false] at bU;exact .inl ⟨bU,by simp[cI],fun hl b hb=>hw b (S.fL ⟨af,bU,hl⟩ hb)⟩
 ·rcases cQ ab h1 with⟨rfl,_⟩|⟨n1,dP⟩<;>rcases cQ ρ h2 with⟨rfl,_⟩|⟨n2,fC⟩
  ·rfl
  ·simp only[if_true] at g1;simp only[n2,if_false] at g2;have:=S.fL fC g2;have:=(iY b g1).1;omega
  ·simp only[if_true] at g2;simp only[n1,if_false] at g1;have:=S.fL dP g1;have:=(iY b g2).1;omega
  ·simp only[n1,if_false] at g1;simp only[n2,if_false] at g2;exact S.eg ab ρ b dP fC g1 g2
 ·rcases cQ ab h1 with⟨rfl,_⟩|⟨n1,dP⟩
  ·simp only[if_true] at g1;have hb:=(iY b g1).1;exact⟨fun hx=>by have:=S.old b hx;have:=S.frame.size;omega,.inr (Nat.le_trans S.frame.size hb)⟩
  ·simp only[n1,if_false] at g1;exact S.ct ab b dP g1
 ·rcases cQ ab h1 with⟨rfl,_⟩|⟨n1,dP⟩
  ·simp only[if_true] at g1;exact(iY b g1).2
  ·simp only[n1,if_false] at g1;exact Nat.lt_of_lt_of_le (S.fL dP g1) pz
 ·have aS:=S.frame;exact⟨hos.trans aS.os,aqU.trans aS.tape,K0.trans aS.output,Nat.le_trans aS.size pz,fun b h1 h2=>(hw b (Nat.lt_of_lt_of_le h1 aS.size)).trans (aS.block b h1 h2)⟩
theorem ar.append(S:ar U Y X F st M w){o dst s:Nat}{t:bf}{xs r:List (den t)}(hl:look st.sites o=some (.row s t xs)){nv:Value}{w':World}
  (hg:w.grownBy w' (F o).ownBlock) (iY:∀b,bQ nv=some b->b<w'.heap.size/\(bQ (F o)=some b\/w.heap.size<=b))
  (fI:∀{bY:List (Nat×Site)} {aY:Nat->Value},aY dst=nv->(∀{a v},ck F st.sites w (aI X F st.sites) a v->ck aY bY w' (aI X aY bY) a v)->
   kj aY bY w' (aI X aY bY) dst (.row (bz (st.iC o (.dead s)) dst) t r)):
  ar U Y X (fun ab=>if ab=dst then nv else F ab) {st with sites:=bv st.sites [(o,.dead s),(dst,.row (bz (st.iC o (.dead s)) dst) t r)]} M w':=by
 have bA:cq st.sites o:=⟨_,hl,rfl⟩;have jW:∀ab,look (bv st.sites [(o,.dead s),(dst,.row (bz (st.iC o (.dead s)) dst) t r)]) ab=
   if dst=ab then some (.row (bz (st.iC o (.dead s)) dst) t r) else if o=ab then some (.dead s) else look st.sites ab:=by
  intro ab;simp only[bv,c9]
 have wb:∀af,look st.sites dst=some af->af.cy<bz (st.iC o (.dead s)) dst:=by
  intro af h;unfold bz;rw[al.ys];by_cases e:o=dst
  ·subst e;rw[hl] at h;cases h;simp[Site.cy]
  ·simp only[e,if_false,al.af,h];exact Nat.lt_succ_self _
 have cQ:∀ab,cq (bv st.sites [(o,.dead s),(dst,.row (bz (st.iC o (.dead s)) dst) t r)]) ab->ab=dst\/(ab≠dst/\ab≠o/\cq st.sites ab):=by
  rintro ab ⟨af,h1,h2⟩;rw[jW] at h1;by_cases e:dst=ab
  ·exact .inl e.symm
  ·simp only[e,if_false] at h1;by_cases e2:o=ab
   ·simp only[e2,if_true,Option.some.injEq] at h1;subst h1;cases h2
   ·simp only[e2,if_false] at h1;exact .inr ⟨fun h=>e h.symm,fun h=>e2 h.symm,af,h1,h2⟩
 have aCh:∀b,bQ (F o)=some b->(F o).ownBlock=some b:=by
  intro b hb;obtain⟨e,cs,g1,_⟩:=S.sites o _ hl;rcases g1.2 with⟨hn,_⟩|⟨g,cap,cur,fz,hv,_⟩
  ·rw[hn] at hb;cases hb
  ·rw[hv] at hb ⊢;exact hb
 have atf:∀b,(F o).ownBlock=some b->bQ (F o)=some b:=by
  intro b hb;cases hv:F o<;>rw[hv] at hb<;>first|cases hb|skip
  rename_i a n c;cases a<;>first|exact hb|cases hb
 have Kh:∀b,b<w.heap.size->bQ (F o)≠some b->w'.heap[b]? =w.heap[b]? :=fun b hb hne=>hg.block b hb (fun e=>hne (atf b e.symm))
 refine S.ra (fun ab af bU=>?_) (fun b h hb=>Kh b hb (fun e=>h (.inr ⟨o,bA,e⟩))) (fun b h hb aj=>?_) (fun go ab af bU=>?_) (fun ab ρ b h1 h2 g1 g2=>?_) (fun ab b h1 g1=>?_) (fun ab b h1 g1=>?_) ?_ hg.size
 ·rw[jW];by_cases e:dst=ab
  ·subst e;refine⟨.row (bz (st.iC o (.dead s)) dst) t r,by simp,?_,fun h=>?_⟩
   ·exact Nat.le_of_lt (wb af bU)
   ·have:=wb af bU;simp only[Site.cy] at h this;omega
  ·have cI:¬ab=dst:=fun h=>e h.symm
   by_cases e2:o=ab
   ·subst e2;rw[hl] at bU;cases bU;exact⟨.dead s,by simp[e],Nat.le_refl _,fun _=>by simp[cI]⟩
   ·exact⟨af,by simp[e,e2,bU],Nat.le_refl _,fun _=>by simp[cI]⟩
 ·rcases aj with aj|⟨ab,h1,h2⟩
  ·exact h (.inl aj)
  ·rcases cQ ab h1 with rfl|⟨n1,_,dP⟩
   ·simp only[if_true] at h2;rcases(iY b h2).2 with h3|h3
    ·exact h (.inr ⟨o,bA,h3⟩)
    ·omega
   ·simp only[n1,if_false] at h2;exact h (.inr ⟨ab,dP,h2⟩)
 ·rw[jW] at bU;by_cases e:dst=ab
  ·subst e;simp only[if_true,Option.some.injEq] at bU;subst bU;exact .inr (fI (by simp) go)
  ·have cI:¬ab=dst:=fun h=>e h.symm
   simp only[e,if_false] at bU;by_cases e2:o=ab
   ·simp only[e2,if_true,Option.some.injEq] at bU;subst bU;exact .inr trivial
   ·simp only[e2,if_false] at bU;refine .inl ⟨bU,by simp[cI],fun gz b hb=>?_⟩
    have abR:cq st.sites ab:=⟨af,bU,gz⟩;exact Kh b (S.fL abR hb) (fun h=>e2 (S.eg o ab b bA abR h hb))
 ·have key:∀ab b,ab≠dst->ab≠o->cq st.sites ab->bQ (F ab)=some b->bQ nv≠some b:=by
   intro ab b n1 n2 dP hb hn;rcases(iY b hn).2 with h3|h3
   ·exact n2 (S.eg ab o b dP bA hb h3)
   ·have:=S.fL dP hb;omega
  rcases cQ ab h1 with rfl|⟨n1,m1,dP⟩<;>rcases cQ ρ h2 with rfl|⟨n2,m2,fC⟩
  ·rfl
  ·simp only[if_true] at g1;simp only[n2,if_false] at g2;exact absurd g1 (key ρ b n2 m2 fC g2)
  ·simp only[if_true] at g2;simp only[n1,if_false] at g1;exact absurd g2 (key ab b n1 m1 dP g1)
  ·simp only[n1,if_false] at g1;simp only[n2,if_false] at g2;exact S.eg ab ρ b dP fC g1 g2
 ·rcases cQ ab h1 with rfl|⟨n1,_,dP⟩
  ·simp only[if_true] at g1;rcases(iY b g1).2 with h3|h3
   ·exact S.ct o b bA h3
   ·exact⟨fun hx=>by have:=S.old b hx;have:=S.frame.size;omega,.inr (Nat.le_trans S.frame.size h3)⟩
  ·simp only[n1,if_false] at g1;exact S.ct ab b dP g1
 ·rcases cQ ab h1 with rfl|⟨n1,_,dP⟩
  ·simp only[if_true] at g1;exact(iY b g1).1
  ·simp only[n1,if_false] at g1;exact Nat.lt_of_lt_of_le (S.fL dP g1) hg.size
 ·have aS:=S.frame;refine⟨hg.os.trans aS.os,hg.tape.trans aS.tape,hg.output.trans aS.output,Nat.le_trans aS.size hg.size,fun b h1 h2=>?_⟩
  rw[Kh b (Nat.lt_of_lt_of_le h1 aS.size) (fun e=>?_)]
  ·exact aS.block b h1 h2
  ·rcases(S.ct o b bA e).2 with h|h
   ·exact h2 h
   ·omega
end
def Src(w:World)(size:Nat)(x:Value)(m:Nat)(news:List Value):Prop:=
 news.length=m*size/\(∀u∈news,u.oneCell'=true)/\((x=.slice none 0 0/\m=0)\/(∃a c,x=.slice (some a) m c/\∀j u,news[j]? =some u->w.cell? (a.add j)=some u)\/∃s:ByteArray,x=.string s/\m=s.size/\size=1/\news=s.data.toList.map fun b=>Value.int .u8 b.toNat)
theorem Src.run{P:Program}{w w2:World}{size m:Nat}{x:Value}{news:List Value}(h:Src w size x m news)(hw:w2.heap=w.heap):(Builtin.firstCells size m x).run P w2=.ok news.toArray w2:=by
 obtain⟨h1,_,h2⟩:=h;rcases h2 with⟨rfl,rfl⟩|⟨a,c,rfl,h3⟩|⟨s,rfl,rfl,rfl,rfl⟩
 ·have:news=[]:=List.eq_nil_of_length_eq_zero (by simpa using h1)
  subst this;exact run_firstCells_none w2 size 0 0 0
 ·refine run_firstCells_some w2 size m a m c news h1 (fun j u hu=>?_)
  have:=h3 j u hu;unfold World.cell? at this ⊢;rw[hw];exact this
 ·have e:s.extract 0 s.size=s:=by simp
  show Result.ok ((s.extract 0 s.size).data.map fun b=>Value.int .u8 b.toNat) w2=_
  rw[e];congr 1
  apply Array.ext';simp
theorem Src.len{P:Program}{w w2:World}{size m:Nat}{x:Value}{news:List Value}(h:Src w size x m news):(Builtin.lenOf x).run P w2=.ok m w2:=by
 obtain⟨_,_,h2⟩:=h;rcases h2 with⟨rfl,rfl⟩|⟨a,c,rfl,_⟩|⟨s,rfl,rfl,_⟩<;>rfl
theorem EM{P:Program}{u:Bool}(w:World)(T NI ty e:TypeId)(gO:u=true->e=mN)(i:TypeInfo)(z:Value)(size bytes:Nat)(aq:P.underlying T=some (.slice e))(jy:(∃ex,P.underlying NI=some (.slice ex))\/P.underlying NI=some .string)(hi:P.info? e=some i)
  (hz:i.zero=some z) (pz:i.size=size) (j9:i.bytes=bytes) (hzs:z.cells.size=size) (hsz:0<size)
  (v:Value) (n:Nat) (xs:List Value) (lN:∃cI,rowAt w u cI size v n xs) (x:Value) (m:Nat) (news:List Value) (fo:Src w size x m news)
  (h63:n+m<=maxLen) (VG:(n+m)*bytes<=140737488355328):
  ∃v' w',(Builtin.append_ #[T,NI] ty #[v,x]).run P w=.ok v' w'/\(∃cI,rowAt w' u cI size v' (n+m) (xs++news))/\w.grownBy w' v.ownBlock/\
   ∀b,bQ v'=some b->b<w'.heap.size/\(bQ v=some b\/w.heap.size<=b):=by
 subst pz j9;obtain⟨cI,hl0,lN⟩:=lN;have ao8:n+m<=9223372036854775807:=by simp only[maxLen] at h63;omega
 have hlen:(xs++news).length=(n+m)*i.size:=by rw[List.length_append,hl0,fo.1,Nat.add_mul]
 have grown:∀(old:Nat),old<n+m->∀(row:Option Nat),
   rowAt (w.drew.alloc (.cells (xs.toArray++news.toArray++Builtin.zeroCells z.cells (grownCap w (n+m) old e-(n+m))) e)) u e i.size
    (.slice (some ⟨w.heap.size,0,none⟩) (n+m) (grownCap w (n+m) old e)) (n+m) (xs++news)/\
   w.grownBy (w.drew.alloc (.cells (xs.toArray++news.toArray++Builtin.zeroCells z.cells (grownCap w (n+m) old e-(n+m))) e)) row:=by
  intro old aM row;have hge:=grownCap_ge w (n+m) old e;have hcm:grownCap w (n+m) old e<=maxLen:=grownCap_le_maxLen w (n+m) old e h63;refine⟨⟨hlen,.inr ⟨w.heap.size,_,_,(0,0),rfl,⟨gO,.inl rfl⟩,heap_alloc_new w.drew _,hge,hcm,?_,?_⟩⟩,⟨rfl,rfl,rfl,by simp,fun k hk _=>RowKit.Below.heap_alloc w.drew _ k hk⟩⟩
  ·simp only[Array.size_append,List.size_toArray,size_zeroCells,hzs,hl0,fo.1,<-Nat.add_mul];congr 1
   omega
  ·simp only[Array.toList_append,List.append_assoc];rw[<-List.append_assoc,<-hlen];exact List.take_left
 have U':∀{c:Nat} {D:Obj} {v:Value} b,bQ (.slice (some ⟨w.heap.size,0,none⟩) (n+m) c)=some b->b<(w.drew.alloc D).heap.size/\(bQ v=some b\/w.heap.size<=b):=by
  intro c D v b hb;cases hb;exact⟨by simp,.inr (Nat.le_refl _)⟩
 rcases lN with⟨rfl,rfl⟩|⟨g,cap,cur,fz,rfl,hfz,hg,hnc,hcm,hcs,mj⟩
 ·have hx:xs=[]:=List.eq_nil_of_length_eq_zero (by simpa using hl0)
  subst hx;by_cases hm:m=0
  ·subst hm;have hn:news=[]:=List.eq_nil_of_length_eq_zero (by simpa using fo.1)
   subst hn;refine⟨.slice none 0 0,w,?_,⟨e,FN w u e i.size⟩,⟨rfl,rfl,rfl,Nat.le_refl _,fun _ _ _=>rfl⟩,fun b hb=>by cases hb⟩
   rcases jy with⟨ex,jy⟩|jy<;>simp[Builtin.append_,run_underlying aq,run_underlying jy,sizeOf,typeInfo,hi,fo.len,fo.run (w2:=w) rfl]
  ·have xP:=grown 0 (by omega) (Value.ownBlock (.slice none 0 0))
   refine⟨_,_,?_,⟨e,xP.1⟩,xP.2,U'⟩;have h63':¬(9223372036854775807<(m:Int)):=by omega
   have hb:=VG;simp only[Nat.zero_add] at hb;have Lb:¬(281474976710656<Builtin.nextslicecap m 0*i.bytes):=by rw[nextslicecap_zero (by omega)];omega
   rcases jy with⟨ex,jy⟩|jy<;>simp[Builtin.append_,run_underlying aq,run_underlying jy,sizeOf,typeInfo,zeroValue,hi,hz,fo.len,hm,h63',Lb,Question.forced,run_firstCells_none,fo.run (w2:=w.drew) rfl,newRow,grownCap]
 ·by_cases hroom:n+m<=cap
  ·have lO:n*i.size+news.length<=cur.size:=by rw[fo.1,hcs,<-Nat.add_mul];exact Nat.mul_le_mul_right _ hroom
   have dU:=ny.run (P:=P) g (n*i.size) cI fz news 0 cur w hg hfz (by simpa using lO) fo.2.1
   simp only[Nat.add_zero] at dU;refine⟨.slice (some ⟨g,0,none⟩) (n+m) cap,w.setRow g (cur.toList.take (n*i.size)++news++cur.toList.drop (n*i.size+news.length)).toArray,?_,
    ⟨cI,hlen,.inr ⟨g,cap,_,fz,rfl,⟨hfz.1,hfz.2.imp id (fun h=>⟨h.1,?_⟩)⟩,setRow_heap w g cur _ cI _ hg,hroom,hcm,?_,?_⟩⟩,⟨rfl,rfl,rfl,by simp,fun k _ hk=>setRow_other w g k _ (fun e=>hk (by simp[Value.ownBlock,e]))⟩,fun b hb=>?_⟩
   ·rcases jy with⟨ex,jy⟩|jy<;>simp[Builtin.append_,run_underlying aq,run_underlying jy,sizeOf,typeInfo,hi,fo.len,hroom,fo.run (w2:=w) rfl,Addr.add_lit,dU]
   ·have:=h.2;simp only[List.size_toArray,List.length_append,List.length_take,List.length_drop,Array.length_toList];omega
   ·simp only[List.size_toArray,List.length_append,List.length_take,List.length_drop,Array.length_toList];omega
   ·rw[mj,<-hlen];exact List.take_left
   ·cases hb;exact⟨by rw[setRow_size];exact(Array.getElem?_eq_some_iff.1 hg).1,.inl rfl⟩
  ·have xP:=grown cap (by omega) (Value.ownBlock (.slice (some ⟨g,0,none⟩) n cap))
   refine⟨_,_,?_,⟨e,xP.1⟩,xP.2,U'⟩;have holds:∀j u,xs[j]? =some u->w.drew.cell? ((⟨g,0,none⟩:Addr).add j)=some u:=by
    intro j u hu;rw[gW,Nat.zero_add,World.cell?_drew,cell_of_row w g j cur cI fz hg];rw[<-mj,List.getElem?_take] at hu;split at hu
    ·simpa using hu
    ·cases hu
   have h63':¬(9223372036854775807<((n:Int)+(m:Int))):=by omega
   have lO:=growslice_fits (need:=n+m) (old:=cap) (bytes:=i.bytes) (by omega) VG
   have Lb:¬(281474976710656<Builtin.nextslicecap (n+m) cap*i.bytes):=by omega
   have D':=run_firstCells_some (P:=P) w.drew i.size n ⟨g,0,none⟩ n cap xs hl0 holds;rcases jy with⟨ex,jy⟩|jy<;>simp[Builtin.append_,run_underlying aq,run_underlying jy,sizeOf,typeInfo,zeroValue,hi,hz,fo.len,hroom,h63',Lb,Question.forced,fo.run (w2:=w.drew) rfl,D',newRow,grownCap]
   all_goals
    congr 2
    apply Array.ext';simp[List.append_assoc]
section
variable {P:Program}{U:World}{Y:List Nat}{X:Nat->Prop}{F:Nat->Value}{st:al}{M:Array Value}{w:World}{D:Oper}
theorem ajX(S:ar U Y X F st M w){x:a7}{v:Value}{t:bf}{bj:List (den t)}(hx:ck F st.sites w (aI X F st.sites) x v)(h:ts st x=some (.sl t bj)):
  ∃news,Src w (bd t) v bj.length news/\c5 w (aI X F st.sites) (flat t bj) news:=by
 have one:∀{news:List Value},cA F st.sites w (aI X F st.sites) (cF (flat t bj)) news->(∀u∈news,u.oneCell'=true):=by
  intro news h;refine h.jM ?_
  unfold cF;generalize flat t bj=l;induction l with
  |nil=>rfl
  |cons d l ih=>simpa[hL,aQ.storable] using ih
 unfold ts at h;split at h
 ·rename_i bo iZ;cases h;have hx:bK w (aI X F st.sites) (.sl t bj) v:=hx;cases hx with
  |nil t=>exact⟨[],⟨by simp,fun u hu=>by simp at hu,.inl ⟨rfl,rfl⟩⟩,rfl,fun j h=>by simp[flat] at h⟩
  |sl t xs a cap cs n hn hcap hb hl hc hr=>
   subst hn;have j7:=hQ (F:=F) (sites:=st.sites) hl hr;exact⟨cs,⟨by rw[hl,e9],one j7,.inr (.inl ⟨a,cap,rfl,hc⟩)⟩,hl,hr⟩
 ·cases h
 ·rename_i bo;cases h;rw[show v=_ from hx]
  exact⟨[],⟨by simp,fun u hu=>by simp at hu,.inl ⟨rfl,rfl⟩⟩,rfl,fun j h=>by simp[flat] at h⟩
 ·rename_i o s;split at h
  ·rename_i bo iZ hr;cases h;obtain⟨cs,hl,hc⟩:=S.row hr;have hv:v=F o:=by
    rcases kd hr with h1|h1<;>exact Ref.at hx.2 h1 rfl
   have c':=jn hl;refine⟨cs,⟨by rw[c'.1,e9],one hl,?_⟩,c'⟩
   rw[hv];rcases hc with⟨h1,h2⟩|⟨b,c,h1,h2,_⟩
   ·subst h2;exact .inl ⟨h1,rfl⟩
   ·exact .inr (.inl ⟨⟨b,0,none⟩,c,h1,fun j u hu=>by rw[gW];exact h2 j u hu⟩)
  ·cases h
 ·cases h
theorem PT(S:ar U Y X F st M w){C:Ctx}(H:CtxOk P C){T d_:TypeId}{s x:Operand}{e:TypeId}{t:bf}{bytes:Nat}{dst:Nat}(bk:C.tt T=.slice e t bytes)(WI:(∃ex,P.underlying d_=some (.slice ex))\/P.underlying d_=some .string)
  (aM:D.op=.call {callee:=.builtin .append,args:=#[s,x],argTypes:=#[T,d_]}) (dI:D.dst=some dst) (Z:cr st D.dst=true) {bj:List (den t)} {news:List Value} (fo:Src w (bd t) (Act.eval ⟨M,[]⟩ x) bj.length news)
  (dV:c5 w (aI X F st.sites) (flat t bj) news):Holds (qU bytes t dst st (bg C st T s) bj) (cN P U Y X st M w D):=by
 have bO:=H.tt T;rw[bk] at bO;obtain⟨⟨fG,_⟩,z,hinfo,hzs,gO⟩:=bO;obtain⟨i,hi,xO⟩:∃i,P.info? e=some i/\(i.size,i.bytes,i.zero)=(bd t,bytes,some z):=by
  cases az:P.info? e with
  |none=>simp[az] at hinfo
  |some i=>exact⟨i,rfl,by simpa[az] using hinfo⟩
 simp only[Prod.mk.injEq] at xO;obtain⟨xO,ace,MK⟩:=xO;have Dh:=dH S C T s;have runs:∀{v':Value} {w':World},(Builtin.append_ #[T,d_] D.type #[Act.eval ⟨M,[]⟩ s,Act.eval ⟨M,[]⟩ x]).run P w=.ok v' w'->
   (execOp (Act.eval ⟨M,[]⟩) D).run P w=.ok (.value v') w':=by
  intro v' w' h;unfold execOp;simp only[aM,resolve,invoke,builtin,Sem.run_bind,Sem.run_pure,Result.andThen_ok,List.map_toArray,List.map_cons,List.map_nil,h]
 have one:∀{u:Bool} {cI:TypeId} {v':Value} {n m:Nat} {l:List Value} {w':World},rowAt w' u cI n v' m l->v'.oneCell'=true:=by
  intro u cI v' n m l w' h;rcases h.2 with⟨rfl,_⟩|⟨g,cap,cur,fz,rfl,_⟩<;>rfl
 unfold qU;split
 ·-- a nil slice
  rename_i t2 b7;rw[b7] at Dh;have rm:Act.eval ⟨M,[]⟩ s=.slice none 0 0:=Dh;refine Holds.hV fun r hr=>?_
  have c':b9 bytes [] bj=some r:=hr;unfold b9 at c';split at c'
  ·rename_i hb;cases c';simp only[List.length_nil,Nat.zero_add,room] at hb;obtain⟨v',w',h1,⟨cI,h2⟩,h3,aA⟩:=EM (P:=P) (u:=t.j5) w T d_ D.type e gO i z (bd t) bytes fG WI hi MK xO ace hzs (mc _) (.slice none 0 0) 0 [] ⟨e,FN w _ e _⟩ _ _ news fo
    (by rw[Nat.zero_add];exact hb.2) (by rw[Nat.zero_add];exact hb.1)
   rw[Nat.zero_add,List.nil_append] at h2;have cm:=S.make (o:=dst) (bZ:=.row (bz st dst) t ([]++bj)) (nv:=v') (w':=w') (fun b hb=>h3.block b hb (by simp[Value.ownBlock])) h3.os h3.tape h3.output h3.size
    (fun af hs=>l6 hs) (fun b hb=>by
     obtain⟨g1,g2⟩:=aA b hb;rcases g2 with g2|g2
     ·cases g2
     ·exact⟨g2,g1⟩) (fun hs cV go _ _=>by
     refine⟨cI,news,by rw[cV];simpa using h2,?_⟩
     intro j g1 g2;have ayB:j<(flat t bj).length:=by simpa using g1
     simpa using px go (dV.2 j ayB g2))
   refine ln (us:=[(dst,.row (bz st dst) t ([]++bj))]) cm Z (runs (by rw[rm];exact h1)) ?_
   refine⟨one h2,Ref.mk (af:=.row (bz st dst) t ([]++bj)) ?_ rfl (by simp)⟩
   simp only[bv,c9];simp
  ·cases c'
 ·-- a row of CJ own
  rename_i o s2 b7;rw[b7] at Dh;split
  ·rename_i hF t2 xs gJ;have td:look st.sites o=some (.row hF t2 xs):=gJ;cases ax6:hF.beq s2 with
   |false=>simp only[cond_false];exact .fail
   |true=>
    have lV:=Nat.eq_of_beq_eq_true ax6;subst lV;simp only[cond_true];split
    ·rename_i jz;subst jz;refine Holds.hV fun r hr=>?_
     have c':b9 bytes xs bj=some r:=hr;unfold b9 at c';split at c'
     ·rename_i hb;cases c';simp only[room] at hb;have hv:Act.eval ⟨M,[]⟩ s=F o:=Ref.at Dh.2 td rfl;obtain⟨eT,cs,lN,hcs⟩:=S.sites o _ td;obtain⟨v',w',h1,⟨cI,h2⟩,h3,aA⟩:=EM (P:=P) w T d_ D.type e gO i z (bd t2) bytes fG WI hi MK xO ace hzs (mc _) (F o) xs.length cs ⟨eT,lN⟩ _ _ news fo hb.2 hb.1;have cm:=S.append (dst:=dst) (r:=xs++bj) td (nv:=v') (w':=w') h3 aA (fun cV go=>by
       refine⟨cI,cs++news,by rw[cV,List.length_append];exact h2,?_⟩
       have uh:c5 w (aI X F st.sites) (flat t2 xs) cs:=⟨by rw[e9];exact lN.1,hcs⟩
       have nx:=jn ((hQ (F:=F) (sites:=st.sites) uh.1 uh.2).append (hQ (F:=F) (sites:=st.sites) dV.1 dV.2)|>fun h=>by
        rw[show cF (flat t2 xs)++cF (flat t2 bj)=cF (flat t2 (xs++bj)) from by simp[cF,ss]] at h
        exact h)
       intro j g1 g2;exact px go (nx.2 j g1 g2))
      refine ln (us:=[(o,.dead hF),(dst,.row (bz (st.iC o (.dead hF)) dst) t2 (xs++bj))]) cm Z (runs (by rw[hv];exact h1)) ?_
      refine⟨one h2,Ref.mk (af:=.row (bz (st.iC o (.dead hF)) dst) t2 (xs++bj)) ?_ rfl (by simp)⟩
      simp only[bv,c9];simp
     ·cases c'
    ·exact .fail
  ·exact .fail
 ·exact .fail
theorem ajn(S:ar U Y X F st M w){C:Ctx}(H:CtxOk P C){T d_:TypeId}{s x:Operand}{e ex:TypeId}{t u:bf}{bytes b2:Nat}{dst:Nat}(bk:C.tt T=.slice e t bytes)(gO:C.tt d_=.slice ex u b2)
  (aM:D.op=.call {callee:=.builtin .append,args:=#[s,x],argTypes:=#[T,d_]}) (dI:D.dst=some dst) (Z:cr st D.dst=true):
  Holds (s4 bytes t dst st (bg C st T s) (bg C st d_ x)) (cN P U Y X st M w D):=by
 have xS:=H.tt d_;rw[gO] at xS;unfold s4;split
 ·exact .fail
 ·rename_i d rN;split
  ·rename_i bo bj;split
   ·rename_i jz;subst jz;obtain⟨news,fo,dV⟩:=ajX S (dH S C d_ x) rN;exact PT S H bk (.inl ⟨_,xS.1.1⟩) aM dI Z fo dV
   ·exact .fail
  ·exact .fail
theorem ahs(S:ar U Y X F st M w){C:Ctx}(H:CtxOk P C){T d_:TypeId}{s x:Operand}{e:TypeId}{t:bf}{bytes:Nat}{dst:Nat}(bk:C.tt T=.slice e t bytes)(gO:C.tt d_=.str)
  (aM:D.op=.call {callee:=.builtin .append,args:=#[s,x],argTypes:=#[T,d_]}) (dI:D.dst=some dst) (Z:cr st D.dst=true):
  Holds (s5 bytes t dst st (bg C st T s) (bg C st d_ x)) (cN P U Y X st M w D):=by
 have xS:=H.tt d_;rw[gO] at xS;have bC:=dH S C d_ x;unfold s5;split
 ·rename_i y hx;rw[hx] at bC;split
  ·rename_i jz;subst jz;have bC:bK w (aI X F st.sites) (.str y) (Act.eval ⟨M,[]⟩ x):=bC;generalize hv:Act.eval ⟨M,[]⟩ x=v at bC;cases bC with
   |str _ b hb=>
    subst hb;refine PT S H bk (.inr xS.1) aM dI Z (news:=b.data.toList.map fun b=>Value.int .u8 b.toNat) ?_ ?_
    ·rw[hv];refine⟨by simp[bytesOf,bd],fun u hu=>?_,.inr (.inr ⟨b,rfl,?_,rfl,rfl⟩)⟩
     ·obtain⟨c,_,rfl⟩:=List.mem_map.1 hu;rfl
     ·simp only[bytesOf,List.length_map,Array.length_toList];rfl
    ·have e1:flat .u8 (bytesOf b.data.toList)=(b.data.toList.map fun b=>bh.int .u8 b.toNat):=by
      unfold flat bytesOf;rw[List.flatMap_map];generalize b.data.toList=l;induction l with
      |nil=>rfl
      |cons a l ih=>simp only[List.flatMap_cons,List.map_cons,ih];rfl
     rw[e1];refine⟨by simp,fun j g1 g2=>?_⟩
     simp only[List.getElem_map];exact .int _ _
  ·exact .fail
 ·exact .fail
end
theorem foldl_set:∀(vs:List Value) (off k:Nat) (arr:Array Value),off+k+vs.length<=arr.size->
  (vs.zipIdx k).foldl (fun cs (x:Value×Nat)=>cs.setIfInBounds (off+x.2) x.1) arr=(bP arr.toList (off+k) vs).toArray:=by
 intro vs;induction vs with
 |nil=>intro off k arr h;simp[bP]
 |cons v vs ih=>
  intro off k arr h;simp only[List.zipIdx_cons,List.foldl_cons];rw[ih off (k+1) _ (by simp at h ⊢;omega)]
  congr 1
  simp only[List.length_cons] at h;unfold bP;rw[Array.toList_setIfInBounds];apply List.ext_getElem?;intro j;simp only[List.getElem?_append,List.length_append,List.length_take,List.length_set,List.getElem?_take,List.getElem?_drop,List.getElem?_set,List.length_cons,Array.length_toList];have m1:min (off+k) arr.size=off+k:=by omega
  have m2:min (off+(k+1)) arr.size=off+(k+1):=by omega
  simp only[m1,m2];by_cases c1:j<off+k
  ·have c2:j<off+(k+1):=by omega
   have c3:j<off+(k+1)+vs.length:=by omega
   have df:j<off+k+(vs.length+1):=by omega
   have gP:¬off+k=j:=by omega
   simp[c1,c2,c3,df,gP]
  ·by_cases c0:j=off+k
   ·subst c0;have c2:off+k<off+(k+1):=by omega
    have c3:off+k<off+(k+1)+vs.length:=by omega
    have df:off+k<off+k+(vs.length+1):=by omega
    have gP:off+k<arr.size:=by omega
    simp[c2,c3,df,gP]
   ·by_cases df:j<off+k+(vs.length+1)
    ·have c2:¬j<off+(k+1):=by omega
     have c3:j<off+(k+1)+vs.length:=by omega
     have e:j-(off+k)=(j-(off+(k+1)))+1:=by omega
     simp[c1,c2,c3,df,e]
    ·have c3:¬j<off+(k+1)+vs.length:=by omega
     have gP:¬off+k=off+(k+1)+vs.length+(j-(off+(k+1)+vs.length)):=by omega
     have e:off+(k+1)+vs.length+(j-(off+(k+1)+vs.length))=off+k+(vs.length+1)+(j-(off+k+(vs.length+1))):=by omega
     simp[c3,df,gP,e];try(intro bl;exfalso;omega)
theorem Pg(v:Value)(off:Nat)(arr:Array Value)(h:off+v.cells.size<=arr.size):
  v.cells.zipIdx.foldl (fun cs (x:Value×Nat)=>cs.setIfInBounds (off+x.2) x.1) arr=(bP arr.toList off v.cells.toList).toArray:=by
 rw[<-Array.foldl_toList,Array.toList_zipIdx];exact foldl_set v.cells.toList off 0 arr (by simpa using h)
theorem PO(s:Nat):∀(vs:List (Nat×Value)) (n:Nat) (cells:Array Value),(∀j (h:j<vs.length),(vs[j]).1=n+j)->(∀p,p∈vs->p.2.cells.size=s)->(n+vs.length)*s<=cells.size->
  Instr.fill (fun i=>some (i*s,s)) cells vs=some (bP cells.toList (n*s) (vs.flatMap fun p=>p.2.cells.toList)).toArray:=by
 intro vs;induction vs with
 |nil=>intro n cells _ _ _;simp[Instr.fill,bP]
 |cons p vs ih=>
  obtain⟨i,v⟩:=p;intro n cells hi hs hle;have h0:i=n:=hi 0 (Nat.zero_lt_succ _);subst h0;have hv:v.cells.size=s:=hs (i,v) (by simp)
  have pN:i*s+s<=cells.size:=by
   have:(i+1)*s<=(i+(vs.length+1))*s:=Nat.mul_le_mul_right _ (by omega)
   simp only[List.length_cons] at hle;rw[Nat.add_mul,Nat.one_mul] at this;omega
  simp only[Instr.fill,hv];rw[if_neg (by simp;omega)]
  have pD:=Pg v (i*s) cells (by omega)
  rw[pD];have hlen:v.cells.toList.length=s:=by simpa using hv
  have atc:(bP cells.toList (i*s) v.cells.toList).length=cells.toList.length:=sq _ _ _ (by simp;omega)
  rw[ih (i+1) _ (fun j h=>by have:=hi (j+1) (by simpa using h);simp at this;omega) (fun p hp=>hs p (by simp[hp])) (by
   simp only[List.length_cons] at hle;simp only[List.size_toArray,atc,Array.length_toList];have e:i+1+vs.length=i+(vs.length+1):=by omega
   rw[e];exact hle)]
  congr 2
  simp only[List.flatMap_cons,List.toList_toArray];have p2:(vs.flatMap fun p=>p.2.cells.toList).length=vs.length*s:=by
   clear ih hi hle;induction vs with
   |nil=>simp
   |cons q vs axm=>
    have:q.2.cells.toList.length=s:=by simpa using hs q (by simp)
    rw[List.flatMap_cons,List.length_append,this,axm (fun p hp=>hs p (by rcases List.mem_cons.1 hp with h|h<;>simp[h])),List.length_cons,Nat.add_mul];omega
  have ato:(i+(vs.length+1))*s<=cells.size:=by simpa using hle
  rw[Nat.add_mul,Nat.add_mul] at ato;unfold bP;apply List.ext_getElem?;intro j;have e1:(i+1)*s=i*s+s:=by rw[Nat.add_mul,Nat.one_mul]
  simp only[List.getElem?_append,List.length_append,List.length_take,List.getElem?_take,List.getElem?_drop,List.length_drop,Array.length_toList,hlen,p2,e1];have m1:min (i*s) cells.size=i*s:=by omega
  have m2:min (i*s+s) (i*s+s+(cells.size-(i*s+s)))=i*s+s:=by omega
  simp only[m1,m2];by_cases c1:j<i*s
  ·have c2:j<i*s+s:=by omega
   have c3:j<i*s+s+vs.length*s:=by omega
   have df:j<i*s+(s+vs.length*s):=by omega
   simp[c1,c2,c3,df]
  ·by_cases c2:j<i*s+s
   ·have c3:j<i*s+s+vs.length*s:=by omega
    have df:j<i*s+(s+vs.length*s):=by omega
    have gP:j-i*s<s:=by omega
    simp[c1,c2,c3,df,gP]
   ·by_cases c3:j<i*s+s+vs.length*s
    ·have df:j<i*s+(s+vs.length*s):=by omega
     have gP:¬j-i*s<s:=by omega
     have e:j-i*s-s=j-(i*s+s):=by omega
     simp[c1,c2,c3,df,gP,e]
    ·have df:¬j<i*s+(s+vs.length*s):=by omega
     have gP:¬i*s+s+vs.length*s+(j-(i*s+s+vs.length*s))<i*s:=by omega
     have c6:¬i*s+s+vs.length*s+(j-(i*s+s+vs.length*s))<i*s+s:=by omega
     have e:i*s+s+(i*s+s+vs.length*s+(j-(i*s+s+vs.length*s))-(i*s+s))=i*s+(s+vs.length*s)+(j-(i*s+(s+vs.length*s))):=by omega
     simp[c3,df,gP,c6,e]
theorem ahb:∀(l:List (Nat×Operand)) (n:Nat),sU n l=true->∀j (h:j<l.length),(l[j]).1=n+j:=by
 intro l;induction l with
 |nil=>intro n _ j h;simp at h
 |cons p l ih=>
  obtain⟨i,x⟩:=p;intro n h j hj;simp only[sU,Bool.and_eq_true] at h;cases j with
  |zero=>simpa using Nat.eq_of_beq_eq_true h.1
  |succ j=>have:=ih (n+1) h.2 j (by simpa using hj);simp;omega
section
variable {P:Program}{U:World}{Y:List Nat}{X:Nat->Prop}{F:Nat->Value}{st:al}{M:Array Value}{w:World}{D:Oper}
theorem aeB{ai:List aQ}(h:hL ai=true):ai.head?≠some .dz:=by
 intro bL;cases ai with
 |nil=>cases bL
 |cons l r=>
  simp only[List.head?_cons,Option.some.injEq] at bL;subst bL;cases h
theorem ar.Tw(S:ar U Y X F st M w){o:Nat}{cells:List aQ}{vs:List Value}{T:TypeId}(hl:cA F st.sites w (aI X F st.sites) cells vs)(h1:∀u∈vs,u.oneCell'=true)(hns:nm cells T vs w.heap.size):
  ar U Y X (fun ab=>if ab=o then .pointer (some ⟨w.heap.size,0,none⟩) else F ab) {st with sites:=cw st.sites o (.box (bz st o) cells)} M (w.alloc (.cells vs.toArray T (0,0))):=
 S.make (fun b hb=>RowKit.Below.heap_alloc w _ b hb) rfl rfl rfl (by simp) (fun af hs=>l6 hs) (fun b hb=>by cases hb;exact⟨Nat.le_refl _,by simp⟩)
  (fun hs cV go _ _=>⟨w.heap.size,T,vs,cV,heap_alloc_new w _,hl.1,h1,hns,fun j g1 g2=>(B2 go hl).2 j g1 g2⟩)
theorem aj1{F:Nat->Value}{sites:List (Nat×Site)}{av:Nat->Prop}{cells:List aQ}{T:TypeId}{cur:List Value}{b:Nat}(bk:T=rS)(h:cA F sites w av cells cur)(hs:cells.head?≠some .dz):cA F sites w av (ww cells) cur/\nm (ww cells) T cur b:=by
 unfold ww;split
 ·obtain⟨v,vs,rfl,h1,h2⟩:=h.inv;exact⟨.cons (show ea F sites w av .dz v from trivial) h2,fun _=>⟨bk,.inl (by rw[show v=_ from h1];rfl)⟩⟩
 ·exact⟨h,fun aj=>absurd aj hs⟩
theorem alC(S:ar U Y X F st M w){C:Ctx}(H:CtxOk P C){elem:TypeId}{z:List aQ}{o:Nat}(aM:D.op=.alloc elem)(dI:D.dst=some o)(hz:(C.tt elem).zero=some z)(Z:cr st D.dst=true):
  cN P U Y X st M w D (b6 (.ptr o (bz st o) 0)) [(o,.box (bz st o) (bif elem.beq rS then ww z else z))]:=by
 obtain⟨v,hv,oD⟩:=cg.GG (w:=w) (H.tt elem) hz;obtain⟨h1,h2,h3⟩:=u3 oD;have hns:z.head?≠some .dz:=by
  intro bL;cases z with
  |nil=>cases bL
  |cons l r=>
   simp only[List.head?_cons,Option.some.injEq] at bL;subst bL;simp[ls,qK] at oD
 have dy:(execOp (Act.eval ⟨M,[]⟩) D).run P w=.ok (.value (.pointer (some ⟨w.heap.size,0,none⟩))) (w.alloc (.cells v.cells.toList.toArray elem (0,0))):=by
  unfold execOp;simp[aM,Instr.alloc,hv,newVar,newRow]
 have key:∀cells,cA F st.sites w (aI X F st.sites) cells v.cells.toList->nm cells elem v.cells.toList w.heap.size->
   cN P U Y X st M w D (b6 (.ptr o (bz st o) 0)) [(o,.box (bz st o) cells)]:=by
  intro cells hl hs;have cm:=S.Tw (o:=o) (T:=elem) hl h2 hs;refine ln (us:=[(o,.box (bz st o) cells)]) cm Z (vv:=.pointer (some ⟨w.heap.size,0,none⟩)) dy ?_
  refine⟨_,rfl,Ref.mk (af:=.box (bz st o) cells) ?_ rfl (by simp)⟩
  simp only[bv,c9];simp
 cases bk:elem.beq rS with
 |false=>exact key z ⟨h1,h3 _ _ _ _⟩ fun h=>absurd h hns
 |true=>
  obtain⟨aE,aF⟩:=aj1 (b:=w.heap.size) (Nat.eq_of_beq_eq_true bk) (⟨h1,h3 F st.sites w (aI X F st.sites)⟩:cA F st.sites w (aI X F st.sites) z v.cells.toList) hns;exact key _ aE aF
theorem apr(S:ar U Y X F st M w){elem:TypeId}{x:Operand}{a:bS}{o:Nat}(aM:D.op=.box elem x)(dI:D.dst=some o)(ha:ho F st.sites w (aI X F st.sites) a (Act.eval ⟨M,[]⟩ x))
  (dU:hL a.cells=true) (Z:cr st D.dst=true):cN P U Y X st M w D (b6 (.ptr o (bz st o) 0)) [(o,.box (bz st o) a.cells)]:=by
 have hl:=ha.cells dU;have cm:=S.Tw (o:=o) (T:=elem) hl (hl.jM dU) (fun h=>absurd h (aeB dU))
 refine ln (us:=[(o,.box (bz st o) a.cells)]) cm Z (vv:=.pointer (some ⟨w.heap.size,0,none⟩)) ?_ ?_
 ·unfold execOp;simp[aM,Instr.box,newVar,newRow]
 ·refine⟨_,rfl,Ref.mk (af:=.box (bz st o) a.cells) ?_ rfl (by simp)⟩
  simp only[bv,c9];simp
theorem ar.Ie(S:ar U Y X F st M w){o:Nat}{t:bf}{xs:List (den t)}{cs rest:List Value}{T:TypeId}{cap:Nat}(hl:c5 w (aI X F st.sites) (flat t xs) cs)(hcap:cs.length+rest.length=cap*bd t)(hm:cap<=maxLen)(gO:t.j5=true->T=mN):
  ar U Y X (fun ab=>if ab=o then .slice (some ⟨w.heap.size,0,none⟩) xs.length cap else F ab) {st with sites:=cw st.sites o (.row (bz st o) t xs)} M (w.alloc (.cells (cs++rest).toArray T (0,0))):=by
 have hcl:cs.length=xs.length*bd t:=by rw[hl.1,e9]
 have hle:xs.length<=cap:=by
  have:xs.length*bd t<=cap*bd t:=by omega
  exact Nat.le_of_mul_le_mul_right this (mc t)
 refine S.make (fun b hb=>RowKit.Below.heap_alloc w _ b hb) rfl rfl rfl (by simp) (fun af hs=>l6 hs) (fun b hb=>by cases hb;exact⟨Nat.le_refl _,by simp⟩)
  (fun hs cV go _ _=>⟨T,cs,⟨hcl,.inr ⟨w.heap.size,cap,_,(0,0),cV,⟨gO,.inl rfl⟩,heap_alloc_new w _,hle,hm,?_,?_⟩⟩,fun j g1 g2=>px go (hl.2 j g1 g2)⟩)
 ·simp[hcap]
 ·rw[<-hcl];simp
theorem anA:∀{as:List bS} {t:bf} {xs:List (den t)} {us vs:List (Nat×Site)} {ws:List Value},lR t st as=some (xs,us)->ws.length=as.length->
  (∀j (h:j<as.length) (aj:j<ws.length),ho F st.sites w (aI X F st.sites) (as[j]) (ws[j]))->lk U Y X F st M w vs->(∀p,p∈us->p∈vs)->
  xs.length=as.length/\c5 w (aI X F (bv st.sites vs)) (flat t xs) (ws.flatMap fun v=>v.cells.toList)/\∀v,v∈ws->v.cells.size=bd t:=by
 intro as;induction as with
 |nil=>
  intro t xs us vs ws h hl _ _ _;simp only[lR] at h;cases h;have:ws=[]:=List.eq_nil_of_length_eq_zero hl;subst this;exact⟨rfl,⟨rfl,fun j h=>by simp[flat] at h⟩,fun v hv=>by simp at hv⟩
 |cons a as ih=>
  intro t xs us vs ws h hl fI aS ek;match ws,hl with
  |v::ws,hl=>
  simp only[lR] at h;split at h
  ·rename_i ds u1 pO;split at h
   ·rename_i x iZ u2 kt pC;cases h;have cc:=fI 0 (by simp) (by simp)
    simp only[List.getElem_cons_zero] at cc;have dU:hL a.cells=true:=by
     clear pC ih fI cc hl kt;generalize a.cells=ai at pO;induction ai generalizing ds u1 with
     |nil=>rfl
     |cons l ai ih=>
      simp only[gf] at pO;split at pO
      ·rename_i d ady k5 r6 h1 h2;simp only[hL,Bool.and_eq_true];refine⟨?_,ih _ _ (fun p hp=>ek p (by cases pO;rcases List.mem_append.1 hp with h|h<;>simp[h])) h2⟩
       unfold j_ at h1;split at h1<;>first|rfl|cases h1
      ·cases pO
    have hA:=cc.cells dU;have Mw:=Bx pO hA aS (fun p hp=>ek p (List.mem_append.2 (.inl hp)))
    obtain⟨g1,g2,g3⟩:=ih pC (by simpa using hl) (fun j h1 h2=>fI (j+1) (by simpa using h1) (by simpa using h2)) aS (fun p hp=>ek p (List.mem_append.2 (.inr hp)))
    have Zx:=Bw _ _ _ kt;refine⟨by simp[g1],?_,fun u hu=>?_⟩
    ·simp only[flat,List.flatMap_cons];rw[Zx];have:=jn ((hQ (F:=F) (sites:=st.sites) Mw.1 Mw.2).append (hQ (F:=F) (sites:=st.sites) g2.1 g2.2)|>fun h=>by
      rw[show cF ds++cF (flat t iZ)=cF (ds++flat t iZ) from by simp[cF]] at h
      exact h)
     exact this
    ·rcases List.mem_cons.1 hu with rfl|hu
     ·have:u.cells.toList.length=ds.length:=Mw.1;rw[<-Zx,jj] at this;simpa using this
     ·exact g3 u hu
   ·cases h
  ·cases h
theorem anB:∀{as:List bS} {t:bf} {xs:List (den t)} {us:List (Nat×Site)},lR t st as=some (xs,us)->dT st.sites us:=by
 intro as;induction as with
 |nil=>intro t xs us h;simp only[lR] at h;cases h;exact .nil
 |cons a as ih=>
  intro t xs us h;simp only[lR] at h;split at h
  ·rename_i ds u1 pO;split at h
   ·rename_i x iZ u2 kt pC;cases h;exact(I5 pO).append (ih pC)
   ·cases h
  ·cases h
theorem aea{us:List (Nat×Site)}(h:dT st.sites us)(o:Nat):bz {st with sites:=bv st.sites us} o=bz st o:=by
 unfold bz al.af;simp only;rcases l5 h o with h1|⟨s,t,xs,h1,h2⟩
 ·rw[h1]
 ·rw[h2];rcases h1 with h1|h1<;>rw[h1]<;>rfl
end
section
variable {P:Program}{U:World}{Y:List Nat}{X:Nat->Prop}{F:Nat->Value}{st:al}{M:Array Value}{w:World}{D:Oper}
theorem qw{v:a7}{a:bS}(h:my v=some a):v=.av a:=by
 cases v with
 |av b=>cases h;rfl
 |j3 _=>cases h
theorem ahq:∀{vs:List a7} {as:List bS},ou vs=some as->vs.length=as.length/\∀j (h:j<vs.length) (aj:j<as.length),vs[j]=.av (as[j]):=by
 intro vs;induction vs with
 |nil=>intro as h;simp only[ou] at h;cases h;exact⟨rfl,fun j h=>by simp at h⟩
 |cons v vs ih=>
  intro as h;simp only[ou] at h;split at h
  ·rename_i a oR h1 h2;cases h;obtain⟨g1,g2⟩:=ih h2;refine⟨by simp[g1],fun j aE aF=>?_⟩
   cases j with
   |zero=>exact qw h1
   |succ j=>exact g2 j (by simpa using aE) (by simpa using aF)
  ·cases h
theorem yD{C:Ctx}(H:CtxOk P C){T e:TypeId}{t:bf}{bytes:Nat}(bk:C.tt T=.slice e t bytes):
  P.underlying T=some (.slice e)/\∃i z,P.info? e=some i/\i.size=bd t/\i.bytes=bytes/\i.zero=some z/\z.cells.size=bd t/\(t.j5=true->e=mN):=by
 have bO:=H.tt T;rw[bk] at bO;obtain⟨⟨fG,_⟩,z,hinfo,hzs⟩:=bO;refine⟨fG,?_⟩;cases az:P.info? e with
 |none=>simp[az] at hinfo
 |some i=>
  simp only[az,Option.map_some,Option.some.injEq,Prod.mk.injEq] at hinfo;exact⟨i,z,rfl,hinfo.1,hinfo.2.1,hinfo.2.2,hzs⟩
theorem aeL(S:ar U Y X F st M w){C:Ctx}(H:CtxOk P C){T e:TypeId}{t:bf}{bytes len o:Nat}{parts:Array (Nat×Operand)}(bk:C.tt T=.slice e t bytes)(aM:D.op=.buildSlice T len parts)
  (dI:D.dst=some o) (Z:cr st D.dst=true) (hlen:parts.toList.length=len) (rk:sU 0 parts.toList=true) (ao8:len*bd t<=1000) {as:List bS} {xs:List (den t)} {us:List (Nat×Site)}
  (has:ou (parts.toList.map fun p=>bg C st e p.2)=some as) (kt:lR t st as=some (xs,us)):
  cN P U Y X st M w D (b6 (.own o (bz st o))) (us++[(o,.row (bz st o) t xs)]):=by
 obtain⟨fG,i,z,hi,jZ,MJ,ux,hzs,gO⟩:=yD H bk;have hfz:=anB kt;have aS:lk U Y X F st M w us:=⟨S,hfz⟩;obtain⟨uB,mL⟩:=ahq has;let ws:List Value:=parts.toList.map fun p=>Act.eval ⟨M,[]⟩ p.2
 have abZ:ws.length=as.length:=by rw[<-uB];simp[ws]
 have as8:∀j (h:j<as.length) (aj:j<ws.length),ho F st.sites w (aI X F st.sites) (as[j]) (ws[j]):=by
  intro j h1 h2;have hj:j<(parts.toList.map fun p=>bg C st e p.2).length:=by rw[uB];exact h1
  have:=mL j hj h1;simp only[List.getElem_map] at this;have bC:=dH S C e (parts.toList[j]'(by simpa using hj)).2
  rw[this] at bC;have h3:ck F st.sites w (aI X F st.sites) (.av (as[j])) (ws[j]):=by simpa[ws] using bC
  exact h3
 obtain⟨hxl,dV,hcs⟩:=anA kt abZ as8 aS (fun p hp=>hp)
 have CS:xs.length=len:=by rw[hxl,<-abZ];simpa[ws] using hlen
 have ao9:(parts.map fun(x:Nat×Operand)=>(x.1,Act.eval ⟨M,[]⟩ x.2)).toList=parts.toList.map fun p=>(p.1,Act.eval ⟨M,[]⟩ p.2):=by simp
 have aq1:((parts.toList.map fun p=>(p.1,Act.eval ⟨M,[]⟩ p.2)).flatMap fun p:Nat×Value=>p.2.cells.toList)=ws.flatMap fun v=>v.cells.toList:=by
  simp[ws,List.flatMap_map]
 have hcl:(ws.flatMap fun v=>v.cells.toList).length=len*bd t:=by rw[dV.1,e9,CS]
 have hm:len<=maxLen:=by
  have:len*1<=len*bd t:=Nat.mul_le_mul_left _ (mc t);unfold maxLen;omega
 have cm:=aS.new.Ie (o:=o) (xs:=xs) (cs:=ws.flatMap fun v=>v.cells.toList) (rest:=[]) (T:=e) (cap:=len) (by exact dV) (by simp[hcl]) hm gO
 rw[aea hfz,CS,List.append_nil] at cm;have wc:bv st.sites (us++[(o,.row (bz st o) t xs)])=cw (bv st.sites us) o (.row (bz st o) t xs):=by rw[lm];rfl
 have dy:(Instr.buildSlice T len (parts.map fun(x:Nat×Operand)=>(x.1,Act.eval ⟨M,[]⟩ x.2))).run P w=
   .ok (.slice (some ⟨w.heap.size,0,none⟩) len len) (w.alloc (.cells (ws.flatMap fun v=>v.cells.toList).toArray e)):=by
  by_cases h0:len*i.size=0
  ·have hl0:len=0:=by
    rcases Nat.mul_eq_zero.1 h0 with h|h
    ·exact h
    ·have:=mc t;omega
   subst hl0;have rF:parts.toList=[]:=List.eq_nil_of_length_eq_zero hlen;have DZ:ws=[]:=by simp[ws,rF]
   have axL:parts=#[]:=by simpa using rF
   rw[DZ];have lW:∀f:Nat->Value,Array.map f (Array.range 0)=#[]:=fun f=>by apply Array.ext';simp
   simp[Instr.buildSlice,run_underlying fG,sizeOf,typeInfo,hi,axL,Instr.fill,newRow,lW]
  ·refine run_buildSlice w T e len _ _ i z fG hi ux (by rw[jZ];omega) h0 ?_
   rw[ao9];have aqQ:(((Array.range (len*i.size)).map fun x=>z.cells[x%z.cells.size]!)).size=len*i.size:=by simp
   have:=PO (bd t) (parts.toList.map fun p=>(p.1,Act.eval ⟨M,[]⟩ p.2)) 0 ((Array.range (len*i.size)).map fun x=>z.cells[x%z.cells.size]!)
    (fun j h=>by have:=ahb _ 0 rk j (by simpa using h);simpa using this)
    (fun p hp=>by
     obtain⟨q,az,rfl⟩:=List.mem_map.1 hp;exact hcs _ (List.mem_map.2 ⟨q,az,rfl⟩))
    (by rw[aqQ,jZ];simp[hlen])
   rw[jZ] at this ⊢;rw[this,aq1];congr 2
   unfold bP;rw[Nat.zero_mul,List.take_zero,List.nil_append,Nat.zero_add,hcl,List.drop_eq_nil_of_le (by simp),List.append_nil]
 refine ln (us:=us++[(o,.row (bz st o) t xs)]) (by rw[wc];exact cm) Z (vv:=.slice (some ⟨w.heap.size,0,none⟩) len len) ?_ ?_
 ·unfold execOp;simp only[aM,Sem.run_bind];have aqV:=dy;simp only[aqV,Result.andThen_ok,Sem.run_pure]
 ·rw[wc];refine⟨rfl,Ref.mk (af:=.row (bz st o) t xs) ?_ rfl (by simp)⟩
  simp only[c9];simp
theorem aeC{w:World}{av:Nat->Prop}{t:bf}{z:den t}{zs:List Value}(h:c5 w av (enc t z) zs)(n:Nat):c5 w av (flat t (List.replicate n z)) ((List.replicate n zs).flatten):=by
 induction n with
 |zero=>exact⟨rfl,fun j h=>by simp[flat] at h⟩
 |succ n ih=>
  have:=jn ((hQ (F:=fun _=>undef) (sites:=[]) h.1 h.2).append (hQ (F:=fun _=>undef) (sites:=[]) ih.1 ih.2)|>fun h=>by
   rw[show cF (enc t z)++cF (flat t (List.replicate n z))=cF (enc t z++flat t (List.replicate n z)) from by simp[cF]] at h
   exact h)
  simpa[List.replicate_succ,flat,List.flatMap_cons] using this
theorem aii(z:Array Value)(n:Nat)(hz:0<z.size):((Array.range (n*z.size)).map fun x=>z[x%z.size]!).toList=(List.replicate n z.toList).flatten:=by
 induction n with
 |zero=>simp
 |succ n ih=>
  rw[List.replicate_succ',List.flatten_append];rw[<-ih];apply List.ext_getElem?;intro j;have e:(n+1)*z.size=n*z.size+z.size:=by rw[Nat.add_mul,Nat.one_mul]
  simp only[Array.toList_map,Array.toList_range,List.getElem?_map,List.getElem?_append,List.length_map,List.length_range,List.flatten_cons,List.flatten_nil,List.append_nil,e];by_cases h1:j<n*z.size
  ·rw[List.getElem?_range (by omega)];simp[h1]
  ·by_cases h2:j<n*z.size+z.size
   ·rw[List.getElem?_range h2];have h3:j-n*z.size<z.size:=by omega
    have aA:j%z.size=j-n*z.size:=by
     have:j=z.size*n+(j-n*z.size):=by rw[Nat.mul_comm];omega
     conv=>lhs;rw[this]
     rw[Nat.mul_add_mod,Nat.mod_eq_of_lt h3]
    simp[h1,aA,h3]
   ·rw[List.getElem?_eq_none (by simp;omega)]
    have h3:¬j-n*z.size<z.size:=by omega
    simp[h1,h3]
theorem afu{l:aQ}{v:Value}{d:bh}{us:List (Nat×Site)}(h:qK l=some v)(k:j_ st l=some (d,us)):us=[]:=by
 cases l with
 |d x=>simp[j_] at k;exact k.2
 |nil t=>simp[j_] at k;exact k.2
 |own o s=>simp[qK] at h
 |clo g bE=>simp[qK] at h
 |_=>simp[j_] at k
theorem afe(S:ar U Y X F st M w){C:Ctx}(H:CtxOk P C){T e:TypeId}{t:bf}{bytes o:Nat}{l c:Operand}{x' ya:IntKind}{n m:Int}{z:List aQ}{ds:List bh}{us:List (Nat×Site)}{e0:den t}(bk:C.tt T=.slice e t bytes)(aM:D.op=.makeSlice T l c)
  (dI:D.dst=some o) (Z:cr st D.dst=true) (hl:bg C st 0 l=.av (.am (.d (.int x' n)))) (hc:bg C st 0 c=.av (.am (.d (.int ya m)))) (hz:(C.tt e).zero=some z) (gN:gf st z=some (ds,us)) (kt:dec t ds=some e0):
  ∀r,j4 bytes n m e0=some r->cN P U Y X st M w D (b6 (.own o (bz st o))) [(o,.row (bz st o) t r)]:=by
 intro r hr;obtain⟨fG,i,gi,hi,jZ,MJ,ux,hzs,gO⟩:=yD H bk;obtain⟨v,hv,oD⟩:=cg.GG (w:=w) (H.tt e) hz;have axv:v=gi:=by
  simp[zeroValue,typeInfo,hi,ux] at hv;exact hv.symm
 subst axv;obtain⟨h1,h2,h3⟩:=u3 oD;have hq:us=[]:=by
  clear kt hz h3 h2 h1;have key:∀{ai:List aQ} {vs:List Value} {ds:List bh} {us:List (Nat×Site)},ls ai=some vs->gf st ai=some (ds,us)->us=[]:=by
   intro ai;induction ai with
   |nil=>intro vs ds us _ h;simp only[gf] at h;cases h;rfl
   |cons l ai ih=>
    intro vs ds us h1 h2;simp only[ls] at h1;split at h1
    ·rename_i v cv g1 g2;simp only[gf] at h2;split at h2
     ·rename_i d ady k5 r6 aE aF;cases h2;rw[ih g2 aF,List.append_nil];exact afu g1 aE
     ·cases h2
    ·cases h1
  exact key oD gN
 subst hq;have aS:lk U Y X F st M w []:=⟨S,.nil⟩;have hrz:c5 w (aI X F st.sites) ds v.cells.toList:=Bx gN ⟨h1,h3 _ _ _ _⟩ aS (fun p hp=>hp)
 rw[<-Bw _ _ _ kt] at hrz;unfold j4 at hr;split at hr
 ·rename_i hb;obtain⟨b1,b2,b3,yk⟩:=hb;cases hr;have e1:Act.eval ⟨M,[]⟩ l=.int x' n:=by
   have:=dH S C 0 l;rw[hl] at this;have this:bK _ _ (.int x' n) _:=this;generalize Act.eval ⟨M,[]⟩ l=u at this;cases this;rfl
  have e2:Act.eval ⟨M,[]⟩ c=.int ya m:=by
   have:=dH S C 0 c;rw[hc] at this;have this:bK _ _ (.int ya m) _:=this;generalize Act.eval ⟨M,[]⟩ c=u at this;cases this;rfl
  have Zm:=aeC hrz n.toNat;have hlen:((List.replicate n.toNat v.cells.toList).flatten).length=n.toNat*bd t:=by
   rw[Zm.1,e9,List.length_replicate]
  have VE:(List.replicate m.toNat v.cells.toList).flatten=(List.replicate n.toNat v.cells.toList).flatten++(List.replicate (m.toNat-n.toNat) v.cells.toList).flatten:=by
   rw[<-List.flatten_append,List.replicate_append_replicate];congr 2;omega
  have hcap:((List.replicate n.toNat v.cells.toList).flatten).length+((List.replicate (m.toNat-n.toNat) v.cells.toList).flatten).length=m.toNat*bd t:=by
   rw[<-List.length_append,<-VE];simp[hzs]
  have hmax:m.toNat<=maxLen:=by omega
  have cm:=S.Ie (o:=o) (T:=e) Zm hcap hmax gO;rw[List.length_replicate,<-VE] at cm;refine ln (us:=[(o,.row (bz st o) t (List.replicate n.toNat e0))]) cm Z (vv:=.slice (some ⟨w.heap.size,0,none⟩) n.toNat m.toNat) ?_ ?_
  ·unfold maxLen at yk;have aZ:IntKind.i64.wrap n=n:=IntWalk.i64_in n (by omega)
   have w2:IntKind.i64.wrap m=m:=IntWalk.i64_in m (by omega)
   have K4:(decide (m<0)||decide (((i.bytes:Nat):Int)*m>2^48))=false:=by
    unfold room at b3;rw[MJ];have:(bytes:Int)*m<=140737488355328:=by rw[Int.mul_comm];exact b3
    simp;omega
   have B9:((Array.range (m.toNat*i.size)).map fun x=>v.cells[x%v.cells.size]!)=((List.replicate m.toNat v.cells.toList).flatten).toArray:=by
    rw[<-aii v.cells m.toNat (by rw[hzs];exact mc t),hzs,jZ]
   unfold execOp;simp only[aM,e1,e2,Sem.run_bind];have dy:(Instr.makeSlice T (.int x' n) (.int ya m)).run P w=.ok (.slice (some ⟨w.heap.size,0,none⟩) n.toNat m.toNat) (w.alloc (.cells ((List.replicate m.toNat v.cells.toList).flatten).toArray e)):=by
    have rH:¬n<0:=by omega
    have k1:¬n>m:=by omega
    unfold Instr.makeSlice;simp only[Sem.run_bind,run_underlying fG,Result.andThen_ok,asInt,asIntOf,Sem.run_pure,ll hi,aZ,w2,K4,Bool.false_eq_true,rH,k1,decide_false,Bool.or_false,Bool.or_self,if_false,
     run_askRoom,sizeOf]
    by_cases hz0:m.toNat*i.size=0
    ·have ur:m.toNat=0:=by
      rcases Nat.mul_eq_zero.1 hz0 with h|h
      ·exact h
      ·have:=mc t;omega
     have lW:∀f:Nat->Value,Array.map f (Array.range 0)=#[]:=fun f=>by apply Array.ext';simp
     simp[ur,newRow,lW]
    ·simp[hz0,ux,zeroValue,ll hi,newRow,B9]
   simp only[dy,Result.andThen_ok,Sem.run_pure]
  ·refine⟨rfl,Ref.mk (af:=.row (bz st o) t (List.replicate n.toNat e0)) ?_ rfl (by simp)⟩
   simp only[bv,c9];simp
 ·cases hr
end
theorem aiS{aJ mP:Type}(g:aJ->Option mP):∀{l:List aJ} {r:List mP},l.mapM g=some r->∀{i:Nat} {y:mP},r[i]? =some y->∃x,l[i]? =some x/\g x=some y:=by
 intro l;induction l with
 |nil=>intro r h i y hy;simp at h;subst h;simp at hy
 |cons x l ih=>
  intro r h i y hy;simp only[List.mapM_cons,Option.bind_eq_bind,Option.pure_def] at h;cases hx:g x with
  |none=>simp[hx] at h
  |some z=>
   cases hl:l.mapM g with
   |none=>simp[hx,hl] at h
   |some eH=>
    simp only[hx,hl,Option.bind_some,Option.some.injEq] at h;subst h;cases i with
    |zero=>simp at hy;subst hy;exact⟨x,by simp,hx⟩
    |succ i=>simp at hy;simpa using ih hl hy
section
variable {P:Program}{U:World}{Y:List Nat}{X:Nat->Prop}{F:Nat->Value}{st:al}{M:Array Value}{w:World}{D:Oper}
theorem iE{k:IntKind}{n:Int}{v:Value}{av:Nat->Prop}(h:bK w av (.int k n) v):v=.int k n:=by cases h;rfl
theorem jO{b:Bool}{v:Value}{av:Nat->Prop}(h:bK w av (.bool b) v):v=.bool b:=by cases h;rfl
theorem gF{s:B}{v:Value}{av:Nat->Prop}(h:bK w av (.str s) v):∃b:ByteArray,v=.string b/\b.data.toList=s:=by
 cases h with
 |str l s h=>exact⟨s,rfl,h⟩
theorem ki(S:ar U Y X F st M w){C:Ctx}{T:TypeId}{x:Operand}{k:IntKind}{n:Int}(h:bg C st T x=.av (.am (.d (.int k n)))):Act.eval ⟨M,[]⟩ x=.int k n:=by
 have:=dH S C T x;rw[h] at this;exact iE this
theorem I2(S:ar U Y X F st M w){C:Ctx}{T:TypeId}{x:Operand}{b:Bool}(h:bg C st T x=.av (.am (.d (.bool b)))):Act.eval ⟨M,[]⟩ x=.bool b:=by
 have:=dH S C T x;rw[h] at this;exact jO this
theorem apk(S:ar U Y X F st M w){C:Ctx}{T:TypeId}{x:Operand}{s:B}(h:bg C st T x=.av (.am (.d (.str s)))):∃b:ByteArray,Act.eval ⟨M,[]⟩ x=.string b/\b.data.toList=s:=by
 have:=dH S C T x;rw[h] at this;exact gF this
theorem afI{C:Ctx}(H:CtxOk P C){T:TypeId}{bR:List (Nat×Nat)}{n:Nat}{z:List aQ}{eq:Bool}(bk:C.tt T=.struct bR n z eq):(cg.struct bR n z eq).ok P T:=by
 have:=H.tt T;rwa[bk] at this
theorem afq(S:ar U Y X F st M w){C:Ctx}(H:CtxOk P C){T:TypeId}{x:Operand}{f off NK:Nat}{bR:List (Nat×Nat)}{n:Nat}{z:List aQ}{eq:Bool}(bk:C.tt T=.struct bR n z eq)(aM:D.op=.fieldAddr T x f)
  (Z:cr st D.dst=true) (hf:bR[f]? =some (off,NK)):Holds (Fm off (bg C st 0 x)) (cN P U Y X st M w D):=by
 obtain⟨fields,fG,⟨atj,axN⟩,_⟩:=afI H bk;obtain⟨adO,h1,h2⟩:=aiS _ atj hf;have h1':fields[f]? =some adO:=by simpa using h1
 cases hi:P.info? adO.type with
 |none=>simp[hi] at h2
 |some i=>
  simp only[hi,Option.map_some,Option.some.injEq,Prod.mk.injEq] at h2;have hsz:i.size≠0:=by rw[h2.2];exact axN (off,NK) (List.mem_of_getElem? hf)
  have bC:=dH S C 0 x;have run:∀{b p:Nat},Act.eval ⟨M,[]⟩ x=.pointer (some ⟨b,p,none⟩)->(execOp (Act.eval ⟨M,[]⟩) D).run P w=.ok (.value (.pointer (some ⟨b,p+off,none⟩))) w:=by
   intro b p hx;unfold execOp;simp only[aM,hx,Instr.fieldAt,Instr.sureAddr,Sem.run_bind,run_underlying fG,Result.andThen_ok,h1',Sem.run_pure,fieldPlace,sizeOf,ll hi,hsz,if_false,h2.1,gW]
  unfold Fm;split
  ·rename_i o s p b7;rw[b7] at bC;obtain⟨b,aE,aF⟩:=bC;exact Holds.ok (dS S Z (run aE) ⟨b,rfl,aF⟩)
  ·rename_i cells p b7;rw[b7] at bC;obtain⟨b,q,aE,aF⟩:=bC;refine Holds.ok (dS S Z (run aE) ⟨b,q,by rw[Nat.add_assoc],aF⟩)
  ·rename_i o s t k p b7;rw[b7] at bC;obtain⟨b,aE,aF⟩:=bC;exact Holds.ok (dS S Z (run aE) ⟨b,by rw[Nat.add_assoc],aF⟩)
  ·exact .fail
end
section
variable {P:Program}{U:World}{Y:List Nat}{X:Nat->Prop}{F:Nat->Value}{st:al}{M:Array Value}{w:World}{D:Oper}
theorem ajT(S:ar U Y X F st M w){C:Ctx}(H:CtxOk P C){T:TypeId}{a x:Operand}{v:bS}(aM:D.op=.store T a x)(Z:cr st D.dst=true)(hk:(C.tt T).known=true)(hv:my (bg C st T x)=some v):
  Holds (s6 (C.tt T).size st (bg C st T a) v) (cN P U Y X st M w D):=by
 have hn:=G3 hk;have rM:=dH S C T a;have hex:=dH S C T x;rw[qw hv] at hex;have hex:ho F st.sites w (aI X F st.sites) v (Act.eval ⟨M,[]⟩ x):=hex;have run:∀{b p:Nat} {cur:List Value} {gE:TypeId} {u:Bool} {fz:Nat×Nat},Act.eval ⟨M,[]⟩ a=.pointer (some ⟨b,p,none⟩)->w.heap[b]? =some (.cells cur.toArray gE fz)->ny u gE cur.toArray fz->(Act.eval ⟨M,[]⟩ x).cells.toList.length=(C.tt T).size->
   p+(Act.eval ⟨M,[]⟩ x).cells.toList.length<=cur.length->(∀u∈(Act.eval ⟨M,[]⟩ x).cells.toList,u.oneCell'=true)->
   (execOp (Act.eval ⟨M,[]⟩) D).run P w=.ok .skip (w.setRow b (bP cur p (Act.eval ⟨M,[]⟩ x).cells.toList).toArray):=by
  intro b p cur gE u fz h1 h2 hz h3 aA bl;unfold execOp;simp only[aM,h1,Instr.storeAt,Instr.sureAddr,Sem.run_bind,Sem.run_pure,Result.andThen_ok,Ou (H.tt T) hn h2 hz h3 aA bl]
 unfold s6;cases hlen:v.cells.length.beq (C.tt T).size with
 |false=>simp only[cond_false];exact .fail
 |true=>
  have wG:=Nat.eq_of_beq_eq_true hlen;simp only[cond_true];split
  ·rename_i o s off b7;rw[b7] at rM;split
   ·rename_i cells hb;cases hc:(Nat.ble (off+(C.tt T).size) cells.length&&hL v.cells) with
    |false=>simp only[cond_false];exact .fail
    |true=>
     simp only[cond_true];simp only[Bool.and_eq_true] at hc;have hle:=Nat.le_of_ble_eq_true hc.1;have hl:=hex.cells hc.2;obtain⟨b,gE,cur,h1,h2,h3,cm⟩:=S.ajV (gR hb) rM hl (by rw[wG];exact hle) (hl.jM hc.2) hc.2
     exact Holds.fH (yA (us:=[(o,.box s (bP cells off v.cells))]) cm Z (run (u:=false) h1 h2 ⟨(fun h=>by cases h),.inl rfl⟩ (by rw[hl.1];exact wG) h3 (hl.jM hc.2)))
   ·exact .fail
  ·rename_i o s u k off b7;rw[b7] at rM;split
   ·rename_i aN t xs gJ;have td:look st.sites o=some (.row aN t xs):=gJ;cases hc:(aN.beq s&&Nat.ble (off+(C.tt T).size) (bd t)&&decide (t=u)) with
    |false=>simp only[cond_false];exact .fail
    |true=>
     simp only[cond_true];simp only[Bool.and_eq_true,decide_eq_true_eq] at hc;obtain⟨⟨hc1,rO⟩,rfl⟩:=hc;have:=Nat.eq_of_beq_eq_true hc1;subst this;have hle:=Nat.le_of_ble_eq_true rO;split
     ·rename_i ds us gN;cases k1:(look us o).isNone with
      |false=>simp only[cond_false];exact .fail
      |true=>
       simp only[cond_true];refine Holds.hV fun iy pU=>?_
       have wX:((xs[k]?).bind fun x=>dec t (bP (enc t x) off ds))=some iy:=pU
       cases Ml:xs[k]? with
       |none=>rw[Ml] at wX;cases wX
       |some x6=>
        rw[Ml] at wX;have kt:dec t (bP (enc t x6) off ds)=some iy:=wX;have hfz:=I5 gN;have aS:lk U Y X F st M w us:=⟨S,hfz⟩;have dU:hL v.cells=true:=by
         clear hlen wG pU wX kt k1 hfz aS;revert gN
         generalize v.cells=ai;intro gN;induction ai generalizing ds us with
         |nil=>rfl
         |cons l ai ih=>
          simp only[gf] at gN;split at gN
          ·rename_i d ady k5 r6 h1 h2;simp only[hL,Bool.and_eq_true];refine⟨?_,ih _ _ h2⟩;unfold j_ at h1;split at h1<;>first|rfl|cases h1
          ·cases gN
        have hl:=hex.cells dU;have hr:=Bx gN hl aS (fun p hp=>hp)
        have hdl:ds.length=(C.tt T).size:=by
         have:=hr.1;rw[hl.1] at this;omega
        have K4:look (bv st.sites us) o=some (.row aN t xs):=by
         rcases l5 hfz o with h|⟨s2,t2,aB5,h,aj⟩
         ·rw[h];exact td
         ·exfalso
          have:∀(us:List (Nat×Site)) (sites:List (Nat×Site)),look us o=none->look (bv sites us) o=look sites o:=by
           intro us;induction us with
           |nil=>intro sites _;rfl
           |cons p us ih=>
            obtain⟨ab,af⟩:=p;intro sites CQ;simp only[look] at CQ;cases hb:ab.beq o with
            |true=>simp[hb] at CQ
            |false=>
             simp only[hb,cond_false] at CQ;simp only[bv];rw[ih _ CQ,c9,if_neg];rintro rfl;simp at hb
          have h3:=this us st.sites (by simpa using k1)
          rw[aj,td] at h3;cases h3
        have atw:=aS.go (a:=.av (.am (.e5 o aN t k off))) rM;obtain⟨b,gE,cur,fz,h1,h2,hz,h3,cm⟩:=aS.new.ajU K4 atw Ml (Bw _ _ _ kt) hr (by rw[hdl];exact hle) (hl.jM dU)
        refine yA (aY:=F) (us:=us++[(o,.row aN t (xs.set k iy))]) ?_ Z (run h1 h2 hz (by rw[hl.1];exact wG) h3 (hl.jM dU))
        rw[lm];exact cm
     ·exact .fail
   ·exact .fail
  ·exact .fail
theorem afm(S:ar U Y X F st M w){C:Ctx}(H:CtxOk P C){T e:TypeId}{t:bf}{bytes:Nat}{x i:Operand}{k:IntKind}{n:Int}(bk:C.tt T=.slice e t bytes)(hi:bg C st 0 i=.av (.am (.d (.int k n))))(aM:D.op=.indexAddr T x i)
  (Z:cr st D.dst=true):
  Holds (sw t st (bg C st T x) n) (cN P U Y X st M w D):=by
 obtain⟨fG,inf,z,kR,jZ,MJ,ux,hzs,_⟩:=yD H bk;have w1:=ki S hi;have bC:=dH S C T x;have run:∀{a:Addr} {len cap:Nat},Act.eval ⟨M,[]⟩ x=.slice (some a) len cap->0<=n->n<len->(execOp (Act.eval ⟨M,[]⟩) D).run P w=.ok (.value (.pointer (some (a.add (n.toNat*bd t))))) w:=by
  intro a len cap hx h0 h1;unfold execOp;simp[aM,hx,w1,Instr.indexAt,asIntOf,run_underlying fG,h0,h1,sizeOf,ll kR,jZ]
 unfold sw;split
 ·rename_i u xs b7;split;case isFalse=>exact .fail
  rename_i oG;subst oG;rw[b7] at bC;have bC:bK w (aI X F st.sites) (.sl u xs) (Act.eval ⟨M,[]⟩ x):=bC;refine Holds.ey fun y hy=>?_
  have eb:aO xs n=some y:=hy;unfold aO at eb;split at eb
  ·rename_i h0;have hlt:n.toNat<xs.length:=by
    rcases Nat.lt_or_ge n.toNat xs.length with h|h
    ·exact h
    ·rw[List.getElem?_eq_none h] at eb;cases eb
   generalize hx:Act.eval ⟨M,[]⟩ x=v at bC;cases bC with
   |nil=>simp at hlt
   |sl _ _ a cap cs m hm hcap hb hl hc hr=>
    subst hm;have hne:xs≠[]:=by rintro rfl;simp at hlt
    have hrow:c5 w (aI X F st.sites) (flat u xs) cs:=⟨hl,hr⟩;have j6:a.spot=none:=by
     have nw:0<cs.length:=by rw[hl,e9];exact Nat.mul_pos (List.length_pos_iff.mpr hne) (mc u)
     have h1:=hc 0 cs[0] (List.getElem?_eq_getElem nw);have h2:a.add 0=a:=by unfold Addr.add;simp
     rw[h2] at h1;unfold World.cell? at h1;split at h1
     ·cases hs:a.spot with
      |none=>rfl
      |some _=>simp[hs] at h1
     ·cases h1
    obtain⟨oZ,ED,ayR⟩:=a;simp only at j6;subst j6;have hcs:ii w oZ ED cs:=fun j v hv=>by have:=hc j v hv;rwa[gW] at this
    refine dS S Z (run hx h0 (by omega)) ?_
    rw[gW];have ix:=u' u xs n.toNat y eb;have aqX:=(hcs.drop (n.toNat*bd u)).take (bd u);have j7:=((hQ (F:=F) (sites:=st.sites) hl hr).drop (n.toNat*bd u)).take (bd u);have e2:((cF (flat u xs)).drop (n.toNat*bd u)).take (bd u)=cF (enc u y):=by
     rw[<-ix];simp[cF,List.map_drop,List.map_take]
    rw[e2] at j7;have dV:=jn j7;have hlt2:oZ<w.heap.size:=by
     have nw:0<cs.length:=by rw[hl,e9];exact Nat.mul_pos (List.length_pos_iff.mpr hne) (mc u)
     exact World.block_lt_of_cell? w _ (hcs 0 cs[0] (List.getElem?_eq_getElem nw))
    exact⟨oZ,ED+n.toNat*bd u,by rw[Nat.add_zero],hb hne,hlt2,_,dV.1,aqX,dV.2⟩
  ·cases eb
 ·rename_i o s b7;rw[b7] at bC;split
  ·rename_i u xs hrow;split;case isFalse=>exact .fail
   rename_i oG;subst oG;refine Holds.ey fun y hy=>?_
   have eb:be xs.length n=some y:=hy;unfold be at eb;split at eb
   ·rename_i hb;cases eb;obtain⟨cs,hl,hcell⟩:=S.row hrow;have dU:∃af,look st.sites o=some af/\af.cy=s:=by
     rcases kd hrow with h|h<;>exact⟨_,h,rfl⟩
    obtain⟨af,ix,lV⟩:=dU;have hv:Act.eval ⟨M,[]⟩ x=F o:=Ref.at bC.2 ix lV;rcases hcell with⟨hn,oE⟩|⟨b,c,cV,acm,_⟩
    ·subst oE;simp at hb;omega
    ·refine dS S Z (run (by rw[hv];exact cV) hb.1 hb.2) ?_
     rw[gW,Nat.zero_add];exact⟨b,by rw[Nat.add_zero],Ref.mk ix lV ⟨_,_,cV⟩⟩
   ·cases eb
  ·exact .fail
 ·exact .fail
end
section
variable {P:Program}{U:World}{Y:List Nat}{X:Nat->Prop}{F:Nat->Value}{st:al}{M:Array Value}{w:World}{D:Oper}
theorem Sw(S:ar U Y X F st M w){C:Ctx}{cX:Option Operand}{lQ l:Int}(h:iU lQ (cX.map (bg C st 0))=some l):
  (cX=none/\l=lQ)\/∃x k,cX=some x/\Act.eval ⟨M,[]⟩ x=.int k l:=by
 cases cX with
 |none=>simp only[Option.map_none,iU,Option.some.injEq] at h;exact .inl ⟨rfl,h.symm⟩
 |some x=>
  simp only[Option.map_some] at h;generalize hx:bg C st 0 x=v at h;unfold iU at h;split at h
  ·rename_i b7;cases b7
  ·rename_i k n b7;cases h;cases b7;exact .inr ⟨x,k,rfl,ki S hx⟩
  ·cases h
theorem mX(t:bf)(xs:List (den t))(n:Nat):flat t (xs.take n)=(flat t xs).take (n*bd t):=by
 rcases Nat.lt_or_ge xs.length n with h|h
 ·rw[List.take_of_length_le (Nat.le_of_lt h),List.take_of_length_le (by rw[e9];exact Nat.mul_le_mul_right _ (Nat.le_of_lt h))]
 ·have:=ss t (xs.take n) (xs.drop n);rw[List.take_append_drop] at this;rw[this,List.take_left' (by rw[e9,List.length_take,Nat.min_eq_left h])]
theorem Q3(t:bf)(xs:List (den t))(n:Nat):flat t (xs.drop n)=(flat t xs).drop (n*bd t):=by
 rcases Nat.lt_or_ge xs.length n with h|h
 ·rw[List.drop_eq_nil_of_le (Nat.le_of_lt h),List.drop_eq_nil_of_le (by rw[e9];exact Nat.mul_le_mul_right _ (Nat.le_of_lt h))]
  rfl
 ·have:=ss t (xs.take n) (xs.drop n);rw[List.take_append_drop] at this;rw[this,List.drop_left' (by rw[e9,List.length_take,Nat.min_eq_left h])]
theorem Fe{P:Program}{w:World}(isSlice:Bool)(len cap:Nat)(cX hi:Option Value)(l h:Int)(gh:(cX=none/\l=0)\/∃k,cX=some (.int k l))(hhi:(hi=none/\h=len)\/∃k,hi=some (.int k h))
  (h0:0<=l) (h1:l<=h) (h2:h<=len) (hc:len<=cap):(Instr.sliceBounds isSlice len cap cX hi none).run P w=.ok (l.toNat,h.toNat,cap) w:=by
 have bL:0<=h:=by omega
 have acf:h<=cap:=by omega
 have axA:((h.toNat:Nat):Int)=h:=Int.toNat_of_nonneg bL;rcases gh with⟨rfl,rfl⟩|⟨k,rfl⟩<;>rcases hhi with⟨rfl,rfl⟩|⟨k',rfl⟩
 ·simp[Instr.sliceBounds]
 ·simp[Instr.sliceBounds,Instr.sliceBound,asIntOf,bL,acf]
 ·simp[Instr.sliceBounds,Instr.sliceBound,asIntOf,h0,h1]
 ·simp[Instr.sliceBounds,Instr.sliceBound,asIntOf,bL,acf,h0,axA,h1]
theorem ajS(s:ByteArray)(l h:Nat)(h2:h<=s.size):(s.extract l h).data.toList=(s.data.toList.take h).drop l:=by
 rw[ByteArray.data_extract,Array.toList_extract];simp[List.extract_eq_take_drop,List.drop_take]
theorem UK{w:World}{av:Nat->Prop}{t:bf}{xs:List (den t)}{b D:Nat}{cs:List Value}(hb:xs≠[]->¬av b)(hr:c5 w av (flat t xs) cs)(hc:ii w b D cs)(l h:Nat)(h1:l<=h)(h2:h<=xs.length)(a:Addr)(fu:Nat)(aco:h-l<=fu)
  (ha:a=⟨b,D+l*bd t,none⟩\/l=h) (acp:a.block=b):bK w av (.sl t ((xs.take h).drop l)) (.slice (some a) (h-l) fu):=by
 have hlen:((xs.take h).drop l).length=h-l:=by simp;omega
 by_cases ab7:l=h
 ·subst ab7;have:(xs.take l).drop l=[]:=List.eq_nil_of_length_eq_zero (by rw[hlen];omega)
  rw[this];exact .sl t [] a fu [] _ (by simp) aco (fun hx=>absurd rfl hx) rfl (fun j u hu=>by simp at hu) (fun j h=>by simp[flat] at h)
 ·rcases ha with ha|ha
  ·subst ha;have hf:flat t ((xs.take h).drop l)=((flat t xs).take (h*bd t)).drop (l*bd t):=by
    rw[Q3,mX]
   have j7:=((hQ (F:=fun _=>undef) (sites:=[]) hr.1 hr.2).take (h*bd t)).drop (l*bd t)
   have e2:((cF (flat t xs)).take (h*bd t)).drop (l*bd t)=cF (flat t ((xs.take h).drop l)):=by
    rw[hf];simp[cF,List.map_drop,List.map_take]
   rw[e2] at j7;have c':=jn j7;refine .sl t _ _ fu _ _ hlen.symm aco (fun hx=>hb ?_) c'.1 (fun j u hu=>?_) c'.2
   ·rintro rfl;simp at hx
   ·rw[gW];exact((hc.take (h*bd t)).drop (l*bd t)) j u hu
  ·exact absurd ha ab7
theorem Ia{w:World}{av:Nat->Prop}{t:bf}{xs:List (den t)}{a:Addr}{cs:List Value}(hb:xs≠[]->¬av a.block)(hr:c5 w av (flat t xs) cs)(hc:∀j u,cs[j]? =some u->w.cell? (a.add j)=some u)
  (l h cap:Nat) (h1:l<=h) (h2:h<=xs.length) (hcap:xs.length<=cap):
  bK w av (.sl t ((xs.take h).drop l)) (.slice (if cap=l then some a else(some a).map (·.add (l*bd t))) (h-l) (cap-l)):=by
 by_cases hx:xs=[]
 ·subst hx;have:h=0:=by simpa using h2
  subst this;have hl0:l=0:=by omega
  subst hl0;have:((if cap=0 then some a else(some a).map (·.add (0*bd t))):Option Addr)=some a:=by
   split
   ·rfl
   ·simp[Addr.add]
  rw[this];exact .sl t [] a (cap-0) [] 0 rfl (by omega) (fun hx=>absurd rfl hx) rfl (fun j u hu=>by simp at hu) (fun j h=>by simp[flat] at h)
 ·have j6:a.spot=none:=by
   have nw:0<cs.length:=by rw[hr.1,e9];exact Nat.mul_pos (List.length_pos_iff.mpr hx) (mc t)
   have h1:=hc 0 cs[0] (List.getElem?_eq_getElem nw);have h2:a.add 0=a:=by unfold Addr.add;simp
   rw[h2] at h1;unfold World.cell? at h1;split at h1
   ·cases hs:a.spot with
    |none=>rfl
    |some _=>simp[hs] at h1
   ·cases h1
  obtain⟨oZ,ED,ayR⟩:=a;simp only at j6;subst j6;have hcs:ii w oZ ED cs:=fun j v hv=>by have:=hc j v hv;rwa[gW] at this
  split
  ·rename_i e;exact UK hb hr hcs l h h1 h2 _ _ (by omega) (.inr (by omega)) rfl
  ·simp only[Option.map_some,gW];exact UK hb hr hcs l h h1 h2 _ _ (by omega) (.inl rfl) rfl
theorem Qo{v:a7}{us nA:List (Nat×Site)}(e:bv st.sites us=bv st.sites nA)(h:cN P U Y X st M w D v us):cN P U Y X st M w D v nA:=by
 have:st.cY D.dst v nA=st.cY D.dst v us:=by cases D.dst<;>simp only[al.cY,al.vA,e]
 intro K Q bT;rw[this] at bT;exact h K Q bT
theorem ajZ(S:ar U Y X F st M w){C:Ctx}(H:CtxOk P C){T:TypeId}{x:Operand}{cX hi:Option Operand}(aM:D.op=.slice T x cX hi none)(Z:cr st D.dst=true):
  Holds (s9 (C.tt T) st (bg C st T x) (cX.map (bg C st 0)) (hi.map (bg C st 0))) (cN P U Y X st M w D):=by
 have bC:=dH S C T x;have rl:∀{cX:Option Operand} {lQ l:Int},iU lQ (cX.map (bg C st 0))=some l->(cX.map (Act.eval ⟨M,[]⟩)=none/\l=lQ)\/∃k,cX.map (Act.eval ⟨M,[]⟩)=some (.int k l):=by
  intro cX lQ l h;rcases Sw S h with⟨rfl,aj⟩|⟨x,k,rfl,aj⟩
  ·exact .inl ⟨rfl,aj⟩
  ·exact .inr ⟨k,by simp[aj]⟩
 have runs:∀{vv:Value},(Instr.sliceAt T (Act.eval ⟨M,[]⟩ x) (cX.map (Act.eval ⟨M,[]⟩)) (hi.map (Act.eval ⟨M,[]⟩)) none).run P w=.ok vv w->(execOp (Act.eval ⟨M,[]⟩) D).run P w=.ok (.value vv) w:=by
  intro vv h;unfold execOp;simp only[aM,Option.map_none,Sem.run_bind,h,Result.andThen_ok,Sem.run_pure]
 have wy:∀{e:TypeId} {t:bf} {bytes:Nat} {a:Option Addr} {len cap:Nat} {l h:Int},C.tt T=.slice e t bytes->Act.eval ⟨M,[]⟩ x=.slice a len cap->iU 0 (cX.map (bg C st 0))=some l->iU len (hi.map (bg C st 0))=some h->
   0<=l->l<=h->h<=len->len<=cap->(execOp (Act.eval ⟨M,[]⟩) D).run P w=.ok (.value (.slice (if cap=l.toNat then a else a.map (·.add (l.toNat*bd t))) (h.toNat-l.toNat) (cap-l.toNat))) w:=by
  intro e t bytes a len cap l h bk hx gh hhi h0 h1 h2 hc;obtain⟨fG,inf,z,kR,jZ,_⟩:=yD H bk;refine runs ?_
  have hb:=Fe (P:=P) (w:=w) true len cap (cX.map (Act.eval ⟨M,[]⟩)) (hi.map (Act.eval ⟨M,[]⟩)) l h (rl gh) (rl hhi) h0 h1 h2 hc;simp only[Instr.sliceAt,Instr.slice,Sem.run_bind,run_underlying fG,Result.andThen_ok,hx,hb,sizeOf,ll kR,jZ,Sem.run_pure]
 unfold s9;split
 ·rename_i s b7;rw[b7] at bC;obtain⟨b,hx,hs⟩:=gF bC;split
  ·rename_i l h bk gh hhi;have bO:=H.tt T;rw[bk] at bO;refine Holds.ey fun r hr=>?_
   have c':bm s l h=some r:=hr;unfold bm at c';split at c'
   ·rename_i hb;obtain⟨h0,h1,h2⟩:=hb;cases c';have hsz:s.length=b.size:=by rw[<-hs];rfl
    rw[hsz] at h2 hhi;refine dS S Z (vv:=.string (b.extract l.toNat h.toNat)) (runs ?_) (.str _ _ ?_)
    ·have hb:=Fe (P:=P) (w:=w) false b.size b.size (cX.map (Act.eval ⟨M,[]⟩)) (hi.map (Act.eval ⟨M,[]⟩)) l h (rl gh) (rl hhi) h0 h1 h2 (Nat.le_refl _);simp[Instr.sliceAt,Instr.slice,run_underlying bO.1,hx,hb]
    ·rw[ajS b _ _ (by omega),hs]
   ·cases c'
  ·exact .fail
 ·rename_i t xs b7;rw[b7] at bC;have bC:bK w (aI X F st.sites) (.sl t xs) (Act.eval ⟨M,[]⟩ x):=bC;split
  ·rename_i e u bytes l h bk gh hhi;split;case isFalse=>exact .fail
   rename_i oG;subst oG;refine Holds.ey fun r hr=>?_
   have c':bm xs l h=some r:=hr;unfold bm at c';split at c'
   ·rename_i hb;obtain⟨h0,h1,h2⟩:=hb;cases c';generalize hx:Act.eval ⟨M,[]⟩ x=v at bC;cases bC with
    |nil=>
     have bL:h=0:=by simp at h2;omega
     have hl:l=0:=by omega
     subst bL hl;refine dS S Z (wy bk hx gh hhi h0 h1 h2 (Nat.le_refl _)) ?_
     simp only[List.take_nil,List.drop_nil];exact bK.nil t
    |sl _ _ a cap cs m hm hcap hb hl hc hr=>
     subst hm;refine dS S Z (wy bk hx gh hhi h0 h1 h2 hcap) ?_
     exact Ia hb ⟨hl,hr⟩ hc l.toNat h.toNat cap (by omega) (by omega) hcap
   ·cases c'
  ·exact .fail
 ·rename_i t b7;rw[b7] at bC;have hx:Act.eval ⟨M,[]⟩ x=.slice none 0 0:=bC;split
  ·rename_i e u bytes l h bk gh hhi;refine Holds.ey fun r hr=>?_
   have c':bm ([]:List (den t)) l h=some r:=hr;unfold bm at c';split at c'
   ·rename_i hb;obtain⟨h0,h1,h2⟩:=hb;cases c';have bL:h=0:=by simp at h2;omega
    have hl:l=0:=by omega
    subst bL hl;refine dS S Z (wy bk hx gh hhi h0 h1 h2 (Nat.le_refl _)) ?_
    simp only[List.take_nil,List.drop_nil];exact bK.nil t
   ·cases c'
  ·exact .fail
 ·rename_i o s b7;rw[b7] at bC;split
  ·rename_i t xs hrow;split
   ·rename_i e u bytes l h bk gh hhi;split;case isFalse=>exact .fail
    rename_i oG;subst oG;refine Holds.hV fun r hr=>?_
    have c':bm xs l h=some r:=hr;unfold bm at c';split at c'
    ·rename_i hb;obtain⟨h0,h1,h2⟩:=hb;cases c';refine Qo (us:=[(o,.dq s t xs)]) (So hrow).symm ?_
     have hfz:dT st.sites [(o,.dq s t xs)]:=by
      intro ab af hm;simp only[List.mem_singleton,Prod.mk.injEq] at hm;obtain⟨rfl,rfl⟩:=hm;exact⟨s,t,xs,rfl,kd hrow⟩
     have aS:lk U Y X F st M w [(o,.dq s t xs)]:=⟨S,hfz⟩;have MD:=EK hfz (List.mem_singleton.2 rfl);obtain⟨dV,WM⟩:=aS.new.sites o _ MD;have hv:Act.eval ⟨M,[]⟩ x=F o:=by
      rcases kd hrow with h1|h1<;>exact Ref.at bC.2 h1 rfl
     generalize hx:F o=v at dV WM;rw[hx] at hv;cases dV with
     |nil=>
      have bL:h=0:=by simp at h2;omega
      have hl:l=0:=by omega
      subst bL hl;refine ln (us:=[(o,.dq s t [])]) aS.new Z (wy bk hv gh hhi h0 h1 h2 (Nat.le_refl _)) ?_
      simp only[List.take_nil,List.drop_nil];exact bK.nil t
     |sl _ _ a cap cs m hm hcap hb hl hc hr=>
      subst hm;refine ln (us:=[(o,.dq s t xs)]) aS.new Z (wy bk hv gh hhi h0 h1 h2 hcap) ?_
      exact Ia hb ⟨hl,hr⟩ hc l.toNat h.toNat cap (by omega) (by omega) hcap
    ·cases c'
   ·exact .fail
  ·exact .fail
 ·exact .fail
end
section
variable {P:Program}{U:World}{Y:List Nat}{X:Nat->Prop}{F:Nat->Value}{st:al}{M:Array Value}{w:World}{D:Oper}
theorem To{av:Nat->Prop}{o s:Nat}{t:bf}{xs:List (den t)}{v:Value}(h:ck F st.sites w av (b6 (.own o s)) v)(hr:rowOf st o s=some ⟨t,xs⟩):v=F o:=by
 rcases kd hr with h1|h1<;>exact Ref.at h.2 h1 rfl
theorem Tv(S:ar U Y X F st M w){l:aQ}{v:Value}{t:bf}{es:List (B×den t)}(h:ea F st.sites w (aI X F st.sites) l v)(hm:mapOf st l=some ⟨t,es⟩):
  (v=.map none/\es=[])\/∃b,v=.map (some b)/\mo w b t es:=by
 unfold mapOf at hm;split at hm
 ·cases hm;have h:bK w (aI X F st.sites) (.map t es) v:=h;cases h with
  |wV=>exact .inl ⟨rfl,rfl⟩
  |map _ _ b hb hm=>exact .inr ⟨b,rfl,hm⟩
 ·rename_i o s;split at hm
  ·rename_i aN u uE hl;cases hb:aN.beq s with
   |false=>rw[hb] at hm;cases hm
   |true=>
    rw[hb] at hm;have hs:=Nat.eq_of_beq_eq_true hb;subst hs;cases hm;have hl:look st.sites o=some (.map aN _ es):=hl;have hv:v=F o:=Ref.at h.2 hl rfl;obtain⟨b,h1,h2⟩:=S.sites o _ hl;exact .inr ⟨b,hv.trans h1,h2⟩
  ·cases hm
 ·cases hm
theorem mo.size{b:Nat}{t:bf}{es:List (B×den t)}{arr:Array MapEntry}(h:nf arr=kl t es):arr.size=es.length:=by
 have:=congrArg List.length h;simpa[nf,kl] using this
theorem ao3(S:ar U Y X F st M w){C:Ctx}(H:CtxOk P C){T:TypeId}{x:Operand}(aM:D.op=.call {callee:=.builtin .len,args:=#[x],argTypes:=#[T]})(Z:cr st D.dst=true):
  Holds (tQ (C.tt T) st (bg C st T x)) (cN P U Y X st M w D):=by
 have bC:=dH S C T x;have bO:=H.tt T;have run:∀{vv:Value},(Builtin.len_ #[T] D.type #[Act.eval ⟨M,[]⟩ x]).run P w=.ok vv w->(execOp (Act.eval ⟨M,[]⟩) D).run P w=.ok (.value vv) w:=by
  intro vv h;unfold execOp;simp only[aM,resolve,invoke,builtin,Sem.run_bind,Sem.run_pure,Result.andThen_ok,List.map_toArray,List.map_cons,List.map_nil,h]
 unfold tQ;split
 ·rename_i s bk b7;rw[b7] at bC;rw[bk] at bO;obtain⟨b,hx,hs⟩:=gF bC;refine Holds.ok (dS S Z (run (vv:=.int .i64 s.length) ?_) (.int _ _));have:s.length=b.size:=by rw[<-hs];rfl
  simp[Builtin.len_,hx,run_underlying bO.1,goInt,this]
 ·rename_i e t b u xs bk b7;rw[b7] at bC;rw[bk] at bO;have bC:bK w (aI X F st.sites) (.sl u xs) (Act.eval ⟨M,[]⟩ x):=bC;refine Holds.ok (dS S Z (run (vv:=.int .i64 xs.length) ?_) (.int _ _));generalize Act.eval ⟨M,[]⟩ x=v at bC;cases bC with
  |nil=>simp[Builtin.len_,run_underlying bO.1.1,goInt]
  |sl _ _ a cap cs n hn hcap hb hl hc hr=>simp[Builtin.len_,run_underlying bO.1.1,goInt,hn]
 ·rename_i e t b u bk b7;rw[b7] at bC;rw[bk] at bO;have hx:Act.eval ⟨M,[]⟩ x=.slice none 0 0:=bC;exact Holds.ok (dS S Z (run (vv:=.int .i64 0) (by simp[Builtin.len_,hx,run_underlying bO.1.1,goInt])) (.int _ _))
 ·rename_i e t b o s bk b7;rw[b7] at bC;rw[bk] at bO;split
  ·rename_i u xs hrow;have hv:=To bC hrow;refine Holds.ok (dS S Z (run (vv:=.int .i64 xs.length) ?_) (.int _ _));obtain⟨cs,_,hc⟩:=S.row hrow;rcases hc with⟨h1,h2⟩|⟨bH,c,h1,_⟩
   ·subst h2;simp[Builtin.len_,hv,h1,run_underlying bO.1.1,goInt]
   ·simp[Builtin.len_,hv,h1,run_underlying bO.1.1,goInt]
  ·exact .fail
 ·rename_i ia lg u l bk b7;rw[b7] at bC;rw[bk] at bO;split
  ·rename_i bV es hm;refine Holds.ok (dS S Z (run (vv:=.int .i64 es.length) ?_) (.int _ _));rcases Tv S bC hm with⟨h1,rfl⟩|⟨b,h1,arr,c,h2,h3⟩
   ·simp[Builtin.len_,h1,run_underlying bO.1.1,goInt]
   ·have hsz:=mo.size (b:=b) h3;simp[Builtin.len_,h1,run_underlying bO.1.1,goInt,MapKept.run_getObj_map h2,hsz,Result.andThen]
  ·exact .fail
 ·exact .fail
theorem ak6(S:ar U Y X F st M w){C:Ctx}(H:CtxOk P C){T:TypeId}{x i:Operand}{s:B}{k:IntKind}{n:Int}(aM:D.op=.index T x i)(Z:cr st D.dst=true)(bk:C.tt T=.str)
  (hx:bg C st T x=.av (.am (.d (.str s)))) (hi:bg C st 0 i=.av (.am (.d (.int k n)))):Holds (.ey (aO s n) fun b=>one (.int .u8 b.toNat)) (cN P U Y X st M w D):=by
 have bO:=H.tt T;rw[bk] at bO;obtain⟨b,hb,hs⟩:=apk S hx;have hn:=ki S hi;refine Holds.ey fun y hy=>?_
 have eb:aO s n=some y:=hy;unfold aO at eb;split at eb
 ·rename_i h0;refine dS S Z (vv:=.int .u8 y.toNat) ?_ (.int _ _);have tU:b[n.toNat]? =some y:=by
   have:n.toNat<s.length:=by
    rcases Nat.lt_or_ge n.toNat s.length with h|h
    ·exact h
    ·rw[List.getElem?_eq_none h] at eb;cases eb
   rw[<-hs] at eb this;have hsz:n.toNat<b.size:=this;rw[getElem?_pos b n.toNat hsz];rw[List.getElem?_eq_getElem this] at eb;have h3:b.data[n.toNat]=y:=by simpa using eb
   rw[<-h3];rfl
  unfold execOp;simp[aM,hb,hn,Instr.index,asIntOf,run_underlying bO.1,h0,tU]
 ·cases eb
theorem bytes_beq(x y:ByteArray):(x==y)=(x.data.toList==y.data.toList):=by
 obtain⟨a⟩:=x;obtain⟨b⟩:=y;have h:((⟨a⟩:ByteArray)==⟨b⟩)=(a==b):=rfl;rw[h,Bool.eq_iff_iff];simp
theorem alh:∀{z ai:List aQ} {vs:List Value},rp z ai=true->cA F st.sites w (aI X F st.sites) ai vs->pP z vs=true:=by
 intro z;induction z with
 |nil=>
  intro ai vs h h1;cases ai with
  |nil=>rw[h1.oc];rfl
  |cons l ai=>cases h
 |cons c z ih=>
  intro ai vs h h1;unfold rp at h;split at h
  ·rename_i hz;cases hz
  ·rename_i b7;cases b7;obtain⟨v,cv,rfl,a1,a2⟩:=h1.inv;rw[iE a1];exact ih h a2
  ·rename_i b7;cases b7;obtain⟨v,cv,rfl,a1,a2⟩:=h1.inv;rw[jO a1];exact ih h a2
  ·rename_i b7;cases b7;obtain⟨v,cv,rfl,a1,a2⟩:=h1.inv;obtain⟨x,rfl,hx⟩:=gF a1;exact ih h a2
  ·cases h
theorem agk:∀{ai jf:List aQ} {vs us:List Value} {b:Bool},vV ai jf=some b->cA F st.sites w (aI X F st.sites) ai vs->cA F st.sites w (aI X F st.sites) jf us->jL vs us=some b:=by
 have leaf:∀{d e:bh} {v u:Value} {b:Bool} {av:Nat->Prop},B3 d e=some b->bK w av d v->bK w av e u->oa v u=some b:=by
  intro d e v u b av h h1 h2;unfold B3 at h;split at h
  ·rw[iE h1,iE h2];exact h
  ·rw[jO h1,jO h2];exact h
  ·obtain⟨x,rfl,hx⟩:=gF h1;obtain⟨y,rfl,hy⟩:=gF h2;subst hx hy;cases h;show some (x==y)=some (x.data.toList==y.data.toList);rw[bytes_beq]
  ·cases h
 intro ai;induction ai with
 |nil=>intro jf vs us b h _ _;cases jf<;>simp[vV] at h
 |cons l ai ih=>
  intro jf vs us b h h1 h2;obtain⟨v,cv,rfl,a1,a2⟩:=h1.inv;unfold vV at h;split at h
  ·rename_i d e b7;cases b7;obtain⟨u,nA,rfl,b1,b2⟩:=h2.inv;rw[a2.oc,b2.oc];exact leaf h a1 b1
  ·rename_i d ds e es hne b7;cases b7;obtain⟨u,nA,rfl,b1,b2⟩:=h2.inv;split at h
   ·rename_i x y hx hy;cases h;have e1:=leaf hx a1 b1;have e2:=ih hy a2 b2;match cv,nA,e2 with
    |[],[],e2=>simp[jL] at e2
    |[],_::_,e2=>simp[jL] at e2
    |_::_,[],e2=>simp[jL] at e2
    |v2::aB6,u2::aB7,e2=>rw[jL,e1,e2];simp
   ·cases h
  ·cases h
theorem run_equal_bool{T:TypeId}(h:P.underlying T=some .bool)(a b:Bool):(Op.equal T (.bool a) (.bool b)).run P w=.ok (a==b) w:=by
 have e:Op.maxDepth=9999+1:=rfl;unfold Op.equal;rw[e];unfold Op.equalIn;simp only[Sem.run_bind,run_underlying h,Result.andThen_ok,Sem.run_pure]
theorem run_eql_bool{T:TypeId}(h:P.underlying T=some .bool)(a b:Bool):(binOp .eql T (.bool a) (.bool b)).run P w=.ok (.bool (a==b)) w:=by
 show((do pure (.bool (<-Op.equal T (.bool a) (.bool b)))):Sem Value).run P w=_
 simp only[Sem.run_bind,run_equal_bool h,Result.andThen_ok,Sem.run_pure]
theorem run_neq_bool{T:TypeId}(h:P.underlying T=some .bool)(a b:Bool):(binOp .neq T (.bool a) (.bool b)).run P w=.ok (.bool (!(a==b))) w:=by
 show((do pure (.bool (!(<-Op.equal T (.bool a) (.bool b))))):Sem Value).run P w=_
 simp only[Sem.run_bind,run_equal_bool h,Result.andThen_ok,Sem.run_pure]
theorem anJ(S:ar U Y X F st M w){C:Ctx}(H:CtxOk P C){op:BinOp}{T nP:TypeId}{x y:Operand}(aM:D.op=.binOp op T x y nP)(Z:cr st D.dst=true):
  Holds (Lg op (C.tt T) (bg C st T x) (bg C st T y)) (cN P U Y X st M w D):=by
 have hx:=dH S C T x;have hy:=dH S C T y;have bO:=H.tt T;have run:∀{vv:Value},(eqGuard op T x y (Act.eval ⟨M,[]⟩ x) (Act.eval ⟨M,[]⟩ y)).run P w=.ok () w->(binOp op T (Act.eval ⟨M,[]⟩ x) (Act.eval ⟨M,[]⟩ y)).run P w=.ok vv w->
   (execOp (Act.eval ⟨M,[]⟩) D).run P w=.ok (.value vv) w:=by
  intro vv h1 h2;unfold execOp;simp only[aM,Sem.run_bind,h1,h2,Result.andThen_ok,Sem.run_pure]
 have plain:∀{r:dk},(eqGuard op T x y (Act.eval ⟨M,[]⟩ x) (Act.eval ⟨M,[]⟩ y)).run P w=.ok () w->Holds r (Plain P w (binOp op T (Act.eval ⟨M,[]⟩ x) (Act.eval ⟨M,[]⟩ y)))->Holds r (cN P U Y X st M w D):=by
  intro r h1 h2 z hz hc;obtain⟨vv,d,g1,g2,g3,g4⟩:=h2 z hz hc;rw[g2,g3];exact dS S Z (run h1 g1) (g4 _)
 unfold Lg;split
 ·rename_i k a k' b hxe hye;rw[hxe] at hx;rw[hye] at hy;refine plain (by rw[iE hx,iE hy];exact aej _ _ _ _ _ _ _ _) ?_
  rw[iE hx,iE hy];unfold Vf;split
  ·refine Holds.ey fun n hn=>?_
   have iM:lL k a b=some n:=hn;unfold lL at iM;split at iM
   ·cases iM
   ·rename_i hb;cases iM;exact .mk (by simp[binOp,Op.shift,hb]) fun av=>.int _ _
  ·refine Holds.ey fun n hn=>?_
   have iM:fk k a b=some n:=hn;unfold fk at iM;split at iM
   ·cases iM
   ·rename_i hb;cases iM;exact .mk (by simp[binOp,Op.shift,hb]) fun av=>.int _ _
  ·rename_i h1 h2;split
   ·rename_i hk;subst hk;exact ah8 _ T k a b h1 h2
   ·exact .fail
 ·rename_i s t hxe hye;rw[hxe] at hx;rw[hye] at hy;obtain⟨a,ha,hs⟩:=gF hx;obtain⟨b,hb,aq⟩:=gF hy;subst hs aq;refine plain (by rw[ha,hb];exact ad6 _ _ _ _ _ _) ?_
  rw[ha,hb];exact ah6 op T a b
 ·rename_i a b hxe hye;rw[hxe] at hx;rw[hye] at hy;unfold VN;split
  ·rename_i bk;rw[bk] at bO;split
   ·refine plain (by rw[jO hx,jO hy];exact Oq _ _ _ _ _ _) (Holds.ok ?_)
    rw[jO hx,jO hy];exact .mk (run_eql_bool bO.1 _ _) fun av=>.bool _
   ·refine plain (by rw[jO hx,jO hy];exact Oq _ _ _ _ _ _) (Holds.ok ?_)
    rw[jO hx,jO hy];exact .mk (run_neq_bool bO.1 _ _) fun av=>.bool _
   ·exact .fail
  ·exact .fail
 ·rename_i xs bj hxe hye;rw[hxe] at hx;rw[hye] at hy;unfold WR;split
  ·rename_i bR n z bk;rw[bk] at bO;cases hl:xs.length.beq n&&rp z xs with
   |false=>exact .fail
   |true=>
    simp only[cond_true];simp only[Bool.and_eq_true] at hl;have gz:=Nat.eq_of_beq_eq_true hl.1;split
    ·rename_i b hb;obtain⟨vs,hv,pW,pV⟩:=hx;obtain⟨us,hu,Mq,Mp⟩:=hy;have uz:=agk hb ⟨pW,pV⟩ ⟨Mq,Mp⟩;obtain⟨fields,fG,_,⟨gi,hz,_,_⟩,b7⟩:=bO;obtain⟨hg,K5⟩:=b7 rfl;have:=K5 vs us b w uz (alh hl.2 ⟨pW,pV⟩);split
     ·refine plain ?_ (Holds.ok ?_)
      ·rw[hv,hu];simp[eqGuard,hg]
      ·rw[hv,hu];refine .mk (vv:=.bool b) ?_ fun av=>.bool _
       show((do pure (.bool (<-Op.equal T (.agg vs.toArray) (.agg us.toArray)))):Sem Value).run P w=_
       simp only[Sem.run_bind,this,Result.andThen_ok,Sem.run_pure]
     ·refine plain ?_ (Holds.ok ?_)
      ·rw[hv,hu];simp[eqGuard,hg]
      ·rw[hv,hu];refine .mk (vv:=.bool (!b)) ?_ fun av=>.bool _
       show((do pure (.bool (!(<-Op.equal T (.agg vs.toArray) (.agg us.toArray))))):Sem Value).run P w=_
       simp only[Sem.run_bind,this,Result.andThen_ok,Sem.run_pure]
     ·exact .fail
    ·exact .fail
  ·exact .fail
 ·exact .fail
theorem ae8{T:TypeId}{jf:Array (String×TypeId)}(aq:P.underlying T=some (.interface jf))(gE:TypeId)(c7:Option Int)(v:Value)(hv:v=match c7 with|none=>.nilIface|some n=>.iface gE (.agg #[.int .i64 n])):
  (Op.equal T v .nilIface).run P w=.ok c7.isNone w:=by
 have h:∀d:Nat,(Op.equalIn (d+1) T v .nilIface).run P w=.ok c7.isNone w:=fun d=>by
  subst hv;cases c7<;>simp[Op.equalIn,run_underlying aq]
 exact h 9999
theorem ajc(S:ar U Y X F st M w){C:Ctx}(H:CtxOk P C){op:BinOp}{T nP:TypeId}{x y:Operand}(aM:D.op=.binOp op T x y nP)(Z:cr st D.dst=true)(hn:B7 y=true):
  Holds (JZ op (C.tt T) (bg C st T x)) (cN P U Y X st M w D):=by
 have hy:y=.const .nilIface:=by
  unfold B7 at hn;split at hn
  ·rfl
  ·cases hn
 subst hy;have hx:=dH S C T x;have bO:=H.tt T;have key:∀(gE:TypeId) (c7:Option Int),(Act.eval ⟨M,[]⟩ x=match c7 with|none=>.nilIface|some n=>.iface gE (.agg #[.int .i64 n]))->Holds (CV op (C.tt T) c7) (cN P U Y X st M w D):=by
  intro gE c7 hv;unfold CV;split
  ·rename_i bk;rw[bk] at bO;obtain⟨jf,bO⟩:=bO;have he:=ae8 (P:=P) (w:=w) bO.1 gE c7 _ hv;have hg:(eqGuard op T x (.const .nilIface) (Act.eval ⟨M,[]⟩ x) .nilIface).run P w=.ok () w:=by
    rw[hv];cases c7<;>cases op<;>simp[eqGuard]
   split
   ·refine Holds.ok (dS S Z (vv:=.bool c7.isNone) ?_ (.bool _));unfold execOp;simp only[aM,Act.eval,Sem.run_bind,Result.andThen_ok,Sem.run_pure] at hg ⊢;rw[hg];simp only[Result.andThen_ok];have:(binOp .eql T (Act.eval ⟨M,[]⟩ x) .nilIface).run P w=.ok (.bool c7.isNone) w:=by
     have e:binOp .eql T (Act.eval ⟨M,[]⟩ x) .nilIface=(do pure (.bool (<-Op.equal T (Act.eval ⟨M,[]⟩ x) .nilIface))):=by rw[hv];cases c7<;>rfl
     rw[e];simp only[Sem.run_bind,he,Result.andThen_ok,Sem.run_pure]
    simp only[Act.eval] at this;rw[this];rfl
   ·refine Holds.ok (dS S Z (vv:=.bool c7.isSome) ?_ (.bool _));unfold execOp;simp only[aM,Act.eval,Sem.run_bind,Result.andThen_ok,Sem.run_pure] at hg ⊢;rw[hg];simp only[Result.andThen_ok];have:(binOp .neq T (Act.eval ⟨M,[]⟩ x) .nilIface).run P w=.ok (.bool c7.isSome) w:=by
     have e:binOp .neq T (Act.eval ⟨M,[]⟩ x) .nilIface=(do pure (.bool (!(<-Op.equal T (Act.eval ⟨M,[]⟩ x) .nilIface)))):=by rw[hv];cases c7<;>rfl
     rw[e];simp only[Sem.run_bind,he,Result.andThen_ok,Sem.run_pure];cases c7<;>rfl
    simp only[Act.eval] at this;rw[this];rfl
   ·exact .fail
  ·exact .fail
 unfold JZ;split
 ·rename_i gE c7 hxe;rw[hxe] at hx;have hx:bK w (aI X F st.sites) (.err gE c7) (Act.eval ⟨M,[]⟩ x):=hx;exact key gE c7 (by revert hx;generalize Act.eval ⟨M,[]⟩ x=vv;intro hx;cases hx<;>rfl)
 ·rename_i hxe;rw[hxe] at hx;exact key 0 none hx
 ·exact .fail
theorem aeb(S:ar U Y X F st M w){C:Ctx}(H:CtxOk P C){T:TypeId}{x:Operand}{n:Int}{bR z q e}(aM:D.op=.makeInterface T x)(Z:cr st D.dst=true)(bk:C.tt T=.struct bR q z e)
  (hx:bg C st T x=.av (.agg [.d (.int .i64 n)])):cN P U Y X st M w D (one (.err T (some n))) []:=by
 have bO:=H.tt T;rw[bk] at bO;obtain⟨fields,hu,_⟩:=bO;have bC:=dH S C T x;rw[hx] at bC;obtain⟨vs,h1,h2,h3⟩:=bC;match vs,h2,h1,h3 with
 |[v],_,h1,h3=>
  have hv:=iE (h3 0 (by simp) (by simp))
  simp only[List.getElem_cons_zero] at hv;subst hv;refine dS S Z (vv:=.iface T (.agg #[.int .i64 n])) ?_ (.err _ _);unfold execOp;simp[aM,Instr.makeInterface,run_underlying hu,h1]
end
section
variable {P:Program}{U:World}{Y:List Nat}{X:Nat->Prop}{F:Nat->Value}{st:al}{M:Array Value}{w:World}{D:Oper}
theorem s0(xs:List Int):flat .u8 xs=xs.map (bh.int .u8):=by
 unfold flat;induction xs with
 |nil=>rfl
 |cons x xs ih=>simp only[List.flatMap_cons,List.map_cons,ih];rfl
theorem UJ{w:World}{av:Nat->Prop}{xs:List Int}{cs:List Value}(h:c5 w av (flat .u8 xs) cs):cs=xs.map (Value.int .u8):=by
 obtain⟨h1,h2⟩:=h;rw[s0] at h1;apply List.ext_getElem
 ·rw[h1];simp
 ·intro j g1 g2;have g3:j<xs.length:=by simpa using g2
  have:=h2 j (by rw[s0];simpa using g3) g1
  have e:(flat .u8 xs)[j]'(by rw[s0];simpa using g3)=bh.int .u8 xs[j]:=by simp[s0]
  rw[e] at this;rw[iE this];simp
theorem OG{src dst e:TypeId}{a:Addr}{len cap:Nat}{xs:List Int}(hs:P.underlying src=some (.slice e))(he:P.underlying e=some (.int .u8))(Z:P.underlying dst=some .string)
  (hlen:xs.length=len) (hc:∀j u,(xs.map (Value.int .u8))[j]? =some u->w.cell? (a.add j)=some u):
  ∃b:ByteArray,(convert src dst (.slice (some a) len cap)).run P w=.ok (.string b) w/\b.data.toList=strOf xs:=by
 have hl:(loadCells a len).run P w=.ok (xs.map (Value.int .u8)).toArray w:=by
  have:=run_loadCells_list (P:=P) w a (xs.map (Value.int .u8)) hc;simpa[hlen] using this
 rw[run_convert_bytes_string w src dst e _ len cap hs he Z,run_bytesToString w a len cap xs hl,foldl_push_bytes];exact⟨_,rfl,by simp[strOf]⟩
theorem yL{ti:cg}(h:isByte ti=true):ti=.int .u8:=by
 unfold isByte at h;split at h
 ·rfl
 ·cases h
theorem ajk(s:B):(bytesOf s).length=s.length:=by simp[bytesOf]
theorem als(S:ar U Y X F st M w){C:Ctx}(H:CtxOk P C){src dst:TypeId}{x:Operand}{o:Nat}(aM:D.op=.convert src dst x)(dI:D.dst=some o)(Z:cr st D.dst=true):
  Holds (tI C src dst o st (bg C st src x)) (cN P U Y X st M w D):=by
 have bC:=dH S C src x;have hs:=H.tt src;have aq:=H.tt dst;have run:∀{vv:Value} {w':World},(convert src dst (Act.eval ⟨M,[]⟩ x)).run P w=.ok vv w'->(execOp (Act.eval ⟨M,[]⟩) D).run P w=.ok (.value vv) w':=by
  intro vv w' h;unfold execOp;simp only[aM,Sem.run_bind,h,Result.andThen_ok,Sem.run_pure]
 have ru:∀{ti:cg},ti.ok P src->ti≠.none->∃d,P.underlying src=some d:=by
  intro ti h hn;cases ti with
  |none=>exact absurd rfl hn
  |int k=>exact⟨_,h.1⟩
  |bool=>exact⟨_,h.1⟩
  |str=>exact⟨_,h.1⟩
  |ptr=>obtain⟨_,h⟩:=h;exact⟨_,h.1⟩
  |func=>obtain⟨_,_,_,h⟩:=h;exact⟨_,h.1⟩
  |iface=>obtain⟨_,h⟩:=h;exact⟨_,h.1⟩
  |slice e t b=>exact⟨_,h.1.1⟩
  |map k e t=>exact⟨_,h.1.1⟩
  |struct bR n z eq=>obtain⟨f,h,_⟩:=h;exact⟨_,h⟩
  |arr e t n=>exact⟨_,h.1⟩
 unfold tI;split
 ·exact .fail
 ·rename_i k k' n hk hx hn;rw[hx] at bC;rw[hk] at aq;obtain⟨d,rN⟩:=ru hs (by rintro h;exact absurd h (by simpa using hn))
  refine Holds.ok (dS S Z (run (vv:=.int k (k.wrap n)) ?_) (.int _ _));rw[iE bC];simp[convert,run_underlying rN,run_underlying aq.1,Conv.intToInt]
 ·rename_i s hk hx hn;rw[hx] at bC;rw[hk] at aq;obtain⟨b,hb,ez⟩:=gF bC;obtain⟨d,rN⟩:=ru hs (by rintro h;exact absurd h (by simpa using hn))
  refine Holds.ok (dS S Z (run (vv:=.string b) ?_) (.str _ _ ez));rw[hb];simp[convert,run_underlying rN,run_underlying aq.1]
 ·rename_i e b xs fo q8 hx;cases j9:isByte (C.tt e) with
  |false=>exact .fail
  |true=>
   rw[hx] at bC;rw[q8] at aq;rw[fo] at hs;have he:=H.tt e;rw[yL j9] at he;have bC:bK w (aI X F st.sites) (.sl .u8 xs) (Act.eval ⟨M,[]⟩ x):=bC;have:∃b:ByteArray,(convert src dst (Act.eval ⟨M,[]⟩ x)).run P w=.ok (.string b) w/\b.data.toList=strOf xs:=by
    generalize Act.eval ⟨M,[]⟩ x=v at bC;cases bC with
    |nil=>exact⟨_,run_convert_bytes_nil w src e hs.1.1 he.1 _ _ dst aq.1,rfl⟩
    |sl _ _ a cap cs n hn hcap hb hl hc hr=>
     have:=UJ (xs:=xs) ⟨hl,hr⟩;subst this;exact OG hs.1.1 he.1 aq.1 hn.symm hc
   obtain⟨b,h1,h2⟩:=this;exact Holds.ok (dS S Z (run h1) (.str _ _ h2))
 ·rename_i e b u fo q8 hx;cases j9:isByte (C.tt e) with
  |false=>exact .fail
  |true=>
   rw[hx] at bC;rw[q8] at aq;rw[fo] at hs;have he:=H.tt e;rw[yL j9] at he;have bC:Act.eval ⟨M,[]⟩ x=.slice none 0 0:=bC;refine Holds.ok (dS S Z (run (vv:=.string ByteArray.empty) ?_) (.str _ _ rfl));rw[bC];exact run_convert_bytes_nil w src e hs.1.1 he.1 _ _ dst aq.1
 ·rename_i e b ab s fo q8 hx;split
  ·rename_i xs hrow;cases j9:isByte (C.tt e) with
   |false=>exact .fail
   |true=>
    rw[hx] at bC;rw[q8] at aq;rw[fo] at hs;have he:=H.tt e;rw[yL j9] at he;have hv:=To bC hrow;have:∃b:ByteArray,(convert src dst (Act.eval ⟨M,[]⟩ x)).run P w=.ok (.string b) w/\b.data.toList=strOf xs:=by
     rw[hv];obtain⟨cs,h1,hc⟩:=S.row hrow;rcases hc with⟨h2,h3⟩|⟨bH,c,h2,h3,aA⟩
     ·subst h3;rw[h2];exact⟨_,run_convert_bytes_nil w src e hs.1.1 he.1 _ _ dst aq.1,rfl⟩
     ·have:=UJ (xs:=xs) (jn h1);subst this;rw[h2];exact OG hs.1.1 he.1 aq.1 rfl (fun j u hu=>by rw[gW];exact h3 j u hu)
    obtain⟨b,h1,h2⟩:=this;exact Holds.ok (dS S Z (run h1) (.str _ _ h2))
  ·exact .fail
 ·rename_i e b s fo q8 hx;cases j9:isByte (C.tt e) with
  |false=>exact .fail
  |true=>
   rw[hx] at bC;rw[q8] at aq;rw[fo] at hs;have he:=H.tt e;rw[yL j9] at he;obtain⟨gQ,hb,ez⟩:=gF bC;have dy:(convert src dst (Act.eval ⟨M,[]⟩ x)).run P w=.ok (.slice (some ⟨w.heap.size,0,none⟩) gQ.size (grownCap w gQ.size 0 e)) (Go.Lib.bytesWorld w e gQ):=by
    rw[hb];exact Go.Lib.run_convert_string_bytes w src dst e gQ hs.1 aq.1.1 he.1
   have hcap:gQ.size<=grownCap w gQ.size 0 e:=grownCap_ge w gQ.size 0 e;refine Holds.hV fun r hr=>?_
   have hmax:gQ.size<=maxLen:=by
    have hr:(if s.length<=maxLen then some () else none)=some r:=hr
    split at hr
    ·rename_i h;rw[<-ez] at h;simpa using h
    ·cases hr
   have hsz:(Go.Lib.bytesCells w e gQ).size=grownCap w gQ.size 0 e:=by
    simp only[Go.Lib.bytesCells,Array.size_append,Array.size_map,Array.size_replicate];have:gQ.data.size=gQ.size:=rfl;omega
   have hlen:gQ.size=(bytesOf s).length:=by rw[ajk,<-ez];rfl
   have eI:ar U Y X (fun ab=>if ab=o then .slice (some ⟨w.heap.size,0,none⟩) gQ.size (grownCap w gQ.size 0 e) else F ab) {st with sites:=cw st.sites o (.row (bz st o) .u8 (bytesOf s))} M (Go.Lib.bytesWorld w e gQ):=by
    refine S.make (fun b hb=>Go.Lib.bytesWorld_at_old w e gQ b hb) rfl rfl rfl (by rw[Go.Lib.bytesWorld_size];omega) (fun af hs=>l6 hs)
     (fun b hb=>by cases hb;exact⟨Nat.le_refl _,by rw[Go.Lib.bytesWorld_size];exact Nat.lt_succ_self _⟩) ?_
    intro bY aY fS kr go aBx aBE;refine⟨e,gQ.data.toList.map fun b=>Value.int .u8 b.toNat,⟨?_,.inr ⟨_,_,Go.Lib.bytesCells w e gQ,_,kr.trans (by rw[hlen]),⟨(fun h=>by obtain⟨_,z,_,_,gO⟩:=aq;exact gO h),.inr ⟨rfl,Nat.le_refl _⟩⟩,Go.Lib.bytesWorld_at_new w e gQ,by rw[<-hlen];exact hcap,grownCap_le_maxLen w gQ.size 0 e hmax,?_,?_⟩⟩,fun j g1 g2=>?_⟩
    ·rw[List.length_map,<-hlen];exact(Nat.mul_one _).symm
    ·rw[hsz];exact(Nat.mul_one _).symm
    ·have h1:(bytesOf s).length*bd .u8=(gQ.data.toList.map fun b=>Value.int .u8 b.toNat).length:=by rw[List.length_map,<-hlen];exact Nat.mul_one _
     rw[h1];simp only[Go.Lib.bytesCells,Array.toList_append,Array.toList_map];exact List.take_left
    ·subst ez;simp only[s0,bytesOf,List.getElem_map];exact .int _ _
   refine ln (us:=[(o,.row (bz st o) .u8 (bytesOf s))]) eI Z (run dy) ?_
   refine⟨rfl,Ref.mk (af:=.row (bz st o) .u8 (bytesOf s)) ?_ rfl (by simp)⟩
   simp only[bv,c9];simp
 ·exact .fail
end
section
variable {P:Program}{U:World}{Y:List Nat}{X:Nat->Prop}{F:Nat->Value}{st:al}{M:Array Value}{w:World}{D:Oper}
theorem Tt(S:ar U Y X F st M w){C:Ctx}{x:Operand}(aM:D.op=.move x\/D.op=.assign x)(Z:cr st D.dst=true)(T:TypeId):cN P U Y X st M w D (bg C st T x) []:=by
 refine dS S Z (vv:=Act.eval ⟨M,[]⟩ x) ?_ (dH S C T x);unfold execOp;rcases aM with h|h<;>simp only[h,Sem.run_pure]
theorem Tl(S:ar U Y X F st M w){C:Ctx}{c a b:Operand}{t:Bool}{T:TypeId}(aM:D.op=.pick c a b)(Z:cr st D.dst=true)(hc:bg C st T c=.av (.am (.d (.bool t)))):
  cN P U Y X st M w D (bg C st T (if t then a else b)) []:=by
 refine dS S Z (vv:=Act.eval ⟨M,[]⟩ (if t then a else b)) ?_ (dH S C T _)
 unfold execOp;have:=I2 S hc;cases t<;>simp[aM,this,asBool]
theorem afE(S:ar U Y X F st M w){C:Ctx}{x:Operand}{t:Bool}{T d_:TypeId}(aM:D.op=.unOp .not d_ x)(Z:cr st D.dst=true)(hc:bg C st T x=.av (.am (.d (.bool t)))):
  cN P U Y X st M w D (one (.bool (!t))) []:=by
 refine dS S Z (vv:=.bool (!t)) ?_ (.bool _);unfold execOp;simp[aM,I2 S hc,Op.unary]
theorem afF(S:ar U Y X F st M w){C:Ctx}{x:Operand}{k:IntKind}{n:Int}{T d_:TypeId}(aM:D.op=.unOp .neg d_ x)(Z:cr st D.dst=true)(hc:bg C st T x=.av (.am (.d (.int k n)))):
  cN P U Y X st M w D (one (.int k (k.wrap (0-n)))) []:=by
 refine dS S Z (vv:=.int k (k.wrap (0-n))) ?_ (.int _ _);unfold execOp;simp[aM,ki S hc,Op.unary,Op.intArith]
theorem E3(S:ar U Y X F st M w){C:Ctx}{x:Operand}{v:a7}{T:TypeId}(aM:D.op=.nilCheck x)(Z:cr st D.dst=true)(hc:bg C st T x=v)
  (hv:∀vv,ck F st.sites w (aI X F st.sites) v vv->∃a,vv=.pointer (some a)):cN P U Y X st M w D v []:=by
 have:=dH S C T x;rw[hc] at this;obtain⟨a,ha⟩:=hv _ this;refine dS S Z (vv:=Act.eval ⟨M,[]⟩ x) ?_ this;unfold execOp;simp[aM,ha]
theorem ahd(S:ar U Y X F st M w){C:Ctx}{x:Operand}{i:Nat}{as:List bS}{a:bS}{T:TypeId}(aM:D.op=.extract x i)(Z:cr st D.dst=true)(hc:bg C st T x=.j3 as)(ha:as[i]? =some a):
  cN P U Y X st M w D (.av a) []:=by
 have bC:=dH S C T x;rw[hc] at bC;obtain⟨vs,h1,h2,h3⟩:=bC;obtain⟨hi,axW⟩:=List.getElem?_eq_some_iff.1 ha;have jB:i<vs.length:=by omega
 refine dS S Z (vv:=vs[i]) ?_ (by rw[<-axW];exact h3 i hi jB)
 unfold execOp;simp[aM,h1,Instr.extract,jB]
theorem QP(S:ar U Y X F st M w){C:Ctx}{x y:Operand}{k k':IntKind}{a b:Int}{T:TypeId}{tC:Bool}{cZ:Array TypeId}(aM:D.op=.call {callee:=.builtin (if tC then .max else .min),args:=#[x,y],argTypes:=cZ})(Z:cr st D.dst=true)
  (hx:bg C st T x=.av (.am (.d (.int k a)))) (hy:bg C st T y=.av (.am (.d (.int k' b)))):cN P U Y X st M w D (one (.int k (if tC then ga a b else kp a b))) []:=by
 refine dS S Z (vv:=.int k (if tC then ga a b else kp a b)) ?_ (.int _ _)
 unfold execOp;cases tC<;>simp[aM,resolve,invoke,builtin,ki S hx,ki S hy,Builtin.max_,Builtin.min_,Builtin.max2,Builtin.min2,ga,kp]
theorem am6(S:ar U Y X F st M w){C:Ctx}{x y z u v:Operand}{k aE aF bJ cL:IntKind}{a b c d e:Int}{T:TypeId}{cZ:Array TypeId}(aM:D.op=.call {callee:=.builtin .max,args:=#[x,y,z,u,v],argTypes:=cZ})(Z:cr st D.dst=true)
  (hx:bg C st T x=.av (.am (.d (.int k a)))) (hy:bg C st T y=.av (.am (.d (.int aE b)))) (hz:bg C st T z=.av (.am (.d (.int aF c)))) (hu:bg C st T u=.av (.am (.d (.int bJ d)))) (hv:bg C st T v=.av (.am (.d (.int cL e)))):
  cN P U Y X st M w D (one (.int k (ga (ga (ga (ga a b) c) d) e))) []:=by
 refine dS S Z (vv:=.int k (ga (ga (ga (ga a b) c) d) e)) ?_ (.int _ _);unfold execOp;simp[aM,resolve,invoke,builtin,ki S hx,ki S hy,ki S hz,ki S hu,ki S hv,Builtin.max_,Builtin.max2,ga]
theorem alt(S:ar U Y X F st M w){C:Ctx}:∀{xs:List Operand} {bE:List (Nat×Nat)},step.ot C st xs=some bE->xs.length=bE.length/\
  ∀i (h:i<bE.length) (aj:i<xs.length),Ref st.sites (bE[i]).1 (bE[i]).2 (Act.eval ⟨M,[]⟩ (xs[i])=F (bE[i]).1):=by
 intro xs;induction xs with
 |nil=>intro bE h;simp only[step.ot] at h;cases h;exact⟨rfl,fun i h=>by simp at h⟩
 |cons x xs ih=>
  intro bE h;simp only[step.ot] at h;split at h
  ·rename_i o s l hx hl;cases h;obtain⟨h1,h2⟩:=ih hl;refine⟨by simp[h1],fun i g1 g2=>?_⟩
   cases i with
   |zero=>
    have:=dH S C 0 x;rw[hx] at this;obtain⟨b,hb,af,r1,r2,dn⟩:=this;exact⟨af,r1,r2,fun e=>by simp only[List.getElem_cons_zero];rw[hb,dn e]⟩
   |succ i=>simpa using h2 i (by simpa using g1) (by simpa using g2)
  ·cases h
theorem af2(S:ar U Y X F st M w){C:Ctx}{g:FuncId}{first captured:Array Operand}{bE:List (Nat×Nat)}(aM:D.op=.makeFunc (.func g) first captured)(Z:cr st D.dst=true)(hf:first.toList.isEmpty=true)
  (hc:step.ot C st captured.toList=some bE):cN P U Y X st M w D (b6 (.clo g bE)) []:=by
 obtain⟨h1,h2⟩:=alt S hc;refine dS S Z (vv:=.func (.func g) #[] (captured.toList.map (Act.eval ⟨M,[]⟩)).toArray) ?_ ⟨captured.toList.map (Act.eval ⟨M,[]⟩),rfl,by simpa using h1,fun i g1 g2=>?_⟩
 ·have:first=#[]:=by simpa using hf
  unfold execOp;simp only[aM,Instr.makeFunc,Sem.run_bind,Sem.run_pure,Result.andThen_ok,this];simp;apply Array.ext';simp
 ·have:=h2 i g1 (by simpa using g2)
  simpa using this
theorem Q'(S:ar U Y X F st M w){C:Ctx}{bR:List (Nat×Nat)}:∀(parts:List (Nat×Operand)) (z:List aQ) (cells:Array Value),cA F st.sites w (aI X F st.sites) z cells.toList->
  Holds (step.ng C st bR z parts) (fun v us=>us=[]/\∃jP,Instr.fill (bR.toArray[·]?) cells (parts.map fun p=>(p.1,Act.eval ⟨M,[]⟩ p.2))=some jP/\ck F st.sites w (aI X F st.sites) v (.agg jP)):=by
 intro parts;induction parts with
 |nil=>intro z cells h;exact Holds.ok ⟨rfl,cells,rfl,cells.toList,by simp,h.1,h.2⟩
 |cons p parts ih=>
  obtain⟨i,x⟩:=p;intro z cells h;simp only[step.ng];split
  ·rename_i off n a hf ha;cases hb:(a.cells.length.beq n&&hL a.cells&&Nat.ble (off+n) z.length) with
   |false=>exact .fail
   |true=>
    simp only[cond_true];simp only[Bool.and_eq_true] at hb;obtain⟨⟨b1,b2⟩,b3⟩:=hb;have b1:=Nat.eq_of_beq_eq_true b1;have b3:=Nat.le_of_ble_eq_true b3;have bC:=dH S C 0 x;rw[qw ha] at bC;have B9:=ho.cells (bC:ho F st.sites w _ a _) b2;have hsz:(Act.eval ⟨M,[]⟩ x).cells.size=n:=by rw[<-b1,<-B9.1];simp
    have hle:off+(Act.eval ⟨M,[]⟩ x).cells.size<=cells.size:=by
     have:=h.1;simp at this;omega
    have:=ih (Jk.bP z off a.cells) (Jk.bP cells.toList off (Act.eval ⟨M,[]⟩ x).cells.toList).toArray (by simpa using cA.bP off h B9)
    intro y hy hc;obtain⟨g1,jP,g2,g3⟩:=this y hy hc;refine⟨g1,jP,?_,g3⟩;simp only[List.map_cons,Instr.fill];have MQ:bR.toArray[i]? =some (off,n):=by simpa using hf
    simp only[MQ];have c1:¬((Act.eval ⟨M,[]⟩ x).cells.size≠n\/off+(Act.eval ⟨M,[]⟩ x).cells.size>cells.size):=by omega
    have c2:(decide ((Act.eval ⟨M,[]⟩ x).cells.size≠n)||decide (off+(Act.eval ⟨M,[]⟩ x).cells.size>cells.size))=false:=by
     simp;omega
    have pN:off+n<=cells.size:=by omega
    rw[Pg _ _ _ hle];simp only[Bool.decide_or,hsz] at*;simpa[c2,pN] using g2
  ·exact .fail
theorem alv(S:ar U Y X F st M w){C:Ctx}(H:CtxOk P C){T:TypeId}{parts:Array (Nat×Operand)}{bR:List (Nat×Nat)}{n:Nat}{z:List aQ}{eq:Bool}(bk:C.tt T=.struct bR n z eq)(aM:D.op=.build T parts)
  (Z:cr st D.dst=true):Holds (step.ng C st bR z parts.toList) (cN P U Y X st M w D):=by
 have bO:=H.tt T;rw[bk] at bO;obtain⟨fields,fG,⟨hf,_⟩,⟨gi,hz,hzz,DW⟩,_⟩:=bO;obtain⟨aE,aF,bJ⟩:=u3 hzz;intro y hy hc;obtain⟨g1,jP,g2,g3⟩:=Q' S parts.toList z gi ⟨aE,fun j h aj=>bJ _ _ _ _ j h aj⟩ y hy hc
 rw[g1];refine dS S Z (vv:=.agg jP) ?_ g3;cases hi:P.info? T with
 |none=>simp[hi] at hz
 |some it=>
  simp only[hi,Option.map_some,Option.some.injEq,Prod.mk.injEq] at hz;have hb:P.built T (parts.toList.map fun p=>(p.1,Act.eval ⟨M,[]⟩ p.2))=some jP:=by
   unfold Program.built;simp only[hi,fG,hz.2,hf];exact g2
  have ec:P.built T (parts.map fun p=>(p.1,Act.eval ⟨M,[]⟩ p.2)).toList=some jP:=by simpa using hb
  unfold execOp;simp only[aM,Sem.run_bind,run_build w T _ jP ec,Result.andThen_ok,Sem.run_pure]
end
def nc(w:World)(b:Nat)(D:Obj):World:={w with heap:=w.heap.setIfInBounds b D}
theorem SZ{b:ByteArray}{l:B}(h:b.data.toList=l):Value.string b=g_ l:=by
 subst h;rfl
def lC{aJ:Type}:List (B×aJ)->B->Nat->Option (Nat×aJ)
 |[],_,_=>none
 |(k,v)::r,n,i=>bif k==n then some (i,v) else lC r n (i+1)
theorem aiT{aJ:Type}(n:B):∀(es:List (B×aJ)) (i:Nat),(lC es n i).map (·.2)=kJ es n:=by
 intro es;induction es with
 |nil=>intro i;rfl
 |cons p es ih=>
  intro i;simp only[lC,kJ];cases p.1==n with
  |true=>rfl
  |false=>exact ih (i+1)
theorem af1{aJ:Type}(n:B)(v:aJ):∀(es:List (B×aJ)) (i:Nat),lC es n i=none->po es n v=es++[(n,v)]:=by
 intro es;induction es with
 |nil=>intro i _;rfl
 |cons p es ih=>
  intro i h;simp only[lC] at h;simp only[po];cases hp:(p.1==n) with
  |true=>rw[hp] at h;cases h
  |false=>rw[hp] at h;simp only[cond_false,ih (i+1) h,List.cons_append]
theorem ag7{aJ:Type}(n:B)(v:aJ):∀(es:List (B×aJ)) (i j:Nat) (v0:aJ),lC es n i=some (j,v0)->i<=j/\(∃p,es[j-i]? =some p/\p.1=n)/\po es n v=es.modify (j-i) fun p=>(p.1,v):=by
 intro es;induction es with
 |nil=>intro i j v0 h;cases h
 |cons p es ih=>
  intro i j v0 h;simp only[lC] at h;simp only[po];cases hp:(p.1==n) with
  |true=>
   rw[hp] at h;cases h;refine⟨Nat.le_refl _,⟨p,by simp,eq_of_beq hp⟩,?_⟩
   simp
  |false=>
   rw[hp] at h;obtain⟨h1,⟨q,h2,h3⟩,aA⟩:=ih (i+1) j v0 h;have e:j-i=(j-(i+1))+1:=by omega
   refine⟨by omega,⟨q,by rw[e];simpa using h2,h3⟩,?_⟩
   rw[e,cond_false,aA,List.modify_succ_cons]
theorem Ph{t:bf}(n:B):∀(es:List (B×den t)) (jf:List MapEntry) (i:Nat),jf.map (fun e=>(e.key,e.val))=kl t es->
  Instr.findNow .string (g_ n) jf i=some ((lC es n i).map fun p=>(p.1,nR t p.2))
 |[],jf,i,h=>by
  have:jf=[]:=by simpa[kl] using h
  subst this;rfl
 |(k,v)::es,[],i,h=>by simp[kl] at h
 |(k,v)::es,m::jf,i,h=>by
  simp only[kl,List.map_cons,List.cons.injEq,Prod.mk.injEq] at h;obtain⟨⟨h1,h2⟩,h3⟩:=h;have ih:=Ph n es jf (i+1) h3;have hs:Instr.sameNow .string (g_ n) m.key=some (k==n):=by
   rw[h1];show some ((⟨n.toArray⟩:ByteArray)==⟨k.toArray⟩)=_;rw[bytes_beq];congr 1
   rw[Bool.eq_iff_iff];simp only[beq_iff_eq];exact eq_comm
  unfold Instr.findNow lC;rw[hs];cases k==n with
  |true=>simp only[cond_true,Option.map_some,h2]
  |false=>simp only[cond_false];exact ih
section
variable {P:Program}{w:World}{ia lg T:TypeId}{t:bf}
theorem agK{ia:TypeId}(hk:P.underlying ia=some .string)(c:Bool)(s:B)(n:Nat):(Instr.checkKey c (n+1) ia (g_ s)).run P w=.ok () w:=by
 simp[Instr.checkKey,run_underlying hk,g_,Result.andThen]
theorem vf{ia:TypeId}(hk:P.underlying ia=some .string)(c:Bool)(s:B):(Instr.checkKey c 10000 ia (g_ s)).run P w=.ok () w:=agK hk c s 9999
theorem zJ{ia:TypeId}(hk:P.underlying ia=some .string){es:List (B×den t)}{arr:Array MapEntry}(h:nf arr=kl t es)(n:B):
  (Instr.findKey ia (g_ n) arr.toList).run P w=.ok ((lC es n 0).map fun p=>(p.1,nR t p.2)) w:=by
 simp[Instr.findKey,run_underlying hk,Ph n es arr.toList 0 h,Result.andThen]
theorem ah7(s:B):(Instr.keyThatStays (g_ s) (g_ s)).run P w=.ok (g_ s) w:=by
 have:Instr.sameBits 10000 (g_ s) (g_ s)=true:=by
  show((⟨s.toArray⟩:ByteArray)==⟨s.toArray⟩)=true;rw[bytes_beq];simp
 simp[Instr.keyThatStays,this]
theorem aqI{t:bf}{d:bh}{x:den t}{v:Value}{av:Nat->Prop}(h:Kx t d=some x)(hr:bK w av d v):v=nR t x:=by
 unfold Kx at h;split at h
 ·cases h;cases hr;rfl
 ·cases h;cases hr;rfl
 ·cases h
theorem agI(bk:P.underlying T=some (.map ia lg))(hk:P.underlying ia=some .string){b:Nat}{arr:Array MapEntry}{clock:Nat}{es:List (B×den t)}(hb:w.heap[b]? =some (.map arr clock))(he:nf arr=kl t es)(n:B)(x:den t):
  ∃pQ pu,(Instr.mapUpdate T (.map (some b)) (g_ n) (nR t x)).run P w=.ok () (nc w b (.map pQ pu))/\nf pQ=kl t (po es n x):=by
 cases hm:lC es n 0 with
 |none=>
  refine⟨arr.push ⟨g_ n,nR t x,clock⟩,clock+1,?_,?_⟩
  ·have hf:=zJ (w:=w) hk he n;rw[hm] at hf;simp[Instr.mapUpdate,run_underlying bk,MapKept.run_getObj_map hb,vf hk,hf,MapKept.run_setObj_map _ hb,Result.andThen,nc]
  ·rw[af1 n x es 0 hm];unfold nf kl at he ⊢;simp[he]
 |some p=>
  obtain⟨j,v0⟩:=p;obtain⟨_,⟨q,h2,h3⟩,aA⟩:=ag7 n x es 0 j v0 hm;rw[Nat.sub_zero] at h2 aA;have hlen:arr.size=es.length:=mo.size (b:=b) he;have hj:j<arr.size:=by rw[hlen];exact(List.getElem?_eq_some_iff.1 h2).1
  have atr:((arr[j]?).map (·.key)).getD (g_ n)=g_ n:=by
   have bl:=congrArg (fun l=>l[j]?) he
   simp only[nf,kl,List.getElem?_map,h2,Option.map_some,Array.getElem?_toList] at bl;cases ha:arr[j]? with
   |none=>rfl
   |some e=>
    rw[ha] at bl;simp only[Option.map_some,Option.some.injEq,Prod.mk.injEq] at bl;simp[bl.1,h3]
  refine⟨arr.modify j fun e=>{e with key:=g_ n,val:=nR t x},clock,?_,?_⟩
  ·have hf:=zJ (w:=w) hk he n;rw[hm] at hf;simp[Instr.mapUpdate,run_underlying bk,MapKept.run_getObj_map hb,vf hk,hf,MapKept.run_setObj_map _ hb,Result.andThen,nc,atr,ah7]
  ·rw[aA];unfold nf kl at he ⊢;apply List.ext_getElem?;intro i;have bl:=congrArg (fun l=>l[i]?) he
   simp only[List.getElem?_map,Array.getElem?_toList] at bl;simp only[List.getElem?_map,Array.getElem?_toList,Array.getElem?_modify,List.getElem?_modify];by_cases p1:j=i
   ·subst p1;simp only[if_true,h2,Option.map_some,<-h3];cases ha:arr[j]? with
    |none=>rw[ha,h2] at bl;cases bl
    |some e=>rfl
   ·simp only[p1,if_false];cases ha:arr[i]? <;>cases ec:es[i]? <;>rw[ha,ec] at bl<;>simp_all
end
section
variable {P:Program}{U:World}{Y:List Nat}{X:Nat->Prop}{F:Nat->Value}{st:al}{M:Array Value}{w:World}{D:Oper}
theorem Fi(w:World)(b bH:Nat)(D:Obj)(h:bH≠b):(nc w b D).heap[bH]? =w.heap[bH]? :=by
 simp only[nc,Array.getElem?_setIfInBounds];rw[if_neg (fun e=>h e.symm)]
theorem ael(w:World)(b:Nat)(D c7:Obj)(h:w.heap[b]? =some c7):(nc w b D).heap[b]? =some D:=by
 have:=(Array.getElem?_eq_some_iff.1 h).1;simp[nc,Array.getElem?_setIfInBounds,this]
theorem ar.aoV(S:ar U Y X F st M w){o s b:Nat}{t:bf}{es uE:List (B×den t)}{D:Obj}{pQ:Array MapEntry}{pu:Nat}(hl:look st.sites o=some (.map s t es))(cV:F o=.map (some b))(hg:w.heap[b]? =some D)
  (he:nf pQ=kl t uE):ar U Y X F {st with sites:=cw st.sites o (.map s t uE)} M (nc w b (.map pQ pu)):=by
 have hbk:bQ (F o)=some b:=by rw[cV];rfl
 have cQ:cq st.sites o:=⟨_,hl,rfl⟩;have ms:∀ab,cq (cw st.sites o (.map s t uE)) ab <-> cq st.sites ab:=PK hl rfl;have cc:∀bH,aI X F (cw st.sites o (.map s t uE)) bH <-> aI X F st.sites bH:=by
  intro bH;unfold aI;simp only[ms]
 have hne:∀bH,¬aI X F st.sites bH->bH≠b:=by
  rintro bH h rfl;exact h (.inr ⟨o,cQ,hbk⟩)
 have hsz:(nc w b (.map pQ pu)).heap.size=w.heap.size:=by simp[nc]
 refine S.ra (fun ab aN bU=>?_) (fun bH h _=>Fi w b bH _ (hne bH h)) (fun bH h _=>by rw[cc];exact h) (fun go ab aN bU=>?_) (fun ab ρ bH h1 h2=>S.eg ab ρ bH ((ms ab).1 h1) ((ms ρ).1 h2))
  (fun ab bH h=>S.ct ab bH ((ms ab).1 h)) (fun ab bH h hb=>by rw[hsz];exact S.fL ((ms ab).1 h) hb) ?_ (by rw[hsz];exact Nat.le_refl _)
 ·rw[c9];by_cases e:o=ab
  ·subst e;rw[hl] at bU;cases bU;exact⟨.map s t uE,by simp,Nat.le_refl _,fun _=>rfl⟩
  ·exact⟨aN,by simp[e,bU],Nat.le_refl _,fun _=>rfl⟩
 ·rw[c9] at bU;by_cases e:o=ab
  ·subst e;simp only[if_true,Option.some.injEq] at bU;subst bU;exact .inr ⟨b,cV,pQ,pu,ael w b _ _ hg,he⟩
  ·simp only[e,if_false] at bU;refine .inl ⟨bU,rfl,fun tT bH ec=>Fi w b bH _ ?_⟩
   rintro rfl;exact e (S.eg o ab _ cQ ⟨aN,bU,tT⟩ hbk ec)
 ·have aS:=S.frame;refine⟨aS.os,aS.tape,aS.output,by rw[hsz];exact aS.size,fun bH h1 h2=>?_⟩
  rw[Fi w b bH _ ?_]
  ·exact aS.block bH h1 h2
  ·rintro rfl;rcases(S.ct o _ cQ hbk).2 with h|h
   ·exact h2 h
   ·omega
theorem ar.makeMap(S:ar U Y X F st M w){o:Nat}{t:bf}:
  ar U Y X (fun ab=>if ab=o then .map (some w.heap.size) else F ab) {st with sites:=cw st.sites o (.map (bz st o) t [])} M (w.alloc (.map #[] 0)):=
 S.make (fun b hb=>RowKit.Below.heap_alloc w _ b hb) rfl rfl rfl (by simp) (fun af hs=>l6 hs) (fun b hb=>by cases hb;exact⟨Nat.le_refl _,by simp⟩)
  (fun hs cV go _ _=>⟨w.heap.size,cV,#[],0,heap_alloc_new w _,rfl⟩)
end
section
variable {P:Program}{U:World}{Y:List Nat}{X:Nat->Prop}{F:Nat->Value}{st:al}{M:Array Value}{w:World}{D:Oper}
theorem PF(S:ar U Y X F st M w){T:TypeId}{ia lg:TypeId}{t:bf}{r:Option Operand}{o:Nat}(aM:D.op=.makeMap T r)(dI:D.dst=some o)(Z:cr st D.dst=true)(bk:P.underlying T=some (.map ia lg))
  (hr:∀x,r=some x->∃k n,Act.eval ⟨M,[]⟩ x=.int k n):cN P U Y X st M w D (b6 (.own o (bz st o))) [(o,.map (bz st o) t [])]:=by
 have cm:=S.makeMap (o:=o) (t:=t);refine ln (us:=[(o,.map (bz st o) t [])]) cm Z (vv:=.map (some w.heap.size)) ?_ ?_
 ·unfold execOp;cases r with
  |none=>simp[aM,Instr.makeMap]
  |some x=>
   obtain⟨k,n,hx⟩:=hr x rfl;simp[aM,Instr.makeMap,hx,run_underlying bk,asInt,asIntOf,Result.andThen]
 ·refine⟨rfl,Ref.mk (af:=.map (bz st o) t []) ?_ rfl (by simp)⟩
  simp only[bv,c9];simp
theorem QQ(S:ar U Y X F st M w){C:Ctx}(H:CtxOk P C){T:TypeId}{m k x:Operand}(aM:D.op=.mapUpdate T m k x\/D.op=.insert T m k x)(Z:cr st D.dst=true):
  Holds (lv.tc C st T m k x) (cN P U Y X st M w D):=by
 have bO:=H.tt T;unfold lv.tc;split
 ·rename_i ia lg t o s n d bk hm hk hx;rw[bk] at bO;split
  ·rename_i aN u es hl;cases hb:(aN.beq s&&decide (u=t)) with
   |false=>exact .fail
   |true=>
    simp only[cond_true];simp only[Bool.and_eq_true,decide_eq_true_eq] at hb;have hs:=Nat.eq_of_beq_eq_true hb.1;subst hs;split
    ·rename_i v hv;refine Holds.fH ?_
     have em:=dH S C T m;rw[hm] at em;have se:=dH S C 0 k;rw[hk] at se;have ex:=dH S C 0 x;rw[hx] at ex;have hl:look st.sites o=some (.map aN u es):=hl;have ab5:Act.eval ⟨M,[]⟩ m=F o:=Ref.at em.2 hl rfl;obtain⟨b,h1,arr,clock,h2,h3⟩:=S.sites o _ hl;obtain⟨bs,MF,hkl⟩:=gF (s:=n) se;have D8:Act.eval ⟨M,[]⟩ k=g_ n:=by rw[MF];exact SZ hkl
     have abY:Act.eval ⟨M,[]⟩ x=nR u v:=aqI hv (av:=aI X F st.sites) ex;obtain⟨pQ,pu,r1,r2⟩:=agI (T:=T) bO.1.1 bO.2.1 h2 h3 n v;have cm:=S.aoV hl h1 h2 (pu:=pu) r2;refine yA (us:=[(o,.map aN u (po es n v))]) cm Z ?_
     unfold execOp;rcases aM with aM|aM
     ·simp only[aM,ab5,h1,D8,abY,Sem.run_bind,r1,Result.andThen_ok,Sem.run_pure]
     ·simp only[aM,ab5,h1,D8,abY,Sem.run_bind,r1,Result.andThen_ok,Sem.run_pure]
    ·exact .fail
  ·exact .fail
 ·exact .fail
theorem aiW(S:ar U Y X F st M w){C:Ctx}(H:CtxOk P C){T ia lg:TypeId}{t:bf}{m k:Operand}{c:Bool}{l:aQ}{n:B}{es:List (B×den t)}{d:bh}(aM:D.op=.lookup T m k c)(Z:cr st D.dst=true)
  (bk:C.tt T=.map ia lg t) (hm:bg C st T m=.av (.am l)) (hk:bg C st 0 k=.av (.am (.d (.str n)))) (MR:mapOf st l=some ⟨t,es⟩) (MS:wK t (kJ es n)=some d):
  cN P U Y X st M w D (bif c then .j3 [.am (.d d),.am (.d (.bool (kJ es n).isSome))] else one d) []:=by
 have bO:=H.tt T;rw[bk] at bO;have em:=dH S C T m;rw[hm] at em;have se:=dH S C 0 k;rw[hk] at se;obtain⟨bs,MF,hkl⟩:=gF (s:=n) se;have D8:Act.eval ⟨M,[]⟩ k=g_ n:=by rw[MF];exact SZ hkl
 have hz:∀c7:Option (den t),wK t c7=some d->(∀x,c7=some x->∀av,bK w av d (nR t x))/\(c7=none->∃z,(zeroValue lg).run P w=.ok z w/\∀av,bK w av d z):=by
  intro c7 h;have he:=bO.2.2;have key:∀{adP:TypeDesc} {z:Value},ju P lg adP z->(zeroValue lg).run P w=.ok z w:=by
   intro adP z h;obtain⟨_,_,_,h⟩:=h;cases hi:P.info? lg with
   |none=>simp[hi] at h
   |some i=>
    simp only[hi,Option.map_some,Option.some.injEq,Prod.mk.injEq] at h;simp[zeroValue,ll hi,h.2]
  cases t<;>first|(exact he.elim)|skip
  ·simp only[wK,Option.some.injEq] at h;subst h;refine⟨fun x hx av=>by subst hx;exact .int _ _,fun hn=>?_⟩
   subst hn;exact⟨_,key he,fun av=>.int _ _⟩
  ·simp only[wK,Option.some.injEq] at h;subst h;refine⟨fun x hx av=>by subst hx;exact .bool _,fun hn=>?_⟩
   subst hn;exact⟨_,key he,fun av=>.bool _⟩
 obtain⟨hz1,hz2⟩:=hz _ MS;have main:∃v,(Instr.lookup T (Act.eval ⟨M,[]⟩ m) (Act.eval ⟨M,[]⟩ k) c).run P w=.ok (if c then .tuple #[v,.bool (kJ es n).isSome] else v) w/\∀av,bK w av d v:=by
  rw[D8];rcases Tv S em MR with⟨h1,rfl⟩|⟨b,h1,arr,clock,h2,h3⟩
  ·obtain⟨z,fg,z2⟩:=hz2 rfl;refine⟨z,?_,z2⟩;have hf:=zJ (w:=w) (t:=t) bO.2.1 (es:=[]) (arr:=#[]) rfl n;have MQ:(Instr.findKey ia (g_ n) []).run P w=.ok none w:=hf;simp[Instr.lookup,run_underlying bO.1.1,h1,vf bO.2.1,MQ,fg,kJ,Result.andThen]
  ·have hf:=zJ (w:=w) bO.2.1 h3 n;have hg:=aiT n es 0;cases ha:lC es n 0 with
   |none=>
    rw[ha] at hf hg;have hg:kJ es n=none:=hg.symm;obtain⟨z,fg,z2⟩:=hz2 hg;refine⟨z,?_,z2⟩;simp[Instr.lookup,run_underlying bO.1.1,h1,MapKept.run_getObj_map h2,vf bO.2.1,hf,fg,hg,Result.andThen]
   |some p=>
    rw[ha] at hf hg;have hg:kJ es n=some p.2:=hg.symm;refine⟨nR t p.2,?_,hz1 p.2 hg⟩;simp[Instr.lookup,run_underlying bO.1.1,h1,MapKept.run_getObj_map h2,vf bO.2.1,hf,hg,Result.andThen]
 obtain⟨v,r1,r2⟩:=main;refine dS S Z (vv:=if c then .tuple #[v,.bool (kJ es n).isSome] else v) ?_ ?_
 ·unfold execOp;simp only[aM,Sem.run_bind,r1,Result.andThen_ok,Sem.run_pure]
 ·cases c with
  |true=>
   refine⟨[v,.bool (kJ es n).isSome],rfl,rfl,fun j g1 g2=>?_⟩
   match j,g1 with
   |0,_=>exact r2 _
   |1,_=>exact bK.bool _
  |false=>exact r2 _
theorem ag6(S:ar U Y X F st M w){C:Ctx}(H:CtxOk P C)(Z:cr st D.dst=true):Holds (lv C st D) (cN P U Y X st M w D):=by
 unfold lv;split
 ·rename_i t r aM;split
  ·rename_i o ia lg ty dI bk;have bO:=H.tt t;rw[bk] at bO;split
   ·exact Holds.fH (PF S aM dI Z bO.1.1 (fun x h=>by cases h))
   ·rename_i x;split
    ·rename_i k n hx;refine Holds.fH (PF S aM dI Z bO.1.1 (fun y h=>?_))
     cases h;have ex:=dH S C 0 x;rw[hx] at ex;exact⟨k,n,iE ex⟩
    ·exact .fail
  ·exact .fail
 ·rename_i t m k x aM;exact QQ S H (.inl aM) Z
 ·rename_i t m k x aM;exact QQ S H (.inr aM) Z
 ·rename_i t m k c aM;split
  ·rename_i ia lg ty l n bk hm hk;split
   ·rename_i u es MR;cases hu:decide (u=ty) with
    |false=>exact .fail
    |true=>
     have hu:=of_decide_eq_true hu;subst hu;simp only[cond_true];split
     ·rename_i d MS;exact Holds.ok (aiW S H aM Z bk hm hk MR MS)
     ·exact .fail
   ·exact .fail
  ·exact .fail
 ·rename_i t x aM;split
  ·rename_i bR q z e n bk hx;exact Holds.ok (aeb S H aM Z bk hx)
  ·exact .fail
 ·exact .fail
end
theorem nY{P:Program}{e:TypeId}{t:bf}(h:I8 P e t):bd t=1/\(∃d z,ju P e d z)/\∃l e0,uc t=some l/\x5 t=some e0/\cF (enc t e0)=[l]:=by
 cases t<;>first|exact h.elim|exact⟨rfl,⟨_,_,h⟩,_,_,rfl,rfl,rfl⟩
theorem PS{P:Program}{e:TypeId}{t:bf}{T:TypeId}(h:I8 P e t):t.j5=true->T=mN:=by intro aj;cases t<;>first|exact h.elim|cases aj
theorem Gb(t:bf)(x:den t)(xs:List (den t)):flat t (x::xs)=enc t x++flat t xs:=by simp[flat]
theorem I7(a b:List bh):cF (a++b)=cF a++cF b:=by simp[cF]
theorem T7{t:bf}{z:den t}(hz:x5 t=some z)(xs:List (den t)):Dn t xs xs.length=cF (flat t xs):=by
 unfold Dn;rw[hz];suffices h:∀(bj zs:List (den t)),xs=zs++bj->((List.range' zs.length bj.length).flatMap fun j=>cF (enc t (xs.getD j z)))=cF (flat t bj) by
  have:=h xs [] rfl;rw[List.length_nil,<-List.range_eq_range'] at this;exact this
 intro bj;induction bj with
 |nil=>intro zs _;rfl
 |cons y bj ih=>
  intro zs hx;rw[List.length_cons,List.range'_succ,List.flatMap_cons,Gb,I7];have e1:xs.getD zs.length z=y:=by rw[hx];simp[List.getD]
  have e2:=ih (zs++[y]) (by rw[hx];simp)
  rw[List.length_append,List.length_singleton] at e2;rw[e1,e2]
theorem I4{t:bf}:∀{ai:List aQ} {xs:List (den t)},tY t ai=some xs->ai=cF (flat t xs):=by
 intro ai;induction ai with
 |nil=>intro xs h;cases h;rfl
 |cons l ai ih=>
  intro xs h;cases l<;>try(cases h;done)
  rename_i d;simp only[tY] at h;split at h
  ·rename_i x bj h1 h2;cases h;rw[Gb,I7,<-ih h2,Bw _ _ _ h1];rfl
  ·cases h
theorem vh{aJ:Type}{n:Nat}{xs bj:List aJ}(h:long n xs=some bj):bj=xs/\xs.length=n:=by
 unfold long at h;split at h
 ·cases h;exact⟨rfl,by assumption⟩
 ·cases h
section
variable {P:Program}{U:World}{Y:List Nat}{X:Nat->Prop}{F:Nat->Value}{st:al}{M:Array Value}{w:World}{D:Oper}
theorem ar.ld(S:ar U Y X F st M w):nM w/\∀b,b∈k4->¬aI X F st.sites b/\b<w.heap.size:=by
 have G:=S.fa;refine⟨aq6 (fun b hb=>S.frame.block b (G.lt b hb) (G.Y b hb)) G.ok,fun b hb=>⟨?_,Nat.lt_of_lt_of_le (G.lt b hb) S.frame.size⟩⟩
 rintro(h|⟨o,h1,h2⟩)
 ·exact G.X b hb h
 ·rcases(S.ct o b h1 h2).2 with h|h
  ·exact G.Y b hb h
  ·have:=G.lt b hb;omega
theorem aoZ{ds:List bh}{vs:List Value}{av:Nat->Prop}(h:c5 w av ds vs):∀u∈vs,u.oneCell'=true:=by
 intro u hu;obtain⟨j,hj,rfl⟩:=List.getElem_of_mem hu;exact(h.2 j (by rw[<-h.1];exact hj) hj).jM
theorem Ts(S:ar U Y X F st M w){T:TypeId}{o n:Nat}{t:bf}{xs:List (den t)}{vs:List Value}(he:bd t=1)(gO:t.j5=true->T=mN)(hv:c5 w (aI X F st.sites) (flat t xs) vs)(Z:cr st D.dst=true)
  (dy:(execOp (Act.eval ⟨M,[]⟩) D).run P w=.ok (.value (.pointer (some ⟨w.heap.size,0,none⟩))) (w.alloc (.cells vs.toArray T (0,0)))):Holds (rf o st t n xs) (cN P U Y X st M w D):=by
 unfold rf;cases hc:(xs.length.beq n&&Nat.ble n 1000) with
 |false=>exact .fail
 |true=>
  simp only[Bool.and_eq_true] at hc;have h1:=Nat.eq_of_beq_eq_true hc.1;have h2:=Nat.le_of_ble_eq_true hc.2;simp only[cond_true];have hl:vs.length=xs.length:=by rw[hv.1,e9,he,Nat.mul_one]
  have cm:=S.Ie (o:=o) (T:=T) (rest:=[]) (cap:=n) hv (by rw[he,hl,h1];simp) (by unfold maxLen;omega) gO
  rw[List.append_nil] at cm;refine Holds.fH (ln (us:=[(o,.row (bz st o) t xs)]) cm Z dy ?_);refine⟨w.heap.size,by simp,Ref.mk (af:=.row (bz st o) t xs) ?_ rfl ⟨xs.length,n,by simp⟩⟩
  simp only[bv,c9];simp
theorem ajo(S:ar U Y X F st M w){C:Ctx}(H:CtxOk P C){elem e:TypeId}{t:bf}{n o:Nat}(bk:C.tt elem=.arr e t n)(aM:D.op=.alloc elem)(Z:cr st D.dst=true):Holds (to o st t n) (cN P U Y X st M w D):=by
 have bO:=H.tt elem;rw[bk] at bO;obtain⟨_,_,mJ⟩:=id bO;obtain⟨he,_,l,e0,DW,nF,hzz⟩:=nY mJ;unfold to;rw[nF];obtain⟨v,hv,oD⟩:=cg.GG (w:=w) bO (z:=List.replicate n l) (by simp only[cg.zero,DW,Option.map_some])
 obtain⟨h1,h2,h3⟩:=u3 oD;have hr:c5 w (aI X F st.sites) (flat t (List.replicate n e0)) v.cells.toList:=by
  have:=h3 F st.sites w (aI X F st.sites);have e1:∀n,cF (flat t (List.replicate n e0))=List.replicate n l:=by
   intro n;induction n with
   |zero=>rfl
   |succ n ih=>rw[List.replicate_succ,Gb,I7,hzz,List.replicate_succ,ih];rfl
  refine jn (F:=F) (sites:=st.sites) ?_
  rw[e1];exact⟨h1,this⟩
 refine Ts (T:=elem) S he (PS mJ) hr Z ?_
 unfold execOp;simp[aM,Instr.alloc,hv,newVar,newRow]
theorem anG(S:ar U Y X F st M w){C:Ctx}(H:CtxOk P C){elem e:TypeId}{t:bf}{n o:Nat}{x:Operand}(bk:C.tt elem=.arr e t n)(aM:D.op=.box elem x)(Z:cr st D.dst=true):Holds (t_ o st t n (bg C st elem x)) (cN P U Y X st M w D):=by
 have bO:=H.tt elem;rw[bk] at bO;have he:=(nY bO.2.2).1;have bC:=dH S C elem x;unfold t_;split
 ·rename_i ai hx;rw[hx] at bC;split
  ·rename_i xs uh;obtain⟨vs,hv,hl,hr⟩:∃vs:List Value,Act.eval ⟨M,[]⟩ x=.agg vs.toArray/\vs.length=ai.length/\∀j (h:j<ai.length) (aj:j<vs.length),ea F st.sites w (aI X F st.sites) (ai[j]) (vs[j]):=bC;have pY:cA F st.sites w (aI X F st.sites) ai vs:=⟨hl,hr⟩;rw[I4 uh] at pY;refine Ts (T:=elem) S he (PS bO.2.2) (jn pY) Z ?_
   unfold execOp;simp[aM,Instr.box,newVar,newRow,hv,Value.cells]
  ·exact .fail
 ·exact .fail
theorem ar.arr(S:ar U Y X F st M w){o s:Nat}{t:bf}{xs:List (den t)}{v:Value}(hr:rowOf st o s=some ⟨t,xs⟩)(hv:ea F st.sites w (aI X F st.sites) (.e5 o s t 0 0) v):
  ∃b c,∃cs:List Value,v=.pointer (some ⟨b,0,none⟩)/\F o=.slice (some ⟨b,0,none⟩) xs.length c/\ii w b 0 cs/\c5 w (aI X F st.sites) (flat t xs) cs:=by
 obtain⟨cs,hl,hcell⟩:=S.row hr;obtain⟨af,ix,lV⟩:∃af,look st.sites o=some af/\af.cy=s:=by
  rcases kd hr with h|h<;>exact⟨_,h,rfl⟩
 obtain⟨b,hv,w3⟩:=hv;obtain⟨n,c,cV⟩:=Ref.at w3 ix lV;rcases hcell with⟨rm,_⟩|⟨bH,fu,kr,hcs,_⟩
 ·rw[cV] at rm;cases rm
 ·rw[cV] at kr;cases kr;exact⟨b,c,cs,by simpa using hv,cV,hcs,jn hl⟩
theorem akV(S:ar U Y X F st M w){C:Ctx}(H:CtxOk P C){T e:TypeId}{t:bf}{n:Nat}{x:Operand}(bk:C.tt T=.arr e t n)(aM:D.op=.load T x)(Z:cr st D.dst=true):Holds (tB st t n (bg C st T x)) (cN P U Y X st M w D):=by
 have bO:=H.tt T;rw[bk] at bO;obtain⟨he,_,_,e0,_,nF,_⟩:=nY bO.2.2;have bC:=dH S C T x;unfold tB;split
 ·rename_i o s u hx;rw[hx] at bC;split
  ·rename_i bo xs hrow;split
   ·rename_i jz;obtain⟨rfl,rfl⟩:=jz;refine Holds.ey fun y hy=>?_
    obtain⟨rfl,hlen⟩:=vh (hy:long n xs=some y);obtain⟨b,c,cs,hv,_,hc,hr⟩:=S.arr hrow bC;have hcl:cs.length=n:=by rw[hr.1,e9,he,hlen,Nat.mul_one]
    refine dS S Z (vv:=.agg cs.toArray) ?_ ?_
    ·have dy:=uZ (P:=P) (w:=w) bO (by rintro h;cases h) ⟨b,0,none⟩ cs hcl (fun j u hu=>by rw[gW];exact hc j u hu)
     unfold execOp;simp only[aM,Instr.loadAt,Instr.sureAddr,hv,Sem.run_bind,Sem.run_pure,Result.andThen_ok,dy];rfl
    ·subst hlen;have:=hQ (F:=F) (sites:=st.sites) hr.1 hr.2;rw[<-T7 nF] at this;exact⟨cs,rfl,this.1,this.2⟩
   ·exact .fail
  ·exact .fail
 ·exact .fail
theorem ahZ(S:ar U Y X F st M w){C:Ctx}(H:CtxOk P C){T e:TypeId}{t:bf}{n:Nat}{a x:Operand}{v:bS}(bk:C.tt T=.arr e t n)(aM:D.op=.store T a x)(Z:cr st D.dst=true)(hv:my (bg C st T x)=some v):
  Holds (s7 st t n (bg C st T a) v) (cN P U Y X st M w D):=by
 have bO:=H.tt T;rw[bk] at bO;have he:=(nY bO.2.2).1;have rM:=dH S C T a;have hex:=dH S C T x;rw[qw hv] at hex;unfold s7;split
 ·rename_i o s u ai hx;rw[hx] at rM;split
  ·rename_i aN bo xs gJ;have gJ:look st.sites o=some (.row aN bo xs):=gJ;split
   ·rename_i jz;obtain⟨rfl,rfl,rfl⟩:=jz;split
    ·rename_i bj axq;cases hc:bj.length.beq n with
     |false=>exact .fail
     |true=>
      have DX:=Nat.eq_of_beq_eq_true hc;refine Holds.hV fun r hr=>?_
      obtain⟨_,hlen⟩:=vh (hr:long n xs=some r);obtain⟨vs,xE,hl,dV⟩:∃vs:List Value,Act.eval ⟨M,[]⟩ x=.agg vs.toArray/\vs.length=ai.length/\∀j (h:j<ai.length) (aj:j<vs.length),ea F st.sites w (aI X F st.sites) (ai[j]) (vs[j]):=hex;have pY:cA F st.sites w (aI X F st.sites) ai vs:=⟨hl,dV⟩;rw[I4 axq] at pY;have un:=jn pY;have mE:vs.length=n:=by rw[un.1,e9,he,DX,Nat.mul_one]
      obtain⟨b,D3,w3⟩:=rM;obtain⟨m,c,cV⟩:=Ref.at w3 gJ rfl;obtain⟨cI,cs,lN,hcs⟩:=S.sites o _ gJ;rcases lN.2 with⟨hn,_⟩|⟨g,cap,cur,fz,oL,hz,hg,hnc,hcm,kS,htk⟩
      ·rw[cV] at hn;cases hn
      ·rw[cV] at oL;cases oL;have ax3:cur.size=c:=by rw[kS,he,Nat.mul_one]
       have lO:0+vs.length<=cur.toList.length:=by
        have:cur.toList.length=cur.size:=Array.length_toList;omega
       have cm:ar U Y X F {st with sites:=cw st.sites o (.row aN bo bj)} M (w.setRow b (bP cur.toList 0 vs).toArray):=by
        refine S.write gJ rfl rfl rfl (by rw[cV];rfl) hg (fun hs hw hg' go=>?_)
        refine⟨cI,vs,⟨by rw[he,DX,Nat.mul_one];exact mE,.inr ⟨b,c,_,fz,by rw[cV,hlen,DX],?_,hg',by omega,hcm,?_,?_⟩⟩,fun j g1 g2=>px go (un.2 j g1 g2)⟩
        ·refine⟨hz.1,hz.2.imp id fun h=>⟨h.1,?_⟩⟩
         rw[List.size_toArray,sq _ _ _ lO];simpa using h.2
        ·rw[List.size_toArray,sq _ _ _ lO,Array.length_toList,ax3,he,Nat.mul_one]
        ·rw[he,Nat.mul_one,DX,<-mE];simp[bP]
       refine yA (us:=[(o,.row aN bo bj)]) cm Z ?_
       have dy:=Ou (P:=P) (w:=w) bO (by rintro h;cases h) (vv:=.agg vs.toArray) (cur:=cur.toList) (off:=0) (by simpa using hg) (by simpa using hz) (by simpa[Value.cells,cg.size] using mE) (by simpa[Value.cells] using lO) (by simpa[Value.cells] using aoZ un)
       unfold execOp;simp only[aM,D3,xE,Instr.storeAt,Instr.sureAddr,Sem.run_bind,Sem.run_pure,Result.andThen_ok,Nat.zero_mul,Nat.zero_add,dy];simp[Value.cells]
    ·exact .fail
   ·exact .fail
  ·exact .fail
 ·exact .fail
theorem aeH(S:ar U Y X F st M w){C:Ctx}(H:CtxOk P C){T e:TypeId}{t:bf}{m:Nat}{x i:Operand}{k:IntKind}{n:Int}(bk:C.tt T=.arr e t m)(hi:bg C st 0 i=.av (.am (.d (.int k n))))(aM:D.op=.indexAddr T x i)(Z:cr st D.dst=true):
  Holds (sx C st t m (bg C st T x) n) (cN P U Y X st M w D):=by
 have bO:=H.tt T;rw[bk] at bO;obtain⟨fG,_,mJ⟩:=bO;obtain⟨he,⟨d,z0,nK⟩,_⟩:=nY mJ;have w1:=ki S hi;have bC:=dH S C T x;obtain⟨inf,kR,jZ⟩:∃inf,P.info? e=some inf/\inf.size=1:=by
  have:=nK.2.2.2;cases az:P.info? e with
  |none=>simp[az] at this
  |some i=>simp only[az,Option.map_some,Option.some.injEq,Prod.mk.injEq] at this;exact⟨i,rfl,this.1⟩
 have run:∀{b:Nat},Act.eval ⟨M,[]⟩ x=.pointer (some ⟨b,0,none⟩)->0<=n->n<m->(execOp (Act.eval ⟨M,[]⟩) D).run P w=.ok (.value (.pointer (some ⟨b,n.toNat,none⟩))) w:=by
  intro b hx h0 h1;unfold execOp;simp[aM,hx,w1,Instr.indexAt,Instr.sureAddr,asIntOf,run_underlying fG,h0,h1,sizeOf,ll kR,jZ,gW]
 unfold sx;split
 ·rename_i o s u hx;rw[hx] at bC;split
  ·rename_i bo xs hrow;split
   ·rename_i jz;obtain⟨rfl,rfl⟩:=jz;refine Holds.ey fun y hy=>?_
    obtain⟨zs,hz1,hz2⟩:=Option.bind_eq_some_iff.1 (hy:(long m xs).bind (fun xs=>be xs.length n)=some y)
    obtain⟨rfl,hlen⟩:=vh hz1;unfold be at hz2;split at hz2
    ·rename_i hb;cases hz2;obtain⟨b,c,cs,hv,cV,_⟩:=S.arr hrow bC;refine dS S Z (run hv hb.1 (by rw[<-hlen];exact hb.2)) ⟨b,?_,?_⟩
     ·rw[he,Nat.mul_one,Nat.add_zero]
     ·rcases kd hrow with h|h<;>exact Ref.mk h rfl ⟨_,_,cV⟩
    ·cases hz2
   ·exact .fail
  ·exact .fail
 ·rename_i g hx;rw[hx] at bC;split
  ·rename_i bo xs rL;cases hc:(decide (bo=t)&&xs.length.beq m) with
   |false=>exact .fail
   |true=>
    simp only[Bool.and_eq_true,decide_eq_true_eq] at hc;obtain⟨rfl,hlen⟩:=hc;have hlen:=Nat.eq_of_beq_eq_true hlen;refine Holds.ey fun y hy=>?_
    have eb:aO xs n=some y:=hy;unfold aO at eb;split at eb
    ·rename_i h0;have hlt:n.toNat<xs.length:=by
      rcases Nat.lt_or_ge n.toNat xs.length with h|h
      ·exact h
      ·rw[List.getElem?_eq_none h] at eb;cases eb
     obtain⟨acg,uy⟩:=H.gt g _ _ rL;obtain⟨fI,cc⟩:=S.ld;obtain⟨gE,fz',cs,hg,dV⟩:=uy w (aI X F st.sites) fI;have hv:Act.eval ⟨M,[]⟩ x=.pointer (some ⟨g,0,none⟩):=bC;refine dS S Z (run hv h0 (by omega)) ⟨g,n.toNat,rfl,(cc g acg).1,(cc g acg).2,(cs.drop n.toNat).take 1,?_,fun j u hu=>?_,?_⟩
     ·have:cs.length=xs.length:=by rw[dV.1,e9,he,Nat.mul_one]
      rw[jj,he];simp;omega
     ·exact(((ii.row hg).drop n.toNat).take 1) j u hu|>fun h=>by simpa using h
     ·have hs:=u' bo xs n.toNat y eb;rw[he,Nat.mul_one] at hs;have nx:c5 w (aI X F st.sites) (flat bo xs) cs:=dV;have aq4:=hQ (F:=F) (sites:=st.sites) nx.1 nx.2;have h2:=jn (ds:=((flat bo xs).drop n.toNat).take 1) (by
       have:=(aq4.drop n.toNat).take 1;simpa[cF,List.map_drop,List.map_take] using this)
      rw[hs] at h2;exact h2.2
    ·cases eb
  ·exact .fail
 ·exact .fail
theorem ai4(S:ar U Y X F st M w){C:Ctx}(H:CtxOk P C){T e:TypeId}{t:bf}{m:Nat}{x i:Operand}{k:IntKind}{n:Int}(bk:C.tt T=.arr e t m)(hi:bg C st 0 i=.av (.am (.d (.int k n))))(aM:D.op=.index T x i)(Z:cr st D.dst=true):
  Holds (JN t m (bg C st T x) n) (cN P U Y X st M w D):=by
 have bO:=H.tt T;rw[bk] at bO;obtain⟨fG,_,mJ⟩:=bO;obtain⟨he,⟨d,z0,nK⟩,_⟩:=nY mJ;have w1:=ki S hi;have bC:=dH S C T x;obtain⟨inf,kR,jZ⟩:∃inf,P.info? e=some inf/\inf.size=1:=by
  have:=nK.2.2.2;cases az:P.info? e with
  |none=>simp[az] at this
  |some i=>simp only[az,Option.map_some,Option.some.injEq,Prod.mk.injEq] at this;exact⟨i,rfl,this.1⟩
 unfold JN;split
 ·rename_i ai hx;rw[hx] at bC;split
  ·rename_i xs uh;cases hc:xs.length.beq m with
   |false=>exact .fail
   |true=>
    have hlen:=Nat.eq_of_beq_eq_true hc;refine Holds.ey fun y hy=>?_
    have eb:aO xs n=some y:=hy;unfold aO at eb;split at eb
    ·rename_i h0;have hlt:n.toNat<xs.length:=by
      rcases Nat.lt_or_ge n.toNat xs.length with h|h
      ·exact h
      ·rw[List.getElem?_eq_none h] at eb;cases eb
     obtain⟨vs,hv,hl,hr⟩:∃vs:List Value,Act.eval ⟨M,[]⟩ x=.agg vs.toArray/\vs.length=ai.length/\∀j (h:j<ai.length) (aj:j<vs.length),ea F st.sites w (aI X F st.sites) (ai[j]) (vs[j]):=bC;have pY:cA F st.sites w (aI X F st.sites) ai vs:=⟨hl,hr⟩;rw[I4 uh] at pY;have un:=jn pY;have mE:vs.length=xs.length:=by rw[un.1,e9,he,Nat.mul_one]
     obtain⟨d1,hd1⟩:∃d1,enc t y=[d1]:=by
      have:=jj t y;rw[he] at this;match h:enc t y,this with
      |[d1],_=>exact⟨d1,rfl⟩
     simp only[hd1];have cQ:n.toNat<vs.length:=by omega
     refine dS S Z (vv:=vs[n.toNat]) ?_ ?_
     ·have La:(isAgg e).run P w=.ok false w:=by
       have h1:=nK.1;simp only[isAgg,Sem.run_bind,run_underlying h1,Result.andThen_ok];have g1:=nK.2.1;have g2:=nK.2.2.1;cases d<;>first|rfl|exact absurd rfl (g1 _)|exact absurd rfl (g2 _ _)
      have h1:n<(m:Int):=by omega
      unfold execOp;simp[aM,hv,w1,Instr.index,asIntOf,run_underlying fG,h0,h1,sizeOf,ll kR,jZ,part,La,cQ]
     ·have hs:=u' t xs n.toNat y eb;rw[he,Nat.mul_one,hd1] at hs;have p2:n.toNat<(flat t xs).length:=by rw[e9,he,Nat.mul_one];exact hlt
      have e1:(flat t xs)[n.toNat]=d1:=by
       have:=congrArg (fun l=>l[0]?) hs
       simp only[List.getElem?_take,List.getElem?_drop] at this;rw[if_pos (by decide),Nat.add_zero,List.getElem?_eq_getElem p2] at this
       simpa using this
      have:=un.2 n.toNat p2 cQ;rw[e1] at this;exact this
    ·cases eb
  ·exact .fail
 ·exact .fail
theorem ah3(S:ar U Y X F st M w){C:Ctx}(H:CtxOk P C){T e:TypeId}{t:bf}{m:Nat}{x:Operand}{cX hi:Option Operand}(bk:C.tt T=.arr e t m)(aM:D.op=.slice T x cX hi none)(Z:cr st D.dst=true):
  Holds (s_ st t m (bg C st T x) (cX.map (bg C st 0)) (hi.map (bg C st 0))) (cN P U Y X st M w D):=by
 have bO:=H.tt T;rw[bk] at bO;obtain⟨fG,_,mJ⟩:=bO;obtain⟨he,⟨d,z0,nK⟩,_⟩:=nY mJ;have bC:=dH S C T x;obtain⟨inf,kR,jZ⟩:∃inf,P.info? e=some inf/\inf.size=1:=by
  have:=nK.2.2.2;cases az:P.info? e with
  |none=>simp[az] at this
  |some i=>simp only[az,Option.map_some,Option.some.injEq,Prod.mk.injEq] at this;exact⟨i,rfl,this.1⟩
 have rl:∀{cX:Option Operand} {lQ l:Int},iU lQ (cX.map (bg C st 0))=some l->(cX.map (Act.eval ⟨M,[]⟩)=none/\l=lQ)\/∃k,cX.map (Act.eval ⟨M,[]⟩)=some (.int k l):=by
  intro cX lQ l h;rcases Sw S h with⟨rfl,aj⟩|⟨x,k,rfl,aj⟩
  ·exact .inl ⟨rfl,aj⟩
  ·exact .inr ⟨k,by simp[aj]⟩
 unfold s_;split
 ·rename_i o s u hx;rw[hx] at bC;split
  ·rename_i bo xs l h hrow gh hhi;split
   ·rename_i jz;obtain⟨rfl,rfl⟩:=jz;refine Holds.hV fun r hr=>?_
    obtain⟨zs,hz1,hz2⟩:=Option.bind_eq_some_iff.1 (hr:(long m xs).bind (fun xs=>bm xs l h)=some r)
    obtain⟨rfl,hlen⟩:=vh hz1;unfold bm at hz2;split at hz2
    ·rename_i hb;obtain⟨h0,h1,h2⟩:=hb;cases hz2;obtain⟨b,c,cs,hv,cV,_⟩:=S.arr hrow bC;refine Qo (us:=[(o,.dq s bo zs)]) (So hrow).symm ?_
     have hfz:dT st.sites [(o,.dq s bo zs)]:=by
      intro ab af hm;simp only[List.mem_singleton,Prod.mk.injEq] at hm;obtain⟨rfl,rfl⟩:=hm;exact⟨s,bo,zs,rfl,kd hrow⟩
     have aS:lk U Y X F st M w [(o,.dq s bo zs)]:=⟨S,hfz⟩;have MD:=EK hfz (List.mem_singleton.2 rfl);obtain⟨dV,WM⟩:=aS.new.sites o _ MD;rw[cV] at dV;generalize abX:Value.slice (some ⟨b,0,none⟩) zs.length c=v at dV;cases dV with
     |nil=>cases abX
     |sl _ _ a cap oP k hk hcap ec hl hc hr=>
      cases abX;have ax8:=Fe (P:=P) (w:=w) false m m (cX.map (Act.eval ⟨M,[]⟩)) (hi.map (Act.eval ⟨M,[]⟩)) l h (rl gh) (rl hhi) h0 h1 (by omega) (Nat.le_refl _)
      refine ln (us:=[(o,.dq s bo zs)]) aS.new Z (vv:=.slice (if m=l.toNat then some ⟨b,0,none⟩ else(some (⟨b,0,none⟩:Addr)).map (·.add (l.toNat*bd bo))) (h.toNat-l.toNat) (m-l.toNat)) ?_ ?_
      ·unfold execOp;simp only[aM,Option.map_none,Sem.run_bind,Instr.sliceAt,run_underlying fG,Result.andThen_ok,hv,Instr.sureAddr,Sem.run_pure,ax8,sizeOf,ll kR,jZ,he];split<;>simp
      ·exact Ia ec ⟨hl,hr⟩ hc l.toNat h.toNat m (by omega) (by omega) (by omega)
    ·cases hz2
   ·exact .fail
  ·exact .fail
 ·exact .fail
theorem ajb{f g:Nat->Option (Nat×Nat)}(h:∀i p,f i=some p->g i=some p):∀(l:List (Nat×Value)) (cs oP:Array Value),Instr.fill f cs l=some oP->Instr.fill g cs l=some oP:=by
 intro l;induction l with
 |nil=>intro cs oP k;exact k
 |cons p l ih=>
  obtain⟨i,v⟩:=p;intro cs oP k;simp only[Instr.fill] at k ⊢;cases hf:f i with
  |none=>simp[hf] at k
  |some q=>
   obtain⟨off,size⟩:=q;rw[h i _ hf];rw[hf] at k;simp only at k ⊢;split at k
   ·cases k
   ·rename_i hn;rw[if_neg hn];exact ih _ _ k
theorem ajl(S:ar U Y X F st M w){C:Ctx}(H:CtxOk P C){T e:TypeId}{t:bf}{n:Nat}{z:aQ}{parts:Array (Nat×Operand)}(bk:C.tt T=.arr e t n)(hz:uc t=some z)(aM:D.op=.build T parts)(Z:cr st D.dst=true):
  Holds (step.ng C st ((List.range n).map fun j=>(j,1)) (List.replicate n z) parts.toList) (cN P U Y X st M w D):=by
 have bO:=H.tt T;rw[bk] at bO;obtain⟨fG,⟨gi,fg,kR,hz1,hzz⟩,mJ⟩:=bO;rw[hz] at hz1;cases hz1;obtain⟨he,⟨d,z0,nK⟩,_⟩:=nY mJ;obtain⟨aCG,axV,ats⟩:∃inf,P.info? e=some inf/\inf.size=1:=by
  have:=nK.2.2.2;cases az:P.info? e with
  |none=>simp[az] at this
  |some i=>simp only[az,Option.map_some,Option.some.injEq,Prod.mk.injEq] at this;exact⟨i,rfl,this.1⟩
 obtain⟨aE,aF,bJ⟩:=u3 hzz;intro y hy hc;obtain⟨g1,jP,g2,g3⟩:=Q' S parts.toList (List.replicate n z) gi ⟨aE,fun j h aj=>bJ _ _ _ _ j h aj⟩ y hy hc
 rw[g1];refine dS S Z (vv:=.agg jP) ?_ g3;cases hi:P.info? T with
 |none=>simp[hi] at kR
 |some it=>
  simp only[hi,Option.map_some,Option.some.injEq,Prod.mk.injEq] at kR;have hb:P.built T (parts.toList.map fun p=>(p.1,Act.eval ⟨M,[]⟩ p.2))=some jP:=by
   unfold Program.built;simp only[hi,fG,kR.2,axV,ats];refine ajb (fun i p hp=>?_) _ _ _ g2
   simp only[List.getElem?_toArray,List.getElem?_map,Option.map_eq_some_iff] at hp;obtain⟨a,ha,rfl⟩:=hp;have:=List.getElem?_eq_some_iff.1 ha;obtain⟨h1,h2⟩:=this;simp at h2;subst h2;simp
  have ec:P.built T (parts.map fun p=>(p.1,Act.eval ⟨M,[]⟩ p.2)).toList=some jP:=by simpa using hb
  unfold execOp;simp only[aM,Sem.run_bind,run_build w T _ jP ec,Result.andThen_ok,Sem.run_pure]
theorem afD(S:ar U Y X F st M w){C:Ctx}{x:Operand}{k:IntKind}{n:Int}{T d_:TypeId}(aM:D.op=.unOp .xor d_ x)(Z:cr st D.dst=true)(hc:bg C st T x=.av (.am (.d (.int k n)))):
  cN P U Y X st M w D (one (.int k (dl k (if k.signed then-1 else k.max) n))) []:=by
 refine dS S Z (vv:=.int k (dl k (if k.signed then-1 else k.max) n)) ?_ (.int _ _)
 unfold execOp;simp[aM,ki S hc,Op.unary,Op.intBits,dl]
end
def mq:Nat->Value:=fun _=>undef
def nn(w:World)(av:Nat->Prop)(l:aQ)(v:Value)(bs:List Nat):Prop:=
 match l with
 |.fresh t xs=>bs=(bQ v).toList/\∃e,∃cs:List Value,rowAt w t.j5 e (bd t) v xs.length cs/\c5 w av (flat t xs) cs
 |l=>bs=[]/\ea mq [] w av l v
def lI(w:World)(av:Nat->Prop):List aQ->List Value->List Nat->Prop
 |[],[],bs=>bs=[]
 |l::ai,v::vs,bs=>∃b1 b2,bs=b1++b2/\nn w av l v b1/\lI w av ai vs b2
 |_,_,_=>False
def C1(w:World)(av:Nat->Prop):bS->Value->List Nat->Prop
 |.am l,v,bs=>nn w av l v bs
 |.agg ai,v,bs=>∃vs:List Value,v=.agg vs.toArray/\lI w av ai vs bs
def lz(w:World)(av:Nat->Prop):List bS->List Value->List Nat->Prop
 |[],[],bs=>bs=[]
 |l::ai,v::vs,bs=>∃b1 b2,bs=b1++b2/\C1 w av l v b1/\lz w av ai vs b2
 |_,_,_=>False
def I9(w:World)(av:Nat->Prop)(b:Nat)(cells:List aQ)(bs:List Nat):Prop:=
 ∃T,∃cur:List Value,∃oQ,bs=b::oQ/\w.heap[b]? =some (.cells cur.toArray T (0,0))/\(∀u∈cur,u.oneCell'=true)/\nm cells T cur b/\lI w av cells cur oQ
def T9(w:World)(av:Nat->Prop):Arg->Value->List Nat->Prop
 |.av a,v,bs=>C1 w av a v bs
 |.fv cells,v,bs=>∃b,v=.pointer (some ⟨b,0,none⟩)/\I9 w av b cells bs
def jl(w:World)(av:Nat->Prop):List Arg->List Value->List Nat->Prop
 |[],[],bs=>bs=[]
 |l::ai,v::vs,bs=>∃b1 b2,bs=b1++b2/\T9 w av l v b1/\jl w av ai vs b2
 |_,_,_=>False
def dZ:List Arg->List Value->List Nat
 |.fv _::as,.pointer (some a)::vs=>a.block::dZ as vs
 |_::as,_::vs=>dZ as vs
 |_,_=>[]
def jp(w:World)(av:Nat->Prop):List Nat->List (List aQ)->List Nat->Prop
 |[],[],bs=>bs=[]
 |b::dG,cs::cR,bs=>∃b1 b2,bs=b1++b2/\I9 w av b cs b1/\jp w av dG cR b2
 |_,_,_=>False
def oi:List Value->Value
 |[v]=>v
 |vs=>.tuple vs.toArray
def Enters(P:Program)(g:FuncId)(vs:Array Value)(w:World)(R:Value->World->Prop):Prop:=
 ((callFunc g vs).run P w=.ok (.enter g vs) w/\Calls P g vs w fun|.returned v,w'=>R v w'|_,_=>False)\/(∃v w',(callFunc g vs).run P w=.ok (.value v) w'/\R v w')
def aB(P:Program)(g:FuncId)(S:aD):Prop:=
 ∀as y,(S as).comp=some y->∀(w:World) (X:Nat->Prop) (vs:List Value) (dB:List Nat),jl w (fun b=>X b\/b∈dB) as vs dB->dB.Nodup->(∀b,b∈dB->¬X b)->(∀b,X b->b<w.heap.size)->iQ w dB X->
  Enters P g vs.toArray w fun v w'=>∃ev eu rv,Fr dB w w'/\jp w' (fun b=>X b\/b∈ev++eu) (dZ as vs) ((S as).fv y) ev/\lz w' (fun b=>X b\/b∈ev++eu) ((S as).fp y) rv eu/\
   v=oi rv/\(ev++eu).Nodup/\∀b,b∈ev++eu->¬X b/\(b∈dB\/w.heap.size<=b)
section
variable {U:World}{Y:List Nat}{X:Nat->Prop}{F:Nat->Value}{st:al}{M:Array Value}{w:World}
theorem ck.hh{sites:List (Nat×Site)}{av cl:Nat->Prop}(h:∀b,cl b->av b)(hlt:∀b,cl b->b<w.heap.size){a:a7}{v:Value}(k:ck F sites w av a v):ck F sites w cl a v:=by
 have G:ir F F sites sites w w av cl:=⟨fun o af hs=>⟨af,hs,Nat.le_refl _,fun _=>rfl⟩,fun _ _ _=>rfl,fun b hb _ aj=>hb (h b aj)⟩
 exact k.goes G (Nat.le_refl _) hlt
theorem kj.hh{sites:List (Nat×Site)}{av cl:Nat->Prop}(h:∀b,cl b->av b)(hlt:∀b,cl b->b<w.heap.size){o:Nat}{af:Site}(k:kj F sites w av o af):kj F sites w cl o af:=by
 have G:ir F F sites sites w w av cl:=⟨fun o af hs=>⟨af,hs,Nat.le_refl _,fun _=>rfl⟩,fun _ _ _=>rfl,fun b hb _ aj=>hb (h b aj)⟩
 exact k.goes G (Nat.le_refl _) hlt rfl (fun _ _ _=>rfl)
theorem ar.lt(S:ar U Y X F st M w){b:Nat}(h:aI X F st.sites b):b<w.heap.size:=by
 rcases h with h|⟨o,h1,h2⟩
 ·exact S.old b h
 ·exact S.fL h1 h2
theorem ar.shrink(S:ar U Y X F st M w){X':Nat->Prop}(h:∀b,X' b->X b):ar U Y X' F st M w:=by
 have cc:∀b,aI X' F st.sites b->aI X F st.sites b:=by
  rintro b (hb|hb)
  ·exact .inl (h b hb)
  ·exact .inr hb
 have hlt:=fun b hb=>S.lt (cc b hb)
 exact⟨S.nt,fun t=>(S.cO t).hh cc hlt,fun o af hs=>(S.sites o af hs).hh cc hlt,S.eg,fun o b h1 h2=>⟨fun hx=>(S.ct o b h1 h2).1 (h b hx),(S.ct o b h1 h2).2⟩,S.frame,fun b hb=>S.old b (h b hb),S.fa.less fun b _=>h b⟩
theorem ar.kill(S:ar U Y X F st M w){o:Nat}{af:Site}(hl:look st.sites o=some af)(ml:af.live=true):
  ar U Y (fun b=>X b\/bQ (F o)=some b) F {st with sites:=cw st.sites o (.dead af.cy)} M w:=by
 have cQ:∀ab,cq (cw st.sites o (.dead af.cy)) ab->ab≠o/\cq st.sites ab:=by
  rintro ab ⟨s,h1,h2⟩;rw[c9] at h1;by_cases e:o=ab
  ·subst e;simp at h1;subst h1;cases h2
  ·simp only[e,if_false] at h1;exact⟨fun h=>e h.symm,s,h1,h2⟩
 have cc:∀b,aI (fun b=>X b\/bQ (F o)=some b) F (cw st.sites o (.dead af.cy)) b->aI X F st.sites b:=by
  rintro b ((h|h)|⟨ab,h1,h2⟩)
  ·exact .inl h
  ·exact .inr ⟨o,⟨af,hl,ml⟩,h⟩
  ·exact .inr ⟨ab,(cQ ab h1).2,h2⟩
 have hlt:=fun b hb=>S.lt (cc b hb)
 have cm:ar U Y X F {st with sites:=cw st.sites o (.dead af.cy)} M w:=by
  have w5:∀b,aI X F (cw st.sites o (.dead af.cy)) b->aI X F st.sites b:=by
   rintro b (h|⟨ab,h1,h2⟩)
   ·exact .inl h
   ·exact .inr ⟨ab,(cQ ab h1).2,h2⟩
  refine S.ra (fun ab s hs=>?_) (fun _ _ _=>rfl) (fun b hb _ aj=>hb (w5 b aj)) (fun go ab s hs=>?_) (fun ab ρ b h1 h2 g1 g2=>S.eg ab ρ b (cQ ab h1).2 (cQ ρ h2).2 g1 g2) (fun ab b h1 h2=>S.ct ab b (cQ ab h1).2 h2)
   (fun ab b h1 h2=>S.fL (cQ ab h1).2 h2) S.frame (Nat.le_refl _)
  ·rw[c9];by_cases e:o=ab
   ·subst e;rw[hl] at hs;cases hs;exact⟨.dead af.cy,by simp,Nat.le_refl _,fun _=>rfl⟩
   ·exact⟨s,by simp[e,hs],Nat.le_refl _,fun _=>rfl⟩
  ·rw[c9] at hs;by_cases e:o=ab
   ·simp only[e,if_true,Option.some.injEq] at hs;subst hs;exact .inr trivial
   ·simp only[e,if_false] at hs;exact .inl ⟨hs,rfl,fun _ _ _=>rfl⟩
 refine⟨cm.nt,fun t=>?_,fun ab s hs=>?_,cm.eg,fun ab b h1 h2=>⟨?_,(cm.ct ab b h1 h2).2⟩,cm.frame,?_,S.fa.less fun b hb hx=>hx.elim id fun e=>absurd (.inr ⟨o,⟨af,hl,ml⟩,e⟩) (S.ld.2 b hb).1⟩
 ·have G:ir F F st.sites (cw st.sites o (.dead af.cy)) w w (aI X F st.sites) (aI (fun b=>X b\/bQ (F o)=some b) F (cw st.sites o (.dead af.cy))):=
   ⟨fun ab s hs=>by
    rw[c9];by_cases e:o=ab
    ·subst e;rw[hl] at hs;cases hs;exact⟨.dead af.cy,by simp,Nat.le_refl _,fun _=>rfl⟩
    ·exact⟨s,by simp[e,hs],Nat.le_refl _,fun _=>rfl⟩,fun _ _ _=>rfl,fun b hb _ aj=>hb (cc b aj)⟩
  exact(S.cO t).goes G (Nat.le_refl _) hlt
 ·have fS:look (cw st.sites o (.dead af.cy)) ab=some s:=hs;rw[c9] at fS;by_cases e:o=ab
  ·simp only[e,if_true,Option.some.injEq] at fS;subst fS;trivial
  ·simp only[e,if_false] at fS;have G:ir F F st.sites (cw st.sites o (.dead af.cy)) w w (aI X F st.sites) (aI (fun b=>X b\/bQ (F o)=some b) F (cw st.sites o (.dead af.cy))):=
    ⟨fun ab s hs=>by
     rw[c9];by_cases e:o=ab
     ·subst e;rw[hl] at hs;cases hs;exact⟨.dead af.cy,by simp,Nat.le_refl _,fun _=>rfl⟩
     ·exact⟨s,by simp[e,hs],Nat.le_refl _,fun _=>rfl⟩,fun _ _ _=>rfl,fun b hb _ aj=>hb (cc b aj)⟩
   exact(S.sites ab s fS).goes G (Nat.le_refl _) hlt rfl (fun _ _ _=>rfl)
 ·rintro(hx|hx)
  ·exact(cm.ct ab b h1 h2).1 hx
  ·exact(cQ ab h1).1 (S.eg ab o b (cQ ab h1).2 ⟨af,hl,ml⟩ h2 hx)
 ·rintro b (hb|hb)
  ·exact S.old b hb
  ·exact S.fL ⟨af,hl,ml⟩ hb
theorem ar.jump(S:ar U Y X F st M w){w':World}(h:∀b,¬X b->b<w.heap.size->w'.heap[b]? =w.heap[b]?)(hs:w.heap.size<=w'.heap.size)(hf:Fr Y U w'):
  ar U Y (fun b=>X b\/(w.heap.size<=b/\b<w'.heap.size)) F st M w':=by
 have hlt:∀b,aI (fun b=>X b\/(w.heap.size<=b/\b<w'.heap.size)) F st.sites b->b<w'.heap.size:=by
  rintro b ((hb|hb)|⟨ab,h1,h2⟩)
  ·exact Nat.lt_of_lt_of_le (S.old b hb) hs
  ·exact hb.2
  ·exact Nat.lt_of_lt_of_le (S.fL h1 h2) hs
 have G:ir F F st.sites st.sites w w' (aI X F st.sites) (aI (fun b=>X b\/(w.heap.size<=b/\b<w'.heap.size)) F st.sites):=
  ⟨fun ab s h=>⟨s,h,Nat.le_refl _,fun _=>rfl⟩,fun b hb ec=>h b (fun hx=>hb (.inl hx)) ec,fun b hb ec aj=>by
   rcases aj with(aj|aj)|aj
   ·exact hb (.inl aj)
   ·omega
   ·exact hb (.inr aj)⟩
 refine⟨S.nt,fun t=>(S.cO t).goes G hs hlt,fun o s h1=>(S.sites o s h1).goes G hs hlt rfl (fun hl b hb=>?_),S.eg,fun o b h1 h2=>⟨?_,(S.ct o b h1 h2).2⟩,hf,?_,S.fa.less fun b hb hx=>hx.elim id fun e=>absurd (S.ld.2 b hb).2 (by omega)⟩
 ·exact h b (S.ct o b ⟨s,h1,hl⟩ hb).1 (S.fL ⟨s,h1,hl⟩ hb)
 ·rintro(hx|hx)
  ·exact(S.ct o b h1 h2).1 hx
  ·have:=S.fL h1 h2;omega
 ·rintro b (hb|hb)
  ·exact Nat.lt_of_lt_of_le (S.old b hb) hs
  ·exact hb.2
theorem ar.wM(S:ar U Y X F st M w){X':Nat->Prop}{n:Nat}{bZ:Site}{nv:Value}(gD:∀b,X' b->X b)
  (dU:(∀af,look st.sites n=some af->af.cy<bZ.cy)\/(F n=nv/\∀af,look st.sites n=some af->af.cy=bZ.cy/\af.live=false))
  (hb:∀b,bQ nv=some b->X b/\¬X' b/\(b∈Y\/U.heap.size<=b))
  (fI:∀{bY:List (Nat×Site)} {aY:Nat->Value},bY=cw st.sites n bZ->aY n=nv->(∀{a v},ck F st.sites w (aI X F st.sites) a v->ck aY bY w (aI X' aY bY) a v)->
   (∀b,aI X' aY bY b->aI X F st.sites b)->kj aY bY w (aI X' aY bY) n bZ):
  ar U Y X' (fun ab=>if ab=n then nv else F ab) {st with sites:=cw st.sites n bZ} M w/\
   (∀b,aI X' (fun ab=>if ab=n then nv else F ab) (cw st.sites n bZ) b->aI X F st.sites b)/\
   (∀{a v},ck F st.sites w (aI X F st.sites) a v->ck (fun ab=>if ab=n then nv else F ab) (cw st.sites n bZ) w (aI X' (fun ab=>if ab=n then nv else F ab) (cw st.sites n bZ)) a v):=by
 have cQ:∀ab,cq (cw st.sites n bZ) ab->ab=n\/(ab≠n/\cq st.sites ab):=by
  rintro ab ⟨s,h1,h2⟩;rw[c9] at h1;by_cases e:n=ab
  ·exact .inl e.symm
  ·simp only[e,if_false] at h1;exact .inr ⟨fun h=>e h.symm,s,h1,h2⟩
 have cc:∀b,aI X' (fun ab=>if ab=n then nv else F ab) (cw st.sites n bZ) b->aI X F st.sites b:=by
  rintro b (h|⟨ab,h1,h2⟩)
  ·exact .inl (gD b h)
  ·rcases cQ ab h1 with rfl|⟨h3,aA⟩
   ·simp at h2;exact .inl (hb b h2).1
   ·simp only[h3,if_false] at h2;exact .inr ⟨ab,aA,h2⟩
 have rj:∀o af,look st.sites o=some af->∃aN,look (cw st.sites n bZ) o=some aN/\af.cy<=aN.cy/\(aN.cy=af.cy->(fun ab=>if ab=n then nv else F ab) o=F o):=by
  intro ab s hs;rw[c9];by_cases e:n=ab
  ·subst e;refine⟨bZ,by simp,?_,fun h=>?_⟩
   ·rcases dU with h|⟨_,h⟩
    ·exact Nat.le_of_lt (h s hs)
    ·exact Nat.le_of_eq (h s hs).1
   ·rcases dU with aj|⟨aj,_⟩
    ·have:=aj s hs;omega
    ·simp[aj]
  ·have cI:¬ab=n:=fun h=>e h.symm
   exact⟨s,by simp[e,hs],Nat.le_refl _,fun _=>by simp[cI]⟩
 have G:ir F (fun ab=>if ab=n then nv else F ab) st.sites (cw st.sites n bZ) w w (aI X F st.sites) (aI X' (fun ab=>if ab=n then nv else F ab) (cw st.sites n bZ)):=
  ⟨rj,fun _ _ _=>rfl,fun b hb _ aj=>hb (cc b aj)⟩
 have hlt:=fun b hb=>S.lt (cc b hb)
 refine⟨⟨S.nt,fun t=>(S.cO t).goes G (Nat.le_refl _) hlt,fun ab s hs=>?_,fun ab ρ b h1 h2 g1 g2=>?_,fun ab b h1 h2=>?_,S.frame,fun b h=>S.old b (gD b h),S.fa.less fun b _=>gD b⟩,cc,fun h=>h.goes G (Nat.le_refl _) hlt⟩
 ·have fS:look (cw st.sites n bZ) ab=some s:=hs;rw[c9] at fS;by_cases e:n=ab
  ·subst e;simp only[if_true,Option.some.injEq] at fS;subst fS;exact fI rfl (by simp) (fun h=>h.goes G (Nat.le_refl _) hlt) cc
  ·have cI:¬ab=n:=fun h=>e h.symm
   simp only[e,if_false] at fS;exact(S.sites ab s fS).goes G (Nat.le_refl _) hlt (by simp[cI]) (fun _ _ _=>rfl)
 ·rcases cQ ab h1 with rfl|⟨n1,dP⟩<;>rcases cQ ρ h2 with rfl|⟨n2,fC⟩
  ·rfl
  ·simp only[if_true] at g1;simp only[n2,if_false] at g2;exact absurd (hb b g1).1 (S.ct ρ b fC g2).1
  ·simp only[if_true] at g2;simp only[n1,if_false] at g1;exact absurd (hb b g2).1 (S.ct ab b dP g1).1
  ·simp only[n1,if_false] at g1;simp only[n2,if_false] at g2;exact S.eg ab ρ b dP fC g1 g2
 ·rcases cQ ab h1 with rfl|⟨n1,dP⟩
  ·simp only[if_true] at h2;exact⟨(hb b h2).2.1,(hb b h2).2.2⟩
  ·simp only[n1,if_false] at h2;exact⟨fun hx=>(S.ct ab b dP h2).1 (gD b hx),(S.ct ab b dP h2).2⟩
end
def kL(w:World)(av:Nat->Prop):List (List bh)->List Value->Prop
 |[],[]=>True
 |ds::r,v::vs=>(∃b,∃cs:List Value,v=.pointer (some ⟨b,0,none⟩)/\¬av b/\b<w.heap.size/\ii w b 0 cs/\c5 w av ds cs)/\kL w av r vs
 |_,_=>False
theorem kL.fn{w:World}{av:Nat->Prop}{g:FuncId}:∀{bE:List (List bh)} {vs:List Value},kL w av bE vs->bK w av (.fn g bE) (.func (.func g) #[] vs.toArray):=by
 intro bE vs h;have key:∀{bE:List (List bh)} {vs:List Value},kL w av bE vs->∃nT:List Nat,∃fc:List (List Value),vs=nT.map (fun b=>Value.pointer (some ⟨b,0,none⟩))/\nT.length=bE.length/\fc.length=bE.length/\
   (∀b,b∈nT->¬av b/\b<w.heap.size)/\(∀i (h:i<nT.length) (aj:i<fc.length),ii w nT[i] 0 fc[i])/\(∀i (h:i<bE.length) (aj:i<fc.length),c5 w av bE[i] fc[i]):=by
  intro bE;induction bE with
  |nil=>
   intro vs h;match vs,h with
   |[],_=>exact⟨[],[],rfl,rfl,rfl,fun b h=>by simp at h,fun i h=>by simp at h,fun i h=>by simp at h⟩
  |cons ds bE ih=>
   intro vs h;match vs,h with
   |v::vs,⟨⟨b,cs,h1,h2,h3,aA,bl⟩,ca⟩=>
    obtain⟨nT,fc,aE,aF,bJ,cL,fV,iB⟩:=ih ca;refine⟨b::nT,cs::fc,by simp[h1,aE],by simp[aF],by simp[bJ],fun c hc=>?_,fun i g1 g2=>?_,fun i g1 g2=>?_⟩
    ·rcases List.mem_cons.1 hc with rfl|hc
     ·exact⟨h2,h3⟩
     ·exact cL c hc
    ·cases i with
     |zero=>exact aA
     |succ i=>exact fV i (by simpa using g1) (by simpa using g2)
    ·cases i with
     |zero=>exact bl
     |succ i=>exact iB i (by simpa using g1) (by simpa using g2)
 obtain⟨nT,fc,aE,aF,bJ,cL,fV,iB⟩:=key h;refine .fn g bE nT (fun i=>fc.getD i []) _ (by rw[aE]) aF (fun b hb=>(cL b hb).1) (fun b hb=>(cL b hb).2) (fun i hi=>?_) (fun i hi j u hu=>?_) (fun i hi j h1 h2=>?_)
 ·have aj:i<fc.length:=by omega
  have:=(iB i hi aj).1;simpa[List.getD,aj] using this
 ·have aj:i<fc.length:=by omega
  have:=fV i hi aj j u (by simpa[List.getD,aj] using hu)
  simpa using this
 ·have aj:i<fc.length:=by omega
  have h2':j<fc[i].length:=by simpa[List.getD,aj] using h2
  have:=(iB i hi aj).2 j h1 h2';simpa[List.getD,aj] using this
theorem kL.Wl{w:World}{av:Nat->Prop}{g:FuncId}{bE:List (List bh)}{v:Value}(h:bK w av (.fn g bE) v):∃vs:List Value,v=.func (.func g) #[] vs.toArray/\kL w av bE vs:=by
 cases h with
 |fn _ _ bs jg lb hlb uA hb hlt hl hc hr=>
  refine⟨bs.map fun b=>Value.pointer (some ⟨b,0,none⟩),by rw[hlb],?_⟩
  have key:∀(bE:List (List bh)) (bs:List Nat) (jg:Nat->List Value),bs.length=bE.length->(∀b,b∈bs->¬av b/\b<w.heap.size)->(∀i (h:i<bE.length),(jg i).length=(bE[i]).length)->
    (∀i (h:i<bs.length) j u,(jg i)[j]? =some u->w.cell? ⟨bs[i],j,none⟩=some u)->(∀i (h:i<bE.length) j (h1:j<(bE[i]).length) (h2:j<(jg i).length),bK w av ((bE[i])[j]) ((jg i)[j]))->
    kL w av bE (bs.map fun b=>Value.pointer (some ⟨b,0,none⟩)):=by
   intro bE;induction bE with
   |nil=>intro bs jg h _ _ _ _;rw[List.eq_nil_of_length_eq_zero h];trivial
   |cons ds bE ih=>
    intro bs jg h h1 h2 h3 aA;match bs,h with
    |b::bs,h=>
     refine⟨⟨b,jg 0,rfl,(h1 b List.mem_cons_self).1,(h1 b List.mem_cons_self).2,fun j u hu=>?_,h2 0 (by simp),fun j g1 g2=>aA 0 (by simp) j g1 g2⟩,?_⟩
     ·have:=h3 0 (by simp) j u hu
      simpa using this
     ·exact ih bs (fun i=>jg (i+1)) (by simpa using h) (fun c hc=>h1 c (List.mem_cons_of_mem _ hc)) (fun i hi=>h2 (i+1) (by simpa using hi)) (fun i hi j u hu=>h3 (i+1) (by simpa using hi) j u hu)
       (fun i hi j g1 g2=>aA (i+1) (by simpa using hi) j g1 g2)
  exact key bE bs jg uA (fun b h=>⟨hb b h,hlt b h⟩) hl hc hr
section
variable {U:World}{Y:List Nat}{X:Nat->Prop}{F:Nat->Value}{st:al}{M:Array Value}{w:World}
structure fE(U:World)(Y:List Nat)(X:Nat->Prop)(F:Nat->Value)(st:al)(M:Array Value)(w:World)(dp:List (Nat×Site))(e7:List Nat)(av:Nat->Prop):Prop where
 fz:lk U Y X F st M w dp
 le:∀b,av b->aI X F (bv st.sites dp) b
 aAI:∀o,o∈e7->∀b,bQ (F o)=some b->¬av b
variable {dp:List (Nat×Site)}{e7:List Nat}{av:Nat->Prop}
theorem fE.lt(L:fE U Y X F st M w dp e7 av){b:Nat}(h:av b):b<w.heap.size:=L.fz.new.lt (L.le b h)
theorem fE.sub(L:fE U Y X F st M w dp e7 av){b:Nat}(h:av b):aI X F st.sites b:=by
 rcases L.le b h with h|⟨o,⟨af,h1,h2⟩,h3⟩
 ·exact .inl h
 ·refine .inr ⟨o,?_,h3⟩;rcases l5 L.fz.fz o with h|⟨s,t,xs,aA,bl⟩
  ·exact⟨af,h▸h1,h2⟩
  ·rw[bl] at h1;cases h1;cases h2
theorem fE.rd(L:fE U Y X F st M w dp e7 av){d:bh}{v:Value}(h:bK w (aI X F (bv st.sites dp)) d v):bK w av d v:=
 ck.hh (F:=F) (sites:=[]) (a:=one d) (v:=v) L.le (fun b hb=>L.lt hb) h
theorem fE.xp(L:fE U Y X F st M w dp e7 av){d:bh}{v:Value}(h:bK w (aI X F st.sites) d v):bK w av d v:=
 ck.hh (F:=F) (sites:=[]) (a:=one d) (v:=v) (fun b hb=>L.sub hb) (fun b hb=>L.lt hb) h
theorem Q9(L:fE U Y X F st M w dp e7 av):∀{bE:List (Nat×Nat)} {cs:List (List bh)} {us:List (Nat×Site)} {bs:List Nat} {vs:List Value},lx st bE=some (cs,us,bs)->
  (∀p,p∈us->p∈dp)->(∀o,o∈bs->o∈e7)->vs.length=bE.length->(∀i (h:i<bE.length) (aj:i<vs.length),Ref st.sites (bE[i]).1 (bE[i]).2 (vs[i]=F (bE[i]).1))->kL w av cs vs:=by
 intro bE;induction bE with
 |nil=>
  intro cs us bs vs h _ _ hl _;simp only[lx] at h;cases h;rw[List.eq_nil_of_length_eq_zero hl];trivial
 |cons c bE ih=>
  obtain⟨o,s⟩:=c;intro cs us bs vs h hq ez hl hr;simp only[lx] at h;split at h
  ·rename_i cells mu;split at h
   ·rename_i ds u1 rest u2 b2 gN pC;cases h;match vs,hl with
    |v::vs,hl=>
     have jW:=gR mu;obtain⟨b,T,cur,h1,h2,h3,aA,_,bl⟩:=L.fz.old.sites o _ jW;have hv:v=F o:=Ref.at (hr 0 (by simp) (by simp)) jW rfl
     have dV:=Bx gN ⟨h3,bl⟩ L.fz (fun p hp=>hq p (List.mem_append.2 (.inl hp)))
     refine⟨⟨b,cur,by rw[hv,h1],L.aAI o (ez o List.mem_cons_self) b (by rw[h1];rfl),L.fz.old.fL ⟨_,jW,rfl⟩ (by rw[h1];rfl),.row h2,dV.1,fun j g1 g2=>L.rd (dV.2 j g1 g2)⟩,?_⟩
     exact ih pC (fun p hp=>hq p (List.mem_append.2 (.inr hp))) (fun ab bU=>ez ab (List.mem_cons_of_mem _ bU)) (by simpa using hl) (fun i g1 g2=>hr (i+1) (by simpa using g1) (by simpa using g2))
   ·cases h
  ·cases h
theorem If(L:fE U Y X F st M w dp e7 av){l gC:aQ}{us:List (Nat×Site)}{bs:List Nat}{v:Value}(h:nr st l=some (gC,us,bs))(hq:∀p,p∈us->p∈dp)(ez:∀o,o∈bs->o∈e7)
  (hv:ea F st.sites w (aI X F st.sites) l v):nn w av gC v []:=by
 unfold nr at h;split at h
 ·rename_i cells;cases h;obtain⟨b,D,h1,h2,h3,cs,aA,bl,ca⟩:=hv;exact⟨rfl,b,D,h1,fun hx=>h2 (L.sub hx),h3,cs,aA,bl,fun j g1 g2=>L.xp (ca j g1 g2)⟩
 ·rename_i g c cs;split at h
  ·rename_i ds u b hc;cases h;obtain⟨vs,h1,h2,h3⟩:=hv;rw[h1];exact⟨rfl,(Q9 L hc hq ez h2 h3).fn⟩
  ·cases h
 ·split at h
  ·rename_i d u Z;cases h;exact⟨rfl,L.rd (VK Z hv L.fz hq)⟩
  ·cases h
theorem akZ(L:fE U Y X F st M w dp e7 av):∀{ai gy:List aQ} {us:List (Nat×Site)} {bs:List Nat} {vs:List Value},mi st ai=some (gy,us,bs)->(∀p,p∈us->p∈dp)->(∀o,o∈bs->o∈e7)->
  cA F st.sites w (aI X F st.sites) ai vs->lI w av gy vs []:=by
 intro ai;induction ai with
 |nil=>intro gy us bs vs h _ _ hv;simp only[mi] at h;cases h;rw[hv.oc];rfl
 |cons l ai ih=>
  intro gy us bs vs h hq ez hv;simp only[mi] at h;split at h
  ·rename_i a u1 b1 as u2 b2 h1 h2;cases h;obtain⟨v,cv,rfl,pW,pV⟩:=hv.inv;exact⟨[],[],rfl,If L h1 (fun p hp=>hq p (List.mem_append.2 (.inl hp))) (fun p hp=>ez p (List.mem_append.2 (.inl hp))) pW,
    ih h2 (fun p hp=>hq p (List.mem_append.2 (.inr hp))) (fun p hp=>ez p (List.mem_append.2 (.inr hp))) pV⟩
  ·cases h
def dj(F:Nat->Value)(gl:List Nat):List Nat:=gl.filterMap fun o=>bQ (F o)
theorem kc{aJ:Type}(a b:List (Nat×aJ)):keys (a++b)=keys a++keys b:=by
 induction a with
 |nil=>rfl
 |cons p a ih=>simp[keys,ih]
theorem o7(a b:List Nat):dj F (a++b)=dj F a++dj F b:=by simp[dj]
def gZ(sites:List (Nat×Site))(us:List (Nat×Site)):Prop:=∀o aN,(o,aN)∈us->∃af,look sites o=some af/\af.live=true/\aN=.dead af.cy
theorem gZ.nil{sites:List (Nat×Site)}:gZ sites []:=fun _ _ h=>by simp at h
theorem gZ.append{sites us vs:List (Nat×Site)}(h:gZ sites us)(aj:gZ sites vs):gZ sites (us++vs):=by
 intro o s hm;rcases List.mem_append.1 hm with hm|hm
 ·exact h o s hm
 ·exact aj o s hm
theorem am3(L:fE U Y X F st M w dp e7 av){o s:Nat}{t:bf}{xs:List (den t)}(hl:look st.sites o=some (.row s t xs)):
  ∃e,∃cs:List Value,rowAt w t.j5 e (bd t) (F o) xs.length cs/\c5 w av (flat t xs) cs:=by
 obtain⟨e,cs,h1,h2⟩:=L.fz.old.sites o _ hl;refine⟨e,cs,h1,by rw[e9];exact h1.1,fun j g1 g2=>L.xp (h2 j g1 g2)⟩
theorem zP(L:fE U Y X F st M w dp e7 av){l gC:aQ}{us:List (Nat×Site)}{v:Value}(h:oq st l=some (gC,us))(hv:ea F st.sites w (aI X F st.sites) l v):
  nn w av gC v (dj F (keys us))/\gZ st.sites us:=by
 unfold oq at h;split at h
 ·cases h;exact⟨⟨rfl,L.xp hv⟩,.nil⟩
 ·rename_i t;cases h;have hv:v=.slice none 0 0:=hv;subst hv;exact⟨⟨rfl,0,[],⟨by simp,.inl ⟨rfl,rfl⟩⟩,rfl,fun j g=>by simp[flat] at g⟩,.nil⟩
 ·rename_i o s;split at h
  ·rename_i aN t xs hl;cases hb:aN.beq s with
   |false=>simp[hb] at h
   |true=>
    simp only[hb,cond_true,Option.some.injEq,Prod.mk.injEq] at h;obtain⟨rfl,rfl⟩:=h;have hs:=Nat.eq_of_beq_eq_true hb;subst hs;have hl:look st.sites o=some (.row aN t xs):=hl;have nH:v=F o:=Ref.at hv.2 hl rfl;obtain⟨e,cs,h1,h2⟩:=am3 L hl;refine⟨⟨?_,e,cs,by rw[nH];exact h1,h2⟩,fun ab aCb hm=>?_⟩
    ·simp only[keys,dj,List.filterMap_cons,List.filterMap_nil,nH];cases bQ (F o)<;>rfl
    ·simp only[List.mem_singleton,Prod.mk.injEq] at hm;obtain⟨rfl,rfl⟩:=hm;exact⟨_,hl,rfl,rfl⟩
  ·rename_i aN t xs hl;cases hb:aN.beq s with
   |false=>simp[hb] at h
   |true=>
    simp only[hb,cond_true,Option.some.injEq,Prod.mk.injEq] at h;obtain⟨rfl,rfl⟩:=h;have hs:=Nat.eq_of_beq_eq_true hb;subst hs;have hl:look st.sites o=some (.dq aN t xs):=hl;have nH:v=F o:=Ref.at hv.2 hl rfl;refine⟨⟨rfl,?_⟩,.nil⟩;rw[nH];exact L.xp (L.fz.old.sites o _ hl).1
  ·cases h
 ·cases h;exact⟨⟨rfl,trivial⟩,.nil⟩
 ·cases h;exact⟨⟨rfl,hv⟩,.nil⟩
 ·cases h
theorem QZ{ai gy:List aQ}{us:List (Nat×Site)}(h:kT st ai=some (gy,us))(bL:gy.head?=some .dz):ai.head?=some .dz:=by
 cases ai with
 |nil=>simp only[kT] at h;cases h;cases bL
 |cons l ai=>
  simp only[kT] at h;split at h
  ·rename_i a u1 as u2 h1 h2;cases h;simp only[List.head?_cons,Option.some.injEq] at bL ⊢;subst bL;unfold oq at h1;split at h1<;>try(cases h1;done)
   ·split at h1;all_goals first|cases h1;done|skip
    all_goals
     rename_i aN t xs _;revert h1
     generalize aN.beq _=q;intro h1;cases q<;>cases h1
   ·rfl
  ·cases h
theorem IM(L:fE U Y X F st M w dp e7 av):∀{ai gy:List aQ} {us:List (Nat×Site)} {vs:List Value},kT st ai=some (gy,us)->cA F st.sites w (aI X F st.sites) ai vs->
  lI w av gy vs (dj F (keys us))/\gZ st.sites us:=by
 intro ai;induction ai with
 |nil=>intro gy us vs h hv;simp only[kT] at h;cases h;rw[hv.oc];exact⟨rfl,.nil⟩
 |cons l ai ih=>
  intro gy us vs h hv;simp only[kT] at h;split at h
  ·rename_i a u1 as u2 h1 h2;cases h;obtain⟨v,cv,rfl,pW,pV⟩:=hv.inv;obtain⟨aE,aF⟩:=zP L h1 pW;obtain⟨bJ,cL⟩:=ih h2 pV;exact⟨⟨_,_,by rw[kc,o7],aE,bJ⟩,aF.append cL⟩
  ·cases h
theorem jl.append{as oR:List Arg}{vs cv:List Value}{bs oQ:List Nat}(h:jl w av as vs bs)(aj:jl w av oR cv oQ):jl w av (as++oR) (vs++cv) (bs++oQ):=by
 induction as generalizing vs bs with
 |nil=>
  match vs,h with
  |[],h=>have h:bs=[]:=h;subst h;exact aj
 |cons a as ih=>
  match vs,h with
  |v::vs,⟨b1,b2,h1,h2,h3⟩=>exact⟨b1,b2++oQ,by rw[h1,List.append_assoc],h2,ih h3⟩
theorem ahm{cs:List (List bh)}{vs:List Value}(h:kL w av cs vs):jl w av (oe cs) vs []:=by
 induction cs generalizing vs with
 |nil=>
  match vs,h with
  |[],_=>rfl
 |cons ds cs ih=>
  match vs,h with
  |v::vs,⟨⟨b,cur,h1,h2,h3,aA,bl⟩,ca⟩=>
   refine⟨[],[],rfl,⟨rfl,b,0,by rw[h1],h2,h3,cur,by rw[bl.1],fun j u hu=>aA j u hu,bl.2⟩,ih ca⟩
theorem OM{as oR:List Arg}{vs cv:List Value}(hl:as.length=vs.length):dZ (as++oR) (vs++cv)=dZ as vs++dZ oR cv:=by
 induction as generalizing vs with
 |nil=>rw[List.eq_nil_of_length_eq_zero hl.symm];rfl
 |cons a as ih=>
  match vs,hl with
  |v::vs,hl=>
   have:=ih (vs:=vs) (by simpa using hl)
   cases a with
   |av a=>cases v<;>simp[dZ,this]
   |fv c=>
    cases v<;>try(simp[dZ,this];done)
    rename_i p;cases p<;>simp[dZ,this]
theorem aho(cs:List (List bh))(vs:List Value):dZ (oe cs) vs=[]:=by
 induction cs generalizing vs with
 |nil=>cases vs<;>rfl
 |cons c cs ih=>cases vs<;>simp[oe,dZ,ih]
theorem jl.length{as:List Arg}{vs:List Value}{bs:List Nat}(h:jl w av as vs bs):as.length=vs.length:=by
 induction as generalizing vs bs with
 |nil=>
  match vs,h with
  |[],_=>rfl
 |cons a as ih=>
  match vs,h with
  |v::vs,⟨_,_,_,_,h⟩=>simp[ih h]
theorem aiP(L:fE U Y X F st M w dp e7 av):∀{cE:List a7} {a:kv} {vs:List Value},jo st cE=some a->cE.length=vs.length->
  (∀i (h:i<cE.length) (aj:i<vs.length),ck F st.sites w (aI X F st.sites) (cE[i]) (vs[i]))->(∀p,p∈a.eW->p∈dp)->(∀o,o∈a.fZ->o∈e7)->
  jl w av a.as vs (dj F (keys a.gone))/\gZ st.sites a.gone/\dZ a.as vs=dj F (keys a.boxes)/\(∀o s,(o,s)∈a.boxes->(o,.dead s)∈a.gone/\∃b,F o=.pointer (some ⟨b,0,none⟩)):=by
 intro cE;induction cE with
 |nil=>
  intro a vs h hl _ _ _;simp only[jo] at h;cases h;rw[List.eq_nil_of_length_eq_zero hl.symm];exact⟨rfl,.nil,rfl,fun o s hm=>by simp at hm⟩
 |cons r_ cE ih=>
  intro a vs h hl hv hq ez;match vs,hl with
  |v::vs,hl=>
   have nG:=hv 0 (by simp) (by simp)
   have hvs:∀i (h:i<cE.length) (aj:i<vs.length),ck F st.sites w (aI X F st.sites) (cE[i]) (vs[i]):=fun i g1 g2=>hv (i+1) (by simpa using g1) (by simpa using g2)
   have gz:cE.length=vs.length:=by simpa using hl
   simp only[List.getElem_cons_zero] at nG;unfold jo at h;split at h
   ·cases ‹r_::cE=[]›
   ·rename_i o s cv b7;cases b7;split at h
    ·rename_i cells r mu hr;split at h
     ·rename_i cs gone hg;cases h;obtain⟨aE,aF,bJ,cL⟩:=ih hr gz hvs hq ez;have jW:=gR mu;obtain⟨b,T,cur,e1,e2,br,da,eS⟩:=L.fz.old.box jW nG;have KY:nm cells T cur b:=by
       obtain⟨b2,eC,ZG,q1,q2,_,_,dF,_⟩:=L.fz.old.sites o _ jW;rw[e1] at q1;cases q1;rw[br] at q2;cases q2;exact dF
      obtain⟨g1,g2⟩:=IM L hg eS;subst e2;refine⟨⟨b::dj F (keys gone),_,?_,⟨b,rfl,T,cur,_,rfl,br,da,fun bL=>KY (QZ hg bL),g1⟩,aE⟩,?_,?_,?_⟩
      ·show dj F (keys (((o,Site.dead s)::gone)++r.gone))=_;rw[kc,o7];congr 1
       simp[keys,dj,e1,bQ]
      ·refine gZ.append ?_ aF;intro ab aN hm;rcases List.mem_cons.1 hm with hm|hm
       ·cases hm;exact⟨_,jW,rfl,rfl⟩
       ·exact g2 ab aN hm
      ·simp[dZ,bJ,keys,dj,e1,bQ]
      ·intro ab aN hm;rcases List.mem_cons.1 hm with hm|hm
       ·cases hm;exact⟨by simp,b,e1⟩
       ·obtain⟨q1,q2⟩:=cL ab aN hm;exact⟨List.mem_append.2 (.inr q1),q2⟩
     ·cases h
    ·cases h
   ·rename_i l cv _ b7;cases b7;split at h
    ·rename_i gC us bs r h1 hr;cases h;obtain⟨aE,aF,bJ,cL⟩:=ih hr gz hvs (fun p hp=>hq p (List.mem_append.2 (.inr hp))) (fun p hp=>ez p (List.mem_append.2 (.inr hp)))
     have:=If L h1 (fun p hp=>hq p (List.mem_append.2 (.inl hp))) (fun p hp=>ez p (List.mem_append.2 (.inl hp))) nG
     refine⟨⟨[],_,rfl,this,aE⟩,aF,?_,cL⟩;cases v<;>simp[dZ,bJ]
    ·cases h
   ·rename_i ai cv b7;cases b7;split at h
    ·rename_i gy us bs r h1 hr;cases h;obtain⟨aE,aF,bJ,cL⟩:=ih hr gz hvs (fun p hp=>hq p (List.mem_append.2 (.inr hp))) (fun p hp=>ez p (List.mem_append.2 (.inr hp)))
     obtain⟨nA,e1,e2,br⟩:=nG;have:=akZ L h1 (fun p hp=>hq p (List.mem_append.2 (.inl hp))) (fun p hp=>ez p (List.mem_append.2 (.inl hp))) ⟨e2,br⟩
     refine⟨⟨[],_,rfl,⟨nA,e1,this⟩,aE⟩,aF,?_,cL⟩;cases v<;>simp[dZ,bJ]
    ·cases h
   ·cases h
theorem ai7(L:fE U Y X F st M w dp e7 av){l gC:aQ}{gs us:List (Nat×Site)}{bs:List Nat}{v:Value}(h:pq st l=some (gC,gs,us,bs))(hq:∀p,p∈us->p∈dp)(ez:∀o,o∈bs->o∈e7)
  (hv:ea F st.sites w (aI X F st.sites) l v):nn w av gC v (dj F (keys gs))/\gZ st.sites gs:=by
 unfold pq at h;split at h
 ·split at h
  ·rename_i hg;cases h;exact zP L hg hv
  ·cases h
 ·cases h;exact zP (l:=.nil _) (us:=[]) L rfl hv
 ·split at h
  ·rename_i hl;cases h;exact⟨If L hl hq ez hv,.nil⟩
  ·cases h
theorem ag4(L:fE U Y X F st M w dp e7 av):∀{cE:List a7} {a:kv} {vs:List Value},ma st cE=some a->cE.length=vs.length->
  (∀i (h:i<cE.length) (aj:i<vs.length),ck F st.sites w (aI X F st.sites) (cE[i]) (vs[i]))->(∀p,p∈a.eW->p∈dp)->(∀o,o∈a.fZ->o∈e7)->
  jl w av a.as vs (dj F (keys a.gone))/\gZ st.sites a.gone/\dZ a.as vs=dj F (keys a.boxes)/\(∀o s,(o,s)∈a.boxes->(o,.dead s)∈a.gone/\∃b,F o=.pointer (some ⟨b,0,none⟩)):=by
 intro cE;induction cE with
 |nil=>
  intro a vs h hl _ _ _;simp only[ma] at h;cases h;rw[List.eq_nil_of_length_eq_zero hl.symm];exact⟨rfl,.nil,rfl,fun o s hm=>by simp at hm⟩
 |cons r_ cE ih=>
  intro a vs h hl hv hq ez;match vs,hl with
  |v::vs,hl=>
   have nG:=hv 0 (by simp) (by simp)
   have hvs:∀i (h:i<cE.length) (aj:i<vs.length),ck F st.sites w (aI X F st.sites) (cE[i]) (vs[i]):=fun i g1 g2=>hv (i+1) (by simpa using g1) (by simpa using g2)
   have gz:cE.length=vs.length:=by simpa using hl
   simp only[List.getElem_cons_zero] at nG;unfold ma at h;split at h
   ·cases ‹r_::cE=[]›
   ·rename_i l cv b7;cases b7;split at h
    ·rename_i gC gs us bs r h1 hr;cases h;obtain⟨aE,aF,bJ,cL⟩:=ih hr gz hvs (fun p hp=>hq p (List.mem_append.2 (.inr hp))) (fun p hp=>ez p (List.mem_append.2 (.inr hp)))
     obtain⟨g1,g2⟩:=ai7 L h1 (fun p hp=>hq p (List.mem_append.2 (.inl hp))) (fun p hp=>ez p (List.mem_append.2 (.inl hp))) nG
     refine⟨⟨_,_,by rw[kc,o7],g1,aE⟩,g2.append aF,?_,fun ab aN hm=>?_⟩
     ·cases v<;>simp[dZ,bJ]
     ·obtain⟨q1,q2⟩:=cL ab aN hm;exact⟨List.mem_append.2 (.inr q1),q2⟩
    ·cases h
   ·cases h
theorem PE{b:Bool}(L:fE U Y X F st M w dp e7 av){cE:List a7}{a:kv}{vs:List Value}(h:sR b st cE=some a)(hl:cE.length=vs.length)
  (hv:∀i (h:i<cE.length) (aj:i<vs.length),ck F st.sites w (aI X F st.sites) (cE[i]) (vs[i])) (h1:∀p,p∈a.eW->p∈dp) (h2:∀o,o∈a.fZ->o∈e7):
  jl w av a.as vs (dj F (keys a.gone))/\gZ st.sites a.gone/\dZ a.as vs=dj F (keys a.boxes)/\(∀o s,(o,s)∈a.boxes->(o,.dead s)∈a.gone/\∃b,F o=.pointer (some ⟨b,0,none⟩)):=by
 cases b
 ·exact aiP L h hl hv h1 h2
 ·exact ag4 L h hl hv h1 h2
end
end Go.Jk
