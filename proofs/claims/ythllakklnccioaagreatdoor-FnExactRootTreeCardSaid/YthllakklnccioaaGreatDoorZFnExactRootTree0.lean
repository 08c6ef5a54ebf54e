/- FnExactRootTree: the program's RootTree returns what the reference's returns, for all arguments. (part 1 of 6: JnCore, JnGlob, JnState, JnExec, JnFoot, JnCode, JnTurn, JnOps1, JnOps2, JnOps3, JnOps4, JnOps5, JnOps6, JnOps7, JnOps8, JnOps9, JnOps10, JnOpsD, JnOps11, JnOps12, JnOps13, JnOps14, JnOps15, JnOps16) Conditions: none beyond the statement. -/
import Derived.Calls
import Derived.Below
import Derived.WalkKit
import Derived.Laws.AppendOwn
import Derived.Great.BuildSlice
import Derived.IntWalk
import Derived.Laws.Tables
import Derived.MapKept
import Derived.Laws.BytesArg
import Derived.Lib.ConvBytes
set_option linter.unusedSimpArgs false
set_option linter.unusedVariables false
namespace Go.Jk
abbrev al:=List UInt8
structure aX where
 path:al
 kind:Int
 mode:Int
 text:al
structure dH where
 name:al
 kind:Int
 bT:al
structure bE where
 name:al
 bT:al
 b5:List dH
 cr:List aX
structure ads where
 name:al
 text:al
structure RV where
 name:al
 text:al
structure Source where
 name:al
 sum:al
structure Piece where
 name:al
 eM:al
structure Z3 where
 name:al
 bT:al
 lets:List RV
 builds:List dH
 runs:List dH
 sources:List Source
 pieces:List Piece
 steps:List al
structure ac8 where
 at_:Int
 lines:List al
inductive aE where
 |i64|u8|u32|bool|str|entry|need|pack|file|lt|source|piece|recipe|hunk|rq
 deriving DecidableEq
@[reducible] def den:aE->Type
 |.i64|.u8|.u32=>Int
 |.bool=>Bool
 |.str=>al
 |.entry=>aX
 |.need=>dH
 |.pack=>bE
 |.file=>ads
 |.lt=>RV
 |.source=>Source
 |.piece=>Piece
 |.recipe=>Z3
 |.hunk=>ac8
 |.rq=>List Bool
inductive aK:Type where
 |int (k:IntKind) (n:Int)
 |bool (b:Bool)
 |str (s:al)
 |sl (t:aE) (xs:List (den t))
 |fn (g:FuncId) (bj:List (List aK))
 |map (t:aE) (es:List (al×den t))
 |err (T:Nat) (D:Option Int)
def enc:(t:aE)->den t->List aK
 |.i64,n=>[.int .i64 n]
 |.u8,n=>[.int .u8 n]
 |.u32,n=>[.int .u32 n]
 |.bool,b=>[.bool b]
 |.str,s=>[.str s]
 |.entry,e=>[.str e.path,.int .i64 e.kind,.int .i64 e.mode,.str e.text]
 |.need,n=>[.str n.name,.int .i64 n.kind,.str n.bT]
 |.pack,p=>[.str p.name,.str p.bT,.sl .need p.b5,.sl .entry p.cr]
 |.file,f=>[.str f.name,.str f.text]
 |.lt,f=>[.str f.name,.str f.text]
 |.source,f=>[.str f.name,.str f.sum]
 |.piece,f=>[.str f.name,.str f.eM]
 |.recipe,r=>[.str r.name,.str r.bT,.sl .lt r.lets,.sl .need r.builds,.sl .need r.runs,.sl .source r.sources,.sl .piece r.pieces,.sl .str r.steps]
 |.hunk,h=>[.int .i64 h.at_,.sl .str h.lines]
 |.rq,b=>[.sl .bool b]
def au:aE->Nat
 |.i64|.u8|.u32|.bool|.str|.rq=>1
 |.entry=>4
 |.need=>3
 |.pack=>4
 |.file|.lt|.source|.piece|.hunk=>2
 |.recipe=>8
def dec:(t:aE)->List aK->Option (den t)
 |.i64,[.int .i64 n]=>some n
 |.u8,[.int .u8 n]=>some n
 |.u32,[.int .u32 n]=>some n
 |.bool,[.bool b]=>some b
 |.str,[.str s]=>some s
 |.entry,[.str a,.int .i64 k,.int .i64 m,.str b]=>some ⟨a,k,m,b⟩
 |.need,[.str a,.int .i64 k,.str b]=>some ⟨a,k,b⟩
 |.pack,[.str a,.str b,.sl .need aC,.sl .entry es]=>some ⟨a,b,aC,es⟩
 |.file,[.str a,.str b]=>some ⟨a,b⟩
 |.lt,[.str a,.str b]=>some ⟨a,b⟩
 |.source,[.str a,.str b]=>some ⟨a,b⟩
 |.piece,[.str a,.str b]=>some ⟨a,b⟩
 |.recipe,[.str a,.str b,.sl .lt U,.sl .need bs,.sl .need kc,.sl .source aP,.sl .piece ps,.sl .str cQ]=>some ⟨a,b,U,bs,kc,aP,ps,cQ⟩
 |.hunk,[.int .i64 n,.sl .str U]=>some ⟨n,U⟩
 |.rq,[.sl .bool b]=>some b
 |_,_=>none
theorem e3:∀(t:aE) (x:den t),(enc t x).length=au t:=by
 intro t x;cases t<;>rfl
theorem iC(t:aE):0<au t:=by cases t<;>decide
theorem mS:∀(t:aE) (ds:List aK) (x:den t),dec t ds=some x->enc t x=ds:=by
 intro t ds x h;unfold dec at h;split at h<;>first|(cases h;rfl)|cases h
def flat(t:aE)(xs:List (den t)):List aK:=xs.flatMap (enc t)
theorem dO(t:aE)(xs:List (den t)):(flat t xs).length=xs.length*au t:=by
 unfold flat;induction xs with
 |nil=>simp
 |cons x xs ih=>simp[List.flatMap_cons,e3,ih,Nat.add_mul,Nat.add_comm]
theorem nD(t:aE)(xs ys:List (den t)):flat t (xs++ys)=flat t xs++flat t ys:=by
 simp[flat,List.flatMap_append]
theorem flat_get(t:aE)(xs:List (den t))(i j:Nat)(x:den t)(hx:xs[i]? =some x)(hj:j<au t):
  (flat t xs)[i*au t+j]? =(enc t x)[j]? :=by
 induction xs generalizing i with
 |nil=>simp at hx
 |cons y ys ih=>
  cases i with
  |zero=>
   simp only[List.getElem?_cons_zero,Option.some.injEq] at hx;subst hx;simp only[Nat.zero_mul,Nat.zero_add,flat,List.flatMap_cons];rw[List.getElem?_append_left (by rw[e3];exact hj)]
  |succ i=>
   simp only[List.getElem?_cons_succ] at hx;have:=ih i hx;simp only[flat,List.flatMap_cons] at this ⊢;rw[List.getElem?_append_right (by rw[e3,Nat.add_mul];omega),e3]
   rw[<-this];congr 1
   rw[Nat.add_mul];omega
theorem Xu(t:aE)(xs:List (den t))(i:Nat)(x:den t):
  flat t (xs.set i x)=(flat t xs).take (i*au t)++(if i<xs.length then enc t x else [])++(flat t xs).drop ((i+1)*au t):=by
 induction xs generalizing i with
 |nil=>simp[flat]
 |cons y ys ih=>
  cases i with
  |zero=>
   simp only[List.set_cons_zero,flat,List.flatMap_cons,Nat.zero_mul,List.take_zero,List.nil_append,List.length_cons,Nat.zero_lt_succ,if_true,Nat.zero_add,Nat.one_mul];rw[List.drop_append_of_le_length (by rw[e3];omega)]
   rw[show List.drop (au t) (enc t y)=[] from List.drop_eq_nil_of_le (by rw[e3];exact Nat.le_refl _)]
   rfl
  |succ i=>
   have h:=ih i;simp only[flat] at h;simp only[List.set_cons_succ,flat,List.flatMap_cons,List.length_cons];rw[h];have e1:List.take ((i+1)*au t) (enc t y++ys.flatMap (enc t))=enc t y++(ys.flatMap (enc t)).take (i*au t):=by
    rw[List.take_append,List.take_of_length_le (by rw[e3,Nat.add_mul];omega),e3]
    congr 2
    rw[Nat.add_mul];omega
   have e2:List.drop ((i+1+1)*au t) (enc t y++ys.flatMap (enc t))=(ys.flatMap (enc t)).drop ((i+1)*au t):=by
    rw[List.drop_append,List.drop_eq_nil_of_le (by rw[e3,Nat.add_mul,Nat.add_mul];omega),e3,List.nil_append]
    congr 1
    rw[Nat.add_mul (i+1) 1];omega
   rw[e1,e2];simp only[Nat.add_lt_add_iff_right,List.append_assoc]
def pJ:TypeId:=999999
def kX:TypeId:=5
def np:List Nat:=[]
def oz(w:World):Prop:=True
theorem _3{w w':World}(h:∀b,b∈np->w'.heap[b]? =w.heap[b]?)(k:oz w):oz w':=trivial
theorem agc{w:World}(k:oz w)(b:Nat)(h:b∈np):b<w.heap.size:=by
 unfold np at h;cases h
inductive aq:Type where
 |d (v:aK)
 |nil (t:aE) -- mo nil slice
 |own (o s:Nat) -- mo whole of a row of ra own
 |ptr (o s off:Nat) -- a pointer ajl a box of ra own
 |dZ (cells:List aK) (off:Nat) -- a pointer z5 cells tT F_ only read
 |ec (o s:Nat) (t:aE) (k off:Nat) -- a pointer z5 aiP k of a row of ra own,Fj cell 'n9
 |clo (g:FuncId) (bj:List (Nat×Nat)) -- a closure over boxes of ra own
 |cu (v:Value) -- ajj this value
 |fresh (t:aE) (xs:List (den t)) -- a row tT aiV else holds (YY caller and callee alone)
 |hs (t:aE) (xs:List (den t)) -- mo same,with mo rows in Fj elements
 |eh -- in a _7 first cell:nil,or mo _7 own address (strings.aiR)
 |any
inductive bg:Type where
 |ah (l:aq)
 |agg (U:List aq)
inductive aI:Type where
 |av (a:bg)
 |iP (as:List bg)
inductive Site:Type where
 |box (s:Nat) (cells:List aq)
 |row (s:Nat) (t:aE) (xs:List (den t))
 |cM (s:Nat) (t:aE) (xs:List (den t))
 |map (s:Nat) (t:aE) (es:List (al×den t))
 |deep (s:Nat) (t:aE) (xs:List (den t)) -- a row of ra own with mo rows in Fj elements
 |dead (s:Nat)
def Site.bX:Site->Nat
 |.box s _|.row s _ _|.cM s _ _|.map s _ _|.deep s _ _|.dead s=>s
def Site.live:Site->Bool
 |.box _ _|.row _ _ _|.map _ _ _|.deep _ _ _=>true
 |_=>false
def look{az:Type}:List (Nat×az)->Nat->Option az
 |[],_=>none
 |(k,v)::r,n=>bif k.beq n then some v else look r n
def b2{az:Type}:List (Nat×az)->Nat->az->List (Nat×az)
 |[],n,v=>[(n,v)]
 |(k,w)::r,n,v=>bif k.beq n then(k,v)::r else(k,w)::b2 r n v
theorem iN{a b:Nat}(h:¬a=b):a.beq b=false:=by
 cases e:a.beq b
 ·rfl
 ·exact absurd (Nat.eq_of_beq_eq_true e) h
theorem ce{az:Type}(l:List (Nat×az))(n m:Nat)(v:az):look (b2 l n v) m=if n=m then some v else look l m:=by
 induction l with
 |nil=>
  simp only[b2,look];by_cases h:n=m
  ·subst h;simp
  ·have:n.beq m=false:=iN h;simp[this,h]
 |cons p l ih=>
  obtain⟨k,w⟩:=p;simp only[b2];by_cases h:k=n
  ·subst h;simp only[Nat.beq_refl,cond_true,look];by_cases hm:k=m
   ·subst hm;simp
   ·have:k.beq m=false:=iN hm;simp[this,hm]
  ·have hb:k.beq n=false:=iN h;simp only[hb,cond_false,look];by_cases hm:k=m
   ·subst hm;have:¬n=k:=fun e=>h e.symm
    simp[this]
   ·have:k.beq m=false:=iN hm;simp[this,ih]
structure ab where
 cz:List (Nat×aI)
 sites:List (Nat×Site)
 nt:Nat
def ab.get(st:ab)(t:Nat):aI:=match look st.cz t with|some v=>v|none=>.av (.ah .any)
def ab.O(st:ab)(o:Nat):Option Site:=look st.sites o
def ab.set(st:ab)(t:Nat)(v:aI):ab:={st with cz:=b2 st.cz t v}
def ab.dd(st:ab)(o:Nat)(s:Site):ab:={st with sites:=b2 st.sites o s}
@[simp] theorem ab.oT(st:ab)(t u:Nat)(v:aI):(st.set t v).get u=if t=u then v else st.get u:=by
 unfold ab.set ab.get;rw[ce];by_cases h:t=u<;>simp[h]
@[simp] theorem ab.WP(st:ab)(t o:Nat)(v:aI):(st.set t v).O o=st.O o:=rfl
@[simp] theorem ab.ZJ(st:ab)(t:Nat)(v:aI):(st.set t v).nt=st.nt:=rfl
@[simp] theorem ab.TD(st:ab)(o u:Nat)(s:Site):(st.dd o s).get u=st.get u:=rfl
@[simp] theorem ab.lV(st:ab)(o F:Nat)(s:Site):(st.dd o s).O F=if o=F then some s else st.O F:=by
 unfold ab.dd ab.O;simp only[ce]
@[simp] theorem ab.Ug(st:ab)(o:Nat)(s:Site):(st.dd o s).nt=st.nt:=rfl
def mB:(t:aE)->den t->Value
 |.i64,n=>.int .i64 n
 |.bool,b=>.bool b
 |_,_=>undef
def gw(l:al):Value:=.string ⟨l.toArray⟩
def l7(arr:Array MapEntry):List (Value×Value):=arr.toList.map fun e=>(e.key,e.val)
def jg(t:aE)(es:List (al×den t)):List (Value×Value):=es.map fun p=>(gw p.1,mB t p.2)
def li(w:World)(b:Nat)(t:aE)(es:List (al×den t)):Prop:=∃arr clock,w.heap[b]? =some (.map arr clock)/\l7 arr=jg t es
theorem li.of{w w':World}{b:Nat}{t:aE}{es:List (al×den t)}(h:w'.heap[b]? =w.heap[b]?)(m:li w b t es):li w' b t es:=by
 obtain⟨arr,c,h1,h2⟩:=m;exact⟨arr,c,h.trans h1,h2⟩
theorem li.lt{w:World}{b:Nat}{t:aE}{es:List (al×den t)}(m:li w b t es):b<w.heap.size:=by
 obtain⟨arr,c,h1,h2⟩:=m;rcases Nat.lt_or_ge b w.heap.size with h|h
 ·exact h
 ·rw[Array.getElem?_eq_none h] at h1;cases h1
inductive a8(w:World)(av:Nat->Prop):aK->Value->Prop where
 |int (k:IntKind) (n:Int):a8 w av (.int k n) (.int k n)
 |bool (b:Bool):a8 w av (.bool b) (.bool b)
 |str (l:al) (s:ByteArray) (h:s.data.toList=l):a8 w av (.str l) (.string s)
 |nil (t:aE):a8 w av (.sl t []) (.slice none 0 0)
 |sl (t:aE) (xs:List (den t)) (a:Addr) (cap:Nat) (cs:List Value) (n:Nat) (hn:n=xs.length) (hcap:n<=cap) (hb:xs≠[]->¬av a.block)
   (hl:cs.length=(flat t xs).length)
   (hc:∀j u,cs[j]? =some u->w.cell? (a.add j)=some u)
   (hr:∀j (h:j<(flat t xs).length) (aa:j<cs.length),a8 w av ((flat t xs)[j]) (cs[j])):a8 w av (.sl t xs) (.slice (some a) n cap)
 |fn (g:FuncId) (bj:List (List aK)) (bs:List Nat) (h8:Nat->List Value) (lb:Array Value) (zG:lb=(bs.map fun b=>Value.pointer (some ⟨b,0,none⟩)).toArray) (ow:bs.length=bj.length)
   (hb:∀b,b∈bs->¬av b) (aY:∀b,b∈bs->b<w.heap.size)
   (hl:∀i (h:i<bj.length),(h8 i).length=(bj[i]).length)
   (hc:∀i (h:i<bs.length) j u,(h8 i)[j]? =some u->w.cell? ⟨bs[i],j,none⟩=some u)
   (hr:∀i (h:i<bj.length) j (h1:j<(bj[i]).length) (h2:j<(h8 i).length),a8 w av ((bj[i])[j]) ((h8 i)[j])):
   a8 w av (.fn g bj) (.func (.func g) #[] lb)
 |tW (t:aE):a8 w av (.map t []) (.map none)
 |map (t:aE) (es:List (al×den t)) (b:Nat) (hb:¬av b) (hm:li w b t es):a8 w av (.map t es) (.map (some b))
 |ui (T:TypeId):a8 w av (.err T none) .nilIface
 |err (T:TypeId) (n:Int):a8 w av (.err T (some n)) (.iface T (.agg #[.int .i64 n]))
theorem a8.hN{w:World}{av:Nat->Prop}{d:aK}{v:Value}(r:a8 w av d v):v.oneCell'=true:=by
 cases r<;>rfl
def um(v:Value):Prop:=v=.slice none 0 0\/∃b n c,v=.slice (some ⟨b,0,none⟩) n c
def bc:Value->Option Nat
 |.slice (some a) _ _=>some a.block
 |.pointer (some a)=>some a.block
 |.map (some b)=>some b
 |_=>none
def bO:Value->Value
 |.tuple vs=>vs.toList.headD undef
 |v=>v
def bu:Value->List Nat
 |.tuple vs=>vs.toList.flatMap fun v=>(bc v).toList
 |v=>(bc v).toList
theorem fL{v:Value}{b:Nat}(h:bc v=some b):b∈bu v:=by
 cases v<;>first|(show b∈(bc _).toList;rw[h];simp)|cases h
section
variable (B:Nat->Value)(sites:List (Nat×Site))(w:World)(av:Nat->Prop)
def Ref(o s:Nat)(p:Prop):Prop:=∃O,look sites o=some O/\s<=O.bX/\(O.bX=s->p)
def c_:aq->Value->Prop
 |.d x,v=>a8 w av x v
 |.nil _,v=>v=.slice none 0 0
 |.own o s,v=>v.oneCell'=true/\Ref sites o s (v=bO (B o))
 |.ptr o s off,v=>∃b,v=.pointer (some ⟨b,off,none⟩)/\Ref sites o s (bO (B o)=.pointer (some ⟨b,0,none⟩))
 |.dZ cells off,v=>∃b D,v=.pointer (some ⟨b,D+off,none⟩)/\¬av b/\b<w.heap.size/\∃cs:List Value,cs.length=cells.length/\(∀j u,cs[j]? =some u->w.cell? ⟨b,D+j,none⟩=some u)/\
   ∀j (h:j<cells.length) (aa:j<cs.length),a8 w av (cells[j]) (cs[j])
 |.ec o s t k off,v=>∃b,v=.pointer (some ⟨b,k*au t+off,none⟩)/\Ref sites o s (∃n c,bO (B o)=.slice (some ⟨b,0,none⟩) n c)
 |.clo g bj,v=>∃vs:List Value,v=.func (.func g) #[] vs.toArray/\vs.length=bj.length/\∀i (h:i<bj.length) (aa:i<vs.length),Ref sites (bj[i]).1 (bj[i]).2 (vs[i]=bO (B (bj[i]).1))
 |.cu u,v=>v=u
 |.fresh _ _,_=>False
 |.hs _ _,_=>False
 |.eh,_=>True
 |.any,_=>True
def aE.e7:aE->Bool
 |.u8=>true
 |_=>false
def kO(u:Bool)(e:TypeId)(cur:Array Value)(bn:Nat×Nat):Prop:=(u=true->e=kX)/\(bn=(0,0)\/u=true/\cur.size<=bn.1)
def rowAt(w:World)(u:Bool)(e:TypeId)(size:Nat)(v:Value)(n:Nat)(xs:List Value):Prop:=
 xs.length=n*size/\((v=.slice none 0 0/\n=0)\/
  ∃g cap cur bn,v=.slice (some ⟨g,0,none⟩) n cap/\kO u e cur bn/\w.heap[g]? =some (.cells cur e bn)/\n<=cap/\cap<=maxLen/\cur.size=cap*size/\cur.toList.take (n*size)=xs)
theorem sN(w:World)(u:Bool)(e:TypeId)(size:Nat):rowAt w u e size (.slice none 0 0) 0 []:=⟨by simp,.inl ⟨rfl,rfl⟩⟩
theorem ie{w:World}{u:Bool}{e:TypeId}{size:Nat}{v:Value}{n:Nat}{xs:List Value}(h:rowAt w u e size v n xs):bO v=v/\bu v=(bc v).toList:=by
 rcases h.2 with⟨rfl,_⟩|⟨g,cap,cur,bn,rfl,_⟩<;>exact⟨rfl,rfl⟩
theorem s8{w:World}{u:Bool}{e:TypeId}{size:Nat}{v:Value}{n:Nat}{xs:List Value}{b:Nat}(h:rowAt w u e size v n xs)(hb:b∈bu v):bc v=some b:=by
 rw[(ie h).2] at hb;simpa using hb
theorem qf{w w':World}{u:Bool}{e:TypeId}{size:Nat}{v:Value}{n:Nat}{xs:List Value}(h:rowAt w u e size v n xs)(hb:∀b,bc v=some b->w'.heap[b]? =w.heap[b]?):rowAt w' u e size v n xs:=by
 refine⟨h.1,?_⟩;rcases h.2 with hn|⟨g,cap,cur,bn,hv,r1,r2,hJ⟩
 ·exact .inl hn
 ·refine .inr ⟨g,cap,cur,bn,hv,r1,?_,hJ⟩;rw[hb g (by rw[hv];rfl)];exact r2
def b'(w:World)(av:Nat->Prop)(ds:List aK)(vs:List Value):Prop:=vs.length=ds.length/\∀j (h:j<ds.length) (aa:j<vs.length),a8 w av (ds[j]) (vs[j])
def aK.plain:aK->Bool
 |.sl _ _|.fn _ _|.map _ _=>false
 |_=>true
inductive Deep(w:World)(av:Nat->Prop):List aK->List Value->List Value->Prop where
 |nil:Deep w av [] [] []
 |row (u:aE) (ys:List (den u)) (e:TypeId) (U:List Value) (an:∀d,d∈flat u ys->d.plain=true) {c:Value} {ds:List aK} {cs aC:List Value} (h:rowAt w u.e7 e (au u) c ys.length U) (hr:b' w av (flat u ys) U) (k:Deep w av ds cs aC):Deep w av (.sl u ys::ds) (c::cs) (c::aC)
 |leaf {d:aK} {c:Value} {ds:List aK} {cs aC:List Value} (an:d.plain=true) (h:a8 w av d c) (k:Deep w av ds cs aC):Deep w av (d::ds) (c::cs) aC
def me(cells:List aq)(T:TypeId)(cur:List Value)(b:Nat):Prop:=cells.head?=some .eh->T=pJ/\(cur.head?=some (.pointer none)\/cur.head?=some (.pointer (some ⟨b,0,none⟩)))
def fP:bg->Value->Prop
 |.ah l,v=>c_ B sites w av l v
 |.agg U,v=>∃vs:List Value,v=.agg vs.toArray/\vs.length=U.length/\∀j (h:j<U.length) (aa:j<vs.length),c_ B sites w av (U[j]) (vs[j])
def b4:aI->Value->Prop
 |.av a,v=>fP B sites w av a v
 |.iP as,v=>∃vs:List Value,v=.tuple vs.toArray/\vs.length=as.length/\∀j (h:j<as.length) (aa:j<vs.length),fP B sites w av (as[j]) (vs[j])
def ig(o:Nat):Site->Prop
 |.box _ cells=>∃b T,∃cur:List Value,B o=.pointer (some ⟨b,0,none⟩)/\w.heap[b]? =some (.cells cur.toArray T (0,0))/\cur.length=cells.length/\
   (∀u∈cur,u.oneCell'=true)/\me cells T cur b/\∀j (h:j<cells.length) (aa:j<cur.length),c_ B sites w av (cells[j]) (cur[j])
 |.row _ t xs=>∃e,∃cs:List Value,rowAt w t.e7 e (au t) (B o) xs.length cs/\∀j (h:j<(flat t xs).length) (aa:j<cs.length),a8 w av ((flat t xs)[j]) (cs[j])
 |.cM _ t xs=>a8 w av (.sl t xs) (bO (B o))/\um (bO (B o))
 |.map _ t es=>∃b,B o=.map (some b)/\li w b t es
 |.deep _ t xs=>∃e v,∃aC cs:List Value,B o=.tuple (v::aC).toArray/\(bu (B o)).Nodup/\rowAt w t.e7 e (au t) v xs.length cs/\Deep w av (flat t xs) cs aC
 |.dead _=>True
end
theorem iA{v:Value}{aC:List Value}{b:Nat}:b∈bu (.tuple (v::aC).toArray) <-> bc v=some b\/∃n,n∈aC/\bc n=some b:=by
 simp[bu]
def bM(sites:List (Nat×Site))(o:Nat):Prop:=∃O,look sites o=some O/\O.live=true
def am(X:Nat->Prop)(B:Nat->Value)(sites:List (Nat×Site))(b:Nat):Prop:=X b\/∃o,bM sites o/\b∈bu (B o)
structure Fr(J:List Nat)(L w:World):Prop where
 os:w.os=L.os
 tape:w.tape=L.tape
 output:w.output=L.output
 size:L.heap.size<=w.heap.size
 block:∀b,b<L.heap.size->b∉J->w.heap[b]? =L.heap[b]?
theorem Fr.refl(J:List Nat)(w:World):Fr J w w:=⟨rfl,rfl,rfl,Nat.le_refl _,fun _ _ _=>rfl⟩
structure ht(w:World)(J:List Nat)(X:Nat->Prop):Prop where
 ok:oz w
 J:∀b,b∈np->b∉J
 X:∀b,b∈np->¬X b
 lt:∀b,b∈np->b<w.heap.size
theorem ht.less{w:World}{J:List Nat}{X X':Nat->Prop}(G:ht w J X)(h:∀b,b∈np->X' b->X b):ht w J X':=⟨G.ok,G.J,fun b hb hx=>G.X b hb (h b hb hx),G.lt⟩
theorem ht._H{w:World}{J:List Nat}{X X':Nat->Prop}(G:ht w J X)(h:∀b,X' b->X b\/b∈J):ht w J X':=⟨G.ok,G.J,fun b hb hx=>(h b hx).elim (G.X b hb) (G.J b hb),G.lt⟩
structure ae(L:World)(J:List Nat)(X:Nat->Prop)(B:Nat->Value)(st:ab)(tm:Array Value)(w:World):Prop where
 nt:tm.size=st.nt
 cz:∀t,b4 B st.sites w (am X B st.sites) (st.get t) (tm.getD t undef)
 sites:∀o O,look st.sites o=some O->ig B st.sites w (am X B st.sites) o O
 c8:∀o F b,bM st.sites o->bM st.sites F->b∈bu (B o)->b∈bu (B F)->o=F
 b1:∀o b,bM st.sites o->b∈bu (B o)->¬X b/\(b∈J\/L.heap.size<=b)
 frame:Fr J L w
 old:∀b,X b->b<w.heap.size
 eM:ht L J X
inductive b8:Type where
 |none
 |int (k:IntKind)
 |bool
 |str
 |ptr
 |func
 |slice (e:TypeId) (t:aE) (bytes:Nat)
 |struct (bx:List (Nat×Nat)) (n:Nat) (z:List aq) (eq:Bool)
 |map (k e:TypeId) (t:aE)
 |arr (e:TypeId) (t:aE) (n:Nat)
 |iface
def vk:(t:aE)->Option (den t)
 |.i64|.u8|.u32=>some (0:Int)
 |.bool=>some false
 |.str=>some ([]:al)
 |_=>none
def rS:aE->Option aq
 |.i64=>some (.d (.int .i64 0))
 |.u8=>some (.d (.int .u8 0))
 |.u32=>some (.d (.int .u32 0))
 |.bool=>some (.d (.bool false))
 |.str=>some (.d (.str []))
 |_=>none
def b8.agg:b8->Bool
 |.struct _ _ _ _|.arr _ _ _=>true
 |_=>false
def b8.known:b8->Bool
 |.none=>false
 |_=>true
def b8.size:b8->Nat
 |.struct _ n _ _=>n
 |.arr _ _ n=>n
 |_=>1
def b8.zero:b8->Option (List aq)
 |.none=>Option.none
 |.int k=>some [.d (.int k 0)]
 |.bool=>some [.d (.bool false)]
 |.str=>some [.d (.str [])]
 |.ptr=>some [.cu (.pointer Option.none)]
 |.func=>some [.cu .nilFunc]
 |.slice _ t _=>some [.nil t]
 |.struct _ _ z _=>some z
 |.map _ _ _=>some [.cu (.map Option.none)]
 |.arr _ t n=>(rS t).map (List.replicate n)
 |.iface=>some [.cu .nilIface]
inductive Arg:Type where
 |av (a:bg)
 |dx (cells:List aq)
structure uk:Type 1 where
 H:Type
 comp:Option H
 dx:H->List (List aq)
 eJ:H->List bg
 ei:H->List aq -- rows tT aja _1,as ajb ajy back
abbrev a4:=List Arg->uk
def uk.fail:uk:=⟨Unit,Option.none,fun _=>[],fun _=>[],fun _=>[]⟩
structure Ctx:Type 1 where
 tt:TypeId->b8
 bx:FuncId->Option a4
 ka:FuncId->Option FuncId:=fun _=>none
 mC:FuncId->Bool:=fun _=>false
 op:FuncId->Bool:=fun _=>false
 gX:FuncId->Bool:=fun _=>false -- a Wf copy check
 bs:FuncId->Bool:=fun _=>false -- a Wf String
 gt:Nat->Option ((t:aE)×List (den t)):=fun _=>none -- mo aiM tables
 dF:Bool:=false -- rows of rows F_ made as ra own,whole
structure cU:Type 1 where
 H:Type
 comp:Option H
 val:H->aI
 us:H->List (Nat×Site)
 pM:H->Bool
def cU.fail:cU:=⟨Unit,Option.none,fun _=>.av (.ah .any),fun _=>[],fun _=>false⟩
def cU.ok(v:aI):cU:=⟨Unit,some (),fun _=>v,fun _=>[],fun _=>true⟩
def cU.eX(v:aI)(us:List (Nat×Site)):cU:=⟨Unit,some (),fun _=>v,fun _=>us,fun _=>true⟩
def cU.dT{H:Type}(c:Option H)(f:H->aI):cU:=⟨H,c,f,fun _=>[],fun _=>true⟩
def cU.eV{H:Type}(c:Option H)(f:H->aI)(us:H->List (Nat×Site)):cU:=⟨H,c,f,us,fun _=>true⟩
def bl{az:Type}(xs:List az)(i:Int):Option az:=if 0<=i then xs[i.toNat]? else none
def e8(n:Nat)(i:Int):Option Nat:=if 0<=i/\i<n then some i.toNat else none
def dr{az:Type}(xs:List az)(cA hi:Int):Option (List az):=if 0<=cA/\cA<=hi/\hi<=xs.length then some ((xs.take hi.toNat).drop cA.toNat) else none
def room:Nat:=140737488355328
def ez{az:Type}(bytes:Nat)(xs ys:List az):Option (List az):=if(xs.length+ys.length)*bytes<=room/\xs.length+ys.length<=maxLen then some (xs++ys) else none
def nq(s t:al):Option al:=if((s.length+t.length:Nat):Int)>IntKind.i64.max then none else some (s++t)
def rD(k:IntKind)(x y:Int):Option Int:=if y=0 then none else some (k.wrap (x.tdiv y))
def rB(x y:Int):Option Int:=if y=0 then none else some (x.tmod y)
def D0(k:IntKind)(x y:Int):Option Int:=if y<0 then none else some (k.wrap (x*2^(min y.toNat k.bits)))
def pb(k:IntKind)(x y:Int):Option Int:=if y<0 then none else some (x.fdiv (2^(min y.toNat k.bits)))
def lw{az:Type}(bytes:Nat)(n c:Int)(z:az):Option (List az):=if 0<=n/\n<=c/\c*bytes<=room/\c<=maxLen then some (List.replicate n.toNat z) else none
def gx(x y:Int):Int:=if y>x then y else x
def yU(x y:Int):Int:=if y<x then y else x
def N3(k:IntKind)(x y:Int):Int:=k.wrap (BitVec.ofInt k.bits x &&& BitVec.ofInt k.bits y).toNat
def Po(k:IntKind)(x y:Int):Int:=k.wrap (BitVec.ofInt k.bits x ||| BitVec.ofInt k.bits y).toNat
def ry(k:IntKind)(x y:Int):Int:=k.wrap (BitVec.ofInt k.bits x ^^^ BitVec.ofInt k.bits y).toNat
def bytesOf(s:al):List Int:=s.map fun b=>(b.toNat:Int)
def strOf(xs:List Int):al:=xs.map fun n=>UInt8.ofNat n.toNat
abbrev one(d:aK):aI:=.av (.ah (.d d))
abbrev bD(l:aq):aI:=.av (.ah l)
def th(ti:b8):Value->aI
 |.int k n=>one (.int k n)
 |.bool b=>one (.bool b)
 |.string s=>one (.str s.data.toList)
 |.slice none 0 0=>match ti with|.slice _ t _=>bD (.nil t)|_=>bD (.cu (.slice none 0 0))
 |.map none=>match ti with|.map _ _ t=>one (.map t [])|_=>bD (.cu (.map none))
 |.agg _|.tuple _=>bD .any
 |v=>bD (.cu v)
def aO(C:Ctx)(st:ab)(T:TypeId):Operand->aI
 |.tmp t=>st.get t
 |.const v=>th (C.tt T) v
 |.global g=>bD (.cu (.pointer (some ⟨g,0,none⟩)))
 |.func f=>bD (.clo f [])
def rowOf(st:ab)(o s:Nat):Option ((t:aE)×List (den t)):=
 match st.O o with
 |some (.row aj t xs)=>bif aj.beq s then some ⟨t,xs⟩ else none
 |some (.cM aj t xs)=>bif aj.beq s then some ⟨t,xs⟩ else none
 |_=>none
def k_(st:ab)(o s:Nat):Option ((t:aE)×List (den t)):=
 match st.O o with
 |some (.deep aj t xs)=>bif aj.beq s then some ⟨t,xs⟩ else none
 |_=>none
def n5(st:ab)(o s:Nat):Option ((t:aE)×List (den t)):=match rowOf st o s with
 |some x=>some x
 |none=>k_ st o s
def fo(st:ab)(o s:Nat):Option (List aq):=
 match st.O o with
 |some (.box aj cells)=>bif aj.beq s then some cells else none
 |_=>none
def mapOf(st:ab):aq->Option ((t:aE)×List (al×den t))
 |.d (.map t es)=>some ⟨t,es⟩
 |.own o s=>match st.O o with
  |some (.map aj t es)=>bif aj.beq s then some ⟨t,es⟩ else none
  |_=>none
 |_=>none
def jO{az:Type}:List (al×az)->al->Option az
 |[],_=>none
 |(k,v)::r,n=>bif k==n then some v else jO r n
def nS{az:Type}:List (al×az)->al->az->List (al×az)
 |[],n,v=>[(n,v)]
 |(k,w)::r,n,v=>bif k==n then(k,v)::r else(k,w)::nS r n v
def DY:(t:aE)->aK->Option (den t)
 |.i64,.int .i64 n=>some n
 |.bool,.bool b=>some b
 |_,_=>none
def tO:(t:aE)->Option (den t)->Option aK
 |.i64,D=>some (.int .i64 (D.getD 0))
 |.bool,D=>some (.bool (D.getD false))
 |_,_=>none
def aT(st:ab)(o:Nat):Nat:=match st.O o with|some x=>x.bX+1|none=>0
def lq(st:ab)(o s:Nat)(t:aE)(xs:List (den t)):List (Nat×Site):=match st.O o with
 |some (.cM _ _ _)=>[]
 |_=>[(o,.cM s t xs)]
def iU(st:ab):aq->Option (aK×List (Nat×Site))
 |.d v=>some (v,[])
 |.nil t=>some (.sl t [],[])
 |.own o s=>match rowOf st o s with
  |some ⟨t,xs⟩=>some (.sl t xs,lq st o s t xs)
  |none=>match k_ st o s with
   |some ⟨t,xs⟩=>some (.sl t xs,[(o,.cM s t xs)])
   |none=>none
 |.clo g []=>some (.fn g [],[])
 |_=>none
def gR(st:ab):List aq->Option (List aK×List (Nat×Site))
 |[]=>some ([],[])
 |l::U=>match iU st l,gR st U with
  |some (d,us),some (ds,vs)=>some (d::ds,us++vs)
  |_,_=>none
def aE.gM:aE->Bool
 |.pack|.recipe|.hunk|.rq=>true
 |_=>false
def sink(st:ab):aq->Option (aK×List (Nat×Site))
 |.d (.int k n)=>some (.int k n,[])
 |.d (.bool b)=>some (.bool b,[])
 |.d (.str s)=>some (.str s,[])
 |.nil t=>some (.sl t [],[])
 |.own o s=>match st.O o with
  |some (.row aj t xs)=>bif aj.beq s&&!t.gM then some (.sl t xs,[(o,.dead s)]) else none
  |_=>none
 |_=>none
def sinks(st:ab):List aq->Option (List aK×List (Nat×Site))
 |[]=>some ([],[])
 |l::U=>match sink st l,sinks st U with
  |some (d,us),some (ds,vs)=>some (d::ds,us++vs)
  |_,_=>none
def bg.cells:bg->List aq
 |.ah l=>[l]
 |.agg U=>U
def aq.storable:aq->Bool
 |.any|.eh|.fresh _ _|.hs _ _|.dZ _ _|.ec _ _ _ _ _=>false
 |.cu (.agg _)|.cu (.tuple _)=>false
 |_=>true
def fY:List aq->Bool
 |[]=>true
 |l::U=>l.storable&&fY U
def cut(agg:Bool)(off n:Nat)(U:List aq):Option aI:=
 bif agg then(bif Nat.ble (off+n) U.length then some (.av (.agg ((U.drop off).take n))) else none)
 else match U.drop off with|l::_=>some (bD l)|[]=>none
def cv(ds:List aK):List aq:=ds.map .d
def bf{az:Type}(old:List az)(off:Nat)(new:List az):List az:=old.take off++new++old.drop (off+new.length)
def x4:aK->aK->Option Bool
 |.int k a,.int k' b=>if k=k' then some (a==b) else none
 |.bool a,.bool b=>some (a==b)
 |.str a,.str b=>some (a==b)
 |_,_=>none
def tj:List aq->List aq->Option Bool
 |[.d a],[.d b]=>x4 a b
 |.d a::as,.d b::bs=>match x4 a b,tj as bs with
  |some x,some y=>some (x&&y)
  |_,_=>none
 |_,_=>none
def L3(op:BinOp)(k:IntKind)(x y:Int):cU:=
 match op with
 |.add=>.ok (one (.int k (k.wrap (x+y))))
 |.sub=>.ok (one (.int k (k.wrap (x-y))))
 |.mul=>.ok (one (.int k (k.wrap (x*y))))
 |.quo=>.dT (rD k x y) fun n=>one (.int k n)
 |.rem=>.dT (rB x y) fun n=>one (.int k n)
 |.and=>.ok (one (.int k (N3 k x y)))
 |.or=>.ok (one (.int k (Po k x y)))
 |.xor=>.ok (one (.int k (ry k x y)))
 |.eql=>.ok (one (.bool (x==y)))
 |.neq=>.ok (one (.bool (x !=y)))
 |.lss=>.ok (one (.bool (decide (x<y))))
 |.leq=>.ok (one (.bool (decide (x<=y))))
 |.gtr=>.ok (one (.bool (decide (x>y))))
 |.geq=>.ok (one (.bool (decide (x>=y))))
 |_=>.fail
def LM(op:BinOp)(s t:al):cU:=
 match op with
 |.add=>.dT (nq s t) fun r=>one (.str r)
 |.eql=>.ok (one (.bool (s==t)))
 |.neq=>.ok (one (.bool (!(s==t))))
 |.lss=>.ok (one (.bool (Op.bytesLess s t)))
 |.leq=>.ok (one (.bool (Op.bytesLess s t||s==t)))
 |.gtr=>.ok (one (.bool (!(Op.bytesLess s t||s==t))))
 |.geq=>.ok (one (.bool (!(Op.bytesLess s t))))
 |_=>.fail
def K6(op:BinOp)(k:IntKind)(a:Int)(k':IntKind)(b:Int):cU:=
 match op with
 |.shl=>.dT (D0 k a b) fun n=>one (.int k n)
 |.shr=>.dT (pb k a b) fun n=>one (.int k n)
 |op=>if k=k' then L3 op k a b else .fail
def Lp(op:BinOp)(ti:b8)(a b:Bool):cU:=
 match ti with
 |.bool=>match op with
  |.eql=>.ok (one (.bool (a==b)))
  |.neq=>.ok (one (.bool (!(a==b))))
  |_=>.fail
 |_=>.fail
def pi:List aq->List aq->Bool
 |[],[]=>true
 |.d (.int _ _)::z,.d (.int _ _)::l=>pi z l
 |.d (.bool _)::z,.d (.bool _)::l=>pi z l
 |.d (.str _)::z,.d (.str _)::l=>pi z l
 |_,_=>false
def Mh(op:BinOp)(ti:b8)(xs ys:List aq):cU:=
 match ti with
 |.struct _ n z true=>bif xs.length.beq n&&pi z xs then
   match tj xs ys with
   |some b=>match op with
    |.eql=>.ok (one (.bool b))
    |.neq=>.ok (one (.bool (!b)))
    |_=>.fail
   |none=>.fail
  else .fail
 |_=>.fail
def yJ(op:BinOp)(ti:b8)(D:Option Int):cU:=
 match ti with
 |.iface=>match op with
  |.eql=>.ok (one (.bool D.isNone))
  |.neq=>.ok (one (.bool D.isSome))
  |_=>.fail
 |_=>.fail
def x5:Operand->Bool
 |.const .nilIface=>true
 |_=>false
def Du(op:BinOp)(ti:b8):aI->cU
 |.av (.ah (.d (.err _ D)))=>yJ op ti D
 |.av (.ah (.cu .nilIface))=>yJ op ti none
 |_=>.fail
def EO(op:BinOp)(ti:b8)(x y:aI):cU:=
 match x,y with
 |.av (.ah (.d (.int k a))),.av (.ah (.d (.int k' b)))=>K6 op k a k' b
 |.av (.ah (.d (.str s))),.av (.ah (.d (.str t)))=>LM op s t
 |.av (.ah (.d (.bool a))),.av (.ah (.d (.bool b)))=>Lp op ti a b
 |.av (.agg xs),.av (.agg ys)=>Mh op ti xs ys
 |_,_=>.fail
def rf(agg:Bool)(n:Nat)(st:ab)(a:aI):cU:=
 match a with
 |.av (.ah (.ptr o s off))=>match fo st o s with
  |some cells=>match cut agg off n cells with|some v=>.ok v|none=>.fail
  |none=>.fail
 |.av (.ah (.dZ cells off))=>match cut agg off n (cv cells) with|some v=>.ok v|none=>.fail
 |.av (.ah (.ec o s u k off))=>match rowOf st o s with
  |some ⟨t,xs⟩=>if t=u/\off+n<=au t then .dT (xs[k]?) fun x=>match cut agg off n (cv (enc t x)) with|some v=>v|none=>bD .any else .fail
  |none=>.fail
 |_=>.fail
def keys{az:Type}:List (Nat×az)->List Nat
 |[]=>[]
 |p::r=>p.1::keys r
def fz(n:Nat):List Nat->Bool
 |[]=>false
 |m::r=>n.beq m||fz n r
def eC:List Nat->Bool
 |[]=>true
 |n::r=>!fz n r&&eC r
def aK.hA:aK->Bool
 |.int _ _|.bool _|.str _=>true
 |_=>false
def qM(n:Nat)(st:ab)(a:aI)(v:bg):cU:=
 bif v.cells.length.beq n then
 match a with
 |.av (.ah (.ptr o s off))=>match fo st o s with
  |some cells=>bif Nat.ble (off+n) cells.length&&fY v.cells then .eX (bD (.cu undef)) [(o,.box s (bf cells off v.cells))] else .fail
  |none=>.fail
 |.av (.ah (.ec o s u k off))=>match st.O o with
  |some (.row aj t xs)=>bif aj.beq s&&Nat.ble (off+n) (au t)&&decide (t=u) then
    match gR st v.cells with
    |some (ds,us)=>bif(look us o).isNone then .eV ((xs[k]?).bind fun x=>dec t (bf (enc t x) off ds)) (fun _=>bD (.cu undef)) fun x=>us++[(o,.row s t (xs.set k x))] else .fail
    |none=>.fail
   else .fail
  |some (.deep aj t xs)=>bif aj.beq s&&decide (t=u) then(bif off.beq 0&&n.beq (au t) then
    match sinks st v.cells with
    |some (ds,us)=>bif(look us o).isNone&&eC (keys us) then .eV ((xs[k]?).bind fun _=>dec t ds) (fun _=>bD (.cu undef)) fun x=>us++[(o,.deep s t (xs.set k x))] else .fail
    |none=>.fail
   else match v.cells with
    |[.d d]=>bif d.hA&&Nat.blt off (au t) then .eV ((xs[k]?).bind fun x=>dec t (bf (enc t x) off [d])) (fun _=>bD (.cu undef)) fun x=>[(o,.deep s t (xs.set k x))] else .fail
    |_=>.fail)
   else .fail
  |_=>.fail
 |_=>.fail
 else .fail
def qg(u:aE)(st:ab)(x:aI)(i:Int):cU:=
 match x with
 |.av (.ah (.d (.sl t xs)))=>if t=u then .dT (bl xs i) fun x=>bD (.dZ (enc t x) 0) else .fail
 |.av (.ah (.own o s))=>match n5 st o s with
  |some ⟨t,xs⟩=>if t=u then .dT (e8 xs.length i) fun k=>bD (.ec o s t k 0) else .fail
  |none=>.fail
 |_=>.fail
def AE(off:Nat):aI->cU
 |.av (.ah (.ptr o s D))=>.ok (bD (.ptr o s (D+off)))
 |.av (.ah (.dZ cells D))=>.ok (bD (.dZ cells (D+off)))
 |.av (.ah (.ec o s t k D))=>.ok (bD (.ec o s t k (D+off)))
 |_=>.fail
def hQ(kL:Int):Option aI->Option Int
 |none=>some kL
 |some (.av (.ah (.d (.int _ n))))=>some n
 |some _=>none
def qP(ti:b8)(st:ab)(x:aI)(cA hi:Option aI):cU:=
 match x with
 |.av (.ah (.d (.str s)))=>match ti,hQ 0 cA,hQ s.length hi with
  |.str,some l,some h=>.dT (dr s l h) fun r=>one (.str r)
  |_,_,_=>.fail
 |.av (.ah (.d (.sl t xs)))=>match ti,hQ 0 cA,hQ xs.length hi with
  |.slice _ u _,some l,some h=>if t=u then .dT (dr xs l h) fun r=>one (.sl t r) else .fail
  |_,_,_=>.fail
 |.av (.ah (.nil t))=>match ti,hQ 0 cA,hQ 0 hi with
  |.slice _ _ _,some l,some h=>.dT (dr ([]:List (den t)) l h) fun r=>one (.sl t r)
  |_,_,_=>.fail
 |.av (.ah (.own o s))=>match rowOf st o s with
  |some ⟨t,xs⟩=>match ti,hQ 0 cA,hQ xs.length hi with
   |.slice _ u _,some l,some h=>if t=u then .eV (dr xs l h) (fun r=>one (.sl t r)) fun _=>lq st o s t xs else .fail
   |_,_,_=>.fail
  |none=>.fail
 |_=>.fail
def rG(ti:b8)(st:ab)(x:aI):cU:=
 match ti,x with
 |.str,.av (.ah (.d (.str s)))=>.ok (one (.int .i64 s.length))
 |.slice _ _ _,.av (.ah (.d (.sl _ xs)))=>.ok (one (.int .i64 xs.length))
 |.slice _ _ _,.av (.ah (.nil _))=>.ok (one (.int .i64 0))
 |.slice _ _ _,.av (.ah (.own o s))=>match n5 st o s with
  |some ⟨_,xs⟩=>.ok (one (.int .i64 xs.length))
  |none=>.fail
 |.map _ _ _,.av (.ah l)=>match mapOf st l with
  |some ⟨_,es⟩=>.ok (one (.int .i64 es.length))
  |none=>.fail
 |_,_=>.fail
def q7(st:ab):aI->Option aK
 |.av (.ah (.d (.sl t xs)))=>some (.sl t xs)
 |.av (.ah (.d (.str s)))=>some (.str s)
 |.av (.ah (.nil t))=>some (.sl t [])
 |.av (.ah (.own o s))=>match rowOf st o s with|some ⟨t,xs⟩=>some (.sl t xs)|none=>none
 |_=>none
def oU(bytes:Nat)(t:aE)(dst:Nat)(st:ab)(s:aI)(ys:List (den t)):cU:=
 match s with
 |.av (.ah (.nil _))=>.eV (ez bytes [] ys) (fun _=>bD (.own dst (aT st dst))) fun r=>[(dst,.row (aT st dst) t r)]
 |.av (.ah (.own o s))=>match st.O o with
  |some (.row aj a7 xs)=>bif aj.beq s then
    if aa:a7=t then .eV (ez bytes (aa▸xs:List (den t)) ys) (fun _=>bD (.own dst (aT (st.dd o (.dead s)) dst)))
     fun r=>[(o,.dead s),(dst,.row (aT (st.dd o (.dead s)) dst) t r)]
    else .fail
   else .fail
  |_=>.fail
 |_=>.fail
def qI(bytes:Nat)(t:aE)(dst:Nat)(st:ab)(s x:aI):cU:=
 match q7 st x with
 |none=>.fail
 |some d=>match d with
  |.sl u ys=>if h:u=t then oU bytes t dst st s (h▸ys:List (den t)) else .fail
  |_=>.fail
def qK(bytes:Nat)(t:aE)(dst:Nat)(st:ab)(s x:aI):cU:=
 match x with
 |.av (.ah (.own F u))=>match k_ st F u with
  |some ⟨a7,ys⟩=>if h:a7=t then(match s with
   |.av (.ah (.nil _))=>.eV (ez bytes [] (h▸ys:List (den t))) (fun _=>bD (.own dst (aT (st.dd F (.dead u)) dst))) fun r=>[(F,.dead u),(dst,.deep (aT (st.dd F (.dead u)) dst) t r)]
   |.av (.ah (.own o s))=>match k_ st o s with
    |some ⟨t2,xs⟩=>if h2:t2=t then(bif o.beq F then .fail else
      .eV (ez bytes (h2▸xs:List (den t)) (h▸ys)) (fun _=>bD (.own dst (aT ((st.dd F (.dead u)).dd o (.dead s)) dst)))
       fun r=>[(F,.dead u),(o,.dead s),(dst,.deep (aT ((st.dd F (.dead u)).dd o (.dead s)) dst) t r)]) else .fail
    |none=>.fail
   |_=>.fail) else .fail
  |none=>.fail
 |_=>.fail
def tr(st:ab):aI->Bool
 |.av (.ah (.own o s))=>(k_ st o s).isSome
 |_=>false
def qJ(bytes:Nat)(t:aE)(dst:Nat)(st:ab)(s x:aI):cU:=
 match x with
 |.av (.ah (.d (.str y)))=>if h:t=.u8 then oU bytes t dst st s (h▸(bytesOf y:List (den .u8))) else .fail
 |_=>.fail
def pe(dF:Bool)(bytes o:Nat)(st:ab)(ty:aE)(n m:Int)(z:List aq):cU:=match bif dF&&ty.gM then sinks st z else none with
 |some (ds,us)=>match dec ty ds with
  |some dU=>bif us.isEmpty then .eV (lw bytes n m dU) (fun _=>bD (.own o (aT st o))) fun r=>[(o,.deep (aT st o) ty r)] else .fail
  |none=>.fail
 |none=>match gR st z with
  |some (ds,_)=>match dec ty ds with
   |some dU=>.eV (lw bytes n m dU) (fun _=>bD (.own o (aT st o))) fun r=>[(o,.row (aT st o) ty r)]
   |none=>.fail
  |none=>.fail
def kM(t:aE)(st:ab):List bg->Option (List (den t)×List (Nat×Site))
 |[]=>some ([],[])
 |a::as=>match gR st a.cells with
  |some (ds,us)=>match dec t ds,kM t st as with
   |some x,some (xs,vs)=>some (x::xs,us++vs)
   |_,_=>none
  |none=>none
def l3(t:aE)(st:ab):List bg->Option (List (den t)×List (Nat×Site))
 |[]=>some ([],[])
 |a::as=>match sinks st a.cells with
  |some (ds,us)=>match dec t ds,l3 t st as with
   |some x,some (xs,vs)=>some (x::xs,us++vs)
   |_,_=>none
  |none=>none
def lu:aI->Option bg
 |.av a=>some a
 |.iP _=>none
def mc:List aI->Option (List bg)
 |[]=>some []
 |v::vs=>match lu v,mc vs with|some a,some as=>some (a::as)|_,_=>none
def nP:Nat->List (Nat×Operand)->Bool
 |_,[]=>true
 |n,(i,_)::r=>i.beq n&&nP (n+1) r
def isByte:b8->Bool
 |.int .u8=>true
 |_=>false
def rp(C:Ctx)(src dst:TypeId)(o:Nat)(st:ab)(x:aI):cU:=
 match C.tt src,C.tt dst,x with
 |.none,_,_=>.fail
 |_,.int k,.av (.ah (.d (.int _ n)))=>.ok (one (.int k (k.wrap n)))
 |_,.str,.av (.ah (.d (.str s)))=>.ok (one (.str s))
 |.slice e .u8 _,.str,.av (.ah (.d (.sl .u8 xs)))=>bif isByte (C.tt e) then .ok (one (.str (strOf xs))) else .fail
 |.slice e .u8 _,.str,.av (.ah (.nil _))=>bif isByte (C.tt e) then .ok (one (.str [])) else .fail
 |.slice e .u8 _,.str,.av (.ah (.own F s))=>match rowOf st F s with
  |some ⟨.u8,xs⟩=>bif isByte (C.tt e) then .ok (one (.str (strOf xs))) else .fail
  |_=>.fail
 |.str,.slice e .u8 _,.av (.ah (.d (.str s)))=>bif isByte (C.tt e) then .eV (if s.length<=maxLen then some () else none) (fun _=>bD (.own o (aT st o))) fun _=>[(o,.row (aT st o) .u8 (bytesOf s))] else .fail
 |_,_,_=>.fail
def kB(st:ab):List (Nat×Nat)->Option (List (List aK)×List (Nat×Site)×List Nat)
 |[]=>some ([],[],[])
 |(o,s)::r=>match fo st o s with
  |some cells=>match gR st cells,kB st r with
   |some (ds,us),some (rest,vs,bs)=>some (ds::rest,us++vs,o::bs)
   |_,_=>none
  |none=>none
def mg(st:ab):aq->Option (aq×List (Nat×Site)×List Nat)
 |.dZ cells 0=>some (.dZ cells 0,[],[])
 |.clo g (c::cs)=>match kB st (c::cs) with|some (ds,us,bs)=>some (.d (.fn g ds),us,bs)|none=>none
 |l=>match iU st l with|some (d,us)=>some (.d d,us,[])|none=>none
def ld(st:ab):List aq->Option (List aq×List (Nat×Site)×List Nat)
 |[]=>some ([],[],[])
 |l::U=>match mg st l,ld st U with
  |some (a,us,bs),some (as,vs,cs)=>some (a::as,us++vs,bs++cs)
  |_,_=>none
def mb(st:ab):aq->Option (aq×List (Nat×Site))
 |.d v=>some (.d v,[])
 |.nil t=>some (.fresh t [],[])
 |.own o s=>match st.O o with
  |some (.row aj t xs)=>bif aj.beq s then some (.fresh t xs,[(o,.dead s)]) else none
  |some (.cM aj t xs)=>bif aj.beq s then some (.d (.sl t xs),[]) else none
  |some (.deep aj t xs)=>bif aj.beq s then some (.hs t xs,[(o,.dead s)]) else none
  |_=>none
 |.eh=>some (.eh,[])
 |.cu v=>some (.cu v,[])
 |_=>none
def tC:List aq->List aq
 |.cu (.pointer none)::r=>.eh::r
 |l=>l
def jm(st:ab):List aq->Option (List aq×List (Nat×Site))
 |[]=>some ([],[])
 |l::U=>match mb st l,jm st U with
  |some (a,us),some (as,vs)=>some (a::as,us++vs)
  |_,_=>none
structure jp where
 as:List Arg
 ef:List (Nat×Site) -- rows tT F_ ef,as aiT akl frozen
 fm:List Nat -- boxes tT F_ ef
 gone:List (Nat×Site) -- boxes tT go over,and rows in ajc
 boxes:List (Nat×Nat) -- mo boxes:O,bX
 rows:List (Option (Nat×Nat)) -- mo cells of ai9 holds _1 rows:a ai1 O,bX
def ib(st:ab):List aI->Option jp
 |[]=>some ⟨[],[],[],[],[],[]⟩
 |.av (.ah (.ptr o s 0))::vs=>match fo st o s,ib st vs with
  |some cells,some r=>match jm st cells with
   |some (cs,gone)=>some ⟨.dx cs::r.as,r.ef,r.fm,((o,.dead s)::gone)++r.gone,(o,s)::r.boxes,r.rows⟩
   |none=>none
  |_,_=>none
 |.av (.ah l)::vs=>match mg st l,ib st vs with
  |some (a,us,bs),some r=>some ⟨.av (.ah a)::r.as,us++r.ef,bs++r.fm,r.gone,r.boxes,[]⟩
  |_,_=>none
 |.av (.agg U)::vs=>match ld st U,ib st vs with
  |some (as,us,bs),some r=>some ⟨.av (.agg as)::r.as,us++r.ef,bs++r.fm,r.gone,r.boxes,[]⟩
  |_,_=>none
 |_::_=>none
def k9(st:ab):aq->Option (aq×List (Nat×Site)×List (Nat×Site)×List Nat)
 |.own o s=>match mb st (.own o s) with|some (a,us)=>some (a,us,[],[])|none=>none
 |.nil t=>some (.fresh t [],[],[],[])
 |l=>match mg st l with|some (a,us,bs)=>some (a,[],us,bs)|none=>none
def k7(st:ab):List aq->Option (List aq×List (Nat×Site)×List (Nat×Site)×List Nat)
 |[]=>some ([],[],[],[])
 |l::U=>match k9 st l,k7 st U with
  |some (a,us,bx,bs),some (as,vs,gs,cs)=>some (a::as,us++vs,bx++gs,bs++cs)
  |_,_=>none
def aq.qz:aq->Bool
 |.fresh _ _|.hs _ _=>false
 |_=>true
def fJ:List aq->Bool
 |[]=>true
 |l::U=>l.qz&&fJ U
def kH(st:ab):aq->Option (Nat×Nat)
 |.own o s=>match st.O o with
  |some (.row _ _ _)|some (.deep _ _ _)=>some (o,s)
  |_=>none
 |_=>none
def mV(st:ab)(U da:List aq):List (Option (Nat×Nat)):=bif fJ da then [] else U.map (kH st)
def jJ(st:ab):List aI->Option jp
 |[]=>some ⟨[],[],[],[],[],[]⟩
 |.av (.ah l)::vs=>match k9 st l,jJ st vs with
  |some (a,us,U,bs),some r=>some ⟨.av (.ah a)::r.as,U++r.ef,bs++r.fm,us++r.gone,r.boxes,mV st [l] [a]++r.rows⟩
  |_,_=>none
 |.av (.agg as)::vs=>match k7 st as,jJ st vs with
  |some (iW,us,U,bs),some r=>some ⟨.av (.agg iW)::r.as,U++r.ef,bs++r.fm,us++r.gone,r.boxes,mV st as iW++r.rows⟩
  |_,_=>none
 |_::_=>none
def qB(b:Bool)(st:ab)(vs:List aI):Option jp:=bif b then jJ st vs else ib st vs
def aq.gM:aq->Bool
 |.d (.sl _ _)|.d (.fn _ _)|.d (.map _ _)=>true
 |.d _=>false
 |.fresh t _=>t.gM
 |.eh|.cu _|.hs _ _=>false
 |_=>true
def mK:List aq->Bool
 |[]=>false
 |l::U=>l.gM||mK U
def qj:List bg->Bool
 |[]=>false
 |a::as=>mK a.cells||qj as
def qi:List (List aq)->Bool
 |[]=>false
 |a::as=>mK a||qi as
def take(st:ab)(n:Nat):List aq->List aq×List (Nat×Site)
 |[]=>([],[])
 |.fresh t xs::U=>let r:=take st (n+1) U;(.own n (aT st n)::r.1,(n,.row (aT st n) t xs)::r.2)
 |.hs t xs::U=>let r:=take st (n+1) U;(.own n (aT st n)::r.1,(n,.deep (aT st n) t xs)::r.2)
 |l::U=>let r:=take st (n+1) U;(l::r.1,r.2)
def dt(st:ab)(n:Nat):List bg->List bg×List (Nat×Site)
 |[]=>([],[])
 |.ah l::as=>let x:=take st n [l];let r:=dt st (n+100) as;((match x.1 with|[fi]=>.ah fi|U=>.agg U)::r.1,x.2++r.2)
 |.agg U::as=>let x:=take st n U;let r:=dt st (n+100) as;(.agg x.1::r.1,x.2++r.2)
def eS(st:ab):List (Nat×Nat)->List (List aq)->List (Nat×Site)
 |(o,s)::bs,cs::ck=>let x:=take st (1000000+o*100) cs;x.2++(o,.box s x.1)::eS st bs ck
 |_,_=>[]
def nL:List (Option (Nat×Nat))->List Nat
 |[]=>[]
 |none::r=>nL r
 |some p::r=>p.1::nL r
def eD:List (Option (Nat×Nat))->List aq->List (Nat×Site)
 |some (o,s)::r,.fresh t xs::U=>(o,.row s t xs)::eD r U
 |some (o,s)::r,.hs t xs::U=>(o,.deep s t xs)::eD r U
 |_::r,_::U=>eD r U
 |_,_=>[]
def LO:List bg->aI
 |[a]=>.av a
 |as=>.iP as
def eG:List Nat->List Nat->Bool
 |[],_=>true
 |n::r,l=>!fz n l&&eG r l
def n4(dst:Nat)(st:ab)(S:a4)(a:jp):cU:=
 let r:=S a.as
 {H:=r.H,comp:=r.comp
  val:=fun y=>LO (dt st (2000000+dst*10000) (r.eJ y)).1
  us:=fun y=>(bif qj (r.eJ y)||qi (r.dx y)||mK (r.ei y) then a.ef else [])++a.gone++(eS st a.boxes (r.dx y)++eD a.rows (r.ei y))++(dt st (2000000+dst*10000) (r.eJ y)).2
  pM:=fun y=>eC (keys a.gone)&&eG (keys a.ef++a.fm) (keys a.gone)&&eC (keys ((eS st a.boxes (r.dx y)++eD a.rows (r.ei y))++(dt st (2000000+dst*10000) (r.eJ y)).2))&&
   eG (keys a.ef++a.fm) (keys ((eS st a.boxes (r.dx y)++eD a.rows (r.ei y))++(dt st (2000000+dst*10000) (r.eJ y)).2))&&(!(qj (r.eJ y)||qi (r.dx y)||mK (r.ei y))||a.fm.isEmpty)&&(eC (nL a.rows)&&eG (nL a.rows) (keys (eS st a.boxes (r.dx y))))}
def callee(v:aI):Option (FuncId×List (Nat×Nat)):=
 match v with
 |.av (.ah (.clo g bj))=>some (g,bj)
 |_=>none
def fT(C:Ctx)(st:ab):List Operand->List TypeId->List aI
 |[],_=>[]
 |x::xs,[]=>aO C st 0 x::fT C st xs []
 |x::xs,T::cD=>aO C st T x::fT C st xs cD
def ky:List (List aK)->List Arg
 |[]=>[]
 |c::cs=>.av (.ah (.dZ c 0))::ky cs
def qO(g:FuncId)(n:Nat)(st:ab):List aI->cU
 |[.av (.ah (.d (.str s))),.av (.ah (.d (.str p)))]=>.eX (bD (.clo g [(n,aT st n),(n+1,aT st (n+1)),(n+2,aT st (n+2))]))
   [(n,.box (aT st n) [.d (.str p)]),(n+1,.box (aT st (n+1)) [.d (.str s)]),(n+2,.box (aT st (n+2)) [.d (.int .i64 0)])]
 |_=>.fail
def copyV(st:ab):List aI->cU
 |[.av (.ah (.ptr o s 0))]=>match st.O o with
  |some (.box aj [.eh,l])=>bif aj.beq s then .eX (.iP []) [(o,.box s [.eh,l])] else .fail
  |_=>.fail
 |_=>.fail
def qx(st:ab):List aI->cU
 |[.av (.ah (.ptr o s 0))]=>match fo st o s with
  |some [_,.nil .u8]=>.ok (one (.str []))
  |some [_,.own F u]=>match st.O F with
   |some (.row bA .u8 xs)=>bif bA.beq u then .eX (one (.str (strOf xs))) [(F,.cM u .u8 xs)] else .fail
   |_=>.fail
  |_=>.fail
 |_=>.fail
def q_(n:Nat)(st:ab):List aI->cU
 |[.av (.ah (.d (.sl .u8 xs)))]=>.eX (bD (.ptr n (aT st n) 0)) [(n,.box (aT st n) [.d (.sl .u8 (xs.take 2000)),.d (.int .i64 0)])]
 |_=>.fail
def k6(C:Ctx)(dst:Nat)(st:ab)(f:aI)(vs:List aI):cU:=
  match f with
  |.av (.ah (.clo g bj))=>match C.ka g with
   |some cm=>match bj with
    |[]=>qO cm (3000000+dst*10) st vs
    |_=>.fail
   |none=>bif C.op g then(match bj with
    |[]=>q_ (4000000+dst) st vs
    |_=>.fail) else bif C.gX g then(match bj with
    |[]=>copyV st vs
    |_=>.fail) else bif C.bs g then(match bj with
    |[]=>qx st vs
    |_=>.fail) else match C.bx g,qB (C.mC g) st vs,kB st bj with
    |some S,some a,some (cs,us,bs)=>n4 dst st S {a with as:=a.as++ky cs,ef:=a.ef++us,fm:=a.fm++bs}
    |_,_,_=>.fail
  |.av (.ah (.d (.fn g bj)))=>match C.bx g,ib st vs with
    |some S,some a=>n4 dst st S {a with as:=a.as++ky bj}
    |_,_=>.fail
  |_=>.fail
def y8(t:aE)(xs:List (den t))(n:Nat):List aq:=match vk t with
 |some z=>(List.range n).flatMap fun j=>cv (enc t (xs.getD j z))
 |none=>[]
def rO(t:aE):List aq->Option (List (den t))
 |[]=>some []
 |.d d::U=>match dec t [d],rO t U with
  |some x,some xs=>some (x::xs)
  |_,_=>none
 |_=>none
def long{az:Type}(n:Nat)(xs:List az):Option (List az):=if xs.length=n then some xs else none
def pd(o:Nat)(st:ab)(t:aE)(n:Nat)(xs:List (den t)):cU:=bif xs.length.beq n&&Nat.ble n 1000 then .eX (bD (.ec o (aT st o) t 0 0)) [(o,.row (aT st o) t xs)] else .fail
def q4(o:Nat)(st:ab)(t:aE)(n:Nat):cU:=match vk t with
 |some z=>pd o st t n (List.replicate n z)
 |none=>.fail
def rR(o:Nat)(st:ab)(t:aE)(n:Nat)(v:aI):cU:=match v with
 |.av (.agg U)=>match rO t U with
  |some xs=>pd o st t n xs
  |none=>.fail
 |_=>.fail
def rh(st:ab)(t:aE)(n:Nat)(a:aI):cU:=match a with
 |.av (.ah (.ec o s u 0 0))=>match rowOf st o s with
  |some ⟨a7,xs⟩=>if a7=t/\a7=u then .dT (long n xs) fun xs=>.av (.agg (y8 a7 xs n)) else .fail
  |none=>.fail
 |_=>.fail
def qN(st:ab)(t:aE)(n:Nat)(a:aI)(v:bg):cU:=match a,v with
 |.av (.ah (.ec o s u 0 0)),.agg U=>match st.O o with
  |some (.row aj a7 xs)=>if a7=t/\a7=u/\aj=s then(match rO a7 U with
   |some ys=>bif ys.length.beq n then .eV (long n xs) (fun _=>bD (.cu undef)) fun _=>[(o,.row s a7 ys)] else .fail
   |none=>.fail) else .fail
  |_=>.fail
 |_,_=>.fail
def qh(C:Ctx)(st:ab)(t:aE)(n:Nat)(x:aI)(i:Int):cU:=match x with
 |.av (.ah (.ec o s u 0 0))=>match rowOf st o s with
  |some ⟨a7,xs⟩=>if a7=t/\a7=u then .dT ((long n xs).bind fun xs=>e8 xs.length i) fun k=>bD (.ec o s a7 k 0) else .fail
  |none=>.fail
 |.av (.ah (.cu (.pointer (some ⟨g,0,none⟩))))=>match C.gt g with
  |some ⟨a7,xs⟩=>bif decide (a7=t)&&xs.length.beq n then .dT (bl xs i) fun x=>bD (.dZ (enc a7 x) 0) else .fail
  |none=>.fail
 |_=>.fail
def Dn(t:aE)(n:Nat)(x:aI)(i:Int):cU:=match x with
 |.av (.agg U)=>match rO t U with
  |some xs=>bif xs.length.beq n then .dT (bl xs i) fun x=>(match enc t x with|[d]=>bD (.d d)|_=>bD .any) else .fail
  |none=>.fail
 |_=>.fail
def qQ(st:ab)(t:aE)(n:Nat)(x:aI)(cA hi:Option aI):cU:=match x with
 |.av (.ah (.ec o s u 0 0))=>match rowOf st o s,hQ 0 cA,hQ n hi with
  |some ⟨a7,xs⟩,some l,some h=>if a7=t/\a7=u then .eV ((long n xs).bind fun xs=>dr xs l h) (fun r=>bD (.d (.sl a7 r))) fun _=>lq st o s a7 xs else .fail
  |_,_,_=>.fail
 |_=>.fail
def kw(C:Ctx)(st:ab)(D:Oper):cU:=
 match D.op with
 |.makeMap t r=>match D.dst,C.tt t with
  |some o,.map _ _ ty=>match r with
   |none=>.eX (bD (.own o (aT st o))) [(o,.map (aT st o) ty [])]
   |some x=>match aO C st 0 x with
    |.av (.ah (.d (.int _ _)))=>.eX (bD (.own o (aT st o))) [(o,.map (aT st o) ty [])]
    |_=>.fail
  |_,_=>.fail
 |.mapUpdate t m k x=>qU C st t m k x
 |.insert t m k x=>qU C st t m k x
 |.lookup t m k c=>match C.tt t,aO C st t m,aO C st 0 k with
  |.map _ _ ty,.av (.ah l),.av (.ah (.d (.str n)))=>match mapOf st l with
   |some ⟨u,es⟩=>bif decide (u=ty) then(match tO u (jO es n) with
    |some d=>.ok (bif c then .iP [.ah (.d d),.ah (.d (.bool (jO es n).isSome))] else one d)
    |none=>.fail) else .fail
   |none=>.fail
  |_,_,_=>.fail
 |.makeInterface t x=>match C.tt t,aO C st t x with
  |.struct _ _ _ _,.av (.agg [.d (.int .i64 n)])=>.ok (one (.err t (some n)))
  |_,_=>.fail
 |_=>.fail
where
 qU (C:Ctx) (st:ab) (t:TypeId) (m k x:Operand):cU:=match C.tt t,aO C st t m,aO C st 0 k,aO C st 0 x with
  |.map _ _ ty,.av (.ah (.own o s)),.av (.ah (.d (.str n))),.av (.ah (.d d))=>match st.O o with
   |some (.map aj u es)=>bif aj.beq s&&decide (u=ty) then(match DY u d with
    |some v=>.eX (bD (.cu undef)) [(o,.map s u (nS es n v))]
    |none=>.fail) else .fail
   |_=>.fail
  |_,_,_,_=>.fail
def step(C:Ctx)(st:ab)(D:Oper):cU:=
 match D.op with
 |.move x|.assign x=>.ok (aO C st D.type x)
 |.pick c a b=>match aO C st D.type c with
  |.av (.ah (.d (.bool true)))=>.ok (aO C st D.type a)
  |.av (.ah (.d (.bool false)))=>.ok (aO C st D.type b)
  |_=>.fail
 |.alloc elem=>match D.dst,C.tt elem with
  |some o,.arr _ t n=>q4 o st t n
  |some o,ti=>match ti.zero with
   |some z=>.eX (bD (.ptr o (aT st o) 0)) [(o,.box (aT st o) (bif elem.beq pJ then tC z else z))]
   |none=>.fail
  |_,_=>.fail
 |.box elem x=>match D.dst,C.tt elem with
  |some o,.arr _ t n=>rR o st t n (aO C st elem x)
  |some o,_=>match lu (aO C st elem x) with
   |some a=>bif fY a.cells then .eX (bD (.ptr o (aT st o) 0)) [(o,.box (aT st o) a.cells)] else .fail
   |none=>.fail
  |_,_=>.fail
 |.build t parts=>match C.tt t with
  |.struct bx _ z _=>l9 C st bx z parts.toList
  |.arr _ ty n=>match rS ty with
   |some z=>l9 C st ((List.range n).map fun j=>(j,1)) (List.replicate n z) parts.toList
   |none=>.fail
  |_=>.fail
 |.buildSlice t len parts=>match D.dst,C.tt t with
  |some o,.slice e ty _=>bif parts.toList.length.beq len&&nP 0 parts.toList&&Nat.ble (len*au ty) 1000 then
    match mc (parts.toList.map fun p=>aO C st e p.2) with
    |some as=>match bif C.dF&&ty.gM then l3 ty st as else none with
     |some (xs,us)=>bif eC (keys us)&&(look us o).isNone then .eX (bD (.own o (aT st o))) (us++[(o,.deep (aT st o) ty xs)]) else .fail
     |none=>match kM ty st as with
      |some (xs,us)=>.eX (bD (.own o (aT st o))) (us++[(o,.row (aT st o) ty xs)])
      |none=>.fail
    |none=>.fail
   else .fail
  |_,_=>.fail
 |.load t a=>match C.tt t with
  |.arr _ ty n=>rh st ty n (aO C st t a)
  |ti=>bif ti.known then rf ti.agg ti.size st (aO C st t a) else .fail
 |.store t a x=>match lu (aO C st t x) with
  |some v=>match C.tt t with
   |.arr _ ty n=>qN st ty n (aO C st t a) v
   |ti=>bif ti.known then qM ti.size st (aO C st t a) v else .fail
  |none=>.fail
 |.nilCheck x=>match aO C st D.type x with
  |.av (.ah (.ptr o s f))=>.ok (bD (.ptr o s f))
  |.av (.ah (.dZ cs f))=>.ok (bD (.dZ cs f))
  |.av (.ah (.ec o s t k f))=>.ok (bD (.ec o s t k f))
  |_=>.fail
 |.binOp op t x y _=>bif x5 y then Du op (C.tt t) (aO C st t x) else EO op (C.tt t) (aO C st t x) (aO C st t y)
 |.unOp op _ x=>match op,aO C st D.type x with
  |.not,.av (.ah (.d (.bool b)))=>.ok (one (.bool (!b)))
  |.neg,.av (.ah (.d (.int k n)))=>.ok (one (.int k (k.wrap (0-n))))
  |.xor,.av (.ah (.d (.int k n)))=>.ok (one (.int k (ry k (if k.signed then-1 else k.max) n)))
  |_,_=>.fail
 |.convert src dst x=>(match D.dst with|some o=>rp C src dst o st (aO C st src x)|none=>.fail)
 |.makeFunc fn first captured=>match fn with
  |.func g=>bif first.toList.isEmpty then(match mX C st captured.toList with|some bj=>.ok (bD (.clo g bj))|none=>.fail) else .fail
  |_=>.fail
 |.makeSlice t l c=>match D.dst,C.tt t,aO C st 0 l,aO C st 0 c with
  |some o,.slice e ty bytes,.av (.ah (.d (.int _ n))),.av (.ah (.d (.int _ m)))=>match(C.tt e).zero with
   |some z=>pe C.dF bytes o st ty n m z
   |none=>.fail
  |_,_,_,_=>.fail
 |.slice t x cA hi z7=>match z7 with
  |none=>match C.tt t with
   |.arr _ ty n=>qQ st ty n (aO C st t x) (cA.map (aO C st 0)) (hi.map (aO C st 0))
   |ti=>qP ti st (aO C st t x) (cA.map (aO C st 0)) (hi.map (aO C st 0))
  |some _=>.fail
 |.fieldAddr s x f=>match C.tt s with
  |.struct bx _ _ _=>match bx[f]? with
   |some (off,_)=>AE off (aO C st 0 x)
   |none=>.fail
  |_=>.fail
 |.indexAddr t x i=>match C.tt t,aO C st 0 i with
  |.slice _ ty _,.av (.ah (.d (.int _ n)))=>qg ty st (aO C st t x) n
  |.arr _ ty m,.av (.ah (.d (.int _ n)))=>qh C st ty m (aO C st t x) n
  |_,_=>.fail
 |.index t x i=>match C.tt t,aO C st t x,aO C st 0 i with
  |.str,.av (.ah (.d (.str s))),.av (.ah (.d (.int _ n)))=>.dT (bl s n) fun b=>one (.int .u8 b.toNat)
  |.arr _ ty m,v,.av (.ah (.d (.int _ n)))=>Dn ty m v n
  |_,_,_=>.fail
 |.extract t i=>match aO C st 0 t with
  |.iP as=>match as[i]? with
   |some a=>.ok (.av a)
   |none=>.fail
  |_=>.fail
 |.call c=>match c.callee with
  |.value f=>match D.dst with
   |some d=>k6 C d st (aO C st 0 f) (fT C st c.args.toList c.argTypes.toList)
   |none=>k6 C 0 st (aO C st 0 f) (fT C st c.args.toList c.argTypes.toList)
  |.builtin b=>match b,D.dst,c.args.toList,c.argTypes.toList with
   |.len,_,[x],[t]=>rG (C.tt t) st (aO C st t x)
   |.append,some o,[s,x],[t,u]=>match C.tt t,C.tt u with
    |.slice _ ty bytes,.slice _ _ _=>bif tr st (aO C st u x) then qK bytes ty o st (aO C st t s) (aO C st u x) else qI bytes ty o st (aO C st t s) (aO C st u x)
    |.slice _ ty bytes,.str=>qJ bytes ty o st (aO C st t s) (aO C st u x)
    |_,_=>.fail
   |.max,_,[x,y],_=>match aO C st D.type x,aO C st D.type y with
    |.av (.ah (.d (.int k a))),.av (.ah (.d (.int _ b)))=>.ok (one (.int k (gx a b)))
    |_,_=>.fail
   |.max,_,[x,y,z,u,v],_=>match aO C st D.type x,aO C st D.type y,aO C st D.type z,aO C st D.type u,aO C st D.type v with
    |.av (.ah (.d (.int k a))),.av (.ah (.d (.int _ b))),.av (.ah (.d (.int _ c))),.av (.ah (.d (.int _ d))),.av (.ah (.d (.int _ e)))=>.ok (one (.int k (gx (gx (gx (gx a b) c) d) e)))
    |_,_,_,_,_=>.fail
   |.min,_,[x,y],_=>match aO C st D.type x,aO C st D.type y with
    |.av (.ah (.d (.int k a))),.av (.ah (.d (.int _ b)))=>.ok (one (.int k (yU a b)))
    |_,_=>.fail
   |_,_,_,_=>.fail
  |_=>.fail
 |_=>kw C st D
where
 l9 (C:Ctx) (st:ab) (bx:List (Nat×Nat)):List aq->List (Nat×Operand)->cU
  |z,[]=>.ok (.av (.agg z))
  |z,(i,x)::r=>match bx[i]?,lu (aO C st 0 x) with
   |some (off,n),some a=>bif a.cells.length.beq n&&fY a.cells&&Nat.ble (off+n) z.length then l9 C st bx (bf z off a.cells) r else .fail
   |_,_=>.fail
 mX (C:Ctx) (st:ab):List Operand->Option (List (Nat×Nat))
  |[]=>some []
  |x::r=>match aO C st 0 x,mX C st r with
   |.av (.ah (.ptr o s 0)),some l=>some ((o,s)::l)
   |_,_=>none
def C8(C:Ctx)(st:ab)(D:Oper):Option (((t:aE)×List (den t))×Bool):=
 match D.op with
 |.binOp op T x (.const (.slice none 0 0)) _=>match C.tt T with
  |.slice _ _ _=>match op with
   |.eql=>match aO C st T x with
    |.av (.ah (.d (.sl t xs)))=>some (⟨t,xs⟩,false)
    |_=>none
   |.neq=>match aO C st T x with
    |.av (.ah (.d (.sl t xs)))=>some (⟨t,xs⟩,true)
    |_=>none
   |_=>none
  |_=>none
 |_=>none
def aq.names:aq->List Nat
 |.own o _|.ptr o _ _|.ec o _ _ _ _=>[o]
 |.clo _ bj=>keys bj
 |_=>[]
def cJ:List aq->List Nat
 |[]=>[]
 |l::U=>l.names++cJ U
def nK:List bg->List Nat
 |[]=>[]
 |a::as=>cJ a.cells++nK as
def aI.names:aI->List Nat
 |.av a=>cJ a.cells
 |.iP as=>nK as
def vV(st:ab)(o:Nat):List Nat:=match st.O o with
 |some (.box _ cells)=>cJ cells
 |_=>[]
def ee(st:ab):List Nat->List Nat
 |[]=>[]
 |o::r=>o::(vV st o++ee st r)
def kD:Op->List Operand
 |.move x|.assign x|.makeInterface _ x|.box _ x|.load _ x|.nilCheck x|.unOp _ _ x|.convert _ _ x|.fieldAddr _ x _|.extract x _=>[x]
 |.pick c a b=>[c,a,b]
 |.build _ ps|.buildSlice _ _ ps=>ps.toList.map (·.2)
 |.store _ a v|.binOp _ _ a v _|.makeSlice _ a v|.indexAddr _ a v|.index _ a v=>[a,v]
 |.makeFunc _ _ captured=>captured.toList
 |.slice _ x l h _=>x::(l.toList++h.toList)
 |.call c=>(match c.callee with|.value f=>[f]|_=>[])++c.args.toList
 |.lookup _ m k _=>[m,k]
 |.mapUpdate _ m k x|.insert _ m k x=>[m,k,x]
 |.makeMap _ r=>r.toList
 |_=>[]
def mO(st:ab):List Operand->List Nat
 |[]=>[]
 |.tmp t::r=>(st.get t).names++mO st r
 |_::r=>mO st r
def nM:List Operand->List Nat
 |[]=>[]
 |.tmp t::r=>t::nM r
 |_::r=>nM r
def x6:Op->Bool
 |.call c=>match c.callee with
  |.value _=>true
  |_=>false
 |_=>false
def DA(C:Ctx):Op->List Nat
 |.makeSlice t _ _=>match C.tt t with
  |.slice e _ _=>match(C.tt e).zero with
   |some z=>cJ z
   |none=>[]
  |_=>[]
 |_=>[]
def looks:Op->Bool
 |.load _ _|.store _ _ _|.slice _ _ _ _ _|.indexAddr _ _ _|.convert _ _ _|.buildSlice _ _ _|.call _|.lookup _ _ _ _|.mapUpdate _ _ _ _|.insert _ _ _ _=>true
 |_=>false
def DO(C:Ctx)(st:ab)(D:Oper):List Nat:=(bif looks D.op then ee st (mO st (kD D.op)) else [])++D.dst.toList++DA C D.op
def JD(u:Nat):List Oper->List Nat
 |[]=>[]
 |D::r=>(match D.op,D.dst with
  |.move (.tmp t),some d=>bif Nat.beq d u then [t] else []
  |_,_=>[])++JD u r
def Bk(all:List Oper):List Oper->List Nat
 |[]=>[]
 |D::r=>(match D.op with
  |.slice _ (.tmp u) _ _ _=>u::JD u all
  |_=>[])++Bk all r
def Mg(st:ab)(t:Nat):List (Nat×Site):=match st.get t with
 |.av (.ah (.own o s))=>match st.O o with
  |some (.row aj t xs)=>bif aj.beq s then [(o,.cM aj t xs)] else []
  |_=>[]
 |_=>[]
def yi(st:ab):List Nat->List (Nat×Site)
 |[]=>[]
 |t::r=>Mg st t++yi st r
def ab.g5(st:ab):List (Nat×Site)->ab
 |[]=>st
 |(o,s)::r=>(st.dd o s).g5 r
def ab.cw(st:ab)(dst:Option Nat)(v:aI)(us:List (Nat×Site)):ab:=
 match dst with
 |some t=>(st.g5 us).set t v
 |none=>st.g5 us
def b0(st:ab):Option Nat->Bool
 |some t=>Nat.blt t st.nt
 |none=>true
abbrev xN:aI:=bD (.cu undef)
section
variable {R:Type}
open Classical in
noncomputable def oM{t:aE}(xs:List (den t))(a b:Option R):Option R:=if xs=[]->a=b then b else none
def jM(C:Ctx)(st:ab)(D:Oper)(K:ab->Option R):Option R:=
 bif b0 st D.dst then(step C st D).comp.bind fun y=>bif(step C st D).pM y then K (st.cw D.dst ((step C st D).val y) ((step C st D).us y)) else none else none
noncomputable def tE(C:Ctx)(st:ab)(D:Oper)(K:ab->Option R):Option R:=
 match C8 C st D with
 |some (⟨t,xs⟩,neg)=>bif b0 st D.dst then oM xs (K (st.cw D.dst (one (.bool (!neg))) [])) (K (st.cw D.dst (one (.bool neg)) [])) else none
 |none=>jM C st D K
def qR(st:ab)(D:Oper)(K:ab->Option R):Option R:=
 bif b0 st D.dst then K (st.cw D.dst xN []) else none
noncomputable def tf(C:Ctx)(ops:Array Oper)(st:ab)(D:Oper)(K:ab->Option R):Option R:=
 match D.guard with
 |none=>tE C st D K
 |some (j,want)=>match(ops[j]?).bind (·.dst) with
  |some t=>match st.get t with
   |.av (.ah (.d (.bool b)))=>bif(bif want then b else !b) then tE C (st.set t (one (.bool want))) D K else qR (st.set t (one (.bool (!want)))) D K
   |.av (.ah (.cu (.tuple _)))=>qR st D K
   |_=>none
  |none=>none
structure pa:Type 1 where
 o:Nat
 s:Nat
 t:aE
 xs:List (den t)
 k:Nat
 off:Nat
 S:a4
 i:IntKind
 n:Int
 d1:Nat
 dF:Nat
 v:aI
def ab.mZ(st:ab)(q:pa):ab:=(st.set q.d1 (bD .any)).set q.dF q.v
def tq(C:Ctx)(st:ab)(D:Oper):Option (Nat×aI):=match D.op,D.dst,D.guard with
 |.move x,some dF,none=>bif Nat.blt dF st.nt then some (dF,aO C st D.type x) else none
 |_,_,_=>none
def rb(C:Ctx)(st:ab)(o1 e_ o2:Oper):Option pa:=
 match o1.op,o1.dst,o1.guard,o2.op,o2.guard with
 |.load T a,some d1,none,.call c,none=>match aO C st T a with
  |.av (.ah (.ec o s u k off))=>match st.O o,c.callee,c.args.toList with
   |some (.deep aj t xs),.value (.func g),[.tmp d2,x]=>match tq C (st.set d1 (bD .any)) e_ with
    |some (dF,v)=>match C.tt T,aO C ((st.set d1 (bD .any)).set dF v) 0 x,C.bx g with
     |.slice _ _ _,.av (.ah (.d (.int i n))),some S=>bif d2.beq d1&&aj.beq s&&decide (t=u)&&Nat.blt d1 st.nt&&!dF.beq d1 then some ⟨o,aj,t,xs,k,off,S,i,n,d1,dF,v⟩ else none
     |_,_,_=>none
    |none=>none
   |_,_,_=>none
  |_=>none
 |_,_,_,_,_=>none
def LX(st:ab)(o2:Oper)(q:pa)(x:den q.t)(K:ab->Option R):List bg->List (List aq)->List aq->Option R
 |[.ah (.d d)],[],[.fresh bA mm]=>match dec q.t (bf (enc q.t x) q.off [.sl bA mm]) with
  |some cP=>bif d.hA&&!bA.gM&&b0 st o2.dst then K ((st.mZ q).cw o2.dst (one d) [(q.o,.deep q.s q.t (q.xs.set q.k cP))]) else none
  |none=>none
 |_,_,_=>none
def Ki(st:ab)(o2:Oper)(q:pa)(K:ab->Option R):Option R:=
 (q.xs[q.k]?).bind fun x=>match(enc q.t x)[q.off]? with
  |some (.sl u ys)=>(q.S [.av (.ah (.fresh u ys)),.av (.ah (.d (.int q.i q.n)))]).comp.bind fun y=>
    LX st o2 q x K ((q.S [.av (.ah (.fresh u ys)),.av (.ah (.d (.int q.i q.n)))]).eJ y) ((q.S [.av (.ah (.fresh u ys)),.av (.ah (.d (.int q.i q.n)))]).dx y) ((q.S [.av (.ah (.fresh u ys)),.av (.ah (.d (.int q.i q.n)))]).ei y)
  |_=>none
noncomputable def l5(C:Ctx)(ops:Array Oper):List Oper->ab->(ab->Option R)->Option R
 |[],st,K=>K st
 |[D],st,K=>tf C ops st D K
 |[D,o2],st,K=>tf C ops st D fun ad=>l5 C ops [o2] ad K
 |D::e_::o2::r,st,K=>match rb C st D e_ o2 with
  |some q=>Ki st o2 q fun ad=>l5 C ops r ad K
  |none=>tf C ops st D fun ad=>l5 C ops (e_::o2::r) ad K
structure Rec where
 D:Oper
 go:Bool
 v:aI
 us:List (Nat×Site)
 kc:List Nat
 rn:List Nat
 zW:Bool
def tx:List Nat->Bool
 |[]=>false
 |n::r=>Nat.ble 1000000 n||tx r
def rF(d:Option Nat)(l:List Nat):Bool:=match d with|some d=>fz d l|none=>false
def lm(a b:Rec):Bool:=
 rF a.D.dst b.kc||rF a.D.dst b.D.dst.toList||rF b.D.dst a.kc||
 !eG (keys a.us) (b.rn++keys b.us)||!eG (keys b.us) a.rn||(a.zW&&tx (keys b.us))||(b.zW&&tx (keys a.us))
def lg(bV:List (Nat×Rec×List Nat)):List Edge->List Nat
 |[]=>[]
 |e::r=>bif Region.binds .any e then(match look bV e.on with|some x=>e.on::(x.2++lg bV r)|none=>lg bV r) else lg bV r
def qH(i:Nat):List Edge->Bool
 |[]=>true
 |e::r=>(!Region.binds .any e||Nat.blt e.on i)&&qH i r
def qT(va:List Nat)(x:Rec):List (Nat×Rec×List Nat)->Bool
 |[]=>true
 |(j,y,_)::r=>(fz j va||!lm y x)&&qT va x r
def Kp(i:Nat):List Oper->Bool
 |[]=>false
 |D::r=>(match D.guard with|some (j,_)=>Nat.beq i j|none=>false)||Kp i r
def Ef(g:Bool)(v:aI)(K:aI->Option R):Option R:=
 bif g then(match v with
  |.av (.ah (.d (.bool b)))=>bif b then K (one (.bool true)) else K (one (.bool false))
  |v=>K v) else K v
def xI(C:Ctx)(g:Bool)(st:ab)(D:Oper)(gs:List Nat)(K:Rec->Option R):Option R:=
 (step C st D).comp.bind fun y=>bif(step C st D).pM y then Ef g ((step C st D).val y) fun v=>
  K ⟨D,true,v,(step C st D).us y,gs++nM (kD D.op),DO C st D,x6 D.op⟩ else none
def BJ(D:Oper)(gs:List Nat)(K:Rec->Option R):Option R:=K ⟨D,false,xN,[],gs,[],false⟩
def Dw(C:Ctx)(ops:Array Oper)(g:Bool)(st:ab)(D:Oper)(K:Rec->Option R):Option R:=
 match D.guard with
 |none=>xI C g st D [] K
 |some (j,want)=>match(ops[j]?).bind (·.dst) with
  |some t=>match st.get t with
   |.av (.ah (.d (.bool b)))=>bif(bif want then b else !b) then xI C g st D [t] K else BJ D [t] K
   |.av (.ah (.cu (.tuple _)))=>BJ D [t] K
   |_=>none
  |none=>none
def yq(C:Ctx)(ops:Array Oper):List Oper->Nat->List (Nat×Rec×List Nat)->ab->(ab->Option R)->Option R
 |[],_,_,st,K=>K st
 |D::r,i,bV,st,K=>bif b0 st D.dst&&qH i D.after.toList then Dw C ops (Kp i r) st D fun x=>
   bif qT (lg bV D.after.toList) x bV then yq C ops r (i+1) ((i,x,lg bV D.after.toList)::bV) (st.cw D.dst x.v x.us) K else none
  else none
def Ku(C:Ctx)(ops:Array Oper)(st:ab)(K:ab->Option R):Option R:=yq C ops ops.toList 0 [] (st.g5 (yi st (Bk ops.toList ops.toList))) K
inductive Out:Type where
 |norm (st:ab)
 |exit (id:Nat) (st:ab)
 |ret (st:ab)
structure acw:Type 1 where
 H:Type
 comp:Option H
 out:H->Out
 run:(R:Type)->H->(Out->Option R)->Option R
 run_eq:∀(R:Type) (y:H) (K:Out->Option R),run R y K=K (out y)
abbrev gE:=ab->acw
structure gS:Type 1 extends Ctx where
 nd:Nat->Option gE
def wrap(C:gS)(p:Nat)(st:ab)(K:Out->Option R)(x:Option R):Option R:=
 match C.nd p with
 |some f=>(f st).comp.bind fun y=>(f st).run R y K
 |none=>x
noncomputable def exec(C:gS):Code->Nat->ab->(Out->Option R)->Option R
 |.skip,_,st,K=>K (.norm st)
 |.region _ ops false,p,st,K=>wrap C p st K (l5 C.toCtx ops ops.toList st fun ad=>K (.norm ad))
 |.region _ ops true,p,st,K=>wrap C p st K (Ku C.toCtx ops st fun ad=>K (.norm ad))
 |.seq a b,p,st,K=>wrap C p st K (exec C a (2*p) st fun
  |.norm ad=>exec C b (2*p+1) ad K
  |D=>K D)
 |.cond c a b,p,st,K=>wrap C p st K (match aO C.toCtx st 0 c with
  |.av (.ah (.d (.bool t)))=>bif t then exec C a (2*p) st K else exec C b (2*p+1) st K
  |_=>none)
 |.block id c,p,st,K=>wrap C p st K (exec C c (2*p) st fun
  |.exit hY ad=>bif hY.beq id then K (.norm ad) else K (.exit hY ad)
  |D=>K D)
 |.loop _,p,st,K=>wrap C p st K none
 |.rangeFunc _ _ _ _,p,st,K=>wrap C p st K none
 |.exit id,_,st,K=>K (.exit id st)
 |.ret,_,st,K=>K (.ret st)
 |_,_,_,_=>none
end
section
variable {B aw:Nat->Value}{sites ba:List (Nat×Site)}{w w':World}{av bR:Nat->Prop}
structure gz(B aw:Nat->Value)(sites ba:List (Nat×Site))(w w':World)(av bR:Nat->Prop):Prop where
 ref:∀o O,look sites o=some O->∃bo,look ba o=some bo/\O.bX<=bo.bX/\(bo.bX=O.bX->bO (aw o)=bO (B o))
 bc:∀b,¬av b->b<w.heap.size->w'.heap[b]? =w.heap[b]?
 av:∀b,¬av b->b<w.heap.size->¬bR b
theorem a8.goes{d:aK}{v:Value}(G:gz B aw sites ba w w' av bR)(M:w.heap.size<=w'.heap.size)(ajz:∀b,bR b->b<w'.heap.size)(r:a8 w av d v):a8 w' bR d v:=by
 induction r with
 |int k n=>exact .int k n
 |bool b=>exact .bool b
 |str l s h=>exact .str l s h
 |nil t=>exact .nil t
 |sl t xs a cap cs n hn hcap hb hl hc _ ih=>
  have key:xs≠[]->a.block<w.heap.size:=by
   intro hne;have m9:0<cs.length:=by
    rw[hl,dO];exact Nat.mul_pos (List.length_pos_iff.mpr hne) (iC t)
   have:=hc 0 (cs[0]) (List.getElem?_eq_getElem m9);have h2:=World.block_lt_of_cell? w _ this;have gg:(a.add 0).block=a.block:=by unfold Addr.add;split<;>rfl
   rwa[gg] at h2
  refine .sl t xs a cap cs n hn hcap (fun hx=>G.av _ (hb hx) (key hx)) hl (fun j u hu=>?_) ih
  have iI:=hc j u hu;have hne:xs≠[]:=by
   rintro rfl;have:cs=[]:=List.eq_nil_of_length_eq_zero (by simpa[flat] using hl)
   subst this;simp at hu
  have gg:(a.add j).block=a.block:=by unfold Addr.add;split<;>rfl
  rw[World.cell?_of_block (w:=w) (a:=a.add j) (by rw[gg];exact G.bc _ (hb hne) (key hne))]
  exact iI
 |fn g bj bs h8 lb zG ow hb aY hl hc _ ih=>
  refine .fn g bj bs h8 lb zG ow (fun b hm=>G.av b (hb b hm) (aY b hm)) (fun b hm=>Nat.lt_of_lt_of_le (aY b hm) M) hl (fun i hi j u hu=>?_) ih
  have iI:=hc i hi j u hu;have hm:bs[i]∈bs:=List.getElem_mem hi;rw[World.cell?_of_block (w:=w) (a:=⟨bs[i],j,none⟩) (G.bc _ (hb _ hm) (aY _ hm))];exact iI
 |tW t=>exact .tW t
 |ui T=>exact .ui T
 |err T n=>exact .err T n
 |map t es b hb hm=>exact .map t es b (G.av b hb hm.lt) (hm.of (G.bc b hb hm.lt))
theorem Ref.goes{o s:Nat}{p pW:Prop}(G:gz B aw sites ba w w' av bR)(h:Ref sites o s p)(an:bO (aw o)=bO (B o)->p->pW):Ref ba o s pW:=by
 obtain⟨O,h1,h2,Z⟩:=h;obtain⟨bo,g1,g2,g3⟩:=G.ref o O h1;refine⟨bo,g1,Nat.le_trans h2 g2,fun e=>?_⟩
 have:bo.bX=O.bX:=by omega
 exact an (g3 this) (Z (by omega))
theorem c_.goes{l:aq}{v:Value}(G:gz B aw sites ba w w' av bR)(M:w.heap.size<=w'.heap.size)(bU:∀b,bR b->b<w'.heap.size)(h:c_ B sites w av l v):c_ aw ba w' bR l v:=by
 cases l with
 |d x=>exact a8.goes G M bU h
 |nil t=>exact h
 |own o s=>exact⟨h.1,Ref.goes G h.2 (fun e p=>by rw[e];exact p)⟩
 |ptr o s off=>obtain⟨b,h1,h2⟩:=h;exact⟨b,h1,Ref.goes G h2 (fun e p=>by rw[e];exact p)⟩
 |dZ cells off=>
  obtain⟨b,D,hv,hb,aY,cs,hl,hc,hr⟩:=h;refine⟨b,D,hv,G.av b hb aY,Nat.lt_of_lt_of_le aY M,cs,hl,fun j u hu=>?_,fun j h1 h2=>(hr j h1 h2).goes G M bU⟩
  have iI:=hc j u hu;rw[World.cell?_of_block (w:=w) (a:=⟨b,D+j,none⟩) (G.bc b hb aY)];exact iI
 |ec o s t k off=>obtain⟨b,h1,h2⟩:=h;exact⟨b,h1,Ref.goes G h2 (fun e p=>by rw[e];exact p)⟩
 |clo g bj=>
  obtain⟨vs,hv,hl,hr⟩:=h;exact⟨vs,hv,hl,fun i h1 h2=>Ref.goes G (hr i h1 h2) (fun e p=>p.trans e.symm)⟩
 |cu u=>exact h
 |fresh t xs=>exact h
 |hs t xs=>exact h
 |eh=>trivial
 |any=>trivial
theorem fP.goes{a:bg}{v:Value}(G:gz B aw sites ba w w' av bR)(M:w.heap.size<=w'.heap.size)(bU:∀b,bR b->b<w'.heap.size)(h:fP B sites w av a v):fP aw ba w' bR a v:=by
 cases a with
 |ah l=>exact c_.goes G M bU h
 |agg U=>
  obtain⟨vs,hv,hl,hr⟩:=h;exact⟨vs,hv,hl,fun j h1 h2=>(hr j h1 h2).goes G M bU⟩
theorem b4.goes{a:aI}{v:Value}(G:gz B aw sites ba w w' av bR)(M:w.heap.size<=w'.heap.size)(bU:∀b,bR b->b<w'.heap.size)(h:b4 B sites w av a v):b4 aw ba w' bR a v:=by
 cases a with
 |av a=>exact fP.goes G M bU h
 |iP as=>
  obtain⟨vs,hv,hl,hr⟩:=h;exact⟨vs,hv,hl,fun j h1 h2=>(hr j h1 h2).goes G M bU⟩
theorem b'.goes{ds:List aK}{vs:List Value}(G:gz B aw sites ba w w' av bR)(M:w.heap.size<=w'.heap.size)(bU:∀b,bR b->b<w'.heap.size)(h:b' w av ds vs):b' w' bR ds vs:=
 ⟨h.1,fun j h1 h2=>(h.2 j h1 h2).goes G M bU⟩
theorem Deep.goes{ds:List aK}{cs aC:List Value}(G:gz B aw sites ba w w' av bR)(M:w.heap.size<=w'.heap.size)(bU:∀b,bR b->b<w'.heap.size)(h:Deep w av ds cs aC):
  (∀n,n∈aC->∀b,Jk.bc n=some b->w'.heap[b]? =w.heap[b]?)->Deep w' bR ds cs aC:=by
 induction h with
 |nil=>intro _;exact .nil
 |row u ys e U an h hr _ ih=>intro ag;exact .row u ys e U an (qf h (ag _ List.mem_cons_self)) (hr.goes G M bU) (ih fun n hn=>ag n (List.mem_cons_of_mem _ hn))
 |leaf an h _ ih=>intro ag;exact .leaf an (h.goes G M bU) (ih ag)
theorem ig.goes{o:Nat}{O:Site}(G:gz B aw sites ba w w' av bR)(M:w.heap.size<=w'.heap.size)(bU:∀b,bR b->b<w'.heap.size)(bI:aw o=B o)
  (hb:O.live=true->∀b,b∈Jk.bu (B o)->w'.heap[b]? =w.heap[b]?) (h:ig B sites w av o O):ig aw ba w' bR o O:=by
 cases O with
 |box s cells=>
  obtain⟨b,T,cur,h1,h2,Z,aH,F3,bp⟩:=h;have:=hb rfl b (fL (by rw[h1];rfl))
  exact⟨b,T,cur,bI.trans h1,this.trans h2,Z,aH,F3,fun j g1 g2=>(bp j g1 g2).goes G M bU⟩
 |row s t xs=>
  obtain⟨e,cs,h1,h2⟩:=h;refine⟨e,cs,?_,fun j g1 g2=>(h2 j g1 g2).goes G M bU⟩
  rw[bI];exact qf h1 fun b b3=>hb rfl b (fL b3)
 |cM s t xs=>exact⟨by rw[bI];exact a8.goes G M bU h.1,by rw[bI];exact h.2⟩
 |map s t es=>
  obtain⟨b,h1,h2⟩:=h;exact⟨b,bI.trans h1,h2.of (hb rfl b (fL (by rw[h1];rfl)))⟩
 |deep s t xs=>
  obtain⟨e,v,aC,cs,h1,h2,Z,aH⟩:=h;have ag:∀b,bc v=some b\/(∃n,n∈aC/\bc n=some b)->w'.heap[b]? =w.heap[b]? :=fun b h=>hb rfl b (by rw[h1];exact iA.2 h)
  exact⟨e,v,aC,cs,bI.trans h1,by rw[bI];exact h2,qf Z fun b h=>ag b (.inl h),aH.goes G M bU fun n hn b h=>ag b (.inr ⟨n,hn,h⟩)⟩
 |dead s=>trivial
end
theorem ae.n7{L:World}{J:List Nat}{X:Nat->Prop}{B aw:Nat->Value}{st:ab}{ba:List (Nat×Site)}{tm:Array Value}{w w':World}
  (S:ae L J X B st tm w)
  (pg:∀o O,look st.sites o=some O->∃bo,look ba o=some bo/\O.bX<=bo.bX/\(bo.bX=O.bX->bO (aw o)=bO (B o)))
  (gg:∀b,¬am X B st.sites b->b<w.heap.size->w'.heap[b]? =w.heap[b]?)
  (bU:∀b,¬am X B st.sites b->b<w.heap.size->¬am X aw ba b)
  (abR:(∀{a v},b4 B st.sites w (am X B st.sites) a v->b4 aw ba w' (am X aw ba) a v)->∀o bo,look ba o=some bo->
   (look st.sites o=some bo/\aw o=B o/\(bo.live=true->∀b,b∈bu (B o)->w'.heap[b]? =w.heap[b]?))\/ig aw ba w' (am X aw ba) o bo)
  (_Y:∀o F b,bM ba o->bM ba F->b∈bu (aw o)->b∈bu (aw F)->o=F)
  (_V:∀o b,bM ba o->b∈bu (aw o)->¬X b/\(b∈J\/L.heap.size<=b))
  (aY:∀o b,bM ba o->b∈bu (aw o)->b<w'.heap.size)
  (ZQ:Fr J L w') (M:w.heap.size<=w'.heap.size):
  ae L J X aw {st with sites:=ba} tm w':=by
 have G:gz B aw st.sites ba w w' (am X B st.sites) (am X aw ba):=⟨pg,gg,bU⟩;have uf:∀b,am X aw ba b->b<w'.heap.size:=by
  rintro b (hx|⟨o,h1,h2⟩)
  ·exact Nat.lt_of_lt_of_le (S.old b hx) M
  ·exact aY o b h1 h2
 refine⟨S.nt,fun t=>(S.cz t).goes G M uf,fun o bo a5=>?_,_Y,_V,ZQ,fun b h=>Nat.lt_of_lt_of_le (S.old b h) M,S.eM⟩
 rcases abR (fun h=>h.goes G M uf) o bo a5 with⟨h1,h2,Z⟩|h
 ·exact(S.sites o bo h1).goes G M uf h2 Z
 ·exact h
def cc(tm:Array Value)(dst:Option Nat)(v:Value):Array Value:=
 match dst with
 |some d=>tm.setIfInBounds d v
 |none=>tm
section
variable {P:Program}{K:Act->World->Prop}{Q:Exit->Act->World->Prop}{D:Oper}{tm:Array Value}{w w':World}{vv:Value}
theorem l2(h:(execOp (Act.eval ⟨tm,[]⟩) D).run P w=.ok (.value vv) w')(ag:K ⟨cc tm D.dst vv,[]⟩ w'):D.wp P ⟨tm,[]⟩ w K Q:=by
 unfold Oper.wp;rw[h,Oper.upon_value];cases Y:D.dst with
 |none=>simp only[Y,cc] at ag;simpa[Act.put] using ag
 |some d=>simp only[Y,cc] at ag;simpa[Act.put] using ag
theorem Zf(h:(execOp (Act.eval ⟨tm,[]⟩) D).run P w=.ok .skip w')(ag:K ⟨cc tm D.dst undef,[]⟩ w'):D.wp P ⟨tm,[]⟩ w K Q:=by
 unfold Oper.wp;rw[h,Oper.upon_skip];cases Y:D.dst with
 |none=>simp only[Y,cc] at ag;simpa[Act.put] using ag
 |some d=>simp only[Y,cc] at ag;simpa[Act.put] using ag
end
def aR(sites:List (Nat×Site)):List (Nat×Site)->List (Nat×Site)
 |[]=>sites
 |(o,s)::r=>aR (b2 sites o s) r
theorem ab.s6(st:ab)(us:List (Nat×Site)):st.g5 us={st with sites:=aR st.sites us}:=by
 induction us generalizing st with
 |nil=>rfl
 |cons p us ih=>obtain⟨o,s⟩:=p;simp only[ab.g5,aR];rw[ih];rfl
theorem hL(sites:List (Nat×Site))(us vs:List (Nat×Site)):aR sites (us++vs)=aR (aR sites us) vs:=by
 induction us generalizing sites with
 |nil=>rfl
 |cons p us ih=>obtain⟨o,s⟩:=p;simp only[List.cons_append,aR];exact ih _
section
variable {L:World}{J:List Nat}{X:Nat->Prop}{B:Nat->Value}{st:ab}{tm:Array Value}{w:World}
theorem ae.put(S:ae L J X B st tm w){t:Nat}{v:aI}{vv:Value}(aB:t<st.nt)(hv:b4 B st.sites w (am X B st.sites) v vv):
  ae L J X B (st.set t v) (tm.setIfInBounds t vv) w:=by
 refine⟨by simpa using S.nt,fun u=>?_,S.sites,S.c8,S.b1,S.frame,S.old,S.eM⟩
 rw[ab.oT];by_cases h:t=u
 ·subst h;simp only[if_true];have:(tm.setIfInBounds t vv).getD t undef=vv:=by
   have h1:t<tm.size:=by rw[S.nt];exact aB
   simp[Array.getD,h1]
  rw[this];exact hv
 ·simp only[h,if_false];have:(tm.setIfInBounds t vv).getD u undef=tm.getD u undef:=by
   simp only[Array.getD_eq_getD_getElem?,Array.getElem?_setIfInBounds,h,if_false]
  rw[this];exact S.cz u
theorem ae.cw{dst:Option Nat}{v:aI}{vv:Value}{us:List (Nat×Site)}(S:ae L J X B {st with sites:=aR st.sites us} tm w)
  (Y:b0 st dst=true) (hv:b4 B (aR st.sites us) w (am X B (aR st.sites us)) v vv):ae L J X B (st.cw dst v us) (cc tm dst vv) w:=by
 cases dst with
 |none=>simp only[ab.cw,ab.s6,cc];exact S
 |some t=>
  simp only[ab.cw,ab.s6,cc];have aB:t<st.nt:=by simpa[b0] using Y
  exact ae.put (st:={st with sites:=aR st.sites us}) S aB hv
theorem cO(S:ae L J X B st tm w)(C:Ctx)(T:TypeId)(x:Operand):b4 B st.sites w (am X B st.sites) (aO C st T x) (Act.eval ⟨tm,[]⟩ x):=by
 cases x with
 |tmp t=>exact S.cz t
 |const v=>
  show b4 _ _ _ _ (th (C.tt T) v) v;unfold th;split
  ·exact .int _ _
  ·exact .bool _
  ·exact .str _ _ rfl
  ·split<;>exact rfl
  ·split
   ·exact .tW _
   ·exact rfl
  ·trivial
  ·trivial
  ·exact rfl
 |global g=>exact rfl
 |func f=>
  refine⟨[],rfl,rfl,fun i h=>?_⟩
  simp at h
variable {P:Program}{C:Ctx}{D:Oper}{K:Act->World->Prop}{Q:Exit->Act->World->Prop}
def cq(P:Program)(L:World)(J:List Nat)(X:Nat->Prop)(st:ab)(tm:Array Value)(w:World)(D:Oper)(v:aI)(us:List (Nat×Site)):Prop:=
 ∀(K:Act->World->Prop) (Q:Exit->Act->World->Prop),(∀aw bH w',ae L J X aw (st.cw D.dst v us) bH w'->K ⟨bH,[]⟩ w')->D.wp P ⟨tm,[]⟩ w K Q
theorem dl(S:ae L J X B st tm w)(Y:b0 st D.dst=true){v:aI}{vv:Value}
  (h:(execOp (Act.eval ⟨tm,[]⟩) D).run P w=.ok (.value vv) w) (hv:b4 B st.sites w (am X B st.sites) v vv):cq P L J X st tm w D v []:=
 fun _ _ bm=>l2 h (bm _ _ _ (ae.cw (us:=[]) S Y hv))
end
section
variable {P:Program}{w:World}
theorem Sd(op:BinOp)(t:TypeId)(x y:Operand)(k k':IntKind)(a b:Int):(eqGuard op t x y (.int k a) (.int k' b)).run P w=.ok () w:=by
 unfold eqGuard;cases op<;>rfl
theorem R7(op:BinOp)(t:TypeId)(x y:Operand)(a b:ByteArray):(eqGuard op t x y (.string a) (.string b)).run P w=.ok () w:=by
 unfold eqGuard;cases op<;>rfl
theorem Hd(op:BinOp)(t:TypeId)(x y:Operand)(a b:Bool):(eqGuard op t x y (.bool a) (.bool b)).run P w=.ok () w:=by
 unfold eqGuard;cases op<;>rfl
def Holds(r:cU)(dv:aI->List (Nat×Site)->Prop):Prop:=∀y,r.comp=some y->r.pM y=true->dv (r.val y) (r.us y)
theorem Holds.fail{dv:aI->List (Nat×Site)->Prop}:Holds .fail dv:=fun _ h _=>by cases h
theorem Holds.ok{v:aI}{dv:aI->List (Nat×Site)->Prop}(h:dv v []):Holds (.ok v) dv:=fun _ _ _=>h
theorem Holds.eX{v:aI}{us:List (Nat×Site)}{dv:aI->List (Nat×Site)->Prop}(h:dv v us):Holds (.eX v us) dv:=fun _ _ _=>h
theorem Holds.dT{H:Type}{c:Option H}{f:H->aI}{dv:aI->List (Nat×Site)->Prop}(h:∀y,c=some y->dv (f y) []):Holds (.dT c f) dv:=fun y ai _=>h y ai
theorem Holds.eV{H:Type}{c:Option H}{f:H->aI}{us:H->List (Nat×Site)}{dv:aI->List (Nat×Site)->Prop}(h:∀y,c=some y->dv (f y) (us y)):Holds (.eV c f us) dv:=fun y ai _=>h y ai
def Plain(P:Program)(w:World)(s:Sem Value)(v:aI)(us:List (Nat×Site)):Prop:=
 ∃vv d,s.run P w=.ok vv w/\us=[]/\v=one d/\∀av,a8 w av d vv
theorem Plain.mk{s:Sem Value}{vv:Value}{d:aK}(h:s.run P w=.ok vv w)(hr:∀av,a8 w av d vv):Plain P w s (one d) []:=⟨vv,d,h,rfl,rfl,hr⟩
theorem Vp(op:BinOp)(T:TypeId)(k:IntKind)(a b:Int)(M:op≠.shl)(eN:op≠.shr):
  Holds (L3 op k a b) (Plain P w (binOp op T (.int k a) (.int k b))):=by
 cases op with
 |shl=>exact absurd rfl M
 |shr=>exact absurd rfl eN
 |andNot=>exact .fail
 |quo=>
  refine Holds.dT fun y ai=>?_
  unfold rD at ai;split at ai
  ·cases ai
  ·rename_i hb;cases ai;exact .mk (by simp[binOp,Op.intDiv,hb]) fun av=>.int _ _
 |rem=>
  refine Holds.dT fun y ai=>?_
  unfold rB at ai;split at ai
  ·cases ai
  ·rename_i hb;cases ai;exact .mk (by simp[binOp,Op.intDiv,hb]) fun av=>.int _ _
 |add=>exact Holds.ok (.mk (by simp[binOp,Op.intArith]) fun av=>.int _ _)
 |sub=>exact Holds.ok (.mk (by simp[binOp,Op.intArith]) fun av=>.int _ _)
 |mul=>exact Holds.ok (.mk (by simp[binOp,Op.intArith]) fun av=>.int _ _)
 |and=>exact Holds.ok (.mk (by simp[binOp,Op.intBits,N3]) fun av=>.int _ _)
 |or=>exact Holds.ok (.mk (by simp[binOp,Op.intBits,Po]) fun av=>.int _ _)
 |xor=>exact Holds.ok (.mk (by simp[binOp,Op.intBits,ry]) fun av=>.int _ _)
 |eql=>exact Holds.ok (.mk (by simp[binOp,Op.intCmp]) fun av=>.bool _)
 |neq=>exact Holds.ok (.mk (by simp[binOp,Op.intCmp]) fun av=>.bool _)
 |lss=>exact Holds.ok (.mk (by simp[binOp,Op.intCmp]) fun av=>.bool _)
 |leq=>exact Holds.ok (.mk (by simp[binOp,Op.intCmp]) fun av=>.bool _)
 |gtr=>exact Holds.ok (.mk (by simp[binOp,Op.intCmp]) fun av=>.bool _)
 |geq=>exact Holds.ok (.mk (by simp[binOp,Op.intCmp]) fun av=>.bool _)
theorem Vn(op:BinOp)(T:TypeId)(a b:ByteArray):
  Holds (LM op a.data.toList b.data.toList) (Plain P w (binOp op T (.string a) (.string b))):=by
 have e1:a.toList=a.data.toList:=ByteArray.toList_eq a;have e2:b.toList=b.data.toList:=ByteArray.toList_eq b;have cW:a.data.toList.length=a.size:=rfl;have fV:b.data.toList.length=b.size:=rfl;cases op with
 |add=>
  refine Holds.dT fun y ai=>?_
  simp only[nq,cW,fV] at ai;split at ai
  ·cases ai
  ·rename_i hc;cases ai;refine .mk (vv:=.string (a++b)) ?_ fun av=>.str _ _ (by simp[ByteArray.data_append])
   simp only[binOp,Op.stringOp,hc,if_false,Sem.run_pure]
 |eql=>exact Holds.ok (.mk (by rw[<-e1,<-e2];rfl) fun av=>.bool _)
 |neq=>exact Holds.ok (.mk (by rw[<-e1,<-e2];rfl) fun av=>.bool _)
 |lss=>exact Holds.ok (.mk (by rw[<-e1,<-e2];rfl) fun av=>.bool _)
 |leq=>exact Holds.ok (.mk (by rw[<-e1,<-e2];rfl) fun av=>.bool _)
 |gtr=>exact Holds.ok (.mk (by rw[<-e1,<-e2];rfl) fun av=>.bool _)
 |geq=>exact Holds.ok (.mk (by rw[<-e1,<-e2];rfl) fun av=>.bool _)
 |_=>exact .fail
end
def oQ:aq->Option Value
 |.d (.int k n)=>some (.int k n)
 |.d (.bool b)=>some (.bool b)
 |.d (.str [])=>some (.string ⟨#[]⟩)
 |.nil _=>some (.slice none 0 0)
 |.cu (.pointer none)=>some (.pointer none)
 |.cu .nilFunc=>some .nilFunc
 |.cu (.map none)=>some (.map none)
 |.cu .nilIface=>some .nilIface
 |_=>none
def kv:List aq->Option (List Value)
 |[]=>some []
 |l::U=>match oQ l,kv U with
  |some v,some vs=>some (v::vs)
  |_,_=>none
theorem HX{l:aq}{v:Value}(h:oQ l=some v)(B:Nat->Value)(sites:List (Nat×Site))(w:World)(av:Nat->Prop):c_ B sites w av l v/\v.oneCell'=true:=by
 unfold oQ at h;split at h<;>first|cases h|skip
 ·exact⟨.int _ _,rfl⟩
 ·exact⟨.bool _,rfl⟩
 ·exact⟨.str _ _ rfl,rfl⟩
 ·exact⟨rfl,rfl⟩
 ·exact⟨rfl,rfl⟩
 ·exact⟨rfl,rfl⟩
 ·exact⟨rfl,rfl⟩
 ·exact⟨rfl,rfl⟩
theorem qc:∀{U:List aq} {vs:List Value},kv U=some vs->vs.length=U.length/\(∀u∈vs,u.oneCell'=true)/\
  ∀(B:Nat->Value) (sites:List (Nat×Site)) (w:World) (av:Nat->Prop) j (h:j<U.length) (aa:j<vs.length),c_ B sites w av (U[j]) (vs[j]):=by
 intro U;induction U with
 |nil=>intro vs h;simp[kv] at h;subst h;exact⟨rfl,fun u hu=>by simp at hu,fun _ _ _ _ j h=>by simp at h⟩
 |cons l U ih=>
  intro vs h;simp only[kv] at h;split at h
  ·rename_i v cg h1 h2;cases h;obtain⟨g1,g2,g3⟩:=ih h2;refine⟨by simp[g1],fun u hu=>?_,fun B sites w av j hj iR=>?_⟩
   ·rcases List.mem_cons.1 hu with rfl|hu
    ·exact(HX h1 (fun _=>undef) [] default (fun _=>False)).2
    ·exact g2 u hu
   ·cases j with
    |zero=>exact(HX h1 _ _ _ _).1
    |succ j=>exact g3 B sites w av j (by simpa using hj) (by simpa using iR)
  ·cases h
def mP:Value->Value->Option Bool
 |.int k a,.int k' b=>if k=k' then some (a==b) else none
 |.bool a,.bool b=>some (a==b)
 |.string a,.string b=>some (a==b)
 |_,_=>none
def iz:List Value->List Value->Option Bool
 |[a],[b]=>mP a b
 |a::as,b::bs=>match mP a b,iz as bs with
  |some x,some y=>some (x&&y)
  |_,_=>none
 |_,_=>none
def od:List aq->List Value->Bool
 |[],[]=>true
 |.d (.int _ _)::z,.int _ _::l=>od z l
 |.d (.bool _)::z,.bool _::l=>od z l
 |.d (.str _)::z,.string _::l=>od z l
 |_,_=>false
def im(P:Program)(T:TypeId)(d:TypeDesc)(z:Value):Prop:=
 P.underlying T=some d/\(∀bx,d≠.struct bx)/\(∀n e,d≠.array n e)/\(P.info? T).map (fun i=>(i.size,i.zero))=some (1,some z)
def mapElem(P:Program)(e:TypeId):aE->Prop
 |.i64=>im P e (.int .i64) (.int .i64 0)
 |.bool=>im P e .bool (.bool false)
 |_=>False
def CR(P:Program)(e:TypeId):aE->Prop
 |.i64=>im P e (.int .i64) (.int .i64 0)
 |.u32=>im P e (.int .u32) (.int .u32 0)
 |.bool=>im P e .bool (.bool false)
 |.str=>im P e .string (.string ⟨#[]⟩)
 |_=>False
def b8.ok(P:Program)(T:TypeId):b8->Prop
 |.none=>True
 |.int k=>im P T (.int k) (.int k 0)
 |.bool=>im P T .bool (.bool false)
 |.str=>im P T .string (.string ⟨#[]⟩)
 |.ptr=>∃e,im P T (.pointer e) (.pointer Option.none)
 |.func=>∃ps kc v,im P T (.func ps kc v) .nilFunc
 |.slice e t bytes=>im P T (.slice e) (.slice Option.none 0 0)/\∃z,(P.info? e).map (fun i=>(i.size,i.bytes,i.zero))=some (au t,bytes,some z)/\z.cells.size=au t/\(t.e7=true->e=kX)
 |.struct bx n z eq=>∃fields:Array Field,P.underlying T=some (.struct fields)/\
   (fields.toList.mapM (fun f=>(P.info? f.type).map fun i=>(f.offset,i.size))=some bx/\∀p∈bx,p.2≠0)/\
   (∃fh,(P.info? T).map (fun i=>(i.size,i.zero))=some (n,some (.agg fh))/\kv z=some fh.toList/\z.length=n)/\
   (eq=true->P.eqGuardType P.depth T=false/\∀(vs us:List Value) (b:Bool) (w:World),iz vs us=some b->od z vs=true->(Op.equal T (.agg vs.toArray) (.agg us.toArray)).run P w=.ok b w)
 |.map k e t=>im P T (.map k e) (.map Option.none)/\P.underlying k=some .string/\mapElem P e t
 |.iface=>∃h7,im P T (.interface h7) .nilIface
 |.arr e t n=>P.underlying T=some (.array n e)/\(∃fh z,(P.info? T).map (fun i=>(i.size,i.zero))=some (n,some (.agg fh))/\rS t=some z/\kv (List.replicate n z)=some fh.toList)/\CR P e t
section
variable {P:Program}{T:TypeId}{w:World}
theorem kp{i:TypeInfo}(h:P.info? T=some i):(typeInfo T).run P w=.ok i w:=by
 simp[typeInfo,h]
theorem b8.JA{ti:b8}(h:ti.ok P T)(hn:ti≠.none):(sizeOf T).run P w=.ok ti.size w:=by
 have key:∀{z:Option Value} {n:Nat},(P.info? T).map (fun i=>(i.size,i.zero))=some (n,z)->(sizeOf T).run P w=.ok n w:=by
  intro z n h;cases hi:P.info? T with
  |none=>simp[hi] at h
  |some i=>
   simp only[hi,Option.map_some,Option.some.injEq,Prod.mk.injEq] at h;simp[sizeOf,kp hi,h.1]
 cases ti with
 |none=>exact absurd rfl hn
 |int k=>exact key h.2.2.2
 |bool=>exact key h.2.2.2
 |str=>exact key h.2.2.2
 |ptr=>obtain⟨e,h⟩:=h;exact key h.2.2.2
 |func=>obtain⟨_,_,_,h⟩:=h;exact key h.2.2.2
 |iface=>obtain⟨_,h⟩:=h;exact key h.2.2.2
 |slice e t b=>exact key h.1.2.2.2
 |map k e t=>exact key h.1.2.2.2
 |struct bx n z eq=>obtain⟨fields,_,_,⟨fh,h,_⟩,_⟩:=h;exact key h
 |arr e t n=>obtain⟨_,⟨fh,z,h,_⟩,_⟩:=h;exact key h
theorem b8.wq{ti:b8}(h:ti.ok P T){z:List aq}(hz:ti.zero=some z):∃v,(zeroValue T).run P w=.ok v w/\kv z=some v.cells.toList:=by
 have key:∀{z:Value} {n:Nat},(P.info? T).map (fun i=>(i.size,i.zero))=some (n,some z)->(zeroValue T).run P w=.ok z w:=by
  intro z n h;cases hi:P.info? T with
  |none=>simp[hi] at h
  |some i=>
   simp only[hi,Option.map_some,Option.some.injEq,Prod.mk.injEq] at h;simp[zeroValue,kp hi,h.2]
 cases ti with
 |none=>cases hz
 |int k=>cases hz;exact⟨_,key h.2.2.2,rfl⟩
 |bool=>cases hz;exact⟨_,key h.2.2.2,rfl⟩
 |str=>cases hz;exact⟨_,key h.2.2.2,rfl⟩
 |ptr=>cases hz;obtain⟨e,h⟩:=h;exact⟨_,key h.2.2.2,rfl⟩
 |func=>cases hz;obtain⟨_,_,_,h⟩:=h;exact⟨_,key h.2.2.2,rfl⟩
 |iface=>cases hz;obtain⟨_,h⟩:=h;exact⟨_,key h.2.2.2,rfl⟩
 |slice e t b=>cases hz;exact⟨_,key h.1.2.2.2,rfl⟩
 |map k e t=>cases hz;exact⟨_,key h.1.2.2.2,rfl⟩
 |struct bx n dU eq=>cases hz;obtain⟨fields,_,_,⟨fh,h,h2,_⟩,_⟩:=h;exact⟨_,key h,h2⟩
 |arr e t n=>
  obtain⟨_,⟨fh,z3,h,h1,h2⟩,_⟩:=h;simp only[b8.zero,h1,Option.map_some,Option.some.injEq] at hz;subst hz;exact⟨_,key h,h2⟩
theorem b8.IJ{ti:b8}(h:ti.ok P T)(hn:ti≠.none):(isAgg T).run P w=.ok ti.agg w:=by
 have key:∀{d:TypeDesc},P.underlying T=some d->(∀bx,d≠.struct bx)->(∀n e,d≠.array n e)->(isAgg T).run P w=.ok false w:=by
  intro d h h1 h2;simp only[isAgg,Sem.run_bind,run_underlying h,Result.andThen_ok];cases d<;>first|rfl|exact absurd rfl (h1 _)|exact absurd rfl (h2 _ _)
 cases ti with
 |none=>exact absurd rfl hn
 |int k=>exact key h.1 h.2.1 h.2.2.1
 |bool=>exact key h.1 h.2.1 h.2.2.1
 |str=>exact key h.1 h.2.1 h.2.2.1
 |ptr=>obtain⟨e,h⟩:=h;exact key h.1 h.2.1 h.2.2.1
 |func=>obtain⟨_,_,_,h⟩:=h;exact key h.1 h.2.1 h.2.2.1
 |iface=>obtain⟨_,h⟩:=h;exact key h.1 h.2.1 h.2.2.1
 |slice e t b=>exact key h.1.1 h.1.2.1 h.1.2.2.1
 |map k e t=>exact key h.1.1 h.1.2.1 h.1.2.2.1
 |struct bx n z eq=>
  obtain⟨fields,h,_⟩:=h;simp only[isAgg,Sem.run_bind,run_underlying h,Result.andThen_ok];rfl
 |arr e t n=>
  obtain⟨h,_⟩:=h;simp only[isAgg,Sem.run_bind,run_underlying h,Result.andThen_ok];rfl
def q9(agg:Bool)(cs:List Value):Value:=bif agg then .agg cs.toArray else cs.headD undef
theorem qa{ti:b8}(h:ti.ok P T)(hn:ti≠.none)(a:Addr)(cs:List Value)(hl:cs.length=ti.size)(hc:∀j u,cs[j]? =some u->w.cell? (a.add j)=some u):
  (loadVar T a).run P w=.ok (q9 ti.agg cs) w:=by
 simp only[loadVar,Sem.run_bind,b8.IJ h hn,Result.andThen_ok];cases ED:ti.agg with
 |true=>
  simp only[if_true,Sem.run_bind,b8.JA h hn,Result.andThen_ok,q9,cond_true];rw[<-hl,run_loadCells_list w a cs hc];rfl
 |false=>
  have h1:ti.size=1:=by cases ti<;>first|rfl|cases ED
  rw[h1] at hl;match cs,hl with
  |[c],_=>
   have aQ:=hc 0 c rfl;have a9:a.add 0=a:=by unfold Addr.add;simp
   rw[a9] at aQ;simp[q9,aQ]
end
section
variable {B:Nat->Value}{sites:List (Nat×Site)}{w:World}{av:Nat->Prop}
def ca(B:Nat->Value)(sites:List (Nat×Site))(w:World)(av:Nat->Prop)(U:List aq)(vs:List Value):Prop:=
 vs.length=U.length/\∀j (h:j<U.length) (aa:j<vs.length),c_ B sites w av (U[j]) (vs[j])
theorem ca.nil:ca B sites w av [] []:=⟨rfl,fun j h=>by simp at h⟩
theorem ca.cons{l:aq}{U:List aq}{v:Value}{vs:List Value}(h:c_ B sites w av l v)(M:ca B sites w av U vs):ca B sites w av (l::U) (v::vs):=
 ⟨by simp[M.1],fun j h1 h2=>by
  cases j with
  |zero=>exact h
  |succ j=>exact M.2 j (by simpa using h1) (by simpa using h2)⟩
theorem ca.inv{l:aq}{U:List aq}{vs:List Value}(h:ca B sites w av (l::U) vs):∃v cg,vs=v::cg/\c_ B sites w av l v/\ca B sites w av U cg:=by
 obtain⟨h1,h2⟩:=h;match vs,h1 with
 |v::cg,h1=>
  exact⟨v,cg,rfl,h2 0 (by simp) (by simp),by simpa using h1,fun j g1 g2=>h2 (j+1) (by simpa using g1) (by simpa using g2)⟩
theorem ca.kx{vs:List Value}(h:ca B sites w av [] vs):vs=[]:=List.eq_nil_of_length_eq_zero h.1
theorem ca.drop{U:List aq}{vs:List Value}(n:Nat)(h:ca B sites w av U vs):ca B sites w av (U.drop n) (vs.drop n):=
 ⟨by simp[h.1],fun j h1 h2=>by simp only[List.getElem_drop];exact h.2 _ (by simp at h1;omega) (by simp at h2;omega)⟩
theorem ca.take{U:List aq}{vs:List Value}(n:Nat)(h:ca B sites w av U vs):ca B sites w av (U.take n) (vs.take n):=
 ⟨by simp[h.1],fun j h1 h2=>by simp only[List.getElem_take];exact h.2 _ (by simp at h1;omega) (by simp at h2;omega)⟩
theorem ca.append{U da:List aq}{vs cg:List Value}(h:ca B sites w av U vs)(aa:ca B sites w av da cg):ca B sites w av (U++da) (vs++cg):=by
 induction U generalizing vs with
 |nil=>rw[h.kx];exact aa
 |cons l U ih=>
  obtain⟨v,ajE,rfl,h1,h2⟩:=h.inv;exact .cons h1 (ih h2)
theorem ca.bf{U da:List aq}{vs cg:List Value}(off:Nat)(h:ca B sites w av U vs)(aa:ca B sites w av da cg):ca B sites w av (Jk.bf U off da) (Jk.bf vs off cg):=by
 unfold Jk.bf;rw[aa.1];exact((h.take off).append aa).append (h.drop _)
theorem c_.hN{l:aq}{u:Value}(h:c_ B sites w av l u)(df:l.storable=true):u.oneCell'=true:=by
 cases l with
 |d x=>exact a8.hN h
 |nil t=>rw[show u=_ from h];rfl
 |own o s=>exact h.1
 |ptr o s off=>obtain⟨b,rfl,_⟩:=h;rfl
 |dZ c D=>cases df
 |ec _ _ _ _ _=>cases df
 |clo g bj=>obtain⟨vs,rfl,_⟩:=h;rfl
 |cu x=>rw[show u=x from h];cases x<;>first|rfl|cases df
 |fresh t xs=>cases df
 |hs t xs=>cases df
 |eh=>cases df
 |any=>cases df
theorem ca.hN{U:List aq}{vs:List Value}(h:ca B sites w av U vs)(df:fY U=true):∀u∈vs,u.oneCell'=true:=by
 induction U generalizing vs with
 |nil=>rw[h.kx];intro u hu;simp at hu
 |cons l U ih=>
  obtain⟨v,cg,rfl,h1,h2⟩:=h.inv;simp only[fY,Bool.and_eq_true] at df;intro u hu;rcases List.mem_cons.1 hu with rfl|hu
  ·exact h1.hN df.1
  ·exact ih h2 df.2 u hu
theorem fP.cells{a:bg}{v:Value}(h:fP B sites w av a v)(df:fY a.cells=true):ca B sites w av a.cells v.cells.toList:=by
 cases a with
 |ah l=>
  have h1:v.oneCell'=true:=c_.hN h (by simpa[bg.cells,fY] using df)
  have:v.cells=#[v]:=by cases v<;>first|rfl|cases h1
  rw[this];exact .cons h .nil
 |agg U=>
  obtain⟨vs,rfl,h1,h2⟩:=h;exact⟨h1,h2⟩
theorem Lo{agg:Bool}{off n:Nat}{U:List aq}{vs:List Value}{v:aI}(hc:cut agg off n U=some v)(h1:agg=false->n=1)(h:ca B sites w av U vs):
  off+n<=vs.length/\b4 B sites w av v (q9 agg ((vs.drop off).take n)):=by
 unfold cut at hc;cases agg with
 |true=>
  simp only[cond_true] at hc;cases hb:Nat.ble (off+n) U.length with
  |false=>simp[hb] at hc
  |true=>
   simp only[hb,cond_true,Option.some.injEq] at hc;subst hc;have cX:off+n<=U.length:=Nat.le_of_ble_eq_true hb;have:=(h.drop off).take n;exact⟨by rw[h.1];exact cX,_,rfl,this.1,this.2⟩
 |false=>
  simp only[cond_false] at hc;have hn:=h1 rfl;subst hn;cases Y:U.drop off with
  |nil=>simp[Y] at hc
  |cons l r=>
   simp only[Y,Option.some.injEq] at hc;subst hc;have Qk:=h.drop off;rw[Y] at Qk;obtain⟨u,us,hu,hl,_⟩:=Qk.inv;have hlen:off<U.length:=by
    rcases Nat.lt_or_ge off U.length with h|h
    ·exact h
    ·rw[List.drop_eq_nil_of_le h] at Y;cases Y
   refine⟨by rw[h.1];omega,?_⟩
   rw[hu];exact hl
theorem gN{ds:List aK}{vs:List Value}(hl:vs.length=ds.length)(h:∀j (h:j<ds.length) (aa:j<vs.length),a8 w av (ds[j]) (vs[j])):ca B sites w av (cv ds) vs:=
 ⟨by simp[cv,hl],fun j h1 h2=>by simp only[cv,List.getElem_map];exact h j (by simpa[cv] using h1) h2⟩
end
theorem f_(b D j:Nat):(⟨b,D,none⟩:Addr).add j=⟨b,D+j,none⟩:=by
 unfold Addr.add;split<;>simp_all
def gZ(w:World)(b D:Nat)(cs:List Value):Prop:=∀j u,cs[j]? =some u->w.cell? ⟨b,D+j,none⟩=some u
theorem gZ.drop{w:World}{b D:Nat}{cs:List Value}(h:gZ w b D cs)(m:Nat):gZ w b (D+m) (cs.drop m):=by
 intro j u hu;rw[List.getElem?_drop] at hu;have:=h _ _ hu;rwa[Nat.add_assoc]
theorem gZ.take{w:World}{b D:Nat}{cs:List Value}(h:gZ w b D cs)(m:Nat):gZ w b D (cs.take m):=by
 intro j u hu;rw[List.getElem?_take] at hu;split at hu
 ·exact h _ _ hu
 ·cases hu
theorem gZ.row{w:World}{b:Nat}{cur:List Value}{T:TypeId}{cn:Nat×Nat}(h:w.heap[b]? =some (.cells cur.toArray T cn)):gZ w b 0 cur:=by
 intro j u hu;rw[Nat.zero_add,cell_of_row w b j _ T cn h];simpa using hu
theorem sL(t:aE)(xs:List (den t))(k:Nat)(x:den t)(hx:xs[k]? =some x):((flat t xs).drop (k*au t)).take (au t)=enc t x:=by
 apply List.ext_getElem?;intro j;rw[List.getElem?_take,List.getElem?_drop];split
 ·rename_i hj;exact flat_get t xs k j x hx hj
 ·rename_i hj;rw[List.getElem?_eq_none (by rw[e3];omega)]
section
variable {P:Program}{C:gS}{L:World}{J:List Nat}{X:Nat->Prop}{B:Nat->Value}{st:ab}{tm:Array Value}{w:World}
theorem gq{o s:Nat}{cells:List aq}(h:fo st o s=some cells):look st.sites o=some (.box s cells):=by
 unfold fo ab.O at h;split at h
 ·rename_i aj iE hl;cases hb:aj.beq s with
  |false=>simp[hb] at h
  |true=>
   simp only[hb,cond_true,Option.some.injEq] at h;have:=Nat.eq_of_beq_eq_true hb;subst this h;exact hl
 ·cases h
theorem jb{o s:Nat}{t:aE}{xs:List (den t)}(h:rowOf st o s=some ⟨t,xs⟩):look st.sites o=some (.row s t xs)\/look st.sites o=some (.cM s t xs):=by
 unfold rowOf ab.O at h;split at h
 ·rename_i aj a7 g8 hl;cases hb:aj.beq s with
  |false=>simp[hb] at h
  |true=>
   simp only[hb,cond_true,Option.some.injEq] at h;have:=Nat.eq_of_beq_eq_true hb;subst this;cases h;exact .inl hl
 ·rename_i aj a7 g8 hl;cases hb:aj.beq s with
  |false=>simp[hb] at h
  |true=>
   simp only[hb,cond_true,Option.some.injEq] at h;have:=Nat.eq_of_beq_eq_true hb;subst this;cases h;exact .inr hl
 ·cases h
theorem Ref.at{sites:List (Nat×Site)}{o s:Nat}{p:Prop}{O:Site}(h:Ref sites o s p)(hl:look sites o=some O)(M:O.bX=s):p:=by
 obtain⟨bo,h1,_,Z⟩:=h;rw[hl] at h1;cases h1;exact Z M
theorem Ref.mk{sites:List (Nat×Site)}{o s:Nat}{p:Prop}{O:Site}(hl:look sites o=some O)(M:O.bX=s)(an:p):Ref sites o s p:=
 ⟨O,hl,by omega,fun _=>an⟩
theorem ae.box(S:ae L J X B st tm w){o s off:Nat}{cells:List aq}(h:look st.sites o=some (.box s cells)){v:Value}(hv:c_ B st.sites w (am X B st.sites) (.ptr o s off) v):
  ∃b T cur,B o=.pointer (some ⟨b,0,none⟩)/\v=.pointer (some ⟨b,off,none⟩)/\w.heap[b]? =some (.cells (List.toArray cur) T (0,0))/\(∀u∈cur,u.oneCell'=true)/\ca B st.sites w (am X B st.sites) cells cur:=by
 obtain⟨b,T,cur,h1,h2,Z,aH,_,bp⟩:=S.sites o _ h;obtain⟨a3,g2,g3⟩:=hv;have g1:=Ref.at g3 h rfl;rw[h1] at g1;cases g1;exact⟨b,T,cur,h1,g2,h2,aH,Z,bp⟩
theorem ae.row(S:ae L J X B st tm w){o s:Nat}{t:aE}{xs:List (den t)}(h:rowOf st o s=some ⟨t,xs⟩):
  ∃cs:List Value,ca B st.sites w (am X B st.sites) (cv (flat t xs)) cs/\
   ((bO (B o)=.slice none 0 0/\xs=[])\/∃b c,bO (B o)=.slice (some ⟨b,0,none⟩) xs.length c/\gZ w b 0 cs/\xs.length<=c):=by
 rcases jb h with h|h
 ·obtain⟨e,cs,h1,h2⟩:=S.sites o _ h;have hl:cs.length=(flat t xs).length:=by rw[dO];exact h1.1
  refine⟨cs,gN hl h2,?_⟩;rw[(ie h1).1];rcases h1.2 with⟨hn,aQ⟩|⟨g,cap,cur,bn,hv,_,hg,hnc,_,_,jt⟩
  ·exact .inl ⟨hn,List.eq_nil_of_length_eq_zero aQ⟩
  ·refine .inr ⟨_,_,hv,fun j u hu=>?_,hnc⟩
   rw[Nat.zero_add,cell_of_row w g j cur e bn hg];rw[<-jt,List.getElem?_take] at hu;split at hu
   ·simpa using hu
   ·cases hu
 ·obtain⟨h1,bW⟩:a8 w (am X B st.sites) (.sl t xs) (bO (B o))/\um (bO (B o)):=S.sites o _ h;generalize hv:bO (B o)=v at h1 bW;cases h1 with
  |nil t=>exact⟨[],⟨rfl,fun j h=>by simp[cv,flat] at h⟩,.inl ⟨rfl,rfl⟩⟩
  |sl t xs a cap cs n hn hcap hb hl hc hr=>
   subst hn;rcases bW with bW|⟨b,n,c,bW⟩
   ·cases bW
   ·cases bW;exact⟨cs,gN hl hr,.inr ⟨b,cap,rfl,fun j u hu=>by have:=hc j u hu;rwa[f_] at this,hcap⟩⟩
def OV(g:Nat)(t:aE)(xs:List (den t)):Prop:=g∈np/\∀w (av:Nat->Prop),oz w->∃T bn,∃cs:List Value,w.heap[g]? =some (.cells cs.toArray T bn)/\cs.length=(flat t xs).length/\∀j (h:j<(flat t xs).length) (aa:j<cs.length),a8 w av ((flat t xs)[j]) (cs[j])
structure CtxOk(P:Program)(C:Ctx):Prop where
 tt:∀T,(C.tt T).ok P T
 gt:∀g t xs,C.gt g=some ⟨t,xs⟩->OV g t xs
theorem Bu{ti:b8}(h:ti.known=true):ti≠.none:=by rintro rfl;cases h
theorem BN{ti:b8}(h:ti.agg=false):ti.size=1:=by cases ti<;>first|rfl|cases h
theorem XB{agg:Bool}{off n:Nat}{U:List aq}(h:off+n<=U.length)(h1:agg=false->n=1):cut agg off n U≠none:=by
 unfold cut;cases agg with
 |true=>
  have:Nat.ble (off+n) U.length=true:=Nat.ble_eq_true_of_le h;simp[this]
 |false=>
  have:=h1 rfl;simp only[cond_false];cases Y:U.drop off with
  |nil=>have:=congrArg List.length Y;simp at this;omega
  |cons l r=>simp
theorem YF(S:ae L J X B st tm w){C:Ctx}(ax:CtxOk P C){D:Oper}{T:TypeId}{x:Operand}(ar:D.op=.load T x)(Y:b0 st D.dst=true)(ag:(C.tt T).known=true):
  Holds (rf (C.tt T).agg (C.tt T).size st (aO C st T x)) (cq P L J X st tm w D):=by
 have hn:=Bu ag;have a':=cO S C T x;have fin:∀{b p:Nat} {U:List aq} {vs:List Value} {off:Nat} {v:aI},Act.eval ⟨tm,[]⟩ x=.pointer (some ⟨b,p+off,none⟩)->gZ w b p vs->ca B st.sites w (am X B st.sites) U vs->
   cut (C.tt T).agg off (C.tt T).size U=some v->cq P L J X st tm w D v []:=by
  intro b p U vs off v hx hc hl iM;obtain⟨cX,FC⟩:=Lo iM BN hl;refine dl S Y (vv:=q9 (C.tt T).agg ((vs.drop off).take (C.tt T).size)) ?_ FC;have cC:=qa (P:=P) (w:=w) (ax.tt T) hn ⟨b,p+off,none⟩ ((vs.drop off).take (C.tt T).size) (by simp;omega) (fun j u hu=>by rw[f_];exact(hc.drop off).take _ j u hu)
  unfold execOp;simp only[ar,Instr.loadAt,Instr.sureAddr,hx,Sem.run_bind,Sem.run_pure,Result.andThen_ok,cC]
 unfold rf;split
 ·rename_i o s off bN;rw[bN] at a';split
  ·rename_i cells hb;split
   ·rename_i v iM;obtain⟨b,fv,cur,_,hv,hg,_,hl⟩:=S.box (gq hb) a';exact Holds.ok (fin (p:=0) (by rw[Nat.zero_add];exact hv) (gZ.row hg) hl iM)
   ·exact .fail
  ·exact .fail
 ·rename_i cells off bN;rw[bN] at a';split
  ·rename_i v iM;obtain⟨b,p,hv,_,_,cs,hl,hc,hr⟩:=a';exact Holds.ok (fin hv hc (gN hl hr) iM)
  ·exact .fail
 ·rename_i o s u k off bN;rw[bN] at a';split
  ·rename_i t xs cY;split
   ·rename_i nh;obtain⟨rfl,cX⟩:=nh;refine Holds.dT fun y ai=>?_
    have dC:xs[k]? =some y:=ai;obtain⟨cs,hl,iI⟩:=S.row cY;have df:∃O,look st.sites o=some O/\O.bX=s:=by
     rcases jb cY with h|h<;>exact⟨_,h,rfl⟩
    obtain⟨O,fS,ju⟩:=df;obtain⟨b,hv,ue⟩:=a';obtain⟨n,c,bI⟩:=Ref.at ue fS ju;cases iM:cut (C.tt T).agg off (C.tt T).size (cv (enc t y)) with
    |none=>exact absurd iM (XB (by simpa[cv,e3] using cX) BN)
    |some v=>
     rcases iI with⟨n_,_⟩|⟨a3,fk,dy,hcs,_⟩
     ·rw[bI] at n_;cases n_
     ·rw[bI] at dy;cases dy;have e1:cv (enc t y)=((cv (flat t xs)).drop (k*au t)).take (au t):=by
       rw[<-sL t xs k y dC];simp[cv,List.map_drop,List.map_take]
      rw[e1] at iM;refine fin (p:=k*au t) hv ?_ ((hl.drop (k*au t)).take (au t)) iM;have:=(hcs.drop (k*au t)).take (au t);rwa[Nat.zero_add] at this
   ·exact .fail
  ·exact .fail
 ·exact .fail
end
section
variable {P:Program}{L:World}{J:List Nat}{X:Nat->Prop}{B:Nat->Value}{st:ab}{tm:Array Value}{w:World}
theorem sW{u:Bool}{e:TypeId}{size:Nat}{v:Value}{n:Nat}{xs:List Value}{b:Nat}(h:rowAt w u e size v n xs)(hb:bc v=some b):b<w.heap.size:=by
 rcases h.2 with⟨hn,_⟩|⟨g,cap,cur,bn,hv,_,hg,_⟩
 ·rw[hn] at hb;cases hb
 ·rw[hv] at hb;cases hb;exact(Array.getElem?_eq_some_iff.1 hg).1
theorem Deep.lt{av:Nat->Prop}{ds:List aK}{cs aC:List Value}(h:Deep w av ds cs aC):∀n,n∈aC->∀b,bc n=some b->b<w.heap.size:=by
 induction h with
 |nil=>intro n hn;cases hn
 |row u ys e U _ h _ _ ih=>
  intro n hn b hb;rcases List.mem_cons.1 hn with rfl|hn
  ·exact sW h hb
  ·exact ih n hn b hb
 |leaf _ _ _ ih=>exact ih
theorem ae.dP(S:ae L J X B st tm w){o b:Nat}(hl:bM st.sites o)(hb:b∈bu (B o)):b<w.heap.size:=by
 obtain⟨O,h1,h2⟩:=hl;have:=S.sites o O h1;cases O with
 |box s cells=>
  obtain⟨a3,T,cur,g1,g2,_⟩:=this;rw[g1] at hb;have hb:b∈[a3]:=hb;rw[List.mem_singleton.1 hb];exact(Array.getElem?_eq_some_iff.1 g2).1
 |row s t xs=>
  obtain⟨e,cs,g1,_⟩:=this;exact sW g1 (s8 g1 hb)
 |map s t es=>
  obtain⟨a3,g1,g2⟩:=this;rw[g1] at hb;have hb:b∈[a3]:=hb;rw[List.mem_singleton.1 hb];exact g2.lt
 |deep s t xs=>
  obtain⟨e,v,aC,cs,g1,_,g2,g3⟩:=this;rw[g1] at hb;rcases iA.1 hb with hb|⟨n,hn,hb⟩
  ·exact sW g2 hb
  ·exact g3.lt n hn b hb
 |cM=>cases h2
 |dead=>cases h2
theorem x3{B aw:Nat->Value}{sites ba:List (Nat×Site)}{w w':World}{av bR:Nat->Prop}(go:∀{a:aI} {v:Value},b4 B sites w av a v->b4 aw ba w' bR a v){U:List aq}{vs:List Value}
  (h:ca B sites w av U vs):ca aw ba w' bR U vs:=by
 obtain⟨cg,h1,h2,Z⟩:=go (a:=.av (.agg U)) (v:=.agg vs.toArray) ⟨vs,rfl,h.1,h.2⟩;have:vs=cg:=by simpa using h1
 subst this;exact⟨h2,Z⟩
theorem jf{B aw:Nat->Value}{sites ba:List (Nat×Site)}{w w':World}{av bR:Nat->Prop}(go:∀{a:aI} {v:Value},b4 B sites w av a v->b4 aw ba w' bR a v){d:aK}{v:Value}
  (h:a8 w av d v):a8 w' bR d v:=go (a:=one d) (v:=v) h
theorem Ia{sites:List (Nat×Site)}{o:Nat}{O bo:Site}(hl:look sites o=some O)(h:bo.live=O.live)(F:Nat):bM (b2 sites o bo) F <-> bM sites F:=by
 unfold bM;rw[ce];by_cases e:o=F
 ·subst e;simp only[if_true,hl,Option.some.injEq];constructor
  ·rintro⟨s,rfl,h2⟩;exact⟨O,rfl,h▸h2⟩
  ·rintro⟨s,rfl,h2⟩;exact⟨bo,rfl,h▸h2⟩
 ·simp only[e,if_false]
theorem ae.write(S:ae L J X B st tm w){o b:Nat}{O bo:Site}{cur rP:Array Value}{T:TypeId}{cn:Nat×Nat}(hl:look st.sites o=some O)(fx:O.live=true)(ZP:bo.live=true)(M:bo.bX=O.bX)
  (bI:b∈bu (B o)) (hg:w.heap[b]? =some (.cells cur T cn))
  (e9:∀{ba:List (Nat×Site)} {w':World},ba=b2 st.sites o bo->w'=w.setRow b rP->w'.heap[b]? =some (.cells rP T cn)->
   (∀{a v},b4 B st.sites w (am X B st.sites) a v->b4 B ba w' (am X B ba) a v)->ig B ba w' (am X B ba) o bo):
  ae L J X B {st with sites:=b2 st.sites o bo} tm (w.setRow b rP):=by
 have ci:bM st.sites o:=⟨O,hl,fx⟩;have ln:∀F,bM (b2 st.sites o bo) F <-> bM st.sites F:=Ia hl (ZP.trans fx.symm);have bU:∀a3,am X B (b2 st.sites o bo) a3 <-> am X B st.sites a3:=by
  intro a3;unfold am;simp only[ln]
 have hne:∀a3,¬am X B st.sites a3->a3≠b:=by
  rintro a3 h rfl;exact h (.inr ⟨o,ci,bI⟩)
 refine S.n7 (fun F s bh=>?_) (fun a3 h _=>setRow_other w b a3 _ (hne a3 h)) (fun a3 h _=>by rw[bU];exact h) (fun go F s bh=>?_) (fun F aN a3 h1 h2=>S.c8 F aN a3 ((ln F).1 h1) ((ln aN).1 h2))
  (fun F a3 h=>S.b1 F a3 ((ln F).1 h)) (fun F a3 h hb=>by rw[setRow_size];exact S.dP ((ln F).1 h) hb) ?_ (by rw[setRow_size];exact Nat.le_refl _)
 ·rw[ce];by_cases e:o=F
  ·subst e;rw[hl] at bh;cases bh;exact⟨bo,by simp,by omega,fun _=>rfl⟩
  ·exact⟨s,by simp[e,bh],Nat.le_refl _,fun _=>rfl⟩
 ·rw[ce] at bh;by_cases e:o=F
  ·subst e;simp only[if_true,Option.some.injEq] at bh;subst bh;exact .inr (e9 rfl rfl (setRow_heap w b cur rP T cn hg) go)
  ·simp only[e,if_false] at bh;refine .inl ⟨bh,rfl,fun rK a3 b3=>setRow_other w b a3 _ ?_⟩
   rintro rfl;exact e (S.c8 o F _ ci ⟨s,bh,rK⟩ bI b3)
 ·have aV:=S.frame;refine⟨aV.os,aV.tape,aV.output,by rw[setRow_size];exact aV.size,fun a3 h1 h2=>?_⟩
  rw[setRow_other w b a3 _ ?_]
  ·exact aV.block a3 h1 h2
  ·rintro rfl;rcases(S.b1 o _ ci bI).2 with h|h
   ·exact h2 h
   ·omega
theorem AQ{av:Nat->Prop}{t:aE}{xs:List (den t)}{e:TypeId}{v:Value}{cs:List Value}(h1:rowAt w t.e7 e (au t) v xs.length cs)(h2:b' w av (flat t xs) cs)(hb:∀b,bc v=some b->¬av b):a8 w av (.sl t xs) v/\um v:=by
 rcases h1.2 with⟨hn,aQ⟩|⟨g,cap,cur,bn,hv,_,hg,hnc,_,_,jt⟩
 ·have:xs=[]:=List.eq_nil_of_length_eq_zero aQ;subst this;rw[hn];exact⟨.nil t,.inl rfl⟩
 ·rw[hv];refine⟨?_,.inr ⟨_,_,_,rfl⟩⟩;refine .sl t xs _ cap cs xs.length rfl hnc (fun _=>hb g (by rw[hv];rfl)) h2.1 (fun j u hu=>?_) h2.2
  rw[f_,Nat.zero_add,cell_of_row w g j cur e bn hg];rw[<-jt,List.getElem?_take] at hu;split at hu
  ·simpa using hu
  ·cases hu
theorem b'.cons{av:Nat->Prop}{d:aK}{ds:List aK}{v:Value}{vs:List Value}(h:a8 w av d v)(k:b' w av ds vs):b' w av (d::ds) (v::vs):=by
 refine⟨by simp[k.1],fun j g1 g2=>?_⟩
 cases j with
 |zero=>exact h
 |succ j=>exact k.2 j (by simpa using g1) (by simpa using g2)
theorem Deep.aey{w':World}{av bR:Nat->Prop}{ds:List aK}{cs aC:List Value}(h:Deep w av ds cs aC)(go:∀{d v},a8 w av d v->a8 w' bR d v):
  (∀n,n∈aC->∀b,bc n=some b->¬bR b/\w'.heap[b]? =w.heap[b]?)->b' w' bR ds cs:=by
 induction h with
 |nil=>intro _;exact⟨rfl,fun j h=>by simp at h⟩
 |row u ys e U _ h hr _ ih=>
  intro ag;refine .cons (AQ (qf h fun b hb=>(ag _ List.mem_cons_self b hb).2) ⟨hr.1,fun j g1 g2=>go (hr.2 j g1 g2)⟩ fun b hb=>(ag _ List.mem_cons_self b hb).1).1 (ih fun n hn=>ag n (List.mem_cons_of_mem _ hn))
 |leaf _ h _ ih=>intro ag;exact .cons (go h) (ih ag)
theorem ae.freeze(S:ae L J X B st tm w){o s:Nat}{t:aE}{xs:List (den t)}(hl:look st.sites o=some (.row s t xs)\/look st.sites o=some (.deep s t xs)):
  ae L J X B {st with sites:=b2 st.sites o (.cM s t xs)} tm w:=by
 have ci:bM st.sites o:=by rcases hl with hl|hl<;>exact⟨_,hl,rfl⟩
 have dz:∀F,bM (b2 st.sites o (.cM s t xs)) F->bM st.sites F/\F≠o:=by
  rintro F ⟨O,h1,h2⟩;rw[ce] at h1;by_cases e:o=F
  ·subst e;simp at h1;subst h1;cases h2
  ·simp only[e,if_false] at h1;exact⟨⟨O,h1,h2⟩,fun h=>e h.symm⟩
 have bU:∀a3,am X B (b2 st.sites o (.cM s t xs)) a3->am X B st.sites a3:=by
  rintro a3 (h|⟨F,h1,h2⟩)
  ·exact .inl h
  ·exact .inr ⟨F,(dz F h1).1,h2⟩
 have lD:∀b,b∈bu (B o)->¬am X B (b2 st.sites o (.cM s t xs)) b:=by
  rintro b hb (hx|⟨F,g1,g2⟩)
  ·exact(S.b1 o b ci hb).1 hx
  ·obtain⟨g3,eA⟩:=dz F g1;exact eA (S.c8 F o b g3 ci g2 hb)
 refine S.n7 (fun F O bh=>?_) (fun _ _ _=>rfl) (fun a3 h _ aa=>h (bU a3 aa)) (fun go F O bh=>?_) (fun F aN a3 h1 h2=>S.c8 F aN a3 (dz F h1).1 (dz aN h2).1)
  (fun F a3 h=>S.b1 F a3 (dz F h).1) (fun F a3 h hb=>S.dP (dz F h).1 hb) S.frame (Nat.le_refl _)
 ·rw[ce];by_cases e:o=F
  ·subst e;refine⟨.cM s t xs,by simp,?_,fun _=>rfl⟩
   rcases hl with hl|hl<;>rw[hl] at bh<;>cases bh<;>exact Nat.le_refl _
  ·exact⟨O,by simp[e,bh],Nat.le_refl _,fun _=>rfl⟩
 ·rw[ce] at bh;by_cases e:o=F
  ·subst e;simp only[if_true,Option.some.injEq] at bh;subst bh;refine .inr ?_
   show a8 _ _ (.sl t xs) (bO (B o))/\um (bO (B o));rcases hl with hl|hl
   ·obtain⟨bY,cs,h1,h2⟩:=S.sites o _ hl;rw[(ie h1).1];exact AQ h1 ⟨by rw[dO];exact h1.1,fun j g1 g2=>jf go (h2 j g1 g2)⟩ fun b hb=>lD b (fL hb)
   ·obtain⟨bY,v,aC,cs,aQ,_,h1,h2⟩:=S.sites o _ hl;have bW:bO (B o)=v:=by rw[aQ];rfl
    rw[bW];exact AQ h1 (h2.aey (jf go) fun n hn b hb=>⟨lD b (by rw[aQ];exact iA.2 (.inr ⟨n,hn,hb⟩)),rfl⟩) fun b hb=>lD b (by rw[aQ];exact iA.2 (.inl hb))
  ·simp only[e,if_false] at bh;exact .inl ⟨bh,rfl,fun _ _ _=>rfl⟩
theorem Ja{az:Type}(l:List (Nat×az))(n:Nat)(v:az)(h:look l n=some v):b2 l n v=l:=by
 induction l with
 |nil=>simp[look] at h
 |cons p l ih=>
  obtain⟨k,u⟩:=p;simp only[look] at h;simp only[b2];cases hb:k.beq n with
  |true=>simp only[hb,cond_true,Option.some.injEq] at h;subst h;simp
  |false=>simp only[hb,cond_false] at h;simp[ih h]
def de(sites:List (Nat×Site))(us:List (Nat×Site)):Prop:=
 ∀o O,(o,O)∈us->∃s t,∃xs:List (den t),O=.cM s t xs/\(look sites o=some (.row s t xs)\/look sites o=some (.cM s t xs)\/look sites o=some (.deep s t xs))
theorem de.nil{sites:List (Nat×Site)}:de sites []:=fun _ _ h=>by simp at h
theorem de.append{sites us vs:List (Nat×Site)}(h:de sites us)(aa:de sites vs):de sites (us++vs):=by
 intro o O hm;rcases List.mem_append.1 hm with hm|hm
 ·exact h o O hm
 ·exact aa o O hm
theorem de.step{sites us:List (Nat×Site)}{o:Nat}{O:Site}(h:de sites ((o,O)::us)):de (b2 sites o O) us:=by
 obtain⟨s,t,xs,rfl,hl⟩:=h o O (by simp)
 intro F bo hm;obtain⟨aj,a7,g8,rfl,fr⟩:=h F bo (by simp[hm])
 refine⟨aj,a7,g8,rfl,?_⟩;rw[ce];by_cases e:o=F
 ·subst e;simp only[if_true];right;left;rcases hl with hl|hl|hl<;>rcases fr with fr|fr|fr<;>rw[hl] at fr<;>cases fr<;>rfl
 ·simp only[e,if_false];exact fr
theorem ae.xF{us:List (Nat×Site)}:∀{st:ab},ae L J X B st tm w->de st.sites us->ae L J X B {st with sites:=aR st.sites us} tm w:=by
 induction us with
 |nil=>intro st S _;exact S
 |cons p us ih=>
  obtain⟨o,O⟩:=p;intro st S h;have aa:=h.step;obtain⟨s,t,xs,rfl,hl⟩:=h o O (by simp)
  simp only[aR];rcases hl with hl|hl|hl
  ·exact ih (S.freeze (.inl hl)) aa
  ·rw[Ja _ _ _ hl] at aa ⊢;exact ih S aa
  ·exact ih (S.freeze (.inr hl)) aa
theorem k5{us:List (Nat×Site)}:∀{sites:List (Nat×Site)},de sites us->∀o,(look (aR sites us) o=look sites o)\/(∃s t,∃xs:List (den t),(look sites o=some (.row s t xs)\/look sites o=some (.cM s t xs)\/look sites o=some (.deep s t xs))/\look (aR sites us) o=some (.cM s t xs)):=by
 induction us with
 |nil=>intro sites _ o;exact .inl rfl
 |cons p us ih=>
  obtain⟨F,O⟩:=p;intro sites h o;obtain⟨s,t,xs,rfl,hl⟩:=h F O (by simp)
  simp only[aR];have hc:=ce sites F o (.cM s t xs);rcases ih h.step o with h1|⟨aj,a7,g8,h1,h2⟩
  ·by_cases e:F=o
   ·subst e;simp only[if_true] at hc;exact .inr ⟨s,t,xs,hl,h1.trans hc⟩
   ·simp only[e,if_false] at hc;exact .inl (h1.trans hc)
  ·by_cases e:F=o
   ·subst e;simp only[if_true] at hc;rw[hc] at h1;rcases h1 with h1|h1|h1
    ·cases h1
    ·cases h1;exact .inr ⟨s,t,xs,hl,h2⟩
    ·cases h1
   ·simp only[e,if_false] at hc;rw[hc] at h1;exact .inr ⟨aj,a7,g8,h1,h2⟩
theorem vF{us:List (Nat×Site)}:∀{sites:List (Nat×Site)},de sites us->∀{o s:Nat} {t:aE} {xs:List (den t)},(o,Site.cM s t xs)∈us->look (aR sites us) o=some (.cM s t xs):=by
 intro sites h o s t xs hm;obtain⟨iY,t0,zf,he,hl⟩:=h o _ hm;cases he;rcases k5 h o with h1|⟨aj,a7,g8,h1,h2⟩
 ·-- named,and aj8 aiS
  induction us generalizing sites with
  |nil=>simp at hm
  |cons p us ih=>
   obtain⟨F,O⟩:=p;simp only[aR] at h1 ⊢;rcases List.mem_cons.1 hm with hm|hm
   ·cases hm;rcases k5 h.step o with h2|⟨aj,a7,g8,h2,Z⟩
    ·rw[h2,ce];simp
    ·rw[ce] at h2;simp at h2;obtain⟨rfl,rfl,h2⟩:=h2;rw[Z];cases h2;rfl
   ·have hc:=ce sites F o O;by_cases e:F=o
    ·subst e;obtain⟨s1,t1,ad3,rfl,hZ⟩:=h F O (by simp)
     have:Site.cM s1 t1 ad3=Site.cM s t xs:=by
      rcases hl with hl|hl|hl<;>rcases hZ with hZ|hZ|hZ<;>rw[hl] at hZ<;>cases hZ<;>rfl
     cases this;simp only[if_true] at hc;rcases k5 h.step F with h2|⟨aj,a7,g8,h2,Z⟩
     ·rw[h2,hc]
     ·rw[hc] at h2;rcases h2 with h2|h2|h2
      ·cases h2
      ·cases h2;exact Z
      ·cases h2
    ·simp only[e,if_false] at hc;refine ih h.step hm (by rw[hc];exact hl) ?_
     rw[h1,hc]
 ·rcases hl with hl|hl|hl<;>rcases h1 with h1|h1|h1<;>rw[hl] at h1<;>cases h1<;>exact h2
end
section
variable {P:Program}{L:World}{J:List Nat}{X:Nat->Prop}{B:Nat->Value}{st:ab}{tm:Array Value}{w:World}
structure ko(L:World)(J:List Nat)(X:Nat->Prop)(B:Nat->Value)(st:ab)(tm:Array Value)(w:World)(vs:List (Nat×Site)):Prop where
 old:ae L J X B st tm w
 bn:de st.sites vs
theorem ko.new{vs:List (Nat×Site)}(aV:ko L J X B st tm w vs):ae L J X B {st with sites:=aR st.sites vs} tm w:=aV.old.xF aV.bn
theorem ko.go{vs:List (Nat×Site)}(aV:ko L J X B st tm w vs){a:aI}{v:Value}(h:b4 B st.sites w (am X B st.sites) a v):b4 B (aR st.sites vs) w (am X B (aR st.sites vs)) a v:=by
 have dz:∀F,bM (aR st.sites vs) F->bM st.sites F:=by
  rintro F ⟨O,h1,h2⟩;rcases k5 aV.bn F with h|⟨s,t,xs,_,h⟩
  ·exact⟨O,h▸h1,h2⟩
  ·rw[h] at h1;cases h1;cases h2
 refine h.goes ⟨fun o O a5=>?_,fun _ _ _=>rfl,fun b hb _ b3=>hb ?_⟩ (Nat.le_refl _) ?_
 ·rcases k5 aV.bn o with h|⟨s,t,xs,h1,h2⟩
  ·exact⟨O,h.trans a5,Nat.le_refl _,fun _=>rfl⟩
  ·refine⟨_,h2,?_,fun _=>rfl⟩
   rw[a5] at h1;rcases h1 with h1|h1|h1<;>cases h1<;>exact Nat.le_refl _
 ·rcases b3 with h|⟨F,h1,h2⟩
  ·exact .inl h
  ·exact .inr ⟨F,dz F h1,h2⟩
 ·rintro b (h|⟨F,h1,h2⟩)
  ·exact aV.old.old b h
  ·exact aV.old.dP (dz F h1) h2
theorem YN{o s:Nat}{t:aE}{xs:List (den t)}(hr:rowOf st o s=some ⟨t,xs⟩):de st.sites (lq st o s t xs):=by
 unfold lq;split
 ·exact .nil
 ·intro F O hm;simp only[List.mem_singleton,Prod.mk.injEq] at hm;obtain⟨rfl,rfl⟩:=hm;exact⟨s,t,xs,rfl,(jb hr).imp id .inl⟩
theorem JK{o s:Nat}{t:aE}{xs:List (den t)}(hr:rowOf st o s=some ⟨t,xs⟩):aR st.sites (lq st o s t xs)=aR st.sites [(o,.cM s t xs)]:=by
 unfold lq;split
 ·rename_i iY t0 zf aQ;have aQ:look st.sites o=some (.cM iY t0 zf):=aQ;simp only[aR];rcases jb hr with h|h
  ·rw[aQ] at h;cases h
  ·exact(Ja _ _ _ h).symm
 ·rfl
theorem V2{sites us:List (Nat×Site)}(h:de sites us){o s:Nat}{t:aE}{xs:List (den t)}(hl:look sites o=some (.cM s t xs)):look (aR sites us) o=some (.cM s t xs):=by
 rcases k5 h o with h1|⟨aj,a7,g8,h1,h2⟩
 ·rw[h1];exact hl
 ·rw[hl] at h1;rcases h1 with h1|h1|h1
  ·cases h1
  ·cases h1;exact h2
  ·cases h1
theorem sH{o s:Nat}{t:aE}{xs:List (den t)}(h:k_ st o s=some ⟨t,xs⟩):look st.sites o=some (.deep s t xs):=by
 unfold k_ at h;split at h
 ·rename_i aj a7 g8 M;cases hb:aj.beq s with
  |false=>rw[hb] at h;cases h
  |true=>
   rw[hb] at h;have:=Nat.eq_of_beq_eq_true hb;subst this;cases h;exact M
 ·cases h
theorem Ln{l:aq}{d:aK}{us:List (Nat×Site)}(h:iU st l=some (d,us)):de st.sites us:=by
 unfold iU at h;split at h
 ·cases h;exact .nil
 ·cases h;exact .nil
 ·rename_i o s;split at h
  ·rename_i t xs hr;cases h;exact YN hr
  ·split at h
   ·rename_i t xs hr;cases h;intro F O hm;simp only[List.mem_singleton,Prod.mk.injEq] at hm;obtain⟨rfl,rfl⟩:=hm;exact⟨s,t,xs,rfl,.inr (.inr (sH hr))⟩
   ·cases h
 ·cases h;exact .nil
 ·cases h
theorem Lm{l:aq}{d:aK}{us vs:List (Nat×Site)}{v:Value}(h:iU st l=some (d,us))(hv:c_ B st.sites w (am X B st.sites) l v)
  (aV:ko L J X B st tm w vs) (dz:∀p,p∈us->p∈vs):a8 w (am X B (aR st.sites vs)) d v:=by
 unfold iU at h;split at h
 ·cases h;exact jf aV.go hv
 ·cases h;rw[show v=_ from hv];exact .nil _
 ·rename_i o s;split at h
  ·rename_i t xs hr;cases h;have hl:look (aR st.sites vs) o=some (.cM s t xs):=by
    unfold lq at dz;split at dz
    ·rename_i iY t0 zf aQ;have aQ:look st.sites o=some (.cM iY t0 zf):=aQ;rcases jb hr with h|h
     ·rw[aQ] at h;cases h
     ·exact V2 aV.bn h
    ·exact vF aV.bn (dz _ (List.mem_singleton.2 rfl))
   have:=aV.new.sites o _ hl;have ir:v=bO (B o):=by
    rcases jb hr with h1|h1<;>exact Ref.at hv.2 h1 rfl
   rw[ir];exact this.1
  ·split at h
   ·rename_i t xs hr;cases h;have:=aV.new.sites o _ (vF aV.bn (dz _ (List.mem_singleton.2 rfl)));have ir:v=bO (B o):=Ref.at hv.2 (sH hr) rfl;rw[ir];exact this.1
   ·cases h
 ·rename_i g;cases h;obtain⟨U,rfl,hl,_⟩:=hv;have:U=[]:=List.eq_nil_of_length_eq_zero (by simpa using hl)
  subst this;exact .fn g [] [] (fun _=>[]) _ rfl rfl (fun b hb=>by simp at hb) (fun b hb=>by simp at hb) (fun i hi=>by simp at hi) (fun i hi=>by simp at hi) (fun i hi=>by simp at hi)
 ·cases h
theorem CP:∀{U:List aq} {ds:List aK} {us:List (Nat×Site)},gR st U=some (ds,us)->de st.sites us:=by
 intro U;induction U with
 |nil=>intro ds us h;simp only[gR] at h;cases h;exact .nil
 |cons l U ih=>
  intro ds us h;simp only[gR] at h;split at h
  ·rename_i d u1 fU u2 h1 h2;cases h;exact(Ln h1).append (ih h2)
  ·cases h
theorem xJ:∀{U:List aq} {ds:List aK} {us vs:List (Nat×Site)} {cs:List Value},gR st U=some (ds,us)->ca B st.sites w (am X B st.sites) U cs->
  ko L J X B st tm w vs->(∀p,p∈us->p∈vs)->b' w (am X B (aR st.sites vs)) ds cs:=by
 intro U;induction U with
 |nil=>intro ds us vs cs h hl _ _;simp only[gR] at h;cases h;rw[hl.kx];exact⟨rfl,fun j h=>by simp at h⟩
 |cons l U ih=>
  intro ds us vs cs h hl aV dz;simp only[gR] at h;split at h
  ·rename_i d u1 fU u2 h1 h2;cases h;obtain⟨c,iV,rfl,hc,hcs⟩:=hl.inv;have r1:=Lm h1 hc aV (fun p an=>dz p (List.mem_append.2 (.inl an)))
   obtain⟨r2,hJ⟩:=ih h2 hcs aV (fun p an=>dz p (List.mem_append.2 (.inr an)))
   refine⟨by simp[r2],fun j g1 g2=>?_⟩
   cases j with
   |zero=>exact r1
   |succ j=>exact hJ j (by simpa using g1) (by simpa using g2)
  ·cases h
theorem kO.run{P:Program}{u:Bool}(g D:Nat)(t:TypeId)(bn:Nat×Nat):∀(vs:List Value) (i:Nat) (cur:Array Value) (w:World),w.heap[g]? =some (.cells cur t bn)->kO u t cur bn->D+i+vs.length<=cur.size->(∀v∈vs,v.oneCell'=true)->
  (storeCells ⟨g,D,none⟩ vs i).run P w=.ok () (w.setRow g (cur.toList.take (D+i)++vs++cur.toList.drop (D+i+vs.length)).toArray)
 |[],i,cur,w,hg,_,_,_=>by
  simp only[storeCells,List.append_nil,List.length_nil,Nat.add_zero,List.take_append_drop,Array.toArray_toList];rw[setRow_self w g cur t bn hg];rfl
 |v::rest,i,cur,w,hg,hz,hl,h1=>by
  have hi:D+i<cur.size:=by simp at hl;omega
  have ace:(⟨g,D,none⟩:Addr).add i=⟨g,D+i,none⟩:=by unfold Addr.add;split<;>simp_all
  have iI:w.cell? ⟨g,D+i,none⟩=some cur[D+i]:=by simp[World.cell?,hg,hi]
  have ab5:w.frozen? ⟨g,D+i,none⟩=false:=by
   rcases hz.2 with rfl|⟨_,hz⟩
   ·simp[World.frozen?,hg]
   ·simp only[World.frozen?,hg];have:¬bn.1<=D+i:=by omega
    simp[this]
  have df:(store ((⟨g,D,none⟩:Addr).add i) v).run P w=.ok () (w.setRow g (cur.setIfInBounds (D+i) v)):=by
   rw[ace,run_store P w _ v _ (h1 v (by simp)),iI]
   simp[ab5,setCell_eq_setRow w g (D+i) cur t bn v hg]
  have ih:=kO.run (P:=P) (u:=u) g D t bn rest (i+1) (cur.setIfInBounds (D+i) v) (w.setRow g (cur.setIfInBounds (D+i) v)) (setRow_heap w g cur _ t _ hg)
   ⟨hz.1,hz.2.imp id fun h=>⟨h.1,by simpa using h.2⟩⟩ (by simp at hl ⊢;omega) (fun x hx=>h1 x (by simp[hx]))
  simp only[storeCells,Sem.run_bind,df,Result.andThen_ok,ih,setRow_setRow];congr 3
  have e:=list_seg_step cur.toList (D+i) v rest (by simp at hl ⊢;omega)
  simpa[Array.toList_setIfInBounds,Nat.add_assoc] using e
theorem He{u:Bool}{bn:Nat×Nat}{T:TypeId}{ti:b8}(h:ti.ok P T)(hn:ti≠.none){b off:Nat}{vv:Value}{cur:List Value}{fv:TypeId}(hg:w.heap[b]? =some (.cells cur.toArray fv bn))(hz:kO u fv cur.toArray bn)
  (hsz:vv.cells.toList.length=ti.size) (cX:off+vv.cells.toList.length<=cur.length) (h1:∀u∈vv.cells.toList,u.oneCell'=true):
  (storeVar T ⟨b,off,none⟩ vv).run P w=.ok () (w.setRow b (bf cur off vv.cells.toList).toArray):=by
 have M:vv.cells.size=ti.size:=by simpa using hsz
 have:=kO.run (P:=P) b off fv bn vv.cells.toList 0 cur.toArray w hg hz (by simpa using cX) h1
 simp only[storeVar,Sem.run_bind,b8.JA h hn,Result.andThen_ok,M,ne_eq,not_true_eq_false,if_false];rw[this];simp[bf]
variable {D:Oper}
theorem qe{aw:Nat->Value}{w':World}{us:List (Nat×Site)}(S:ae L J X aw {st with sites:=aR st.sites us} tm w')(Y:b0 st D.dst=true)
  (h:(execOp (Act.eval ⟨tm,[]⟩) D).run P w=.ok .skip w'):cq P L J X st tm w D (bD (.cu undef)) us:=
 fun _ _ bm=>Zf h (bm _ _ _ (ae.cw S Y rfl))
theorem h9{aw:Nat->Value}{w':World}{us:List (Nat×Site)}{v:aI}{vv:Value}(S:ae L J X aw {st with sites:=aR st.sites us} tm w')(Y:b0 st D.dst=true)
  (h:(execOp (Act.eval ⟨tm,[]⟩) D).run P w=.ok (.value vv) w') (hv:b4 aw (aR st.sites us) w' (am X aw (aR st.sites us)) v vv):cq P L J X st tm w D v us:=
 fun _ _ bm=>l2 h (bm _ _ _ (ae.cw S Y hv))
theorem lU{az:Type}(a:List az)(off:Nat)(b:List az)(h:off+b.length<=a.length):(bf a off b).length=a.length:=by
 unfold bf;simp only[List.length_append,List.length_take,List.length_drop];omega
theorem Am{az:Type}(a:List az)(off n:Nat)(b:List az)(h:off+b.length<=n)(hn:n<=a.length):(bf a off b).take n=bf (a.take n) off b:=by
 unfold bf;apply List.ext_getElem?;intro j;simp only[List.getElem?_take,List.getElem?_append,List.length_append,List.length_take,List.getElem?_drop];have m1:min off a.length=off:=by omega
 have m2:min off (min n a.length)=off:=by omega
 simp only[m1,m2];by_cases c1:j<off
 ·have c2:j<n:=by omega
  have c3:j<off+b.length:=by omega
  simp[c1,c2,c3]
 ·by_cases c3:j<off+b.length
  ·have c2:j<n:=by omega
   simp[c1,c2,c3]
  ·have e:off+b.length+(j-(off+b.length))=j:=by omega
   simp[c1,c3,e]
theorem T4{cells U:List aq}{T:TypeId}{cur vs:List Value}{b off:Nat}(h:me cells T cur b)(hl:vs.length=U.length)(gj:fY U=true):me (bf cells off U) T (bf cur off vs) b:=by
 intro bW;unfold bf at bW ⊢;cases off with
 |zero=>
  cases U with
  |nil=>
   cases vs with
   |nil=>simpa using h (by simpa using bW)
   |cons=>cases hl
  |cons l U=>
   simp only[List.take_zero,List.nil_append,List.cons_append,List.head?_cons,Option.some.injEq] at bW;subst bW;cases gj
 |succ n=>
  cases cells with
  |nil=>
   cases U with
   |nil=>simp at bW
   |cons l U=>
    simp only[List.take_nil,List.nil_append,List.cons_append,List.head?_cons,Option.some.injEq] at bW;subst bW;cases gj
  |cons c cells=>
   simp only[List.take_succ_cons,List.cons_append,List.head?_cons,Option.some.injEq] at bW;subst bW;have:=h rfl;cases cur with
   |nil=>simp at this
   |cons v cur=>simpa using this
theorem ae.WK(S:ae L J X B st tm w){o s off:Nat}{cells U:List aq}{v:Value}{vs:List Value}(hb:look st.sites o=some (.box s cells))(hv:c_ B st.sites w (am X B st.sites) (.ptr o s off) v)
  (hl:ca B st.sites w (am X B st.sites) U vs) (cX:off+U.length<=cells.length) (h1:∀u∈vs,u.oneCell'=true) (gj:fY U=true):
  ∃b T cur,v=.pointer (some ⟨b,off,none⟩)/\w.heap[b]? =some (.cells (List.toArray cur) T (0,0))/\off+vs.length<=cur.length/\
   ae L J X B {st with sites:=b2 st.sites o (.box s (bf cells off U))} tm (w.setRow b (bf cur off vs).toArray):=by
 obtain⟨b,T,cur,bI,ng,hg,g6,j5⟩:=S.box hb hv;have il:off+vs.length<=cur.length:=by rw[hl.1,j5.1];exact cX
 refine⟨b,T,cur,ng,hg,il,?_⟩;have fS:me cells T cur b:=by
  obtain⟨aG,dn,N1,ay,ao,_,_,be,_⟩:=S.sites o _ hb;rw[bI] at ay;cases ay;rw[hg] at ao;cases ao;exact be
 refine S.write hb rfl rfl rfl (fL (by rw[bI];rfl)) hg (fun M hw j8 go=>?_)
 have NO:=x3 go (j5.bf off hl);refine⟨b,T,_,bI,j8,NO.1,fun u hu=>?_,T4 fS hl.1 gj,NO.2⟩
 unfold bf at hu;simp only[List.mem_append] at hu;rcases hu with(hu|hu)|hu
 ·exact g6 u (List.mem_of_mem_take hu)
 ·exact h1 u hu
 ·exact g6 u (List.mem_of_mem_drop hu)
theorem h'{B:Nat->Value}{sites:List (Nat×Site)}{w:World}{av:Nat->Prop}{ds:List aK}{vs:List Value}(h:ca B sites w av (cv ds) vs):b' w av ds vs:=
 ⟨by simpa[cv] using h.1,fun j g1 g2=>by
  have:=h.2 j (by simpa[cv] using g1) g2
  simp only[cv,List.getElem_map] at this;exact this⟩
theorem SU{w:World}{av:Nat->Prop}{t:aE}{xs:List (den t)}{k:Nat}{cP:den t}{cs aC:List Value}(ag:k<xs.length)(h:b' w av (flat t xs) cs)(aa:b' w av (enc t cP) aC):
  b' w av (flat t (xs.set k cP)) (bf cs (k*au t) aC):=by
 have e:flat t (xs.set k cP)=bf (flat t xs) (k*au t) (enc t cP):=by
  rw[Xu,if_pos ag];unfold bf;rw[e3,Nat.add_mul,Nat.one_mul]
 rw[e];have a:=gN (B:=fun _=>undef) (sites:=[]) h.1 h.2
 have b:=gN (B:=fun _=>undef) (sites:=[]) aa.1 aa.2
 have c:=a.bf (k*au t) b;have e2:bf (cv (flat t xs)) (k*au t) (cv (enc t cP))=cv (bf (flat t xs) (k*au t) (enc t cP)):=by
  simp[bf,cv,List.map_append,List.map_take,List.map_drop]
 rw[e2] at c;exact h' c
theorem ae.WJ(S:ae L J X B st tm w){o s k off:Nat}{t:aE}{xs:List (den t)}{x cP:den t}{v:Value}{ds:List aK}{vs:List Value}(hb:look st.sites o=some (.row s t xs))
  (hv:c_ B st.sites w (am X B st.sites) (.ec o s t k off) v) (hx:xs[k]? =some x) (j2:enc t cP=bf (enc t x) off ds)
  (hl:b' w (am X B st.sites) ds vs) (cX:off+ds.length<=au t) (h1:∀u∈vs,u.oneCell'=true):
  ∃b T cur bn,v=.pointer (some ⟨b,k*au t+off,none⟩)/\w.heap[b]? =some (.cells (List.toArray cur) T bn)/\kO t.e7 T cur.toArray bn/\k*au t+off+vs.length<=cur.length/\
   ae L J X B {st with sites:=b2 st.sites o (.row s t (xs.set k cP))} tm (w.setRow b (bf cur (k*au t+off) vs).toArray):=by
 obtain⟨b,ng,js⟩:=hv;obtain⟨n,c,bI⟩:=Ref.at js hb rfl;obtain⟨e,cs,jl,du⟩:=S.sites o _ hb;rw[(ie jl).1] at bI;have ag:k<xs.length:=by
  rcases Nat.lt_or_ge k xs.length with h|h
  ·exact h
  ·rw[List.getElem?_eq_none h] at hx;cases hx
 obtain⟨px,h⟩:=jl;rcases h with⟨hn,_⟩|⟨g,cap,cur,bn,gk,lG,hg,hnc,h0,hcs,jt⟩
 ·rw[bI] at hn;cases hn
 ·rw[bI] at gk;cases gk;have lF:(k+1)*au t<=xs.length*au t:=Nat.mul_le_mul_right _ ag;have hF:xs.length*au t<=c*au t:=Nat.mul_le_mul_right _ hnc;rw[Nat.add_mul,Nat.one_mul] at lF;have j3:vs.length=ds.length:=hl.1;have g6:cur.toList.length=c*au t:=by simpa using hcs
  have il:k*au t+off+vs.length<=cur.toList.length:=by omega
  refine⟨b,e,cur.toList,bn,ng,by simpa using hg,by simpa using lG,il,?_⟩
  refine S.write hb rfl rfl rfl (fL (by rw[bI];rfl)) hg (fun M hw j8 go=>?_)
  have ajt:cs.length=xs.length*au t:=px;refine⟨e,bf cs (k*au t+off) vs,⟨?_,.inr ⟨b,c,_,bn,?_,?_,j8,?_,h0,?_,?_⟩⟩,?_⟩
  ·rw[lU _ _ _ (by omega),List.length_set];exact px
  ·rw[bI,List.length_set]
  ·refine⟨lG.1,?_⟩;rcases lG.2 with h|⟨h,aa⟩
   ·exact .inl h
   ·refine .inr ⟨h,?_⟩;rw[List.size_toArray,lU _ _ _ il];simpa using aa
  ·rw[List.length_set];exact hnc
  ·rw[List.size_toArray,lU _ _ _ il];exact g6
  ·rw[<-jt,List.length_set,List.toList_toArray];exact Am _ _ _ _ (by omega) (by rw[g6];omega)
  ·have r0:b' w (am X B st.sites) (flat t xs) cs:=⟨by rw[dO];exact px,du⟩
   have fS:=sL t xs k x hx;have r1:b' w (am X B st.sites) (enc t x) ((cs.drop (k*au t)).take (au t)):=by
    have a:=gN (B:=fun _=>undef) (sites:=[]) r0.1 r0.2
    have a3:=(a.drop (k*au t)).take (au t);have e2:((cv (flat t xs)).drop (k*au t)).take (au t)=cv (enc t x):=by
     rw[<-fS];simp[cv,List.map_drop,List.map_take]
    rw[e2] at a3;exact h' a3
   have r2:b' w (am X B st.sites) (enc t cP) (bf ((cs.drop (k*au t)).take (au t)) off vs):=by
    rw[j2];have a:=gN (B:=fun _=>undef) (sites:=[]) r1.1 r1.2
    have a3:=gN (B:=fun _=>undef) (sites:=[]) hl.1 hl.2
    have fk:=a.bf off a3;have e2:bf (cv (enc t x)) off (cv ds)=cv (bf (enc t x) off ds):=by
     simp[bf,cv,List.map_append,List.map_take,List.map_drop]
    rw[e2] at fk;exact h' fk
   have hJ:=SU ag r0 r2;have bK:bf cs (k*au t) (bf ((cs.drop (k*au t)).take (au t)) off vs)=bf cs (k*au t+off) vs:=by
    unfold bf;apply List.ext_getElem?;intro j;simp only[List.getElem?_append,List.length_append,List.length_take,List.length_drop,List.getElem?_take,List.getElem?_drop];have m1:min (k*au t) cs.length=k*au t:=by omega
    have m2:min (k*au t+off) cs.length=k*au t+off:=by omega
    have m3:min (au t) (cs.length-k*au t)=au t:=by omega
    have m4:min off (au t)=off:=by omega
    simp only[m1,m2,m3,m4];by_cases c1:j<k*au t
    ·have c2:j<k*au t+off:=by omega
     have c3:j<k*au t+off+vs.length:=by omega
     have dM:j<k*au t+(off+vs.length+(au t-(off+vs.length))):=by omega
     simp[c1,c2,c3,dM]
    ·by_cases c2:j<k*au t+off
     ·have d1:j-k*au t<off:=by omega
      have d2:j-k*au t<off+vs.length:=by omega
      have d3:j-k*au t<au t:=by omega
      have c3:j<k*au t+off+vs.length:=by omega
      have dM:j<k*au t+(off+vs.length+(au t-(off+vs.length))):=by omega
      have fW:k*au t+(j-k*au t)=j:=by omega
      simp[c1,c2,c3,dM,d1,d2,d3,fW]
     ·by_cases c3:j<k*au t+off+vs.length
      ·have d1:¬j-k*au t<off:=by omega
       have d2:j-k*au t<off+vs.length:=by omega
       have dM:j<k*au t+(off+vs.length+(au t-(off+vs.length))):=by omega
       have fW:j-k*au t-off=j-(k*au t+off):=by omega
       simp[c1,c2,c3,dM,d1,d2,fW]
      ·by_cases dM:j<k*au t+(off+vs.length+(au t-(off+vs.length)))
       ·have d2:¬j-k*au t<off+vs.length:=by omega
        have d1:¬j-k*au t<off:=by omega
        have d5:off+vs.length+(j-k*au t-(off+vs.length))<au t:=by omega
        have fW:k*au t+(off+vs.length+(j-k*au t-(off+vs.length)))=k*au t+off+vs.length+(j-(k*au t+off+vs.length)):=by omega
        simp[c1,c2,c3,dM,d1,d2,d5,fW]
       ·have fW:k*au t+(off+vs.length+(au t-(off+vs.length)))+(j-(k*au t+(off+vs.length+(au t-(off+vs.length)))))=k*au t+off+vs.length+(j-(k*au t+off+vs.length)):=by omega
        simp[c1,c2,c3,dM,fW]
   rw[bK] at hJ;exact fun j g1 g2=>jf go (hJ.2 j g1 g2)
end
section
variable {P:Program}{L:World}{J:List Nat}{X:Nat->Prop}{B:Nat->Value}{st:ab}{tm:Array Value}{w:World}
theorem ja{o:Nat}{O:Site}(h:look st.sites o=some O):O.bX<aT st o:=by
 unfold aT ab.O;rw[h];exact Nat.lt_succ_self _
theorem ae.make(S:ae L J X B st tm w){o:Nat}{bo:Site}{nv:Value}{w':World}
  (hw:∀b,b<w.heap.size->w'.heap[b]? =w.heap[b]?) (hos:w'.os=w.os) (DI:w'.tape=w.tape) (t_:w'.output=w.output) (kF:w.heap.size<=w'.heap.size)
  (l6:∀O,look st.sites o=some O->O.bX<bo.bX) (gg:∀b,b∈bu nv->w.heap.size<=b/\b<w'.heap.size)
  (e9:∀{ba:List (Nat×Site)} {aw:Nat->Value},ba=b2 st.sites o bo->aw o=nv->(∀{a v},b4 B st.sites w (am X B st.sites) a v->b4 aw ba w' (am X aw ba) a v)->
   (∀b,w.heap.size<=b->b∉bu nv->¬am X aw ba b)->(bo.live=false->∀b,b∈bu nv->¬am X aw ba b)->ig aw ba w' (am X aw ba) o bo):
  ae L J X (fun F=>if F=o then nv else B F) {st with sites:=b2 st.sites o bo} tm w':=by
 have ci:∀F,bM (b2 st.sites o bo) F->(F=o/\bo.live=true)\/(F≠o/\bM st.sites F):=by
  rintro F ⟨O,h1,h2⟩;rw[ce] at h1;by_cases e:o=F
  ·subst e;simp at h1;subst h1;exact .inl ⟨rfl,h2⟩
  ·simp only[e,if_false] at h1;exact .inr ⟨fun h=>e h.symm,O,h1,h2⟩
 have bU:∀b,am X (fun F=>if F=o then nv else B F) (b2 st.sites o bo) b->am X B st.sites b\/(b∈bu nv/\bo.live=true):=by
  rintro b (h|⟨F,h1,h2⟩)
  ·exact .inl (.inl h)
  ·rcases ci F h1 with⟨rfl,Z⟩|⟨Z,aH⟩
   ·simp at h2;exact .inr ⟨h2,Z⟩
   ·simp only[Z,if_false] at h2;exact .inl (.inr ⟨F,aH,h2⟩)
 have aY:∀b,am X B st.sites b->b<w.heap.size:=by
  rintro b (h|⟨F,h1,h2⟩)
  ·exact S.old b h
  ·exact S.dP h1 h2
 refine S.n7 (fun F O bh=>?_) (fun b _ hb=>hw b hb) (fun b h hb aa=>?_) (fun go F O bh=>?_) (fun F aN b h1 h2 g1 g2=>?_) (fun F b h1 g1=>?_) (fun F b h1 g1=>?_) ?_ kF
 ·rw[ce];by_cases e:o=F
  ·subst e;exact⟨bo,by simp,Nat.le_of_lt (l6 O bh),fun h=>by have:=l6 O bh;omega⟩
  ·have bY:¬F=o:=fun h=>e h.symm
   exact⟨O,by simp[e,bh],Nat.le_refl _,fun _=>by simp[bY]⟩
 ·rcases bU b aa with aa|⟨aa,_⟩
  ·exact h aa
  ·have:=(gg b aa).1;omega
 ·rw[ce] at bh;by_cases e:o=F
  ·subst e;simp only[if_true,Option.some.injEq] at bh;subst bh;refine .inr (e9 rfl (by simp) go (fun b hb hne aa=>?_) (fun hl b hb aa=>?_))
   ·rcases bU b aa with aa|⟨aa,_⟩
    ·have:=aY b aa;omega
    ·exact hne aa
   ·rcases bU b aa with aa|⟨_,aa⟩
    ·have:=aY b aa;have:=(gg b hb).1;omega
    ·rw[hl] at aa;cases aa
  ·have bY:¬F=o:=fun h=>e h.symm
   simp only[e,if_false] at bh;exact .inl ⟨bh,by simp[bY],fun hl b hb=>hw b (S.dP ⟨O,bh,hl⟩ hb)⟩
 ·rcases ci F h1 with⟨rfl,_⟩|⟨n1,cW⟩<;>rcases ci aN h2 with⟨rfl,_⟩|⟨n2,fV⟩
  ·rfl
  ·simp only[if_true] at g1;simp only[n2,if_false] at g2;have:=S.dP fV g2;have:=(gg b g1).1;omega
  ·simp only[if_true] at g2;simp only[n1,if_false] at g1;have:=S.dP cW g1;have:=(gg b g2).1;omega
  ·simp only[n1,if_false] at g1;simp only[n2,if_false] at g2;exact S.c8 F aN b cW fV g1 g2
 ·rcases ci F h1 with⟨rfl,_⟩|⟨n1,cW⟩
  ·simp only[if_true] at g1;have hb:=(gg b g1).1;exact⟨fun hx=>by have:=S.old b hx;have:=S.frame.size;omega,.inr (Nat.le_trans S.frame.size hb)⟩
  ·simp only[n1,if_false] at g1;exact S.b1 F b cW g1
 ·rcases ci F h1 with⟨rfl,_⟩|⟨n1,cW⟩
  ·simp only[if_true] at g1;exact(gg b g1).2
  ·simp only[n1,if_false] at g1;exact Nat.lt_of_lt_of_le (S.dP cW g1) kF
 ·have aV:=S.frame;exact⟨hos.trans aV.os,DI.trans aV.tape,t_.trans aV.output,Nat.le_trans aV.size kF,fun b h1 h2=>(hw b (Nat.lt_of_lt_of_le h1 aV.size)).trans (aV.block b h1 h2)⟩
theorem ae.append(S:ae L J X B st tm w){o dst s:Nat}{t:aE}{xs r:List (den t)}(hl:look st.sites o=some (.row s t xs)){nv:Value}{w':World}
  (hg:w.grownBy w' (B o).ownBlock) (gg:∀b,b∈bu nv->b<w'.heap.size/\(b∈bu (B o)\/w.heap.size<=b))
  (e9:∀{ba:List (Nat×Site)} {aw:Nat->Value},aw dst=nv->(∀{a v},b4 B st.sites w (am X B st.sites) a v->b4 aw ba w' (am X aw ba) a v)->
   ig aw ba w' (am X aw ba) dst (.row (aT (st.dd o (.dead s)) dst) t r)):
  ae L J X (fun F=>if F=dst then nv else B F) {st with sites:=aR st.sites [(o,.dead s),(dst,.row (aT (st.dd o (.dead s)) dst) t r)]} tm w':=by
 have a5:bM st.sites o:=⟨_,hl,rfl⟩;have iH:∀F,look (aR st.sites [(o,.dead s),(dst,.row (aT (st.dd o (.dead s)) dst) t r)]) F=
   if dst=F then some (.row (aT (st.dd o (.dead s)) dst) t r) else if o=F then some (.dead s) else look st.sites F:=by
  intro F;simp only[aR,ce]
 have l6:∀O,look st.sites dst=some O->O.bX<aT (st.dd o (.dead s)) dst:=by
  intro O h;unfold aT;rw[ab.lV];by_cases e:o=dst
  ·subst e;rw[hl] at h;cases h;simp[Site.bX]
  ·simp only[e,if_false,ab.O,h];exact Nat.lt_succ_self _
 have ci:∀F,bM (aR st.sites [(o,.dead s),(dst,.row (aT (st.dd o (.dead s)) dst) t r)]) F->F=dst\/(F≠dst/\F≠o/\bM st.sites F):=by
  rintro F ⟨O,h1,h2⟩;rw[iH] at h1;by_cases e:dst=F
  ·exact .inl e.symm
  ·simp only[e,if_false] at h1;by_cases e2:o=F
   ·simp only[e2,if_true,Option.some.injEq] at h1;subst h1;cases h2
   ·simp only[e2,if_false] at h1;exact .inr ⟨fun h=>e h.symm,fun h=>e2 h.symm,O,h1,h2⟩
 have abP:∀b,(B o).ownBlock=some b->b∈bu (B o):=by
  intro b hb;refine fL ?_
  cases hv:B o<;>rw[hv] at hb<;>first|cases hb|skip
  rename_i a n c;cases a<;>first|exact hb|cases hb
 have tM:∀b,b<w.heap.size->b∉bu (B o)->w'.heap[b]? =w.heap[b]? :=fun b hb hne=>hg.block b hb (fun e=>hne (abP b e.symm))
 refine S.n7 (fun F O bh=>?_) (fun b h hb=>tM b hb (fun e=>h (.inr ⟨o,a5,e⟩))) (fun b h hb aa=>?_) (fun go F O bh=>?_) (fun F aN b h1 h2 g1 g2=>?_) (fun F b h1 g1=>?_) (fun F b h1 g1=>?_) ?_ hg.size
 ·rw[iH];by_cases e:dst=F
  ·subst e;refine⟨.row (aT (st.dd o (.dead s)) dst) t r,by simp,?_,fun h=>?_⟩
   ·exact Nat.le_of_lt (l6 O bh)
   ·have:=l6 O bh;simp only[Site.bX] at h this;omega
  ·have bY:¬F=dst:=fun h=>e h.symm
   by_cases e2:o=F
   ·subst e2;rw[hl] at bh;cases bh;exact⟨.dead s,by simp[e],Nat.le_refl _,fun _=>by simp[bY]⟩
   ·exact⟨O,by simp[e,e2,bh],Nat.le_refl _,fun _=>by simp[bY]⟩
 ·rcases aa with aa|⟨F,h1,h2⟩
  ·exact h (.inl aa)
  ·rcases ci F h1 with rfl|⟨n1,_,cW⟩
   ·simp only[if_true] at h2;rcases(gg b h2).2 with Z|Z
    ·exact h (.inr ⟨o,a5,Z⟩)
    ·omega
   ·simp only[n1,if_false] at h2;exact h (.inr ⟨F,cW,h2⟩)
 ·rw[iH] at bh;by_cases e:dst=F
  ·subst e;simp only[if_true,Option.some.injEq] at bh;subst bh;exact .inr (e9 (by simp) go)
  ·have bY:¬F=dst:=fun h=>e h.symm
   simp only[e,if_false] at bh;by_cases e2:o=F
   ·simp only[e2,if_true,Option.some.injEq] at bh;subst bh;exact .inr trivial
   ·simp only[e2,if_false] at bh;refine .inl ⟨bh,by simp[bY],fun fr b hb=>?_⟩
    have P2:bM st.sites F:=⟨O,bh,fr⟩;exact tM b (S.dP P2 hb) (fun h=>e2 (S.c8 o F b a5 P2 h hb))
 ·have key:∀F b,F≠dst->F≠o->bM st.sites F->b∈bu (B F)->b∉bu nv:=by
   intro F b n1 n2 cW hb hn;rcases(gg b hn).2 with Z|Z
   ·exact n2 (S.c8 F o b cW a5 hb Z)
   ·have:=S.dP cW hb;omega
  rcases ci F h1 with rfl|⟨n1,m1,cW⟩<;>rcases ci aN h2 with rfl|⟨n2,m2,fV⟩
  ·rfl
  ·simp only[if_true] at g1;simp only[n2,if_false] at g2;exact absurd g1 (key aN b n2 m2 fV g2)
  ·simp only[if_true] at g2;simp only[n1,if_false] at g1;exact absurd g2 (key F b n1 m1 cW g1)
  ·simp only[n1,if_false] at g1;simp only[n2,if_false] at g2;exact S.c8 F aN b cW fV g1 g2
 ·rcases ci F h1 with rfl|⟨n1,_,cW⟩
  ·simp only[if_true] at g1;rcases(gg b g1).2 with Z|Z
   ·exact S.b1 o b a5 Z
   ·exact⟨fun hx=>by have:=S.old b hx;have:=S.frame.size;omega,.inr (Nat.le_trans S.frame.size Z)⟩
  ·simp only[n1,if_false] at g1;exact S.b1 F b cW g1
 ·rcases ci F h1 with rfl|⟨n1,_,cW⟩
  ·simp only[if_true] at g1;exact(gg b g1).1
  ·simp only[n1,if_false] at g1;exact Nat.lt_of_lt_of_le (S.dP cW g1) hg.size
 ·have aV:=S.frame;refine⟨hg.os.trans aV.os,hg.tape.trans aV.tape,hg.output.trans aV.output,Nat.le_trans aV.size hg.size,fun b h1 h2=>?_⟩
  rw[tM b (Nat.lt_of_lt_of_le h1 aV.size) (fun e=>?_)]
  ·exact aV.block b h1 h2
  ·rcases(S.b1 o b a5 e).2 with h|h
   ·exact h2 h
   ·omega
end
def Src(w:World)(size:Nat)(x:Value)(m:Nat)(news:List Value):Prop:=
 news.length=m*size/\(∀u∈news,u.oneCell'=true)/\((x=.slice none 0 0/\m=0)\/(∃a c,x=.slice (some a) m c/\∀j u,news[j]? =some u->w.cell? (a.add j)=some u)\/∃s:ByteArray,x=.string s/\m=s.size/\size=1/\news=s.data.toList.map fun b=>Value.int .u8 b.toNat)
theorem Src.run{P:Program}{w w2:World}{size m:Nat}{x:Value}{news:List Value}(h:Src w size x m news)(hw:w2.heap=w.heap):(Builtin.firstCells size m x).run P w2=.ok news.toArray w2:=by
 obtain⟨h1,_,h2⟩:=h;rcases h2 with⟨rfl,rfl⟩|⟨a,c,rfl,Z⟩|⟨s,rfl,rfl,rfl,rfl⟩
 ·have:news=[]:=List.eq_nil_of_length_eq_zero (by simpa using h1)
  subst this;exact run_firstCells_none w2 size 0 0 0
 ·refine run_firstCells_some w2 size m a m c news h1 (fun j u hu=>?_)
  have:=Z j u hu;unfold World.cell? at this ⊢;rw[hw];exact this
 ·have e:s.extract 0 s.size=s:=by simp
  show Result.ok ((s.extract 0 s.size).data.map fun b=>Value.int .u8 b.toNat) w2=_
  rw[e];congr 1
  apply Array.ext';simp
theorem Src.len{P:Program}{w w2:World}{size m:Nat}{x:Value}{news:List Value}(h:Src w size x m news):(Builtin.lenOf x).run P w2=.ok m w2:=by
 obtain⟨_,_,h2⟩:=h;rcases h2 with⟨rfl,rfl⟩|⟨a,c,rfl,_⟩|⟨s,rfl,rfl,_⟩<;>rfl
theorem sE{P:Program}{u:Bool}(w:World)(T Gz ty e:TypeId)(ej:u=true->e=kX)(i:TypeInfo)(z:Value)(size bytes:Nat)(aB:P.underlying T=some (.slice e))(is:(∃ex,P.underlying Gz=some (.slice ex))\/P.underlying Gz=some .string)(hi:P.info? e=some i)
  (hz:i.zero=some z) (kF:i.size=size) (lK:i.bytes=bytes) (hzs:z.cells.size=size) (hsz:0<size)
  (v:Value) (n:Nat) (xs:List Value) (jl:∃bY,rowAt w u bY size v n xs) (x:Value) (m:Nat) (news:List Value) (eu:Src w size x m news)
  (F2:n+m<=maxLen) (Lh:(n+m)*bytes<=140737488355328):
  ∃v' w',(Builtin.append_ #[T,Gz] ty #[v,x]).run P w=.ok v' w'/\(∃bY,rowAt w' u bY size v' (n+m) (xs++news))/\w.grownBy w' v.ownBlock/\
   ∀b,bc v'=some b->b<w'.heap.size/\(bc v=some b\/w.heap.size<=b):=by
 subst kF lK;obtain⟨bY,ol,jl⟩:=jl;have tu:n+m<=9223372036854775807:=by simp only[maxLen] at F2;omega
 have hlen:(xs++news).length=(n+m)*i.size:=by rw[List.length_append,ol,eu.1,Nat.add_mul]
 have grown:∀(old:Nat),old<n+m->∀(row:Option Nat),
   rowAt (w.drew.alloc (.cells (xs.toArray++news.toArray++Builtin.zeroCells z.cells (grownCap w (n+m) old e-(n+m))) e)) u e i.size
    (.slice (some ⟨w.heap.size,0,none⟩) (n+m) (grownCap w (n+m) old e)) (n+m) (xs++news)/\
   w.grownBy (w.drew.alloc (.cells (xs.toArray++news.toArray++Builtin.zeroCells z.cells (grownCap w (n+m) old e-(n+m))) e)) row:=by
  intro old ar row;have uY:=grownCap_ge w (n+m) old e;have h0:grownCap w (n+m) old e<=maxLen:=grownCap_le_maxLen w (n+m) old e F2;refine⟨⟨hlen,.inr ⟨w.heap.size,_,_,(0,0),rfl,⟨ej,.inl rfl⟩,heap_alloc_new w.drew _,uY,h0,?_,?_⟩⟩,⟨rfl,rfl,rfl,by simp,fun k ag _=>RowKit.Below.heap_alloc w.drew _ k ag⟩⟩
  ·simp only[Array.size_append,List.size_toArray,size_zeroCells,hzs,ol,eu.1,<-Nat.add_mul];congr 1
   omega
  ·simp only[Array.toList_append,List.append_assoc];rw[<-List.append_assoc,<-hlen];exact List.take_left
 have K3:∀{c:Nat} {D:Obj} {v:Value} b,bc (.slice (some ⟨w.heap.size,0,none⟩) (n+m) c)=some b->b<(w.drew.alloc D).heap.size/\(bc v=some b\/w.heap.size<=b):=by
  intro c D v b hb;cases hb;exact⟨by simp,.inr (Nat.le_refl _)⟩
 rcases jl with⟨rfl,rfl⟩|⟨g,cap,cur,bn,rfl,g_,hg,hnc,h0,hcs,lf⟩
 ·have hx:xs=[]:=List.eq_nil_of_length_eq_zero (by simpa using ol)
  subst hx;by_cases hm:m=0
  ·subst hm;have hn:news=[]:=List.eq_nil_of_length_eq_zero (by simpa using eu.1)
   subst hn;refine⟨.slice none 0 0,w,?_,⟨e,sN w u e i.size⟩,⟨rfl,rfl,rfl,Nat.le_refl _,fun _ _ _=>rfl⟩,fun b hb=>by cases hb⟩
   rcases is with⟨ex,is⟩|is<;>simp[Builtin.append_,run_underlying aB,run_underlying is,sizeOf,typeInfo,hi,eu.len,eu.run (w2:=w) rfl]
  ·have uX:=grown 0 (by omega) (Value.ownBlock (.slice none 0 0))
   refine⟨_,_,?_,⟨e,uX.1⟩,uX.2,K3⟩;have EE:¬(9223372036854775807<(m:Int)):=by omega
   have hb:=Lh;simp only[Nat.zero_add] at hb;have EF:¬(281474976710656<Builtin.nextslicecap m 0*i.bytes):=by rw[nextslicecap_zero (by omega)];omega
   rcases is with⟨ex,is⟩|is<;>simp[Builtin.append_,run_underlying aB,run_underlying is,sizeOf,typeInfo,zeroValue,hi,hz,eu.len,hm,EE,EF,Question.forced,run_firstCells_none,eu.run (w2:=w.drew) rfl,newRow,grownCap]
 ·by_cases hroom:n+m<=cap
  ·have kK:n*i.size+news.length<=cur.size:=by rw[eu.1,hcs,<-Nat.add_mul];exact Nat.mul_le_mul_right _ hroom
   have df:=kO.run (P:=P) g (n*i.size) bY bn news 0 cur w hg g_ (by simpa using kK) eu.2.1
   simp only[Nat.add_zero] at df;refine⟨.slice (some ⟨g,0,none⟩) (n+m) cap,w.setRow g (cur.toList.take (n*i.size)++news++cur.toList.drop (n*i.size+news.length)).toArray,?_,
    ⟨bY,hlen,.inr ⟨g,cap,_,bn,rfl,⟨g_.1,g_.2.imp id (fun h=>⟨h.1,?_⟩)⟩,setRow_heap w g cur _ bY _ hg,hroom,h0,?_,?_⟩⟩,⟨rfl,rfl,rfl,by simp,fun k _ ag=>setRow_other w g k _ (fun e=>ag (by simp[Value.ownBlock,e]))⟩,fun b hb=>?_⟩
   ·rcases is with⟨ex,is⟩|is<;>simp[Builtin.append_,run_underlying aB,run_underlying is,sizeOf,typeInfo,hi,eu.len,hroom,eu.run (w2:=w) rfl,Addr.add_lit,df]
   ·have:=h.2;simp only[List.size_toArray,List.length_append,List.length_take,List.length_drop,Array.length_toList];omega
   ·simp only[List.size_toArray,List.length_append,List.length_take,List.length_drop,Array.length_toList];omega
   ·rw[lf,<-hlen];exact List.take_left
   ·cases hb;exact⟨by rw[setRow_size];exact(Array.getElem?_eq_some_iff.1 hg).1,.inl rfl⟩
  ·have uX:=grown cap (by omega) (Value.ownBlock (.slice (some ⟨g,0,none⟩) n cap))
   refine⟨_,_,?_,⟨e,uX.1⟩,uX.2,K3⟩;have holds:∀j u,xs[j]? =some u->w.drew.cell? ((⟨g,0,none⟩:Addr).add j)=some u:=by
    intro j u hu;rw[f_,Nat.zero_add,World.cell?_drew,cell_of_row w g j cur bY bn hg];rw[<-lf,List.getElem?_take] at hu;split at hu
    ·simpa using hu
    ·cases hu
   have EE:¬(9223372036854775807<((n:Int)+(m:Int))):=by omega
   have kK:=growslice_fits (need:=n+m) (old:=cap) (bytes:=i.bytes) (by omega) Lh
   have EF:¬(281474976710656<Builtin.nextslicecap (n+m) cap*i.bytes):=by omega
   have zM:=run_firstCells_some (P:=P) w.drew i.size n ⟨g,0,none⟩ n cap xs ol holds;rcases is with⟨ex,is⟩|is<;>simp[Builtin.append_,run_underlying aB,run_underlying is,sizeOf,typeInfo,zeroValue,hi,hz,eu.len,hroom,EE,EF,Question.forced,eu.run (w2:=w.drew) rfl,zM,newRow,grownCap]
   all_goals
    congr 2
    apply Array.ext';simp[List.append_assoc]
section
variable {P:Program}{L:World}{J:List Nat}{X:Nat->Prop}{B:Nat->Value}{st:ab}{tm:Array Value}{w:World}{D:Oper}
theorem WM(S:ae L J X B st tm w){x:aI}{v:Value}{t:aE}{ys:List (den t)}(hx:b4 B st.sites w (am X B st.sites) x v)(h:q7 st x=some (.sl t ys)):
  ∃news,Src w (au t) v ys.length news/\b' w (am X B st.sites) (flat t ys) news:=by
 have one:∀{news:List Value},ca B st.sites w (am X B st.sites) (cv (flat t ys)) news->(∀u∈news,u.oneCell'=true):=by
  intro news h;refine h.hN ?_
  unfold cv;generalize flat t ys=l;induction l with
  |nil=>rfl
  |cons d l ih=>simpa[fY,aq.storable] using ih
 unfold q7 at h;split at h
 ·rename_i a7 g8;cases h;have hx:a8 w (am X B st.sites) (.sl t ys) v:=hx;cases hx with
  |nil t=>exact⟨[],⟨by simp,fun u hu=>by simp at hu,.inl ⟨rfl,rfl⟩⟩,rfl,fun j h=>by simp[flat] at h⟩
  |sl t xs a cap cs n hn hcap hb hl hc hr=>
   subst hn;have j5:=gN (B:=B) (sites:=st.sites) hl hr;exact⟨cs,⟨by rw[hl,dO],one j5,.inr (.inl ⟨a,cap,rfl,hc⟩)⟩,hl,hr⟩
 ·cases h
 ·rename_i a7;cases h;rw[show v=_ from hx]
  exact⟨[],⟨by simp,fun u hu=>by simp at hu,.inl ⟨rfl,rfl⟩⟩,rfl,fun j h=>by simp[flat] at h⟩
 ·rename_i o s;split at h
  ·rename_i a7 g8 hr;cases h;obtain⟨cs,hl,hc⟩:=S.row hr;have hv:v=bO (B o):=by
    rcases jb hr with h1|h1<;>exact Ref.at hx.2 h1 rfl
   have cG:=h' hl;refine⟨cs,⟨by rw[cG.1,dO],one hl,?_⟩,cG⟩
   rw[hv];rcases hc with⟨h1,h2⟩|⟨b,c,h1,h2,_⟩
   ·subst h2;exact .inl ⟨h1,rfl⟩
   ·exact .inr (.inl ⟨⟨b,0,none⟩,c,h1,fun j u hu=>by rw[f_];exact h2 j u hu⟩)
  ·cases h
 ·cases h
theorem Ij(S:ae L J X B st tm w){C:Ctx}(ax:CtxOk P C){T dY:TypeId}{s x:Operand}{e:TypeId}{t:aE}{bytes:Nat}{dst:Nat}(aU:C.tt T=.slice e t bytes)(tK:(∃ex,P.underlying dY=some (.slice ex))\/P.underlying dY=some .string)
  (ar:D.op=.call {callee:=.builtin .append,args:=#[s,x],argTypes:=#[T,dY]}) (cZ:D.dst=some dst) (Y:b0 st D.dst=true) {ys:List (den t)} {news:List Value} (eu:Src w (au t) (Act.eval ⟨tm,[]⟩ x) ys.length news)
  (du:b' w (am X B st.sites) (flat t ys) news):Holds (oU bytes t dst st (aO C st T s) ys) (cq P L J X st tm w D):=by
 have bv:=ax.tt T;rw[aU] at bv;obtain⟨⟨dR,_⟩,z,hinfo,hzs,ej⟩:=bv;obtain⟨i,hi,oq⟩:∃i,P.info? e=some i/\(i.size,i.bytes,i.zero)=(au t,bytes,some z):=by
  cases aL:P.info? e with
  |none=>simp[aL] at hinfo
  |some i=>exact⟨i,rfl,by simpa[aL] using hinfo⟩
 simp only[Prod.mk.injEq] at oq;obtain⟨oq,uW,se⟩:=oq;have m_:=cO S C T s;have runs:∀{v':Value} {w':World},(Builtin.append_ #[T,dY] D.type #[Act.eval ⟨tm,[]⟩ s,Act.eval ⟨tm,[]⟩ x]).run P w=.ok v' w'->
   (execOp (Act.eval ⟨tm,[]⟩) D).run P w=.ok (.value v') w':=by
  intro v' w' h;unfold execOp;simp only[ar,resolve,invoke,builtin,Sem.run_bind,Sem.run_pure,Result.andThen_ok,List.map_toArray,List.map_cons,List.map_nil,h]
 have one:∀{u:Bool} {bY:TypeId} {v':Value} {n m:Nat} {l:List Value} {w':World},rowAt w' u bY n v' m l->v'.oneCell'=true:=by
  intro u bY v' n m l w' h;rcases h.2 with⟨rfl,_⟩|⟨g,cap,cur,bn,rfl,_⟩<;>rfl
 unfold oU;split
 ·-- a nil slice
  rename_i t2 bN;rw[bN] at m_;have n_:Act.eval ⟨tm,[]⟩ s=.slice none 0 0:=m_;refine Holds.eV fun r hr=>?_
  have cG:ez bytes [] ys=some r:=hr;unfold ez at cG;split at cG
  ·rename_i hb;cases cG;simp only[List.length_nil,Nat.zero_add,room] at hb;obtain⟨v',w',h1,⟨bY,h2⟩,Z,aH⟩:=sE (P:=P) (u:=t.e7) w T dY D.type e ej i z (au t) bytes dR tK hi se oq uW hzs (iC _) (.slice none 0 0) 0 [] ⟨e,sN w _ e _⟩ _ _ news eu
    (by rw[Nat.zero_add];exact hb.2) (by rw[Nat.zero_add];exact hb.1)
   rw[Nat.zero_add,List.nil_append] at h2;have bS:=S.make (o:=dst) (bo:=.row (aT st dst) t ([]++ys)) (nv:=v') (w':=w') (fun b hb=>Z.block b hb (by simp[Value.ownBlock])) Z.os Z.tape Z.output Z.size
    (fun O M=>ja M) (fun b hb=>by
     obtain⟨g1,g2⟩:=aH b (s8 h2 hb);rcases g2 with g2|g2
     ·cases g2
     ·exact⟨g2,g1⟩) (fun M bI go _ _=>by
     refine⟨bY,news,by rw[bI];simpa using h2,?_⟩
     intro j g1 g2;have agd:j<(flat t ys).length:=by simpa using g1
     simpa using jf go (du.2 j agd g2))
   refine h9 (us:=[(dst,.row (aT st dst) t ([]++ys))]) bS Y (runs (by rw[n_];exact h1)) ?_
   refine⟨one h2,Ref.mk (O:=.row (aT st dst) t ([]++ys)) ?_ rfl (by simp[(ie h2).1])⟩
   simp only[aR,ce];simp
  ·cases cG
 ·-- a row of ra own
  rename_i o s2 bN;rw[bN] at m_;split
  ·rename_i hd t2 xs fb;have mU:look st.sites o=some (.row hd t2 xs):=fb;cases zQ:hd.beq s2 with
   |false=>simp only[cond_false];exact .fail
   |true=>
    have ju:=Nat.eq_of_beq_eq_true zQ;subst ju;simp only[cond_true];split
    ·rename_i gU;subst gU;refine Holds.eV fun r hr=>?_
     have cG:ez bytes xs ys=some r:=hr;unfold ez at cG;split at cG
     ·rename_i hb;cases cG;simp only[room] at hb;have hv:Act.eval ⟨tm,[]⟩ s=bO (B o):=Ref.at m_.2 mU rfl;obtain⟨p0,cs,jl,hcs⟩:=S.sites o _ mU;rw[(ie jl).1] at hv;obtain⟨v',w',h1,⟨bY,h2⟩,Z,aH⟩:=sE (P:=P) w T dY D.type e ej i z (au t2) bytes dR tK hi se oq uW hzs (iC _) (B o) xs.length cs ⟨p0,jl⟩ _ _ news eu hb.2 hb.1;have bS:=S.append (dst:=dst) (r:=xs++ys) mU (nv:=v') (w':=w') Z (fun b hb=>by
       obtain⟨ay,ao⟩:=aH b (s8 h2 hb);exact⟨ay,ao.imp fL id⟩) (fun bI go=>by
       refine⟨bY,cs++news,by rw[bI,List.length_append];exact h2,?_⟩
       have rX:b' w (am X B st.sites) (flat t2 xs) cs:=⟨by rw[dO];exact jl.1,hcs⟩
       have mj:=h' ((gN (B:=B) (sites:=st.sites) rX.1 rX.2).append (gN (B:=B) (sites:=st.sites) du.1 du.2)|>fun h=>by
        rw[show cv (flat t2 xs)++cv (flat t2 ys)=cv (flat t2 (xs++ys)) from by simp[cv,nD]] at h
        exact h)
       intro j g1 g2;exact jf go (mj.2 j g1 g2))
      refine h9 (us:=[(o,.dead hd),(dst,.row (aT (st.dd o (.dead hd)) dst) t2 (xs++ys))]) bS Y (runs (by rw[hv];exact h1)) ?_
      refine⟨one h2,Ref.mk (O:=.row (aT (st.dd o (.dead hd)) dst) t2 (xs++ys)) ?_ rfl (by simp[(ie h2).1])⟩
      simp only[aR,ce];simp
     ·cases cG
    ·exact .fail
  ·exact .fail
 ·exact .fail
theorem Wd(S:ae L J X B st tm w){C:Ctx}(ax:CtxOk P C){T dY:TypeId}{s x:Operand}{e ex:TypeId}{t u:aE}{bytes aG:Nat}{dst:Nat}(aU:C.tt T=.slice e t bytes)(ej:C.tt dY=.slice ex u aG)
  (ar:D.op=.call {callee:=.builtin .append,args:=#[s,x],argTypes:=#[T,dY]}) (cZ:D.dst=some dst) (Y:b0 st D.dst=true):
  Holds (qI bytes t dst st (aO C st T s) (aO C st dY x)) (cq P L J X st tm w D):=by
 have ox:=ax.tt dY;rw[ej] at ox;unfold qI;split
 ·exact .fail
 ·rename_i d lJ;split
  ·rename_i a7 ys;split
   ·rename_i gU;subst gU;obtain⟨news,eu,du⟩:=WM S (cO S C dY x) lJ;exact Ij S ax aU (.inl ⟨_,ox.1.1⟩) ar cZ Y eu du
   ·exact .fail
  ·exact .fail
theorem UK(S:ae L J X B st tm w){C:Ctx}(ax:CtxOk P C){T dY:TypeId}{s x:Operand}{e:TypeId}{t:aE}{bytes:Nat}{dst:Nat}(aU:C.tt T=.slice e t bytes)(ej:C.tt dY=.str)
  (ar:D.op=.call {callee:=.builtin .append,args:=#[s,x],argTypes:=#[T,dY]}) (cZ:D.dst=some dst) (Y:b0 st D.dst=true):
  Holds (qJ bytes t dst st (aO C st T s) (aO C st dY x)) (cq P L J X st tm w D):=by
 have ox:=ax.tt dY;rw[ej] at ox;have a':=cO S C dY x;unfold qJ;split
 ·rename_i y hx;rw[hx] at a';split
  ·rename_i gU;subst gU;have a':a8 w (am X B st.sites) (.str y) (Act.eval ⟨tm,[]⟩ x):=a';generalize hv:Act.eval ⟨tm,[]⟩ x=v at a';cases a' with
   |str _ b hb=>
    subst hb;refine Ij S ax aU (.inr ox.1) ar cZ Y (news:=b.data.toList.map fun b=>Value.int .u8 b.toNat) ?_ ?_
    ·rw[hv];refine⟨by simp[bytesOf,au],fun u hu=>?_,.inr (.inr ⟨b,rfl,?_,rfl,rfl⟩)⟩
     ·obtain⟨c,_,rfl⟩:=List.mem_map.1 hu;rfl
     ·simp only[bytesOf,List.length_map,Array.length_toList];rfl
    ·have e1:flat .u8 (bytesOf b.data.toList)=(b.data.toList.map fun b=>aK.int .u8 b.toNat):=by
      unfold flat bytesOf;rw[List.flatMap_map];generalize b.data.toList=l;induction l with
      |nil=>rfl
      |cons a l ih=>simp only[List.flatMap_cons,List.map_cons,ih];rfl
     rw[e1];refine⟨by simp,fun j g1 g2=>?_⟩
     simp only[List.getElem_map];exact .int _ _
  ·exact .fail
 ·exact .fail
end
theorem foldl_set:∀(vs:List Value) (off k:Nat) (arr:Array Value),off+k+vs.length<=arr.size->
  (vs.zipIdx k).foldl (fun cs (x:Value×Nat)=>cs.setIfInBounds (off+x.2) x.1) arr=(bf arr.toList (off+k) vs).toArray:=by
 intro vs;induction vs with
 |nil=>intro off k arr h;simp[bf]
 |cons v vs ih=>
  intro off k arr h;simp only[List.zipIdx_cons,List.foldl_cons];rw[ih off (k+1) _ (by simp at h ⊢;omega)]
  congr 1
  simp only[List.length_cons] at h;unfold bf;rw[Array.toList_setIfInBounds];apply List.ext_getElem?;intro j;simp only[List.getElem?_append,List.length_append,List.length_take,List.length_set,List.getElem?_take,List.getElem?_drop,List.getElem?_set,List.length_cons,Array.length_toList];have m1:min (off+k) arr.size=off+k:=by omega
  have m2:min (off+(k+1)) arr.size=off+(k+1):=by omega
  simp only[m1,m2];by_cases c1:j<off+k
  ·have c2:j<off+(k+1):=by omega
   have c3:j<off+(k+1)+vs.length:=by omega
   have dM:j<off+k+(vs.length+1):=by omega
   have iZ:¬off+k=j:=by omega
   simp[c1,c2,c3,dM,iZ]
  ·by_cases c0:j=off+k
   ·subst c0;have c2:off+k<off+(k+1):=by omega
    have c3:off+k<off+(k+1)+vs.length:=by omega
    have dM:off+k<off+k+(vs.length+1):=by omega
    have iZ:off+k<arr.size:=by omega
    simp[c2,c3,dM,iZ]
   ·by_cases dM:j<off+k+(vs.length+1)
    ·have c2:¬j<off+(k+1):=by omega
     have c3:j<off+(k+1)+vs.length:=by omega
     have e:j-(off+k)=(j-(off+(k+1)))+1:=by omega
     simp[c1,c2,c3,dM,e]
    ·have c3:¬j<off+(k+1)+vs.length:=by omega
     have iZ:¬off+k=off+(k+1)+vs.length+(j-(off+(k+1)+vs.length)):=by omega
     have e:off+(k+1)+vs.length+(j-(off+(k+1)+vs.length))=off+k+(vs.length+1)+(j-(off+k+(vs.length+1))):=by omega
     simp[c3,dM,iZ,e];try(intro bp;exfalso;omega)
theorem HO(v:Value)(off:Nat)(arr:Array Value)(h:off+v.cells.size<=arr.size):
  v.cells.zipIdx.foldl (fun cs (x:Value×Nat)=>cs.setIfInBounds (off+x.2) x.1) arr=(bf arr.toList off v.cells.toList).toArray:=by
 rw[<-Array.foldl_toList,Array.toList_zipIdx];exact foldl_set v.cells.toList off 0 arr (by simpa using h)
theorem Ie(s:Nat):∀(vs:List (Nat×Value)) (n:Nat) (cells:Array Value),(∀j (h:j<vs.length),(vs[j]).1=n+j)->(∀p,p∈vs->p.2.cells.size=s)->(n+vs.length)*s<=cells.size->
  Instr.fill (fun i=>some (i*s,s)) cells vs=some (bf cells.toList (n*s) (vs.flatMap fun p=>p.2.cells.toList)).toArray:=by
 intro vs;induction vs with
 |nil=>intro n cells _ _ _;simp[Instr.fill,bf]
 |cons p vs ih=>
  obtain⟨i,v⟩:=p;intro n cells hi M cX;have aQ:i=n:=hi 0 (Nat.zero_lt_succ _);subst aQ;have hv:v.cells.size=s:=M (i,v) (by simp)
  have il:i*s+s<=cells.size:=by
   have:(i+1)*s<=(i+(vs.length+1))*s:=Nat.mul_le_mul_right _ (by omega)
   simp only[List.length_cons] at cX;rw[Nat.add_mul,Nat.one_mul] at this;omega
  simp only[Instr.fill,hv];rw[if_neg (by simp;omega)]
  have nZ:=HO v (i*s) cells (by omega)
  rw[nZ];have hlen:v.cells.toList.length=s:=by simpa using hv
  have abI:(bf cells.toList (i*s) v.cells.toList).length=cells.toList.length:=lU _ _ _ (by simp;omega)
  rw[ih (i+1) _ (fun j h=>by have:=hi (j+1) (by simpa using h);simp at this;omega) (fun p an=>M p (by simp[an])) (by
   simp only[List.length_cons] at cX;simp only[List.size_toArray,abI,Array.length_toList];have e:i+1+vs.length=i+(vs.length+1):=by omega
   rw[e];exact cX)]
  congr 2
  simp only[List.flatMap_cons,List.toList_toArray];have mv:(vs.flatMap fun p=>p.2.cells.toList).length=vs.length*s:=by
   clear ih hi cX;induction vs with
   |nil=>simp
   |cons q vs Fk=>
    have:q.2.cells.toList.length=s:=by simpa using M q (by simp)
    rw[List.flatMap_cons,List.length_append,this,Fk (fun p an=>M p (by rcases List.mem_cons.1 an with h|h<;>simp[h])),List.length_cons,Nat.add_mul];omega
  have abY:(i+(vs.length+1))*s<=cells.size:=by simpa using cX
  rw[Nat.add_mul,Nat.add_mul] at abY;unfold bf;apply List.ext_getElem?;intro j;have e1:(i+1)*s=i*s+s:=by rw[Nat.add_mul,Nat.one_mul]
  simp only[List.getElem?_append,List.length_append,List.length_take,List.getElem?_take,List.getElem?_drop,List.length_drop,Array.length_toList,hlen,mv,e1];have m1:min (i*s) cells.size=i*s:=by omega
  have m2:min (i*s+s) (i*s+s+(cells.size-(i*s+s)))=i*s+s:=by omega
  simp only[m1,m2];by_cases c1:j<i*s
  ·have c2:j<i*s+s:=by omega
   have c3:j<i*s+s+vs.length*s:=by omega
   have dM:j<i*s+(s+vs.length*s):=by omega
   simp[c1,c2,c3,dM]
  ·by_cases c2:j<i*s+s
   ·have c3:j<i*s+s+vs.length*s:=by omega
    have dM:j<i*s+(s+vs.length*s):=by omega
    have iZ:j-i*s<s:=by omega
    simp[c1,c2,c3,dM,iZ]
   ·by_cases c3:j<i*s+s+vs.length*s
    ·have dM:j<i*s+(s+vs.length*s):=by omega
     have iZ:¬j-i*s<s:=by omega
     have e:j-i*s-s=j-(i*s+s):=by omega
     simp[c1,c2,c3,dM,iZ,e]
    ·have dM:¬j<i*s+(s+vs.length*s):=by omega
     have iZ:¬i*s+s+vs.length*s+(j-(i*s+s+vs.length*s))<i*s:=by omega
     have c6:¬i*s+s+vs.length*s+(j-(i*s+s+vs.length*s))<i*s+s:=by omega
     have e:i*s+s+(i*s+s+vs.length*s+(j-(i*s+s+vs.length*s))-(i*s+s))=i*s+(s+vs.length*s)+(j-(i*s+(s+vs.length*s))):=by omega
     simp[c3,dM,iZ,c6,e]
theorem Ur:∀(l:List (Nat×Operand)) (n:Nat),nP n l=true->∀j (h:j<l.length),(l[j]).1=n+j:=by
 intro l;induction l with
 |nil=>intro n _ j h;simp at h
 |cons p l ih=>
  obtain⟨i,x⟩:=p;intro n h j hj;simp only[nP,Bool.and_eq_true] at h;cases j with
  |zero=>simpa using Nat.eq_of_beq_eq_true h.1
  |succ j=>have:=ih (n+1) h.2 j (by simpa using hj);simp;omega
section
variable {P:Program}{L:World}{J:List Nat}{X:Nat->Prop}{B:Nat->Value}{st:ab}{tm:Array Value}{w:World}{D:Oper}
theorem So{U:List aq}(h:fY U=true):U.head?≠some .eh:=by
 intro bW;cases U with
 |nil=>cases bW
 |cons l r=>
  simp only[List.head?_cons,Option.some.injEq] at bW;subst bW;cases h
theorem ae.Km(S:ae L J X B st tm w){o:Nat}{cells:List aq}{vs:List Value}{T:TypeId}(hl:ca B st.sites w (am X B st.sites) cells vs)(h1:∀u∈vs,u.oneCell'=true)(gj:me cells T vs w.heap.size):
  ae L J X (fun F=>if F=o then .pointer (some ⟨w.heap.size,0,none⟩) else B F) {st with sites:=b2 st.sites o (.box (aT st o) cells)} tm (w.alloc (.cells vs.toArray T (0,0))):=
 S.make (fun b hb=>RowKit.Below.heap_alloc w _ b hb) rfl rfl rfl (by simp) (fun O M=>ja M) (fun b hb=>by have hb:=List.mem_singleton.1 hb;subst hb;exact⟨Nat.le_refl _,by simp⟩)
  (fun M bI go _ _=>⟨w.heap.size,T,vs,bI,heap_alloc_new w _,hl.1,h1,gj,fun j g1 g2=>(x3 go hl).2 j g1 g2⟩)
theorem WQ{B:Nat->Value}{sites:List (Nat×Site)}{av:Nat->Prop}{cells:List aq}{T:TypeId}{cur:List Value}{b:Nat}(aU:T=pJ)(h:ca B sites w av cells cur)(M:cells.head?≠some .eh):ca B sites w av (tC cells) cur/\me (tC cells) T cur b:=by
 unfold tC;split
 ·obtain⟨v,vs,rfl,h1,h2⟩:=h.inv;exact⟨.cons (show c_ B sites w av .eh v from trivial) h2,fun _=>⟨aU,.inl (by rw[show v=_ from h1];rfl)⟩⟩
 ·exact⟨h,fun aa=>absurd aa M⟩
theorem XL(S:ae L J X B st tm w){C:Ctx}(ax:CtxOk P C){elem:TypeId}{z:List aq}{o:Nat}(ar:D.op=.alloc elem)(cZ:D.dst=some o)(hz:(C.tt elem).zero=some z)(Y:b0 st D.dst=true):
  cq P L J X st tm w D (bD (.ptr o (aT st o) 0)) [(o,.box (aT st o) (bif elem.beq pJ then tC z else z))]:=by
 obtain⟨v,hv,ly⟩:=b8.wq (w:=w) (ax.tt elem) hz;obtain⟨h1,h2,Z⟩:=qc ly;have gj:z.head?≠some .eh:=by
  intro bW;cases z with
  |nil=>cases bW
  |cons l r=>
   simp only[List.head?_cons,Option.some.injEq] at bW;subst bW;simp[kv,oQ] at ly
 have cC:(execOp (Act.eval ⟨tm,[]⟩) D).run P w=.ok (.value (.pointer (some ⟨w.heap.size,0,none⟩))) (w.alloc (.cells v.cells.toList.toArray elem (0,0))):=by
  unfold execOp;simp[ar,Instr.alloc,hv,newVar,newRow]
 have key:∀cells,ca B st.sites w (am X B st.sites) cells v.cells.toList->me cells elem v.cells.toList w.heap.size->
   cq P L J X st tm w D (bD (.ptr o (aT st o) 0)) [(o,.box (aT st o) cells)]:=by
  intro cells hl M;have bS:=S.Km (o:=o) (T:=elem) hl h2 M;refine h9 (us:=[(o,.box (aT st o) cells)]) bS Y (vv:=.pointer (some ⟨w.heap.size,0,none⟩)) cC ?_
  refine⟨_,rfl,Ref.mk (O:=.box (aT st o) cells) ?_ rfl (by simp[bO])⟩
  simp only[aR,ce];simp
 cases aU:elem.beq pJ with
 |false=>exact key z ⟨h1,Z _ _ _ _⟩ fun h=>absurd h gj
 |true=>
  obtain⟨ay,ao⟩:=WQ (b:=w.heap.size) (Nat.eq_of_beq_eq_true aU) (⟨h1,Z B st.sites w (am X B st.sites)⟩:ca B st.sites w (am X B st.sites) z v.cells.toList) gj;exact key _ ay ao
theorem Z0(S:ae L J X B st tm w){elem:TypeId}{x:Operand}{a:bg}{o:Nat}(ar:D.op=.box elem x)(cZ:D.dst=some o)(a9:fP B st.sites w (am X B st.sites) a (Act.eval ⟨tm,[]⟩ x))
  (df:fY a.cells=true) (Y:b0 st D.dst=true):cq P L J X st tm w D (bD (.ptr o (aT st o) 0)) [(o,.box (aT st o) a.cells)]:=by
 have hl:=a9.cells df;have bS:=S.Km (o:=o) (T:=elem) hl (hl.hN df) (fun h=>absurd h (So df))
 refine h9 (us:=[(o,.box (aT st o) a.cells)]) bS Y (vv:=.pointer (some ⟨w.heap.size,0,none⟩)) ?_ ?_
 ·unfold execOp;simp[ar,Instr.box,newVar,newRow]
 ·refine⟨_,rfl,Ref.mk (O:=.box (aT st o) a.cells) ?_ rfl (by simp[bO])⟩
  simp only[aR,ce];simp
theorem ae.Cf(S:ae L J X B st tm w){o:Nat}{t:aE}{xs:List (den t)}{cs rest:List Value}{T:TypeId}{cap:Nat}(hl:b' w (am X B st.sites) (flat t xs) cs)(hcap:cs.length+rest.length=cap*au t)(hm:cap<=maxLen)(ej:t.e7=true->T=kX):
  ae L J X (fun F=>if F=o then .slice (some ⟨w.heap.size,0,none⟩) xs.length cap else B F) {st with sites:=b2 st.sites o (.row (aT st o) t xs)} tm (w.alloc (.cells (cs++rest).toArray T (0,0))):=by
 have hcl:cs.length=xs.length*au t:=by rw[hl.1,dO]
 have cX:xs.length<=cap:=by
  have:xs.length*au t<=cap*au t:=by omega
  exact Nat.le_of_mul_le_mul_right this (iC t)
 refine S.make (fun b hb=>RowKit.Below.heap_alloc w _ b hb) rfl rfl rfl (by simp) (fun O M=>ja M) (fun b hb=>by have hb:=List.mem_singleton.1 hb;subst hb;exact⟨Nat.le_refl _,by simp⟩)
  (fun M bI go _ _=>⟨T,cs,⟨hcl,.inr ⟨w.heap.size,cap,_,(0,0),bI,⟨ej,.inl rfl⟩,heap_alloc_new w _,cX,hm,?_,?_⟩⟩,fun j g1 g2=>jf go (hl.2 j g1 g2)⟩)
 ·simp[hcap]
 ·rw[<-hcl];simp
theorem YR:∀{as:List bg} {t:aE} {xs:List (den t)} {us vs:List (Nat×Site)} {ws:List Value},kM t st as=some (xs,us)->ws.length=as.length->
  (∀j (h:j<as.length) (aa:j<ws.length),fP B st.sites w (am X B st.sites) (as[j]) (ws[j]))->ko L J X B st tm w vs->(∀p,p∈us->p∈vs)->
  xs.length=as.length/\b' w (am X B (aR st.sites vs)) (flat t xs) (ws.flatMap fun v=>v.cells.toList)/\∀v,v∈ws->v.cells.size=au t:=by
 intro as;induction as with
 |nil=>
  intro t xs us vs ws h hl _ _ _;simp only[kM] at h;cases h;have:ws=[]:=List.eq_nil_of_length_eq_zero hl;subst this;exact⟨rfl,⟨rfl,fun j h=>by simp[flat] at h⟩,fun v hv=>by simp at hv⟩
 |cons a as ih=>
  intro t xs us vs ws h hl e9 aV dz;match ws,hl with
  |v::ws,hl=>
  simp only[kM] at h;split at h
  ·rename_i ds u1 lo;split at h
   ·rename_i x g8 u2 dS ma;cases h;have bU:=e9 0 (by simp) (by simp)
    simp only[List.getElem_cons_zero] at bU;have df:fY a.cells=true:=by
     clear ma ih e9 bU hl dS;generalize a.cells=U at lo;induction U generalizing ds u1 with
     |nil=>rfl
     |cons l U ih=>
      simp only[gR] at lo;split at lo
      ·rename_i d Rz fU nu h1 h2;simp only[fY,Bool.and_eq_true];refine⟨?_,ih _ _ (fun p an=>dz p (by cases lo;rcases List.mem_append.1 an with h|h<;>simp[h])) h2⟩
       unfold iU at h1;split at h1<;>first|rfl|cases h1
      ·cases lo
    have hZ:=bU.cells df;have uP:=xJ lo hZ aV (fun p an=>dz p (List.mem_append.2 (.inl an)))
    obtain⟨g1,g2,g3⟩:=ih ma (by simpa using hl) (fun j h1 h2=>e9 (j+1) (by simpa using h1) (by simpa using h2)) aV (fun p an=>dz p (List.mem_append.2 (.inr an)))
    have m':=mS _ _ _ dS;refine⟨by simp[g1],?_,fun u hu=>?_⟩
    ·simp only[flat,List.flatMap_cons];rw[m'];have:=h' ((gN (B:=B) (sites:=st.sites) uP.1 uP.2).append (gN (B:=B) (sites:=st.sites) g2.1 g2.2)|>fun h=>by
      rw[show cv ds++cv (flat t g8)=cv (ds++flat t g8) from by simp[cv]] at h
      exact h)
     exact this
    ·rcases List.mem_cons.1 hu with rfl|hu
     ·have:u.cells.toList.length=ds.length:=uP.1;rw[<-m',e3] at this;simpa using this
     ·exact g3 u hu
   ·cases h
  ·cases h
theorem YS:∀{as:List bg} {t:aE} {xs:List (den t)} {us:List (Nat×Site)},kM t st as=some (xs,us)->de st.sites us:=by
 intro as;induction as with
 |nil=>intro t xs us h;simp only[kM] at h;cases h;exact .nil
 |cons a as ih=>
  intro t xs us h;simp only[kM] at h;split at h
  ·rename_i ds u1 lo;split at h
   ·rename_i x g8 u2 dS ma;cases h;exact(CP lo).append (ih ma)
   ·cases h
  ·cases h
theorem R_{us:List (Nat×Site)}(h:de st.sites us)(o:Nat):aT {st with sites:=aR st.sites us} o=aT st o:=by
 unfold aT ab.O;simp only;rcases k5 h o with h1|⟨s,t,xs,h1,h2⟩
 ·rw[h1]
 ·rw[h2];rcases h1 with h1|h1|h1<;>rw[h1]<;>rfl
end
section
variable {P:Program}{L:World}{J:List Nat}{X:Nat->Prop}{B:Nat->Value}{st:ab}{tm:Array Value}{w:World}{D:Oper}
theorem oL{v:aI}{a:bg}(h:lu v=some a):v=.av a:=by
 cases v with
 |av b=>cases h;rfl
 |iP _=>cases h
theorem Ig:∀{vs:List aI} {as:List bg},mc vs=some as->vs.length=as.length/\∀j (h:j<vs.length) (aa:j<as.length),vs[j]=.av (as[j]):=by
 intro vs;induction vs with
 |nil=>intro as h;simp only[mc] at h;cases h;exact⟨rfl,fun j h=>by simp at h⟩
 |cons v vs ih=>
  intro as h;simp only[mc] at h;split at h
  ·rename_i a iW h1 h2;cases h;obtain⟨g1,g2⟩:=ih h2;refine⟨by simp[g1],fun j ay ao=>?_⟩
   cases j with
   |zero=>exact oL h1
   |succ j=>exact g2 j (by simpa using ay) (by simpa using ao)
  ·cases h
theorem nE{C:Ctx}(ax:CtxOk P C){T e:TypeId}{t:aE}{bytes:Nat}(aU:C.tt T=.slice e t bytes):
  P.underlying T=some (.slice e)/\∃i z,P.info? e=some i/\i.size=au t/\i.bytes=bytes/\i.zero=some z/\z.cells.size=au t/\(t.e7=true->e=kX):=by
 have bv:=ax.tt T;rw[aU] at bv;obtain⟨⟨dR,_⟩,z,hinfo,hzs⟩:=bv;refine⟨dR,?_⟩;cases aL:P.info? e with
 |none=>simp[aL] at hinfo
 |some i=>
  simp only[aL,Option.map_some,Option.some.injEq,Prod.mk.injEq] at hinfo;exact⟨i,z,rfl,hinfo.1,hinfo.2.1,hinfo.2.2,hzs⟩
theorem Hh{C:Ctx}(ax:CtxOk P C){T e:TypeId}{t:aE}{bytes len:Nat}{parts:Array (Nat×Operand)}(aU:C.tt T=.slice e t bytes)(hlen:parts.toList.length=len)(ll:nP 0 parts.toList=true)(tu:len*au t<=1000)
  {ws:List Value} (Fv:ws=parts.toList.map fun p=>Act.eval ⟨tm,[]⟩ p.2) (hcs:∀v,v∈ws->v.cells.size=au t) (hcl:(ws.flatMap fun v=>v.cells.toList).length=len*au t):
  (Instr.buildSlice T len (parts.map fun(x:Nat×Operand)=>(x.1,Act.eval ⟨tm,[]⟩ x.2))).run P w=
   .ok (.slice (some ⟨w.heap.size,0,none⟩) len len) (w.alloc (.cells (ws.flatMap fun v=>v.cells.toList).toArray e)):=by
 obtain⟨dR,i,z,hi,gy,nm,j7,hzs,ej⟩:=nE ax aU;have ZN:(parts.map fun(x:Nat×Operand)=>(x.1,Act.eval ⟨tm,[]⟩ x.2)).toList=parts.toList.map fun p=>(p.1,Act.eval ⟨tm,[]⟩ p.2):=by simp
 have _X:((parts.toList.map fun p=>(p.1,Act.eval ⟨tm,[]⟩ p.2)).flatMap fun p:Nat×Value=>p.2.cells.toList)=ws.flatMap fun v=>v.cells.toList:=by
  simp[Fv,List.flatMap_map]
 by_cases aQ:len*i.size=0
 ·have ol:len=0:=by
   rcases Nat.mul_eq_zero.1 aQ with h|h
   ·exact h
   ·have:=iC t;omega
  subst ol;have nj:parts.toList=[]:=List.eq_nil_of_length_eq_zero hlen;have afd:ws=[]:=by simp[Fv,nj]
  have afp:parts=#[]:=by simpa using nj
  rw[afd];have jv:∀f:Nat->Value,Array.map f (Array.range 0)=#[]:=fun f=>by apply Array.ext';simp
  simp[Instr.buildSlice,run_underlying dR,sizeOf,typeInfo,hi,afp,Instr.fill,newRow,jv]
 ·refine run_buildSlice w T e len _ _ i z dR hi j7 (by rw[gy];omega) aQ ?_
  rw[ZN];have _N:(((Array.range (len*i.size)).map fun x=>z.cells[x%z.cells.size]!)).size=len*i.size:=by simp
  have:=Ie (au t) (parts.toList.map fun p=>(p.1,Act.eval ⟨tm,[]⟩ p.2)) 0 ((Array.range (len*i.size)).map fun x=>z.cells[x%z.cells.size]!)
   (fun j h=>by have:=Ur _ 0 ll j (by simpa using h);simpa using this)
   (fun p an=>by
    obtain⟨q,aL,rfl⟩:=List.mem_map.1 an;exact hcs _ (by rw[Fv];exact List.mem_map.2 ⟨q,aL,rfl⟩))
   (by rw[_N,gy];simp[hlen])
  rw[gy] at this ⊢;rw[this,_X];congr 2
  unfold bf;rw[Nat.zero_mul,List.take_zero,List.nil_append,Nat.zero_add,hcl,List.drop_eq_nil_of_le (by simp),List.append_nil]
theorem SA(S:ae L J X B st tm w){C:Ctx}(ax:CtxOk P C){T e:TypeId}{t:aE}{bytes len o:Nat}{parts:Array (Nat×Operand)}(aU:C.tt T=.slice e t bytes)(ar:D.op=.buildSlice T len parts)
  (cZ:D.dst=some o) (Y:b0 st D.dst=true) (hlen:parts.toList.length=len) (ll:nP 0 parts.toList=true) (tu:len*au t<=1000) {as:List bg} {xs:List (den t)} {us:List (Nat×Site)}
  (has:mc (parts.toList.map fun p=>aO C st e p.2)=some as) (dS:kM t st as=some (xs,us)):
  cq P L J X st tm w D (bD (.own o (aT st o))) (us++[(o,.row (aT st o) t xs)]):=by
 obtain⟨dR,i,z,hi,gy,nm,j7,hzs,ej⟩:=nE ax aU;have g_:=YS dS;have aV:ko L J X B st tm w us:=⟨S,g_⟩;obtain⟨u4,j9⟩:=Ig has;let ws:List Value:=parts.toList.map fun p=>Act.eval ⟨tm,[]⟩ p.2
 have uF:ws.length=as.length:=by rw[<-u4];simp[ws]
 have El:∀j (h:j<as.length) (aa:j<ws.length),fP B st.sites w (am X B st.sites) (as[j]) (ws[j]):=by
  intro j h1 h2;have hj:j<(parts.toList.map fun p=>aO C st e p.2).length:=by rw[u4];exact h1
  have:=j9 j hj h1;simp only[List.getElem_map] at this;have a':=cO S C e (parts.toList[j]'(by simpa using hj)).2
  rw[this] at a';have Z:b4 B st.sites w (am X B st.sites) (.av (as[j])) (ws[j]):=by simpa[ws] using a'
  exact Z
 obtain⟨uD,du,hcs⟩:=YR dS uF El aV (fun p an=>an)
 have o9:xs.length=len:=by rw[uD,<-uF];simpa[ws] using hlen
 have hcl:(ws.flatMap fun v=>v.cells.toList).length=len*au t:=by rw[du.1,dO,o9]
 have hm:len<=maxLen:=by
  have:len*1<=len*au t:=Nat.mul_le_mul_left _ (iC t);unfold maxLen;omega
 have bS:=aV.new.Cf (o:=o) (xs:=xs) (cs:=ws.flatMap fun v=>v.cells.toList) (rest:=[]) (T:=e) (cap:=len) (by exact du) (by simp[hcl]) hm ej
 rw[R_ g_,o9,List.append_nil] at bS;have nT:aR st.sites (us++[(o,.row (aT st o) t xs)])=b2 (aR st.sites us) o (.row (aT st o) t xs):=by rw[hL];rfl
 have cC:(Instr.buildSlice T len (parts.map fun(x:Nat×Operand)=>(x.1,Act.eval ⟨tm,[]⟩ x.2))).run P w=
   .ok (.slice (some ⟨w.heap.size,0,none⟩) len len) (w.alloc (.cells (ws.flatMap fun v=>v.cells.toList).toArray e)):=Hh ax aU hlen ll tu rfl hcs hcl
 refine h9 (us:=us++[(o,.row (aT st o) t xs)]) (by rw[nT];exact bS) Y (vv:=.slice (some ⟨w.heap.size,0,none⟩) len len) ?_ ?_
 ·unfold execOp;simp only[ar,Sem.run_bind];have DK:=cC;simp only[DK,Result.andThen_ok,Sem.run_pure]
 ·rw[nT];refine⟨rfl,Ref.mk (O:=.row (aT st o) t xs) ?_ rfl (by simp[bO])⟩
  simp only[ce];simp
theorem Sq{w:World}{av:Nat->Prop}{t:aE}{z:den t}{fG:List Value}(h:b' w av (enc t z) fG)(n:Nat):b' w av (flat t (List.replicate n z)) ((List.replicate n fG).flatten):=by
 induction n with
 |zero=>exact⟨rfl,fun j h=>by simp[flat] at h⟩
 |succ n ih=>
  have:=h' ((gN (B:=fun _=>undef) (sites:=[]) h.1 h.2).append (gN (B:=fun _=>undef) (sites:=[]) ih.1 ih.2)|>fun h=>by
   rw[show cv (enc t z)++cv (flat t (List.replicate n z))=cv (enc t z++flat t (List.replicate n z)) from by simp[cv]] at h
   exact h)
  simpa[List.replicate_succ,flat,List.flatMap_cons] using this
theorem Vt(z:Array Value)(n:Nat)(hz:0<z.size):((Array.range (n*z.size)).map fun x=>z[x%z.size]!).toList=(List.replicate n z.toList).flatten:=by
 induction n with
 |zero=>simp
 |succ n ih=>
  rw[List.replicate_succ',List.flatten_append];rw[<-ih];apply List.ext_getElem?;intro j;have e:(n+1)*z.size=n*z.size+z.size:=by rw[Nat.add_mul,Nat.one_mul]
  simp only[Array.toList_map,Array.toList_range,List.getElem?_map,List.getElem?_append,List.length_map,List.length_range,List.flatten_cons,List.flatten_nil,List.append_nil,e];by_cases h1:j<n*z.size
  ·rw[List.getElem?_range (by omega)];simp[h1]
  ·by_cases h2:j<n*z.size+z.size
   ·rw[List.getElem?_range h2];have Z:j-n*z.size<z.size:=by omega
    have aH:j%z.size=j-n*z.size:=by
     have:j=z.size*n+(j-n*z.size):=by rw[Nat.mul_comm];omega
     conv=>lhs;rw[this]
     rw[Nat.mul_add_mod,Nat.mod_eq_of_lt Z]
    simp[h1,aH,Z]
   ·rw[List.getElem?_eq_none (by simp;omega)]
    have Z:¬j-n*z.size<z.size:=by omega
    simp[h1,Z]
theorem S7{l:aq}{v:Value}{d:aK}{us:List (Nat×Site)}(h:oQ l=some v)(k:iU st l=some (d,us)):us=[]:=by
 cases l with
 |d x=>simp[iU] at k;exact k.2
 |nil t=>simp[iU] at k;exact k.2
 |own o s=>simp[oQ] at h
 |clo g bj=>simp[oQ] at h
 |_=>simp[iU] at k
theorem Hk{C:Ctx}{T e:TypeId}{t:aE}{bytes:Nat}{kn km:IntKind}{n m:Int}{i:TypeInfo}{v:Value}(dR:P.underlying T=some (.slice e))(hi:P.info? e=some i)(gy:i.size=au t)(nm:i.bytes=bytes)
  (j7:i.zero=some v) (hzs:v.cells.size=au t) (aS:0<=n) (aG:n<=m) (bL:m*bytes<=room) (kg:m<=maxLen):
  (Instr.makeSlice T (.int kn n) (.int km m)).run P w=.ok (.slice (some ⟨w.heap.size,0,none⟩) n.toNat m.toNat) (w.alloc (.cells ((List.replicate m.toNat v.cells.toList).flatten).toArray e)):=by
 unfold maxLen at kg;have bZ:IntKind.i64.wrap n=n:=IntWalk.i64_in n (by omega)
 have w2:IntKind.i64.wrap m=m:=IntWalk.i64_in m (by omega)
 have Et:(decide (m<0)||decide (((i.bytes:Nat):Int)*m>2^48))=false:=by
  unfold room at bL;rw[nm];have:(bytes:Int)*m<=140737488355328:=by rw[Int.mul_comm];exact bL
  simp;omega
 have nU:((Array.range (m.toNat*i.size)).map fun x=>v.cells[x%v.cells.size]!)=((List.replicate m.toNat v.cells.toList).flatten).toArray:=by
  rw[<-Vt v.cells m.toNat (by rw[hzs];exact iC t),hzs,gy]
 have FL:¬n<0:=by omega
 have hD:¬n>m:=by omega
 unfold Instr.makeSlice;simp only[Sem.run_bind,run_underlying dR,Result.andThen_ok,asInt,asIntOf,Sem.run_pure,kp hi,bZ,w2,Et,Bool.false_eq_true,FL,hD,decide_false,Bool.or_false,Bool.or_self,if_false,
  run_askRoom,sizeOf]
 by_cases hz0:m.toNat*i.size=0
 ·have r':m.toNat=0:=by
   rcases Nat.mul_eq_zero.1 hz0 with h|h
   ·exact h
   ·have:=iC t;omega
  have jv:∀f:Nat->Value,Array.map f (Array.range 0)=#[]:=fun f=>by apply Array.ext';simp
  simp[r',newRow,jv]
 ·simp[hz0,j7,zeroValue,kp hi,newRow,nU]
theorem SW(S:ae L J X B st tm w){C:Ctx}(ax:CtxOk P C){T e:TypeId}{t:aE}{bytes o:Nat}{l c:Operand}{kn km:IntKind}{n m:Int}{z:List aq}{ds:List aK}{us:List (Nat×Site)}{dU:den t}(aU:C.tt T=.slice e t bytes)(ar:D.op=.makeSlice T l c)
  (cZ:D.dst=some o) (Y:b0 st D.dst=true) (hl:aO C st 0 l=.av (.ah (.d (.int kn n)))) (hc:aO C st 0 c=.av (.ah (.d (.int km m)))) (hz:(C.tt e).zero=some z) (d':gR st z=some (ds,us)) (dS:dec t ds=some dU):
  ∀r,lw bytes n m dU=some r->cq P L J X st tm w D (bD (.own o (aT st o))) [(o,.row (aT st o) t r)]:=by
 intro r hr;obtain⟨dR,i,fh,hi,gy,nm,j7,hzs,ej⟩:=nE ax aU;obtain⟨v,hv,ly⟩:=b8.wq (w:=w) (ax.tt e) hz;have Fw:v=fh:=by
  simp[zeroValue,typeInfo,hi,j7] at hv;exact hv.symm
 subst Fw;obtain⟨h1,h2,Z⟩:=qc ly;have dD:us=[]:=by
  clear dS hz Z h2 h1;have key:∀{U:List aq} {vs:List Value} {ds:List aK} {us:List (Nat×Site)},kv U=some vs->gR st U=some (ds,us)->us=[]:=by
   intro U;induction U with
   |nil=>intro vs ds us _ h;simp only[gR] at h;cases h;rfl
   |cons l U ih=>
    intro vs ds us h1 h2;simp only[kv] at h1;split at h1
    ·rename_i v cg g1 g2;simp only[gR] at h2;split at h2
     ·rename_i d Rz fU nu ay ao;cases h2;rw[ih g2 ao,List.append_nil];exact S7 g1 ay
     ·cases h2
    ·cases h1
  exact key ly d'
 subst dD;have aV:ko L J X B st tm w []:=⟨S,.nil⟩;have hrz:b' w (am X B st.sites) ds v.cells.toList:=xJ d' ⟨h1,Z _ _ _ _⟩ aV (fun p an=>an)
 rw[<-mS _ _ _ dS] at hrz;unfold lw at hr;split at hr
 ·rename_i hb;obtain⟨aS,aG,bL,kg⟩:=hb;cases hr;have e1:Act.eval ⟨tm,[]⟩ l=.int kn n:=by
   have:=cO S C 0 l;rw[hl] at this;have this:a8 _ _ (.int kn n) _:=this;generalize Act.eval ⟨tm,[]⟩ l=u at this;cases this;rfl
  have e2:Act.eval ⟨tm,[]⟩ c=.int km m:=by
   have:=cO S C 0 c;rw[hc] at this;have this:a8 _ _ (.int km m) _:=this;generalize Act.eval ⟨tm,[]⟩ c=u at this;cases this;rfl
  have tZ:=Sq hrz n.toNat;have hlen:((List.replicate n.toNat v.cells.toList).flatten).length=n.toNat*au t:=by
   rw[tZ.1,dO,List.length_replicate]
  have ts:(List.replicate m.toNat v.cells.toList).flatten=(List.replicate n.toNat v.cells.toList).flatten++(List.replicate (m.toNat-n.toNat) v.cells.toList).flatten:=by
   rw[<-List.flatten_append,List.replicate_append_replicate];congr 2;omega
  have hcap:((List.replicate n.toNat v.cells.toList).flatten).length+((List.replicate (m.toNat-n.toNat) v.cells.toList).flatten).length=m.toNat*au t:=by
   rw[<-List.length_append,<-ts];simp[hzs]
  have t':m.toNat<=maxLen:=by omega
  have bS:=S.Cf (o:=o) (T:=e) tZ hcap t' ej;rw[List.length_replicate,<-ts] at bS;refine h9 (us:=[(o,.row (aT st o) t (List.replicate n.toNat dU))]) bS Y (vv:=.slice (some ⟨w.heap.size,0,none⟩) n.toNat m.toNat) ?_ ?_
  ·unfold execOp;simp only[ar,e1,e2,Sem.run_bind];have cC:=Hk (C:=C) (w:=w) (kn:=kn) (km:=km) dR hi gy nm j7 hzs aS aG bL kg;simp only[cC,Result.andThen_ok,Sem.run_pure]
  ·refine⟨rfl,Ref.mk (O:=.row (aT st o) t (List.replicate n.toNat dU)) ?_ rfl (by simp[bO])⟩
   simp only[aR,ce];simp
 ·cases hr
end
theorem VO{az jy:Type}(g:az->Option jy):∀{l:List az} {r:List jy},l.mapM g=some r->∀{i:Nat} {y:jy},r[i]? =some y->∃x,l[i]? =some x/\g x=some y:=by
 intro l;induction l with
 |nil=>intro r h i y ai;simp at h;subst h;simp at ai
 |cons x l ih=>
  intro r h i y ai;simp only[List.mapM_cons,Option.bind_eq_bind,Option.pure_def] at h;cases hx:g x with
  |none=>simp[hx] at h
  |some z=>
   cases hl:l.mapM g with
   |none=>simp[hx,hl] at h
   |some jB=>
    simp only[hx,hl,Option.bind_some,Option.some.injEq] at h;subst h;cases i with
    |zero=>simp at ai;subst ai;exact⟨x,by simp,hx⟩
    |succ i=>simp at ai;simpa using ih hl ai
section
variable {P:Program}{L:World}{J:List Nat}{X:Nat->Prop}{B:Nat->Value}{st:ab}{tm:Array Value}{w:World}{D:Oper}
theorem ic{k:IntKind}{n:Int}{v:Value}{av:Nat->Prop}(h:a8 w av (.int k n) v):v=.int k n:=by cases h;rfl
theorem iD{b:Bool}{v:Value}{av:Nat->Prop}(h:a8 w av (.bool b) v):v=.bool b:=by cases h;rfl
theorem g4{s:al}{v:Value}{av:Nat->Prop}(h:a8 w av (.str s) v):∃b:ByteArray,v=.string b/\b.data.toList=s:=by
 cases h with
 |str l s h=>exact⟨s,rfl,h⟩
theorem je(S:ae L J X B st tm w){C:Ctx}{T:TypeId}{x:Operand}{k:IntKind}{n:Int}(h:aO C st T x=.av (.ah (.d (.int k n)))):Act.eval ⟨tm,[]⟩ x=.int k n:=by
 have:=cO S C T x;rw[h] at this;exact ic this
theorem CM(S:ae L J X B st tm w){C:Ctx}{T:TypeId}{x:Operand}{b:Bool}(h:aO C st T x=.av (.ah (.d (.bool b)))):Act.eval ⟨tm,[]⟩ x=.bool b:=by
 have:=cO S C T x;rw[h] at this;exact iD this
theorem ZW(S:ae L J X B st tm w){C:Ctx}{T:TypeId}{x:Operand}{s:al}(h:aO C st T x=.av (.ah (.d (.str s)))):∃b:ByteArray,Act.eval ⟨tm,[]⟩ x=.string b/\b.data.toList=s:=by
 have:=cO S C T x;rw[h] at this;exact g4 this
theorem Th{C:Ctx}(ax:CtxOk P C){T:TypeId}{bx:List (Nat×Nat)}{n:Nat}{z:List aq}{eq:Bool}(aU:C.tt T=.struct bx n z eq):(b8.struct bx n z eq).ok P T:=by
 have:=ax.tt T;rwa[aU] at this
theorem S4(S:ae L J X B st tm w){C:Ctx}(ax:CtxOk P C){T:TypeId}{x:Operand}{f off GB:Nat}{bx:List (Nat×Nat)}{n:Nat}{z:List aq}{eq:Bool}(aU:C.tt T=.struct bx n z eq)(ar:D.op=.fieldAddr T x f)
  (Y:b0 st D.dst=true) (hf:bx[f]? =some (off,GB)):Holds (AE off (aO C st 0 x)) (cq P L J X st tm w D):=by
 obtain⟨fields,dR,⟨abT,uQ⟩,_⟩:=Th ax aU;obtain⟨RP,h1,h2⟩:=VO _ abT hf;have h1':fields[f]? =some RP:=by simpa using h1
 cases hi:P.info? RP.type with
 |none=>simp[hi] at h2
 |some i=>
  simp only[hi,Option.map_some,Option.some.injEq,Prod.mk.injEq] at h2;have hsz:i.size≠0:=by rw[h2.2];exact uQ (off,GB) (List.mem_of_getElem? hf)
  have a':=cO S C 0 x;have run:∀{b p:Nat},Act.eval ⟨tm,[]⟩ x=.pointer (some ⟨b,p,none⟩)->(execOp (Act.eval ⟨tm,[]⟩) D).run P w=.ok (.value (.pointer (some ⟨b,p+off,none⟩))) w:=by
   intro b p hx;unfold execOp;simp only[ar,hx,Instr.fieldAt,Instr.sureAddr,Sem.run_bind,run_underlying dR,Result.andThen_ok,h1',Sem.run_pure,fieldPlace,sizeOf,kp hi,hsz,if_false,h2.1,f_]
  unfold AE;split
  ·rename_i o s p bN;rw[bN] at a';obtain⟨b,ay,ao⟩:=a';exact Holds.ok (dl S Y (run ay) ⟨b,rfl,ao⟩)
  ·rename_i cells p bN;rw[bN] at a';obtain⟨b,q,ay,ao⟩:=a';refine Holds.ok (dl S Y (run ay) ⟨b,q,by rw[Nat.add_assoc],ao⟩)
  ·rename_i o s t k p bN;rw[bN] at a';obtain⟨b,ay,ao⟩:=a';exact Holds.ok (dl S Y (run ay) ⟨b,by rw[Nat.add_assoc],ao⟩)
  ·exact .fail
end
theorem sZ(n:Nat)(l:List Nat):fz n l=true <-> n∈l:=by
 induction l with
 |nil=>simp[fz]
 |cons m l ih=>
  simp only[fz,Bool.or_eq_true,ih,List.mem_cons];constructor
  ·rintro(h|h)
   ·exact .inl (Nat.eq_of_beq_eq_true h)
   ·exact .inr h
  ·rintro(rfl|h)
   ·exact .inl (Nat.beq_refl n)
   ·exact .inr h
theorem nF(l:List Nat):eC l=true <-> l.Nodup:=by
 induction l with
 |nil=>simp[eC]
 |cons n l ih=>
  simp only[eC,Bool.and_eq_true,ih,List.nodup_cons,Bool.not_eq_true'];constructor
  ·rintro⟨h1,h2⟩;exact⟨fun h=>(by rw[(sZ n l).2 h] at h1;cases h1),h2⟩
  ·rintro⟨h1,h2⟩;refine⟨?_,h2⟩;cases h:fz n l with
   |false=>rfl
   |true=>exact absurd ((sZ n l).1 h) h1
theorem kq{sites us:List (Nat×Site)}{o:Nat}(h:o∉keys us):look (aR sites us) o=look sites o:=by
 induction us generalizing sites with
 |nil=>rfl
 |cons p us ih=>
  obtain⟨n,s⟩:=p;simp only[keys,List.mem_cons,not_or] at h;simp only[aR];rw[ih h.2,ce];have:¬n=o:=fun e=>h.1 e.symm
  simp[this]
theorem Bn{az:Type}{us:List (Nat×az)}{o:Nat}{s:az}(h:(o,s)∈us):o∈keys us:=by
 induction us with
 |nil=>simp at h
 |cons p us ih=>
  rcases List.mem_cons.1 h with rfl|h
  ·exact List.mem_cons_self
  ·exact List.mem_cons_of_mem _ (ih h)
theorem nI{az:Type}{us:List (Nat×az)}{o:Nat}(h:o∈keys us):∃s,(o,s)∈us:=by
 induction us with
 |nil=>simp[keys] at h
 |cons p us ih=>
  obtain⟨n,s⟩:=p;rcases List.mem_cons.1 h with h|h
  ·exact⟨s,by rw[h];exact List.mem_cons_self⟩
  ·obtain⟨aj,aa⟩:=ih h;exact⟨aj,List.mem_cons_of_mem _ aa⟩
theorem fX{az:Type}(a b:List (Nat×az)):keys (a++b)=keys a++keys b:=by
 induction a with
 |nil=>rfl
 |cons p a ih=>simp[keys,ih]
section
variable {P:Program}{L:World}{J:List Nat}{X:Nat->Prop}{B:Nat->Value}{st:ab}{tm:Array Value}{w:World}{D:Oper}
def cf(B:Nat->Value)(ks:List Nat):List Nat:=ks.flatMap fun o=>bu (B o)
theorem jH(a b:List Nat):cf B (a++b)=cf B a++cf B b:=by simp[cf]
def eH(sites:List (Nat×Site))(us:List (Nat×Site)):Prop:=∀o aj,(o,aj)∈us->∃O,look sites o=some O/\O.live=true/\aj=.dead O.bX
theorem eH.nil{sites:List (Nat×Site)}:eH sites []:=fun _ _ h=>by simp at h
theorem eH.append{sites us vs:List (Nat×Site)}(h:eH sites us)(aa:eH sites vs):eH sites (us++vs):=by
 intro o s hm;rcases List.mem_append.1 hm with hm|hm
 ·exact h o s hm
 ·exact aa o s hm
theorem Us:∀{us:List (Nat×Site)} {sites:List (Nat×Site)},eH sites us->∀F,(F∉keys us/\look (aR sites us) F=look sites F)\/(F∈keys us/\∃O,look sites F=some O/\O.live=true/\look (aR sites us) F=some (.dead O.bX)):=by
 intro us;induction us with
 |nil=>intro sites _ F;exact .inl ⟨by simp[keys],rfl⟩
 |cons p us ih=>
  obtain⟨o,s⟩:=p;intro sites h F;obtain⟨O,h1,h2,rfl⟩:=h o s List.mem_cons_self;by_cases hm:F∈keys us
  ·obtain⟨aj,gC⟩:=nI hm;obtain⟨bo,ay,ao,rfl⟩:=h F aj (List.mem_cons_of_mem _ gC);refine .inr ⟨List.mem_cons_of_mem _ hm,bo,ay,ao,?_⟩;have:∀(us:List (Nat×Site)) (sites:List (Nat×Site)),(∀s,(F,s)∈us->s=.dead bo.bX)->F∈keys us->look (aR sites us) F=some (.dead bo.bX):=by
    intro us;induction us with
    |nil=>intro _ _ h;simp[keys] at h
    |cons q us Fk=>
     obtain⟨aN,r⟩:=q;intro sites M ag;simp only[aR];by_cases hF:F∈keys us
     ·exact Fk _ (fun s eN=>M s (List.mem_cons_of_mem _ eN)) hF
     ·rw[kq hF,ce];rcases List.mem_cons.1 ag with rfl|ag
      ·rw[M r List.mem_cons_self];simp
      ·exact absurd ag hF
   simp only[aR];refine this us _ (fun s M=>?_) hm
   obtain⟨s2,g1,g2,g3⟩:=h F s (List.mem_cons_of_mem _ M);rw[ay] at g1;cases g1;exact g3
  ·simp only[aR];rw[kq hm,ce];by_cases e:o=F
   ·subst e;exact .inr ⟨List.mem_cons_self,O,h1,h2,by simp⟩
   ·exact .inl ⟨fun ag=>(List.mem_cons.1 ag).elim (fun h=>e h.symm) hm,by simp[e]⟩
theorem Deep.len{av:Nat->Prop}{ds:List aK}{cs aC:List Value}(h:Deep w av ds cs aC):cs.length=ds.length:=by
 induction h with
 |nil=>rfl
 |row _ _ _ _ _ _ _ _ ih=>simp[ih]
 |leaf _ _ _ ih=>simp[ih]
theorem Deep.cw{av:Nat->Prop}{ds fU:List aK}{cs iV aC PY:List Value}(h:Deep w av ds cs aC)(aa:Deep w av fU iV PY):Deep w av (ds++fU) (cs++iV) (aC++PY):=by
 induction h with
 |nil=>exact aa
 |row u ys e U an h hr _ ih=>exact .row u ys e U an h hr ih
 |leaf an h _ ih=>exact .leaf an h ih
theorem Deep.inv{av:Nat->Prop}:∀{ds fU:List aK} {cs aC:List Value},Deep w av (ds++fU) cs aC->∃pL QC g9 zq,cs=pL++QC/\aC=g9++zq/\Deep w av ds pL g9/\Deep w av fU QC zq:=by
 intro ds;induction ds with
 |nil=>intro fU cs aC h;exact⟨[],cs,[],aC,rfl,rfl,.nil,h⟩
 |cons d ds ih=>
  intro fU cs aC h;cases h with
  |row u ys e U an h hr k=>
   obtain⟨c1,c2,n1,n2,rfl,rfl,ay,ao⟩:=ih k;exact⟨_::c1,c2,_::n1,n2,rfl,rfl,.row u ys e U an h hr ay,ao⟩
  |leaf an h k=>
   obtain⟨c1,c2,n1,n2,rfl,rfl,ay,ao⟩:=ih k;exact⟨_::c1,c2,n1,n2,rfl,rfl,.leaf an h ay,ao⟩
theorem Deep.map{w':World}{av bR:Nat->Prop}{ds:List aK}{cs aC:List Value}(h:Deep w av ds cs aC)(go:∀{d v},a8 w av d v->a8 w' bR d v):
  (∀n,n∈aC->∀b,bc n=some b->w'.heap[b]? =w.heap[b]?)->Deep w' bR ds cs aC:=by
 induction h with
 |nil=>intro _;exact .nil
 |row u ys e U an h hr _ ih=>intro ag;exact .row u ys e U an (qf h (ag _ List.mem_cons_self)) ⟨hr.1,fun j g1 g2=>go (hr.2 j g1 g2)⟩ (ih fun n hn=>ag n (List.mem_cons_of_mem _ hn))
 |leaf an h _ ih=>intro ag;exact .leaf an (go h) (ih ag)
theorem Deep.one{av:Nat->Prop}{ds:List aK}{cs aC:List Value}(h:Deep w av ds cs aC):∀u∈cs,u.oneCell'=true:=by
 induction h with
 |nil=>intro u hu;cases hu
 |row u ys e U _ h _ _ ih=>
  intro v hv;rcases List.mem_cons.1 hv with rfl|hv
  ·rcases h.2 with⟨h,_⟩|⟨_,_,_,_,h,_⟩<;>rw[h]<;>rfl
  ·exact ih v hv
 |leaf _ h _ ih=>
  intro v hv;rcases List.mem_cons.1 hv with rfl|hv
  ·exact h.hN
  ·exact ih v hv
theorem UM{o s:Nat}{t:aE}{xs:List (den t)}(h:n5 st o s=some ⟨t,xs⟩):rowOf st o s=some ⟨t,xs⟩\/k_ st o s=some ⟨t,xs⟩:=by
 unfold n5 at h;split at h
 ·rename_i x hx;cases h;exact .inl hx
 ·exact .inr h
theorem ae.any(S:ae L J X B st tm w){o s:Nat}{t:aE}{xs:List (den t)}(h:n5 st o s=some ⟨t,xs⟩):
  (∃O,look st.sites o=some O/\O.bX=s)/\((bO (B o)=.slice none 0 0/\xs=[])\/∃b c,bO (B o)=.slice (some ⟨b,0,none⟩) xs.length c):=by
 rcases UM h with h|h
 ·obtain⟨cs,_,hc⟩:=S.row h;refine⟨by rcases jb h with h|h<;>exact⟨_,h,rfl⟩,hc.imp id fun⟨b,c,h,_⟩=>⟨b,c,h⟩⟩
 ·have hl:=sH h;obtain⟨e,v,aC,cs,h1,_,h2,_⟩:=S.sites o _ hl;refine⟨⟨_,hl,rfl⟩,?_⟩;rw[h1];show(v=_/\_)\/∃b c,v=_;rcases h2.2 with⟨hv,aQ⟩|⟨g,cap,cur,bn,hv,_⟩
  ·exact .inl ⟨hv,List.eq_nil_of_length_eq_zero aQ⟩
  ·exact .inr ⟨g,cap,hv⟩
theorem ae.K2(S:ae L J X B st tm w){o:Nat}(h:bM st.sites o):(bu (B o)).Nodup:=by
 obtain⟨O,h1,h2⟩:=h;have:=S.sites o O h1;cases O with
 |box s cells=>obtain⟨b,T,cur,g,_⟩:=this;rw[g];simp[bu,bc]
 |row s t xs=>
  obtain⟨e,cs,g,_⟩:=this;rw[(ie g).2];cases bc (B o)<;>simp
 |map s t es=>obtain⟨b,g,_⟩:=this;rw[g];simp[bu,bc]
 |deep s t xs=>obtain⟨e,v,aC,cs,g1,g2,_⟩:=this;exact g2
 |cM=>cases h2
 |dead=>cases h2
theorem ae.K1(S:ae L J X B st tm w):∀{ks:List Nat},(∀F,F∈ks->bM st.sites F)->ks.Nodup->(cf B ks).Nodup:=by
 intro ks;induction ks with
 |nil=>intro _ _;simp[cf]
 |cons k ks ih=>
  intro hl hn;obtain⟨n1,n2⟩:=List.nodup_cons.1 hn;unfold cf;rw[List.flatMap_cons];refine List.nodup_append.2 ⟨S.K2 (hl k List.mem_cons_self),ih (fun F h=>hl F (List.mem_cons_of_mem _ h)) n2,fun a a9 b hb e=>?_⟩
  subst e;obtain⟨F,bh,hb⟩:=List.mem_flatMap.1 hb;exact n1 (S.c8 k F a (hl k List.mem_cons_self) (hl F (List.mem_cons_of_mem _ bh)) a9 hb▸bh)
theorem ae.ug(S:ae L J X B st tm w){o:Nat}{bo:Site}{nv:Value}{w':World}{ks:List (Nat×Site)}{K:List Nat}(om:eH st.sites ks)(bm:∀F,F∈K <-> F∈keys ks\/F=o/\bM st.sites o)
  (hw:∀b,b<w.heap.size->(∀F,F∈K->b∉bu (B F))->w'.heap[b]? =w.heap[b]?) (hos:w'.os=w.os) (DI:w'.tape=w.tape) (t_:w'.output=w.output) (kF:w.heap.size<=w'.heap.size)
  (fx:bo.live=true) (l6:∀O,look st.sites o=some O->O.bX<bo.bX\/(O.bX=bo.bX/\bO nv=bO (B o)))
  (gg:∀b,b∈bu nv->b<w'.heap.size/\((∃F,F∈K/\b∈bu (B F))\/w.heap.size<=b))
  (e9:∀{ba:List (Nat×Site)} {aw:Nat->Value},aw o=nv->(∀{a v},b4 B st.sites w (am X B st.sites) a v->b4 aw ba w' (am X aw ba) a v)->
   ig aw ba w' (am X aw ba) o bo):
  ae L J X (fun F=>if F=o then nv else B F) {st with sites:=b2 (aR st.sites ks) o bo} tm w':=by
 have oi:=Us om;have hold:∀F,F∈K->bM st.sites F:=by
  intro F h;rcases(bm F).1 h with h|⟨rfl,h⟩
  ·rcases oi F with⟨aa,_⟩|⟨_,O,h1,h2,_⟩
   ·exact absurd h aa
   ·exact⟨O,h1,h2⟩
  ·exact h
 have ci:∀F,bM (b2 (aR st.sites ks) o bo) F->F=o\/(F≠o/\F∉K/\bM st.sites F):=by
  rintro F ⟨O,h1,h2⟩;rw[ce] at h1;by_cases e:o=F
  ·exact .inl e.symm
  ·simp only[e,if_false] at h1;rcases oi F with⟨ay,ao⟩|⟨ay,s,ao,be,b9⟩
   ·exact .inr ⟨fun h=>e h.symm,fun h=>((bm F).1 h).elim ay fun h=>e h.1.symm,O,ao▸h1,h2⟩
   ·rw[b9] at h1;cases h1;cases h2
 have tM:∀F b,F∉K->bM st.sites F->b∈bu (B F)->w'.heap[b]? =w.heap[b]? :=fun F b h1 h2 Z=>hw b (S.dP h2 Z) fun aN uA hb=>h1 (S.c8 F aN b h2 (hold aN uA) Z hb▸uA)
 refine S.n7 (fun F O bh=>?_) (fun b h hb=>hw b hb fun F bh aa=>h (.inr ⟨F,hold F bh,aa⟩)) (fun b h hb aa=>?_) (fun go F O bh=>?_) (fun F aN b h1 h2 g1 g2=>?_) (fun F b h1 g1=>?_) (fun F b h1 g1=>?_) ?_ kF
 ·rw[ce];by_cases e:o=F
  ·subst e;refine⟨bo,by simp,?_,fun h=>?_⟩
   ·rcases l6 O bh with h|⟨h,_⟩<;>omega
   ·rcases l6 O bh with aa|⟨_,aa⟩
    ·omega
    ·simpa using aa
  ·have bY:¬F=o:=fun h=>e h.symm
   rcases oi F with⟨ay,ao⟩|⟨ay,s,ao,be,b9⟩
   ·exact⟨O,by simp[e,ao,bh],Nat.le_refl _,fun _=>by simp[bY]⟩
   ·rw[bh] at ao;cases ao;exact⟨.dead O.bX,by simp[e,b9],Nat.le_refl _,fun _=>by simp[bY]⟩
 ·rcases aa with aa|⟨F,h1,h2⟩
  ·exact h (.inl aa)
  ·rcases ci F h1 with rfl|⟨n1,n2,cW⟩
   ·simp only[if_true] at h2;rcases(gg b h2).2 with⟨aN,Z,aH⟩|Z
    ·exact h (.inr ⟨aN,hold aN Z,aH⟩)
    ·omega
   ·simp only[n1,if_false] at h2;exact h (.inr ⟨F,cW,h2⟩)
 ·rw[ce] at bh;by_cases e:o=F
  ·subst e;simp only[if_true,Option.some.injEq] at bh;subst bh;exact .inr (e9 (by simp) go)
  ·have bY:¬F=o:=fun h=>e h.symm
   simp only[e,if_false] at bh;rcases oi F with⟨ay,ao⟩|⟨ay,s,ao,be,b9⟩
   ·exact .inl ⟨ao▸bh,by simp[bY],fun hl b hb=>tM F b (fun h=>((bm F).1 h).elim ay fun h=>e h.1.symm) ⟨O,ao▸bh,hl⟩ hb⟩
   ·rw[b9] at bh;cases bh;exact .inr trivial
 ·have key:∀F b,F∉K->bM st.sites F->b∈bu (B F)->b∉bu nv:=by
   intro F b n2 cW hb hn;rcases(gg b hn).2 with⟨aN,Z,aH⟩|Z
   ·exact n2 (S.c8 F aN b cW (hold aN Z) hb aH▸Z)
   ·have:=S.dP cW hb;omega
  rcases ci F h1 with rfl|⟨n1,m1,cW⟩<;>rcases ci aN h2 with rfl|⟨n2,m2,fV⟩
  ·rfl
  ·simp only[if_true] at g1;simp only[n2,if_false] at g2;exact absurd g1 (key aN b m2 fV g2)
  ·simp only[if_true] at g2;simp only[n1,if_false] at g1;exact absurd g2 (key F b m1 cW g1)
  ·simp only[n1,if_false] at g1;simp only[n2,if_false] at g2;exact S.c8 F aN b cW fV g1 g2
 ·rcases ci F h1 with rfl|⟨n1,_,cW⟩
  ·simp only[if_true] at g1;rcases(gg b g1).2 with⟨aN,Z,aH⟩|Z
   ·exact S.b1 aN b (hold aN Z) aH
   ·exact⟨fun hx=>by have:=S.old b hx;have:=S.frame.size;omega,.inr (Nat.le_trans S.frame.size Z)⟩
  ·simp only[n1,if_false] at g1;exact S.b1 F b cW g1
 ·rcases ci F h1 with rfl|⟨n1,_,cW⟩
  ·simp only[if_true] at g1;exact(gg b g1).1
  ·simp only[n1,if_false] at g1;exact Nat.lt_of_lt_of_le (S.dP cW g1) kF
 ·have aV:=S.frame;refine⟨hos.trans aV.os,DI.trans aV.tape,t_.trans aV.output,Nat.le_trans aV.size kF,fun b h1 h2=>?_⟩
  rw[hw b (Nat.lt_of_lt_of_le h1 aV.size) (fun F bh hb=>?_)]
  ·exact aV.block b h1 h2
  ·rcases(S.b1 F b (hold F bh) hb).2 with h|h
   ·exact h2 h
   ·omega
theorem UA{t:aE}(h:t.gM=false)(x:den t):∀d,d∈enc t x->d.plain=true:=by
 cases t<;>first|(cases h;done)|(intro d Y;simp only[enc,List.mem_cons,List.not_mem_nil,or_false] at Y;(rcases Y with rfl|rfl|rfl|rfl|rfl);all_goals rfl)|skip
 all_goals(intro d Y;simp only[enc,List.mem_cons,List.not_mem_nil,or_false] at Y)
 all_goals first|(subst Y;rfl)|(rcases Y with rfl|rfl<;>rfl)|(rcases Y with rfl|rfl|rfl<;>rfl)|(rcases Y with rfl|rfl|rfl|rfl<;>rfl)
theorem AD{t:aE}(h:t.gM=false){xs:List (den t)}:∀d,d∈flat t xs->d.plain=true:=by
 intro d Y;simp only[flat,List.mem_flatMap] at Y;obtain⟨x,_,hx⟩:=Y;exact UA h x d hx
theorem Bl(S:ae L J X B st tm w):∀{U:List aq} {ds:List aK} {us:List (Nat×Site)} {vs:List Value},sinks st U=some (ds,us)->ca B st.sites w (am X B st.sites) U vs->
  eH st.sites us/\∃aC,Deep w (am X B st.sites) ds vs aC/\(aC.flatMap fun v=>(bc v).toList)=cf B (keys us):=by
 intro U;induction U with
 |nil=>intro ds us vs h hl;simp only[sinks] at h;cases h;rw[hl.kx];exact⟨.nil,[],.nil,rfl⟩
 |cons l U ih=>
  intro ds us vs h hl;simp only[sinks] at h;split at h
  ·rename_i d u1 fU u2 h1 h2;cases h;obtain⟨v,cg,rfl,hv,hvs⟩:=hl.inv;obtain⟨g2,aC,ao,be⟩:=ih h2 hvs;unfold sink at h1;split at h1
   ·cases h1;exact⟨g2,aC,.leaf rfl hv ao,be⟩
   ·cases h1;exact⟨g2,aC,.leaf rfl hv ao,be⟩
   ·cases h1;exact⟨g2,aC,.leaf rfl hv ao,be⟩
   ·rename_i t;cases h1;have hv:v=.slice none 0 0:=hv;subst hv;exact⟨g2,_::aC,.row t [] 0 [] (fun d h=>by simp[flat] at h) (sN w _ _ _) ⟨rfl,fun j h=>by simp[flat] at h⟩ ao,by rw[List.flatMap_cons,be];rfl⟩
   ·rename_i o s;split at h1
    ·rename_i aj t xs fb;cases hb:(aj.beq s&&!t.gM) with
     |false=>rw[hb] at h1;cases h1
     |true=>
      rw[hb] at h1;simp only[Bool.and_eq_true,Bool.not_eq_true'] at hb;have:=Nat.eq_of_beq_eq_true hb.1;subst this;cases h1;have aL:look st.sites o=some (.row aj t xs):=fb;obtain⟨e,cs,r1,r2⟩:=S.sites o _ aL;have ir:v=B o:=(Ref.at hv.2 aL rfl).trans (ie r1).1;subst ir;refine⟨fun F aj hm=>?_,B o::aC,.row t xs e cs (AD hb.2) r1 ⟨by rw[dO];exact r1.1,r2⟩ ao,?_⟩
      ·rcases List.mem_cons.1 hm with hm|hm
       ·cases hm;exact⟨_,aL,rfl,rfl⟩
       ·exact g2 F aj hm
      ·rw[List.flatMap_cons,be,<-(ie r1).2];rfl
    ·cases h1
   ·cases h1
  ·cases h
theorem Hf{U:List aq}:∀{ds:List aK} {us:List (Nat×Site)},sinks st U=some (ds,us)->fY U=true:=by
 induction U with
 |nil=>intro ds us _;rfl
 |cons l U ih=>
  intro ds us h;simp only[sinks] at h;split at h
  ·rename_i d u1 fU u2 h1 h2;simp only[fY,Bool.and_eq_true];refine⟨?_,ih h2⟩;unfold sink at h1;split at h1<;>first|rfl|cases h1
  ·cases h
theorem Vm(S:ae L J X B st tm w):∀{as:List bg} {t:aE} {xs:List (den t)} {us:List (Nat×Site)} {ws:List Value},l3 t st as=some (xs,us)->ws.length=as.length->
  (∀j (h:j<as.length) (aa:j<ws.length),fP B st.sites w (am X B st.sites) (as[j]) (ws[j]))->
  xs.length=as.length/\eH st.sites us/\(∃aC,Deep w (am X B st.sites) (flat t xs) (ws.flatMap fun v=>v.cells.toList) aC/\(aC.flatMap fun v=>(bc v).toList)=cf B (keys us))/\∀v,v∈ws->v.cells.size=au t:=by
 intro as;induction as with
 |nil=>
  intro t xs us ws h hl _;simp only[l3] at h;cases h;have:ws=[]:=List.eq_nil_of_length_eq_zero hl;subst this;exact⟨rfl,.nil,⟨[],.nil,rfl⟩,fun v hv=>by simp at hv⟩
 |cons a as ih=>
  intro t xs us ws h hl e9;match ws,hl with
  |v::ws,hl=>
  simp only[l3] at h;split at h
  ·rename_i ds u1 lo;split at h
   ·rename_i x g8 u2 dS ma;cases h;have bU:=e9 0 (by simp) (by simp)
    simp only[List.getElem_cons_zero] at bU;have hZ:=bU.cells (Hf lo);obtain⟨g1,g9,d1,aS⟩:=Bl S lo hZ;obtain⟨g2,g3,⟨zq,d2,aG⟩,eA⟩:=ih ma (by simpa using hl) (fun j h1 h2=>e9 (j+1) (by simpa using h1) (by simpa using h2))
    have m':=mS _ _ _ dS;refine⟨by simp[g2],g1.append g3,⟨g9++zq,?_,?_⟩,fun u hu=>?_⟩
    ·simp only[flat,List.flatMap_cons];rw[m'];exact d1.cw d2
    ·rw[List.flatMap_append,aS,aG,fX,jH]
    ·rcases List.mem_cons.1 hu with rfl|hu
     ·have:u.cells.toList.length=ds.length:=d1.len;rw[<-m',e3] at this;simpa using this
     ·exact eA u hu
   ·cases h
  ·cases h
theorem HJ{az:Type}{us:List (Nat×az)}{o:Nat}(h:(look us o).isNone=true):o∉keys us:=by
 induction us with
 |nil=>simp[keys]
 |cons p us ih=>
  obtain⟨n,s⟩:=p;simp only[look] at h;cases hb:n.beq o with
  |true=>rw[hb] at h;cases h
  |false=>
   rw[hb] at h;intro hm;rcases List.mem_cons.1 hm with rfl|hm
   ·rw[Nat.beq_refl] at hb;cases hb
   ·exact ih h hm
theorem wg(t:aE){xs:List (den t)}{k:Nat}(ag:k<xs.length)(cP:den t):flat t (xs.set k cP)=flat t (xs.take k)++(enc t cP++flat t (xs.drop (k+1))):=by
 rw[List.set_eq_take_append_cons_drop,if_pos ag,nD];rfl
theorem BI(t:aE){xs:List (den t)}{k:Nat}{x:den t}(hx:xs[k]? =some x):flat t xs=flat t (xs.take k)++(enc t x++flat t (xs.drop (k+1))):=by
 have ag:k<xs.length:=(List.getElem?_eq_some_iff.1 hx).1;have:=wg t ag x;rw[<-this];congr 1
 have j2:xs[k]=x:=(List.getElem?_eq_some_iff.1 hx).2;rw[<-j2,List.set_getElem_self]
theorem ae.Vf(S:ae L J X B st tm w){o s k:Nat}{t:aE}{xs:List (den t)}{x cP:den t}{v:Value}{us:List (Nat×Site)}{vs aC:List Value}(hb:look st.sites o=some (.deep s t xs))
  (hv:c_ B st.sites w (am X B st.sites) (.ec o s t k 0) v) (hx:xs[k]? =some x) (dD:eH st.sites us) (hn:(keys us).Nodup) (a5:o∉keys us)
  (Y:Deep w (am X B st.sites) (enc t cP) vs aC) (gj:(aC.flatMap fun v=>(bc v).toList)=cf B (keys us)):
  ∃b T cur bn nv,v=.pointer (some ⟨b,k*au t,none⟩)/\w.heap[b]? =some (.cells (List.toArray cur) T bn)/\kO t.e7 T cur.toArray bn/\k*au t+vs.length<=cur.length/\
   ae L J X (fun F=>if F=o then nv else B F) {st with sites:=b2 (aR st.sites us) o (.deep s t (xs.set k cP))} tm (w.setRow b (bf cur (k*au t) vs).toArray):=by
 obtain⟨b,ng,js⟩:=hv;obtain⟨n,c,bI⟩:=Ref.at js hb rfl;obtain⟨e,v0,hV,cs,aQ,d_,cY,kG⟩:=S.sites o _ hb;have ag:k<xs.length:=(List.getElem?_eq_some_iff.1 hx).1;rw[aQ] at bI;replace bI:v0=.slice (some ⟨b,0,none⟩) n c:=bI
 obtain⟨px,h⟩:=cY;rcases h with⟨eY,_⟩|⟨g,cap,cur,bn,gk,lG,hg,hnc,h0,hcs,jt⟩
 ·rw[bI] at eY;cases eY
 ·rw[bI] at gk;cases gk;have lF:(k+1)*au t<=xs.length*au t:=Nat.mul_le_mul_right _ ag;have hF:xs.length*au t<=c*au t:=Nat.mul_le_mul_right _ hnc;rw[Nat.add_mul,Nat.one_mul] at lF;have j3:vs.length=au t:=by rw[Y.len,e3]
  have g6:cur.toList.length=c*au t:=by simpa using hcs
  have il:k*au t+vs.length<=cur.toList.length:=by omega
  rw[BI t hx] at kG;obtain⟨c1,QD,n1,gT,rfl,rfl,d1,d23⟩:=kG.inv;obtain⟨c2,c3,n2,jC,rfl,rfl,d2,d3⟩:=d23.inv;have cW:c1.length=k*au t:=by rw[d1.len,dO,List.length_take,Nat.min_eq_left (Nat.le_of_lt ag)]
  have fV:c2.length=au t:=by rw[d2.len,e3]
  have fx:bM st.sites o:=⟨_,hb,rfl⟩;have rL:b∈bu (B o):=by rw[aQ];exact iA.2 (.inl (by rw[bI];rfl))
  have L_:bc v0=some b:=by rw[bI];rfl
  have old:∀F,F∈keys us->bM st.sites F:=fun F h=>by
   obtain⟨aj,aa⟩:=nI h;obtain⟨O,ay,ao,_⟩:=dD F aj aa;exact⟨O,ay,ao⟩
  have ajk:∀y,y∈n1++(n2++jC)->∀a3,bc y=some a3->a3∈bu (B o):=fun y ai a3 b3=>by rw[aQ];exact iA.2 (.inr ⟨y,ai,b3⟩)
  have zv:∀y,y∈aC->∀a3,bc y=some a3->∃F,F∈keys us/\a3∈bu (B F):=fun y ai a3 b3=>by
   have:a3∈aC.flatMap fun v=>(bc v).toList:=List.mem_flatMap.2 ⟨y,ai,by rw[b3];simp⟩
   rw[gj] at this;exact List.mem_flatMap.1 this
  have yE:bu (.tuple (v0::(n1++(aC++jC))).toArray)=b::((n1.flatMap fun v=>(bc v).toList)++(cf B (keys us)++jC.flatMap fun v=>(bc v).toList)):=by
   simp[bu,L_,gj]
  have rl:bu (B o)=b::((n1.flatMap fun v=>(bc v).toList)++((n2.flatMap fun v=>(bc v).toList)++jC.flatMap fun v=>(bc v).toList)):=by
   rw[aQ];simp[bu,L_]
  refine⟨b,e,cur.toList,bn,.tuple (v0::(n1++(aC++jC))).toArray,by simpa using ng,by simpa using hg,by simpa using lG,il,?_⟩
  refine S.ug (K:=o::keys us) dD (fun F=>?_) (fun a3 b3 hne=>setRow_other w b a3 _ ?_) rfl rfl rfl (by rw[setRow_size];exact Nat.le_refl _) rfl (fun O M=>?_) (fun a3 b3=>?_) (fun {ba aw} dy go=>?_)
  ·constructor
   ·intro h;rcases List.mem_cons.1 h with rfl|h
    ·exact .inr ⟨rfl,fx⟩
    ·exact .inl h
   ·rintro(h|⟨rfl,_⟩)
    ·exact List.mem_cons_of_mem _ h
    ·exact List.mem_cons_self
  ·rintro rfl;exact hne o List.mem_cons_self rL
  ·rw[hb] at M;cases M;exact .inr ⟨rfl,by rw[aQ];rfl⟩
  ·rw[setRow_size];rw[yE] at b3;have:(∃F,F∈o::keys us/\a3∈bu (B F)):=by
    simp only[List.mem_cons,List.mem_append] at b3;rcases b3 with rfl|b3|b3|b3
    ·exact⟨o,List.mem_cons_self,rL⟩
    ·exact⟨o,List.mem_cons_self,by rw[rl];simp only[List.mem_cons,List.mem_append];exact .inr (.inl b3)⟩
    ·obtain⟨F,h1,h2⟩:=List.mem_flatMap.1 b3;exact⟨F,List.mem_cons_of_mem _ h1,h2⟩
    ·exact⟨o,List.mem_cons_self,by rw[rl];simp only[List.mem_cons,List.mem_append];exact .inr (.inr (.inr b3))⟩
   refine⟨?_,.inl this⟩;obtain⟨F,h1,h2⟩:=this;rcases List.mem_cons.1 h1 with rfl|h1
   ·exact S.dP fx h2
   ·exact S.dP (old F h1) h2
  ·have j8:=setRow_heap w b cur (bf cur.toList (k*au t) vs).toArray e bn hg;have hb1:b∉(n1.flatMap fun v=>(bc v).toList)++((n2.flatMap fun v=>(bc v).toList)++jC.flatMap fun v=>(bc v).toList):=by
    have:=d_;rw[rl] at this;exact(List.nodup_cons.1 this).1
   have jk:∀y,y∈n1++(aC++jC)->∀a3,bc y=some a3->(w.setRow b (bf cur.toList (k*au t) vs).toArray).heap[a3]? =w.heap[a3]? :=by
    intro y ai a3 b3;refine setRow_other w b a3 _ ?_
    rintro rfl;simp only[List.mem_append] at ai;rcases ai with ai|ai|ai
    ·exact hb1 (List.mem_append.2 (.inl (List.mem_flatMap.2 ⟨y,ai,by rw[b3];simp⟩)))
    ·obtain⟨F,h1,h2⟩:=zv y ai _ b3;exact a5 (S.c8 o F _ fx (old F h1) rL h2▸h1)
    ·exact hb1 (List.mem_append.2 (.inr (List.mem_append.2 (.inr (List.mem_flatMap.2 ⟨y,ai,by rw[b3];simp⟩)))))
   refine⟨e,v0,n1++(aC++jC),c1++(vs++c3),dy,?_,⟨?_,.inr ⟨b,c,_,bn,?_,?_,j8,?_,h0,?_,?_⟩⟩,?_⟩
   ·rw[dy,yE];have hu:=S.K1 old hn;rw[rl] at d_;obtain⟨m1,m2⟩:=List.nodup_cons.1 d_;obtain⟨m3,m4,m5⟩:=List.nodup_append.1 m2;obtain⟨RD,vo,akd⟩:=List.nodup_append.1 m4;have apart:∀a,a∈cf B (keys us)->a∉bu (B o):=by
     intro a a9 sh;obtain⟨F,h1,h2⟩:=List.mem_flatMap.1 a9;exact a5 (S.c8 o F a fx (old F h1) sh h2▸h1)
    refine List.nodup_cons.2 ⟨fun h=>?_,List.nodup_append.2 ⟨m3,List.nodup_append.2 ⟨hu,vo,fun a a9 a3 b3 e=>?_⟩,fun a a9 a3 b3 e=>?_⟩⟩
    ·simp only[List.mem_append] at h;rcases h with h|h|h
     ·exact m1 (List.mem_append.2 (.inl h))
     ·exact apart _ h rL
     ·exact m1 (List.mem_append.2 (.inr (List.mem_append.2 (.inr h))))
    ·subst e;exact apart a a9 (by rw[rl];simp only[List.mem_cons,List.mem_append];exact .inr (.inr (.inr b3)))
    ·subst e;rcases List.mem_append.1 b3 with b3|b3
     ·exact apart a b3 (by rw[rl];simp only[List.mem_cons,List.mem_append];exact .inr (.inl a9))
     ·exact m5 a a9 a (List.mem_append.2 (.inr b3)) rfl
   ·rw[List.length_set];simp only[List.length_append] at px ⊢;omega
   ·rw[bI,List.length_set]
   ·refine⟨lG.1,?_⟩;rcases lG.2 with h|⟨h,aa⟩
    ·exact .inl h
    ·refine .inr ⟨h,?_⟩;rw[List.size_toArray,lU _ _ _ il];simpa using aa
   ·rw[List.length_set];exact hnc
   ·rw[List.size_toArray,lU _ _ _ il];exact g6
   ·rw[List.length_set,List.toList_toArray,Am _ _ _ _ (by omega) (by rw[g6];omega),jt]
    unfold bf;rw[<-cW,List.take_left' rfl,j3,<-fV,<-List.append_assoc,<-List.append_assoc,<-List.length_append,List.drop_left' rfl]
   ·rw[wg t ag];have iT:∀{d v},a8 w (am X B st.sites) d v->a8 _ (am X aw ba) d v:=jf go;exact(d1.map iT fun y ai=>jk y (List.mem_append.2 (.inl ai))).cw ((Y.map iT fun y ai=>jk y (List.mem_append.2 (.inr (List.mem_append.2 (.inl ai))))).cw (d3.map iT fun y ai=>jk y (List.mem_append.2 (.inr (List.mem_append.2 (.inr ai))))))
theorem V8(t:aE)(x cP:den t):(enc t x).map aK.plain=(enc t cP).map aK.plain:=by cases t<;>rfl
theorem HP{d:aK}(h:d.hA=true):d.plain=true:=by cases d<;>first|rfl|cases h
theorem Ll{t:aE}{x:den t}{off:Nat}(h:off<au t):∃d,(enc t x)[off]? =some d/\enc t x=(enc t x).take off++d::(enc t x).drop (off+1):=by
 have hl:off<(enc t x).length:=by rw[e3];exact h
 refine⟨(enc t x)[off],List.getElem?_eq_getElem hl,?_⟩;rw[List.getElem_cons_drop,List.take_append_drop]
theorem H4{az:Type}{l:List az}{off:Nat}{d:az}:bf l off [d]=l.take off++d::l.drop (off+1):=by simp[bf]
theorem SM{az:Type}{a b c:List az}{y z:az}{p:Nat}(h:p=a.length+b.length):bf (a++((b++y::c))) p [z]=a++(b++z::c):=by
 subst h;unfold bf;rw[<-List.append_assoc,<-List.length_append,List.take_left' rfl];have:(a++b++y::c).drop ((a++b).length+[z].length)=c:=by
  rw[List.drop_append,List.drop_eq_nil_of_le (by simp)]
  simp
 rw[this];simp
theorem ae.T1(S:ae L J X B st tm w){o s k off:Nat}{t:aE}{xs:List (den t)}{x cP:den t}{v u:Value}{d:aK}(hb:look st.sites o=some (.deep s t xs))
  (hv:c_ B st.sites w (am X B st.sites) (.ec o s t k off) v) (hx:xs[k]? =some x) (Y:dec t (bf (enc t x) off [d])=some cP) (an:d.hA=true) (ar:off<au t) (hu:a8 w (am X B st.sites) d u):
  ∃b T cur bn,v=.pointer (some ⟨b,k*au t+off,none⟩)/\w.heap[b]? =some (.cells (List.toArray cur) T bn)/\kO t.e7 T cur.toArray bn/\k*au t+off+1<=cur.length/\
   ae L J X B {st with sites:=b2 st.sites o (.deep s t (xs.set k cP))} tm (w.setRow b (bf cur (k*au t+off) [u]).toArray):=by
 obtain⟨b,ng,js⟩:=hv;obtain⟨n,c,bI⟩:=Ref.at js hb rfl;obtain⟨e,v0,hV,cs,aQ,d_,cY,kG⟩:=S.sites o _ hb;have ag:k<xs.length:=(List.getElem?_eq_some_iff.1 hx).1;rw[aQ] at bI;replace bI:v0=.slice (some ⟨b,0,none⟩) n c:=bI
 obtain⟨px,h⟩:=cY;rcases h with⟨eY,_⟩|⟨g,cap,cur,bn,gk,lG,hg,hnc,h0,hcs,jt⟩
 ·rw[bI] at eY;cases eY
 ·rw[bI] at gk;cases gk;have lF:(k+1)*au t<=xs.length*au t:=Nat.mul_le_mul_right _ ag;have hF:xs.length*au t<=c*au t:=Nat.mul_le_mul_right _ hnc;rw[Nat.add_mul,Nat.one_mul] at lF;have g6:cur.toList.length=c*au t:=by simpa using hcs
  have il:k*au t+off+[u].length<=cur.toList.length:=by simp only[List.length_singleton];omega
  rw[BI t hx] at kG;obtain⟨c1,QD,n1,gT,rfl,rfl,d1,d23⟩:=kG.inv;obtain⟨c2,c3,n2,jC,rfl,rfl,d2,d3⟩:=d23.inv;have cW:c1.length=k*au t:=by rw[d1.len,dO,List.length_take,Nat.min_eq_left (Nat.le_of_lt ag)]
  have fV:c2.length=au t:=by rw[d2.len,e3]
  obtain⟨d0,zO,m'⟩:=Ll (x:=x) ar;have yD:enc t cP=(enc t x).take off++d::(enc t x).drop (off+1):=by rw[mS _ _ _ Y,H4]
  have nj:d0.plain=true:=by
   have h1:=congrArg (fun l=>l[off]?) (V8 t x cP)
   simp only[List.getElem?_map,zO,Option.map_some] at h1;have h2:(enc t cP)[off]? =some d:=by
    rw[yD,List.getElem?_append_right (by simp[e3];omega)]
    simp[e3,Nat.min_eq_left (Nat.le_of_lt ar)]
   rw[h2] at h1;simp only[Option.map_some,Option.some.injEq] at h1;rw[h1];exact HP an
  rw[m'] at d2;obtain⟨vy,agr,z6,uu,rfl,rfl,sy,agp⟩:=d2.inv;have ake:vy.length=off:=by rw[sy.len,List.length_take,e3];omega
  have fx:bM st.sites o:=⟨_,hb,rfl⟩;have rL:b∈bu (B o):=by rw[aQ];exact iA.2 (.inl (by rw[bI];rfl))
  obtain⟨c0,gX,rfl,agn⟩:∃c0 gX,agr=c0::gX/\Deep w (am X B st.sites) ((enc t x).drop (off+1)) gX uu:=by
   cases agp with
   |row u ys e U nk h hr k'=>cases nj
   |leaf nk h k'=>exact⟨_,_,rfl,k'⟩
  have DJ:(fun F=>if F=o then B o else B F)=B:=by funext F;by_cases e:F=o<;>simp[e]
  have G:=S.ug (o:=o) (bo:=.deep s t (xs.set k cP)) (nv:=B o) (w':=w.setRow b (bf cur.toList (k*au t+off) [u]).toArray) (ks:=[]) (K:=[o]) .nil (fun F=>by simp[keys];intro e;subst e;exact fx)
   (fun a3 b3 hne=>setRow_other w b a3 _ (by rintro rfl;exact hne o (by simp) rL)) rfl rfl rfl (by rw[setRow_size];exact Nat.le_refl _) rfl (fun O M=>by rw[hb] at M;cases M;exact .inr ⟨rfl,rfl⟩)
   (fun a3 b3=>⟨by rw[setRow_size];exact S.dP fx b3,.inl ⟨o,by simp,b3⟩⟩) (fun {ba aw} dy go=>?_)
  ·rw[DJ] at G;exact⟨b,e,cur.toList,bn,ng,by simpa using hg,by simpa using lG,by simpa using il,G⟩
  ·have j8:=setRow_heap w b cur (bf cur.toList (k*au t+off) [u]).toArray e bn hg;have hb1:∀y,y∈n1++(z6++uu++jC)->∀a3,bc y=some a3->a3≠b:=by
    rintro y ai a3 b3 rfl;have:=d_;rw[aQ] at this;simp only[bu,List.flatMap_cons] at this;rw[bI] at this;exact(List.nodup_append.1 this).2.2 a3 (by simp[bc]) a3 (List.mem_flatMap.2 ⟨y,ai,by rw[b3];simp⟩) rfl
   have jk:∀y,y∈n1++(z6++uu++jC)->∀a3,bc y=some a3->(w.setRow b (bf cur.toList (k*au t+off) [u]).toArray).heap[a3]? =w.heap[a3]? :=fun y ai a3 b3=>setRow_other w b a3 _ (hb1 y ai a3 b3)
   have iT:∀{d v},a8 w (am X B st.sites) d v->a8 _ (am X aw ba) d v:=jf go;refine⟨e,v0,n1++(z6++uu++jC),c1++((vy++u::gX)++c3),dy.trans aQ,by rw[dy];exact d_,⟨?_,.inr ⟨b,c,_,bn,?_,?_,j8,?_,h0,?_,?_⟩⟩,?_⟩
   ·rw[List.length_set];simp only[List.length_append,List.length_cons] at px ⊢;omega
   ·rw[bI,List.length_set]
   ·refine⟨lG.1,?_⟩;rcases lG.2 with h|⟨h,aa⟩
    ·exact .inl h
    ·refine .inr ⟨h,?_⟩;rw[List.size_toArray,lU _ _ _ il];simpa using aa
   ·rw[List.length_set];exact hnc
   ·rw[List.size_toArray,lU _ _ _ il];exact g6
   ·rw[List.length_set,List.toList_toArray,Am _ _ _ _ (by simp only[List.length_singleton];omega) (by rw[g6];omega),jt]
    simp only[List.append_assoc,List.cons_append];exact SM (by omega)
   ·rw[wg t ag,yD];exact(d1.map iT fun y ai=>jk y (List.mem_append.2 (.inl ai))).cw ((((sy.map iT fun y ai=>jk y (by simp[ai])).cw (.leaf (HP an) (iT hu) (agn.map iT fun y ai=>jk y (by simp[ai])))):Deep _ _ _ _ (z6++uu)).cw
     (d3.map iT fun y ai=>jk y (by simp[ai])))
theorem ae.JF(S:ae L J X B st tm w){o:Nat}{t:aE}{xs:List (den t)}{us:List (Nat×Site)}{cs aC rest:List Value}{T:TypeId}{cap:Nat}(dD:eH st.sites us)(hn:(keys us).Nodup)(a5:o∉keys us)
  (Y:Deep w (am X B st.sites) (flat t xs) cs aC) (gj:(aC.flatMap fun v=>(bc v).toList)=cf B (keys us)) (hcap:cs.length+rest.length=cap*au t) (hm:cap<=maxLen) (ej:t.e7=true->T=kX):
  ae L J X (fun F=>if F=o then .tuple (.slice (some ⟨w.heap.size,0,none⟩) xs.length cap::aC).toArray else B F) {st with sites:=b2 (aR st.sites us) o (.deep (aT st o) t xs)} tm (w.alloc (.cells (cs++rest).toArray T (0,0))):=by
 have hcl:cs.length=xs.length*au t:=by rw[Y.len,dO]
 have cX:xs.length<=cap:=by
  have:xs.length*au t<=cap*au t:=by omega
  exact Nat.le_of_mul_le_mul_right this (iC t)
 have old:∀F,F∈keys us->bM st.sites F:=fun F h=>by
  obtain⟨aj,aa⟩:=nI h;obtain⟨O,ay,ao,_⟩:=dD F aj aa;exact⟨O,ay,ao⟩
 obtain⟨K,bm⟩:∃K:List Nat,∀F,F∈K <-> F∈keys us\/F=o/\bM st.sites o:=by
  by_cases h:bM st.sites o
  ·exact⟨o::keys us,fun F=>by simp[h,or_comm]⟩
  ·exact⟨keys us,fun F=>by simp[h]⟩
 have zv:∀y,y∈aC->∀a3,bc y=some a3->∃F,F∈keys us/\a3∈bu (B F):=fun y ai a3 b3=>by
  have:a3∈aC.flatMap fun v=>(bc v).toList:=List.mem_flatMap.2 ⟨y,ai,by rw[b3];simp⟩
  rw[gj] at this;exact List.mem_flatMap.1 this
 have yE:bu (.tuple (.slice (some ⟨w.heap.size,0,none⟩) xs.length cap::aC).toArray)=w.heap.size::cf B (keys us):=by
  simp only[bu,List.flatMap_cons,gj];rfl
 refine S.ug (K:=K) dD bm (fun b hb _=>RowKit.Below.heap_alloc w _ b hb) rfl rfl rfl (by simp) rfl (fun O M=>.inl (ja M)) (fun b hb=>?_) (fun {ba aw} dy go=>?_)
 ·rcases iA.1 hb with hb|⟨n,eY,hb⟩
  ·have hb:w.heap.size=b:=Option.some.inj hb;subst hb;exact⟨by simp,.inr (Nat.le_refl _)⟩
  ·obtain⟨F,h1,h2⟩:=zv n eY b hb;have:=S.dP (old F h1) h2;exact⟨by simp;omega,.inl ⟨F,(bm F).2 (.inl h1),h2⟩⟩
 ·refine⟨T,_,aC,cs,dy,?_,⟨hcl,.inr ⟨w.heap.size,cap,_,(0,0),rfl,⟨ej,.inl rfl⟩,heap_alloc_new w _,cX,hm,by simp[hcap],by rw[<-hcl];simp⟩⟩,?_⟩
  ·rw[dy,yE,List.nodup_cons];refine⟨fun h=>?_,S.K1 old hn⟩
   obtain⟨F,h1,h2⟩:=List.mem_flatMap.1 h;have:=S.dP (old F h1) h2;omega
  ·refine Y.map (fun h=>jf go h) fun n eY b hb=>?_
   obtain⟨F,h1,h2⟩:=zv n eY b hb;exact RowKit.Below.heap_alloc w _ b (S.dP (old F h1) h2)
theorem Si(S:ae L J X B st tm w){C:Ctx}(ax:CtxOk P C){T e:TypeId}{t:aE}{bytes len o:Nat}{parts:Array (Nat×Operand)}(aU:C.tt T=.slice e t bytes)(ar:D.op=.buildSlice T len parts)
  (Y:b0 st D.dst=true) (hlen:parts.toList.length=len) (ll:nP 0 parts.toList=true) (tu:len*au t<=1000) {as:List bg} {xs:List (den t)} {us:List (Nat×Site)}
  (has:mc (parts.toList.map fun p=>aO C st e p.2)=some as) (dS:l3 t st as=some (xs,us)) (hn:(keys us).Nodup) (a5:o∉keys us):
  cq P L J X st tm w D (bD (.own o (aT st o))) (us++[(o,.deep (aT st o) t xs)]):=by
 obtain⟨dR,i,z,hi,gy,nm,j7,hzs,ej⟩:=nE ax aU;obtain⟨u4,j9⟩:=Ig has;let ws:List Value:=parts.toList.map fun p=>Act.eval ⟨tm,[]⟩ p.2
 have uF:ws.length=as.length:=by rw[<-u4];simp[ws]
 have El:∀j (h:j<as.length) (aa:j<ws.length),fP B st.sites w (am X B st.sites) (as[j]) (ws[j]):=by
  intro j h1 h2;have hj:j<(parts.toList.map fun p=>aO C st e p.2).length:=by rw[u4];exact h1
  have:=j9 j hj h1;simp only[List.getElem_map] at this;have a':=cO S C e (parts.toList[j]'(by simpa using hj)).2
  rw[this] at a';have Z:b4 B st.sites w (am X B st.sites) (.av (as[j])) (ws[j]):=by simpa[ws] using a'
  exact Z
 obtain⟨uD,dD,⟨aC,u0,gj⟩,hcs⟩:=Vm S dS uF El;have o9:xs.length=len:=by rw[uD,<-uF];simpa[ws] using hlen
 have hcl:(ws.flatMap fun v=>v.cells.toList).length=len*au t:=by rw[u0.len,dO,o9]
 have hm:len<=maxLen:=by
  have:len*1<=len*au t:=Nat.mul_le_mul_left _ (iC t);unfold maxLen;omega
 have bS:=S.JF (o:=o) (rest:=[]) (T:=e) (cap:=len) dD hn a5 u0 gj (by simp[hcl]) hm ej
 rw[o9,List.append_nil] at bS;have nT:aR st.sites (us++[(o,.deep (aT st o) t xs)])=b2 (aR st.sites us) o (.deep (aT st o) t xs):=by rw[hL];rfl
 have cC:=Hh (tm:=tm) (w:=w) ax aU hlen ll tu (ws:=ws) rfl hcs hcl;refine h9 (us:=us++[(o,.deep (aT st o) t xs)]) (by rw[nT];exact bS) Y (vv:=.slice (some ⟨w.heap.size,0,none⟩) len len) ?_ ?_
 ·unfold execOp;simp only[ar,Sem.run_bind];have DK:=cC;simp only[DK,Result.andThen_ok,Sem.run_pure]
 ·rw[nT];refine⟨rfl,Ref.mk (O:=.deep (aT st o) t xs) ?_ rfl (by simp[bO])⟩
  simp only[ce];simp
theorem Sh{av:Nat->Prop}{t:aE}{z:den t}{fG aC:List Value}(h:Deep w av (enc t z) fG aC)(n:Nat):Deep w av (flat t (List.replicate n z)) ((List.replicate n fG).flatten) ((List.replicate n aC).flatten):=by
 induction n with
 |zero=>exact .nil
 |succ n ih=>
  have:=h.cw ih;simpa[List.replicate_succ,flat,List.flatMap_cons] using this
theorem St(S:ae L J X B st tm w){C:Ctx}(ax:CtxOk P C){T e:TypeId}{t:aE}{bytes o:Nat}{l c:Operand}{kn km:IntKind}{n m:Int}{z:List aq}{ds:List aK}{us:List (Nat×Site)}{dU:den t}(aU:C.tt T=.slice e t bytes)(ar:D.op=.makeSlice T l c)
  (Y:b0 st D.dst=true) (hl:aO C st 0 l=.av (.ah (.d (.int kn n)))) (hc:aO C st 0 c=.av (.ah (.d (.int km m)))) (hz:(C.tt e).zero=some z) (d':sinks st z=some (ds,us)) (dD:us.isEmpty=true) (dS:dec t ds=some dU):
  ∀r,lw bytes n m dU=some r->cq P L J X st tm w D (bD (.own o (aT st o))) [(o,.deep (aT st o) t r)]:=by
 intro r hr;obtain⟨dR,i,fh,hi,gy,nm,j7,hzs,ej⟩:=nE ax aU;obtain⟨v,hv,ly⟩:=b8.wq (w:=w) (ax.tt e) hz;have Fw:v=fh:=by
  simp[zeroValue,typeInfo,hi,j7] at hv;exact hv.symm
 subst Fw;obtain⟨h1,h2,Z⟩:=qc ly;have dD:us=[]:=List.isEmpty_iff.1 dD;subst dD;obtain⟨_,aC,Qj,uQ⟩:=Bl S d' ⟨h1,Z _ _ _ _⟩;rw[<-mS _ _ _ dS] at Qj;have uQ:(aC.flatMap fun v=>(bc v).toList)=[]:=uQ
 unfold lw at hr;split at hr
 ·rename_i hb;obtain⟨aS,aG,bL,kg⟩:=hb;cases hr;have e1:Act.eval ⟨tm,[]⟩ l=.int kn n:=by
   have:=cO S C 0 l;rw[hl] at this;have this:a8 _ _ (.int kn n) _:=this;generalize Act.eval ⟨tm,[]⟩ l=u at this;cases this;rfl
  have e2:Act.eval ⟨tm,[]⟩ c=.int km m:=by
   have:=cO S C 0 c;rw[hc] at this;have this:a8 _ _ (.int km m) _:=this;generalize Act.eval ⟨tm,[]⟩ c=u at this;cases this;rfl
  have tZ:=Sh Qj n.toNat;have hlen:((List.replicate n.toNat v.cells.toList).flatten).length=n.toNat*au t:=by
   rw[tZ.len,dO,List.length_replicate]
  have ts:(List.replicate m.toNat v.cells.toList).flatten=(List.replicate n.toNat v.cells.toList).flatten++(List.replicate (m.toNat-n.toNat) v.cells.toList).flatten:=by
   rw[<-List.flatten_append,List.replicate_append_replicate];congr 2;omega
  have hcap:((List.replicate n.toNat v.cells.toList).flatten).length+((List.replicate (m.toNat-n.toNat) v.cells.toList).flatten).length=m.toNat*au t:=by
   rw[<-List.length_append,<-ts];simp[hzs]
  have t':m.toNat<=maxLen:=by omega
  have gj:(((List.replicate n.toNat aC).flatten).flatMap fun v=>(bc v).toList)=cf B (keys ([]:List (Nat×Site))):=by
   have:∀k,(((List.replicate k aC).flatten).flatMap fun v=>(bc v).toList)=[]:=fun k=>by
    induction k with
    |zero=>rfl
    |succ k ih=>rw[List.replicate_succ,List.flatten_cons,List.flatMap_append,uQ,ih];rfl
   exact this _
  have bS:=S.JF (o:=o) (T:=e) (us:=[]) .nil List.nodup_nil (by simp[keys]) tZ gj hcap t' ej
  rw[List.length_replicate,<-ts] at bS;refine h9 (us:=[(o,.deep (aT st o) t (List.replicate n.toNat dU))]) bS Y (vv:=.slice (some ⟨w.heap.size,0,none⟩) n.toNat m.toNat) ?_ ?_
  ·unfold execOp;simp only[ar,e1,e2,Sem.run_bind];have cC:=Hk (C:=C) (w:=w) (kn:=kn) (km:=km) dR hi gy nm j7 hzs aS aG bL kg;simp only[cC,Result.andThen_ok,Sem.run_pure]
  ·refine⟨rfl,Ref.mk (O:=.deep (aT st o) t (List.replicate n.toNat dU)) ?_ rfl (by simp[bO])⟩
   simp only[aR,ce];simp
 ·cases hr
theorem Src.ZI{u:Bool}{e:TypeId}{size n:Nat}{v:Value}{cs:List Value}(h:rowAt w u e size v n cs)(abO:∀x∈cs,x.oneCell'=true):Src w size v n cs:=by
 refine⟨h.1,abO,?_⟩;rcases h.2 with⟨h1,h2⟩|⟨g,cap,cur,bn,h1,_,hg,_,_,_,jt⟩
 ·exact .inl ⟨h1,h2⟩
 ·refine .inr (.inl ⟨⟨g,0,none⟩,cap,h1,fun j u hu=>?_⟩)
  rw[f_,Nat.zero_add,cell_of_row w g j cur e bn hg];rw[<-jt,List.getElem?_take] at hu;split at hu
  ·simpa using hu
  ·cases hu
theorem Kf{v:Value}{b:Nat}(h:v.ownBlock=some b):bc v=some b:=by
 cases v<;>first|cases h|skip
 rename_i a n c;cases a<;>first|exact h|cases h
theorem ae.Ik(S:ae L J X B st tm w){dst bX:Nat}{t:aE}{xs ys:List (den t)}{ks:List (Nat×Site)}{v0 v':Value}{zV pL hV g9:List Value}{w':World}{bY:TypeId}(om:eH st.sites ks)
  (d0:Deep w (am X B st.sites) (flat t xs) zV hV) (d1:Deep w (am X B st.sites) (flat t ys) pL g9) (e':(bu (.tuple (v0::(hV++g9)).toArray)).Nodup) (y2:∀b,b∈bu (.tuple (v0::(hV++g9)).toArray)->∃F,F∈keys ks/\b∈bu (B F))
  (h2:rowAt w' t.e7 bY (au t) v' (xs.length+ys.length) (zV++pL)) (Z:w.grownBy w' v0.ownBlock) (aH:∀b,bc v'=some b->b<w'.heap.size/\(bc v0=some b\/w.heap.size<=b)) (l6:∀O,look st.sites dst=some O->O.bX<bX):
  ae L J X (fun F=>if F=dst then .tuple (v'::(hV++g9)).toArray else B F) {st with sites:=b2 (aR st.sites ks) dst (.deep bX t (xs++ys))} tm w':=by
 have old:∀F,F∈keys ks->bM st.sites F:=fun F h=>by
  obtain⟨aj,aa⟩:=nI h;obtain⟨O,ay,ao,_⟩:=om F aj aa;exact⟨O,ay,ao⟩
 obtain⟨K,bm⟩:∃K:List Nat,∀F,F∈K <-> F∈keys ks\/F=dst/\bM st.sites dst:=by
  by_cases h:bM st.sites dst
  ·exact⟨dst::keys ks,fun F=>by simp[h,or_comm]⟩
  ·exact⟨keys ks,fun F=>by simp[h]⟩
 have P4:∀b,bc v0=some b->b∈bu (.tuple (v0::(hV++g9)).toArray):=fun b h=>iA.2 (.inl h)
 have uz:∀n,n∈hV++g9->∀b,bc n=some b->b∈bu (.tuple (v0::(hV++g9)).toArray):=fun n hn b h=>iA.2 (.inr ⟨n,hn,h⟩)
 have lt:∀b,b∈bu (.tuple (v0::(hV++g9)).toArray)->b<w.heap.size:=fun b hb=>by
  obtain⟨F,ay,ao⟩:=y2 b hb;exact S.dP (old F ay) ao
 have z_:bu (.tuple (v0::(hV++g9)).toArray)=(bc v0).toList++(hV++g9).flatMap fun v=>(bc v).toList:=by simp only[bu,List.flatMap_cons]
 have aif:bu (.tuple (v'::(hV++g9)).toArray)=(bc v').toList++(hV++g9).flatMap fun v=>(bc v).toList:=by simp only[bu,List.flatMap_cons]
 rw[z_] at e';obtain⟨a1,a2,jE⟩:=List.nodup_append.1 e';have jk:∀n,n∈hV++g9->∀b,bc n=some b->w'.heap[b]? =w.heap[b]? :=fun n hn b hb=>Z.block b (lt b (uz n hn b hb)) fun e=>
  jE b (by rw[Kf e.symm];simp) b (List.mem_flatMap.2 ⟨n,hn,by rw[hb];simp⟩) rfl
 refine S.ug (K:=K) om bm (fun b hb hne=>Z.block b hb fun e=>?_) Z.os Z.tape Z.output Z.size rfl (fun O M=>.inl (l6 O M)) (fun b hb=>?_) (fun {ba aw} dy go=>?_)
 ·obtain⟨F,ay,ao⟩:=y2 b (P4 b (Kf e.symm));exact hne F ((bm F).2 (.inl ay)) ao
 ·rcases iA.1 hb with hb|⟨n,hn,hb⟩
  ·obtain⟨ay,ao⟩:=aH b hb;refine⟨ay,ao.imp (fun h=>?_) id⟩
   obtain⟨F,ay,ao⟩:=y2 b (P4 b h);exact⟨F,(bm F).2 (.inl ay),ao⟩
  ·have hm:=uz n hn b hb;obtain⟨F,ay,ao⟩:=y2 b hm;exact⟨Nat.lt_of_lt_of_le (lt b hm) Z.size,.inl ⟨F,(bm F).2 (.inl ay),ao⟩⟩
 ·refine⟨bY,v',hV++g9,zV++pL,dy,?_,by rw[List.length_append];exact h2,?_⟩
  ·rw[dy,aif];refine List.nodup_append.2 ⟨by cases bc v'<;>simp,a2,fun b hb c hc e=>?_⟩
   subst e;have hb:=Option.mem_toList.1 hb;rcases(aH b hb).2 with h|h
   ·exact jE b (by rw[h];simp) b hc rfl
   ·have:=lt b (by rw[z_];exact List.mem_append.2 (.inr hc))
    omega
  ·have iT:∀{d:aK} {v:Value},a8 w (am X B st.sites) d v->a8 w' (am X aw ba) d v:=fun h=>jf go h
   rw[nD];exact(d0.map iT fun n hn=>jk n (List.mem_append.2 (.inl hn))).cw (d1.map iT fun n hn=>jk n (List.mem_append.2 (.inr hn)))
theorem Hj{o s dst:Nat}{O:Site}(h:look st.sites o=some O)(M:O.bX=s):aT (st.dd o (.dead s)) dst=aT st dst:=by
 unfold aT;rw[ab.lV];by_cases e:o=dst
 ·subst e;simp only[if_true,ab.O,h,M];rfl
 ·simp only[e,if_false]
theorem UL(S:ae L J X B st tm w){C:Ctx}(ax:CtxOk P C){T dY:TypeId}{s x:Operand}{e ex:TypeId}{t u:aE}{bytes aG:Nat}{dst:Nat}(aU:C.tt T=.slice e t bytes)(ej:C.tt dY=.slice ex u aG)
  (ar:D.op=.call {callee:=.builtin .append,args:=#[s,x],argTypes:=#[T,dY]}) (cZ:D.dst=some dst) (Y:b0 st D.dst=true):
  Holds (qK bytes t dst st (aO C st T s) (aO C st dY x)) (cq P L J X st tm w D):=by
 have ox:=ax.tt dY;rw[ej] at ox;have tK:(∃ex,P.underlying dY=some (.slice ex))\/P.underlying dY=some .string:=.inl ⟨_,ox.1.1⟩;obtain⟨dR,i,z,hi,oq,uW,se,hzs,Qq⟩:=nE ax aU;have m_:=cO S C T s;have ob:=cO S C dY x;have runs:∀{v':Value} {w':World},(Builtin.append_ #[T,dY] D.type #[Act.eval ⟨tm,[]⟩ s,Act.eval ⟨tm,[]⟩ x]).run P w=.ok v' w'->
   (execOp (Act.eval ⟨tm,[]⟩) D).run P w=.ok (.value v') w':=by
  intro v' w' h;unfold execOp;simp only[ar,resolve,invoke,builtin,Sem.run_bind,Sem.run_pure,Result.andThen_ok,List.map_toArray,List.map_cons,List.map_nil,h]
 have one:∀{u:Bool} {bY:TypeId} {v':Value} {n m:Nat} {l:List Value} {w':World},rowAt w' u bY n v' m l->v'.oneCell'=true:=by
  intro u bY v' n m l w' h;rcases h.2 with⟨rfl,_⟩|⟨g,cap,cur,bn,rfl,_⟩<;>rfl
 unfold qK;split
 ·rename_i F s1 ab7;rw[ab7] at ob;split
  ·rename_i a7 ys abL;split
   ·rename_i gU;subst gU;have rJ:=sH abL;obtain⟨ajV,Pe,tV,EM,L8,Ny,_t,Dx⟩:=S.sites F _ rJ;have zy:Act.eval ⟨tm,[]⟩ x=Pe:=(Ref.at ob.2 rJ rfl:_=bO (B F)).trans (by rw[L8];rfl)
    have eu:Src w (au a7) (Act.eval ⟨tm,[]⟩ x) ys.length EM:=by rw[zy];exact .ZI _t Dx.one
    have y5:bu (B F)=(bc Pe).toList++tV.flatMap fun v=>(bc v).toList:=by rw[L8];simp only[bu,List.flatMap_cons]
    rw[y5] at Ny;obtain⟨_,LY,_⟩:=List.nodup_append.1 Ny;have y1:∀d,aT (st.dd F (.dead s1)) d=aT st d:=fun d=>Hj rJ rfl
    split
    ·-- z5 nothing
     rename_i t2 bN;rw[bN] at m_;have n_:Act.eval ⟨tm,[]⟩ s=.slice none 0 0:=m_;refine Holds.eV fun r hr=>?_
     have cG:ez bytes [] ys=some r:=hr;unfold ez at cG;split at cG
     ·rename_i hb;cases cG;simp only[List.length_nil,Nat.zero_add,room] at hb;obtain⟨v',w',h1,⟨bY,h2⟩,Z,aH⟩:=sE (P:=P) (u:=a7.e7) w T dY D.type e Qq i z (au a7) bytes dR tK hi se oq uW hzs (iC _) (.slice none 0 0) 0 [] ⟨e,sN w _ e _⟩ _ _ EM eu
       (by rw[Nat.zero_add];exact hb.2) (by rw[Nat.zero_add];exact hb.1)
      have hK:bu (.tuple (Value.slice none 0 0::([]++tV)).toArray)=tV.flatMap fun v=>(bc v).toList:=by simp only[bu,List.flatMap_cons,List.nil_append];rfl
      have bS:=S.Ik (dst:=dst) (bX:=aT (st.dd F (.dead s1)) dst) (ks:=[(F,.dead s1)]) (xs:=[]) (ys:=ys) (v0:=.slice none 0 0) (hV:=[]) (zV:=[]) (fun aN aj hm=>by
       simp only[List.mem_singleton,Prod.mk.injEq] at hm;obtain⟨rfl,rfl⟩:=hm;exact⟨_,rJ,rfl,rfl⟩) .nil Dx (by rw[hK];exact LY) (fun b hb=>⟨F,by simp[keys],by rw[hK] at hb;rw[y5];exact List.mem_append.2 (.inr hb)⟩) h2 Z aH (fun O M=>by rw[y1];exact ja M)
      refine h9 (us:=[(F,.dead s1),(dst,.deep (aT (st.dd F (.dead s1)) dst) a7 ([]++ys))]) bS Y (runs (by rw[n_];exact h1)) ?_
      refine⟨one h2,Ref.mk (O:=.deep (aT (st.dd F (.dead s1)) dst) a7 ([]++ys)) ?_ rfl (by simp[bO])⟩
      simp only[aR,ce];simp
     ·cases cG
    ·-- z5 a deep row
     rename_i o s2 bN;rw[bN] at m_;split
     ·rename_i t2 xs abM;split
      ·rename_i gU;subst gU;cases zQ:o.beq F with
       |true=>exact .fail
       |false=>
        have hne:o≠F:=fun e=>by subst e;rw[Nat.beq_refl] at zQ;cases zQ
        simp only[cond_false];refine Holds.eV fun r hr=>?_
        have cG:ez bytes xs ys=some r:=hr;unfold ez at cG;split at cG
        ·rename_i hb;cases cG;simp only[room] at hb;have ua:=sH abM;obtain⟨ajW,rU,Ed,acr,L9,Nz,_u,ZZ⟩:=S.sites o _ ua;have FC:Act.eval ⟨tm,[]⟩ s=rU:=(Ref.at m_.2 ua rfl:_=bO (B o)).trans (by rw[L9];rfl)
         have EI:bu (B o)=(bc rU).toList++Ed.flatMap fun v=>(bc v).toList:=by rw[L9];simp only[bu,List.flatMap_cons]
         rw[EI] at Nz;obtain⟨v',w',h1,⟨bY,h2⟩,Z,aH⟩:=sE (P:=P) (u:=t2.e7) w T dY D.type e Qq i z (au t2) bytes dR tK hi se oq uW hzs (iC _) rU xs.length acr ⟨_,_u⟩ _ _ EM eu hb.2 hb.1;have hK:bu (.tuple (rU::(Ed++tV)).toArray)=((bc rU).toList++Ed.flatMap fun v=>(bc v).toList)++tV.flatMap fun v=>(bc v).toList:=by
          simp only[bu,List.flatMap_cons,List.flatMap_append,List.append_assoc]
         have abH:aT ((st.dd F (.dead s1)).dd o (.dead s2)) dst=aT st dst:=by
          have:(st.dd F (.dead s1)).O o=some (.deep s2 t2 xs):=by
           rw[ab.lV,if_neg (fun e=>hne e.symm)]
           exact ua
          exact(Hj (st:=st.dd F (.dead s1)) (s:=s2) this rfl).trans (y1 dst)
         have bS:=S.Ik (dst:=dst) (bX:=aT ((st.dd F (.dead s1)).dd o (.dead s2)) dst) (ks:=[(F,.dead s1),(o,.dead s2)]) (xs:=xs) (ys:=ys) (v0:=rU) (fun aN aj hm=>by
          simp only[List.mem_cons,List.not_mem_nil,or_false,Prod.mk.injEq] at hm;rcases hm with⟨rfl,rfl⟩|⟨rfl,rfl⟩
          ·exact⟨_,rJ,rfl,rfl⟩
          ·exact⟨_,ua,rfl,rfl⟩) ZZ Dx (by
           rw[hK];refine List.nodup_append.2 ⟨Nz,LY,fun b hb c hc e=>?_⟩
           subst e;exact hne (S.c8 o F b ⟨_,ua,rfl⟩ ⟨_,rJ,rfl⟩ (by rw[EI];exact hb) (by rw[y5];exact List.mem_append.2 (.inr hc)))) (fun b hb=>by
           rw[hK] at hb;rcases List.mem_append.1 hb with hb|hb
           ·exact⟨o,by simp[keys],by rw[EI];exact hb⟩
           ·exact⟨F,by simp[keys],by rw[y5];exact List.mem_append.2 (.inr hb)⟩) h2 Z aH (fun O M=>by rw[abH];exact ja M)
         refine h9 (us:=[(F,.dead s1),(o,.dead s2),(dst,.deep (aT ((st.dd F (.dead s1)).dd o (.dead s2)) dst) t2 (xs++ys))]) bS Y (runs (by rw[FC];exact h1)) ?_
         refine⟨one h2,Ref.mk (O:=.deep (aT ((st.dd F (.dead s1)).dd o (.dead s2)) dst) t2 (xs++ys)) ?_ rfl (by simp[bO])⟩
         simp only[aR,ce];simp
        ·cases cG
      ·exact .fail
     ·exact .fail
    ·exact .fail
   ·exact .fail
  ·exact .fail
 ·exact .fail
end
section
variable {P:Program}{L:World}{J:List Nat}{X:Nat->Prop}{B:Nat->Value}{st:ab}{tm:Array Value}{w:World}{D:Oper}
theorem WI(S:ae L J X B st tm w){C:Ctx}(ax:CtxOk P C){T:TypeId}{a x:Operand}{v:bg}(ar:D.op=.store T a x)(Y:b0 st D.dst=true)(ag:(C.tt T).known=true)(hv:lu (aO C st T x)=some v):
  Holds (qM (C.tt T).size st (aO C st T a) v) (cq P L J X st tm w D):=by
 have hn:=Bu ag;have nn:=cO S C T a;have hex:=cO S C T x;rw[oL hv] at hex;have hex:fP B st.sites w (am X B st.sites) v (Act.eval ⟨tm,[]⟩ x):=hex;have run:∀{b p:Nat} {cur:List Value} {fv:TypeId} {u:Bool} {bn:Nat×Nat},Act.eval ⟨tm,[]⟩ a=.pointer (some ⟨b,p,none⟩)->w.heap[b]? =some (.cells cur.toArray fv bn)->kO u fv cur.toArray bn->(Act.eval ⟨tm,[]⟩ x).cells.toList.length=(C.tt T).size->
   p+(Act.eval ⟨tm,[]⟩ x).cells.toList.length<=cur.length->(∀u∈(Act.eval ⟨tm,[]⟩ x).cells.toList,u.oneCell'=true)->
   (execOp (Act.eval ⟨tm,[]⟩) D).run P w=.ok .skip (w.setRow b (bf cur p (Act.eval ⟨tm,[]⟩ x).cells.toList).toArray):=by
  intro b p cur fv u bn h1 h2 hz Z aH bp;unfold execOp;simp only[ar,h1,Instr.storeAt,Instr.sureAddr,Sem.run_bind,Sem.run_pure,Result.andThen_ok,He (ax.tt T) hn h2 hz Z aH bp]
 unfold qM;cases hlen:v.cells.length.beq (C.tt T).size with
 |false=>simp only[cond_false];exact .fail
 |true=>
  have o8:=Nat.eq_of_beq_eq_true hlen;simp only[cond_true];split
  ·rename_i o s off bN;rw[bN] at nn;split
   ·rename_i cells hb;cases hc:(Nat.ble (off+(C.tt T).size) cells.length&&fY v.cells) with
    |false=>simp only[cond_false];exact .fail
    |true=>
     simp only[cond_true];simp only[Bool.and_eq_true] at hc;have cX:=Nat.le_of_ble_eq_true hc.1;have hl:=hex.cells hc.2;obtain⟨b,fv,cur,h1,h2,Z,bS⟩:=S.WK (gq hb) nn hl (by rw[o8];exact cX) (hl.hN hc.2) hc.2
     exact Holds.eX (qe (us:=[(o,.box s (bf cells off v.cells))]) bS Y (run (u:=false) h1 h2 ⟨(fun h=>by cases h),.inl rfl⟩ (by rw[hl.1];exact o8) Z (hl.hN hc.2)))
   ·exact .fail
  ·rename_i o s u k off bN;rw[bN] at nn;split
   ·rename_i aj t xs fb;have mU:look st.sites o=some (.row aj t xs):=fb;cases hc:(aj.beq s&&Nat.ble (off+(C.tt T).size) (au t)&&decide (t=u)) with
    |false=>simp only[cond_false];exact .fail
    |true=>
     simp only[cond_true];simp only[Bool.and_eq_true,decide_eq_true_eq] at hc;obtain⟨⟨sg,ou⟩,rfl⟩:=hc;have:=Nat.eq_of_beq_eq_true sg;subst this;have cX:=Nat.le_of_ble_eq_true ou;split
     ·rename_i ds us d';cases hD:(look us o).isNone with
      |false=>simp only[cond_false];exact .fail
      |true=>
       simp only[cond_true];refine Holds.eV fun cP j2=>?_
       have iK:((xs[k]?).bind fun x=>dec t (bf (enc t x) off ds))=some cP:=j2
       cases lz:xs[k]? with
       |none=>rw[lz] at iK;cases iK
       |some oF=>
        rw[lz] at iK;have dS:dec t (bf (enc t oF) off ds)=some cP:=iK;have g_:=CP d';have aV:ko L J X B st tm w us:=⟨S,g_⟩;have df:fY v.cells=true:=by
         clear hlen o8 j2 iK dS hD g_ aV;revert d'
         generalize v.cells=U;intro d';induction U generalizing ds us with
         |nil=>rfl
         |cons l U ih=>
          simp only[gR] at d';split at d'
          ·rename_i d Rz fU nu h1 h2;simp only[fY,Bool.and_eq_true];refine⟨?_,ih _ _ h2⟩;unfold iU at h1;split at h1<;>first|rfl|cases h1
          ·cases d'
        have hl:=hex.cells df;have hr:=xJ d' hl aV (fun p an=>an)
        have hdl:ds.length=(C.tt T).size:=by
         have:=hr.1;rw[hl.1] at this;omega
        have Et:look (aR st.sites us) o=some (.row aj t xs):=by
         rcases k5 g_ o with h|⟨s2,t2,ajC,h,aa⟩
         ·rw[h];exact mU
         ·exfalso
          have:∀(us:List (Nat×Site)) (sites:List (Nat×Site)),look us o=none->look (aR sites us) o=look sites o:=by
           intro us;induction us with
           |nil=>intro sites _;rfl
           |cons p us ih=>
            obtain⟨F,O⟩:=p;intro sites yC;simp only[look] at yC;cases hb:F.beq o with
            |true=>simp[hb] at yC
            |false=>
             simp only[hb,cond_false] at yC;simp only[aR];rw[ih _ yC,ce,if_neg];rintro rfl;simp at hb
          have Z:=this us st.sites (by simpa using hD)
          rw[aa,mU] at Z;cases Z
        have ab8:=aV.go (a:=.av (.ah (.ec o aj t k off))) nn;obtain⟨b,fv,cur,bn,h1,h2,hz,Z,bS⟩:=aV.new.WJ Et ab8 lz (mS _ _ _ dS) hr (by rw[hdl];exact cX) (hl.hN df)
        refine qe (aw:=B) (us:=us++[(o,.row aj t (xs.set k cP))]) ?_ Y (run h1 h2 hz (by rw[hl.1];exact o8) Z (hl.hN df))
        rw[hL];exact bS
     ·exact .fail
   ·rename_i aj t xs fb;have mU:look st.sites o=some (.deep aj t xs):=fb;cases hc:(aj.beq s&&decide (t=u)) with
    |false=>simp only[cond_false];exact .fail
    |true=>
    simp only[cond_true];simp only[Bool.and_eq_true,decide_eq_true_eq] at hc;obtain⟨sg,rfl⟩:=hc;have:=Nat.eq_of_beq_eq_true sg;subst this;cases hc:(off.beq 0&&(C.tt T).size.beq (au t)) with
    |false=>
     simp only[cond_false];split
     ·rename_i d nU;cases aL:(d.hA&&Nat.blt off (au t)) with
      |false=>simp only[cond_false];exact .fail
      |true=>
       simp only[cond_true];simp only[Bool.and_eq_true] at aL;have afs:off<au t:=Nat.le_of_ble_eq_true aL.2;refine Holds.eV fun cP j2=>?_
       have iK:((xs[k]?).bind fun x=>dec t (bf (enc t x) off [d]))=some cP:=j2
       cases lz:xs[k]? with
       |none=>rw[lz] at iK;cases iK
       |some oF=>
        rw[lz] at iK;have dS:dec t (bf (enc t oF) off [d])=some cP:=iK;have hl:=hex.cells (by rw[nU];rfl)
        rw[nU] at hl;obtain⟨pR,r0,hu,r3,uI⟩:=hl.inv;have jv:r0=[]:=uI.kx;subst jv;obtain⟨b,fv,cur,bn,h1,h2,hz,Z,bS⟩:=S.T1 mU nn lz dS aL.1 afs r3;have FK:(C.tt T).size=1:=by rw[<-o8,nU];rfl
        have cC:=run h1 h2 hz (by rw[hu,FK];rfl) (by rw[hu];exact Z) (by rw[hu];intro v hv;rw[List.mem_singleton.1 hv];exact a8.hN r3)
        rw[hu] at cC;refine qe (aw:=B) (us:=[(o,.deep aj t (xs.set k cP))]) ?_ Y cC;exact bS
     ·exact .fail
    |true=>
     simp only[cond_true];simp only[Bool.and_eq_true] at hc;obtain⟨FU,ou⟩:=hc;have:=Nat.eq_of_beq_eq_true FU;subst this;split
     ·rename_i ds us d';cases hD:((look us o).isNone&&eC (keys us)) with
      |false=>simp only[cond_false];exact .fail
      |true=>
       simp only[cond_true];rw[Bool.and_eq_true] at hD;refine Holds.eV fun cP j2=>?_
       have iK:((xs[k]?).bind fun _=>dec t ds)=some cP:=j2
       cases lz:xs[k]? with
       |none=>rw[lz] at iK;cases iK
       |some oF=>
        rw[lz] at iK;have dS:dec t ds=some cP:=iK;have hl:=hex.cells (Hf d');obtain⟨g1,aC,g2,g3⟩:=Bl S d' hl;rw[<-mS _ _ _ dS] at g2;obtain⟨b,fv,cur,bn,nv,h1,h2,hz,Z,bS⟩:=S.Vf mU nn lz g1 ((nF _).1 hD.2) (HJ hD.1) g2 g3;refine qe (aw:=fun F=>if F=o then nv else B F) (us:=us++[(o,.deep aj t (xs.set k cP))]) ?_ Y (run h1 h2 hz (by rw[hl.1];exact o8) Z g2.one)
        rw[hL];exact bS
     ·exact .fail
   ·exact .fail
  ·exact .fail
theorem S1(S:ae L J X B st tm w){C:Ctx}(ax:CtxOk P C){T e:TypeId}{t:aE}{bytes:Nat}{x i:Operand}{k:IntKind}{n:Int}(aU:C.tt T=.slice e t bytes)(hi:aO C st 0 i=.av (.ah (.d (.int k n))))(ar:D.op=.indexAddr T x i)
  (Y:b0 st D.dst=true):
  Holds (qg t st (aO C st T x) n) (cq P L J X st tm w D):=by
 obtain⟨dR,inf,z,jX,gy,nm,j7,hzs,_⟩:=nE ax aU;have ud:=je S hi;have a':=cO S C T x;have run:∀{a:Addr} {len cap:Nat},Act.eval ⟨tm,[]⟩ x=.slice (some a) len cap->0<=n->n<len->(execOp (Act.eval ⟨tm,[]⟩) D).run P w=.ok (.value (.pointer (some (a.add (n.toNat*au t))))) w:=by
  intro a len cap hx aQ h1;unfold execOp;simp[ar,hx,ud,Instr.indexAt,asIntOf,run_underlying dR,aQ,h1,sizeOf,kp jX,gy]
 unfold qg;split
 ·rename_i u xs bN;split;case isFalse=>exact .fail
  rename_i nh;subst nh;rw[bN] at a';have a':a8 w (am X B st.sites) (.sl u xs) (Act.eval ⟨tm,[]⟩ x):=a';refine Holds.dT fun y ai=>?_
  have dC:bl xs n=some y:=ai;unfold bl at dC;split at dC
  ·rename_i aQ;have aY:n.toNat<xs.length:=by
    rcases Nat.lt_or_ge n.toNat xs.length with h|h
    ·exact h
    ·rw[List.getElem?_eq_none h] at dC;cases dC
   generalize hx:Act.eval ⟨tm,[]⟩ x=v at a';cases a' with
   |nil=>simp at aY
   |sl _ _ a cap cs m hm hcap hb hl hc hr=>
    subst hm;have hne:xs≠[]:=by rintro rfl;simp at aY
    have cY:b' w (am X B st.sites) (flat u xs) cs:=⟨hl,hr⟩;have lB:a.spot=none:=by
     have m9:0<cs.length:=by rw[hl,dO];exact Nat.mul_pos (List.length_pos_iff.mpr hne) (iC u)
     have h1:=hc 0 cs[0] (List.getElem?_eq_getElem m9);have h2:a.add 0=a:=by unfold Addr.add;simp
     rw[h2] at h1;unfold World.cell? at h1;split at h1
     ·cases M:a.spot with
      |none=>rfl
      |some _=>simp[M] at h1
     ·cases h1
    obtain⟨ny,Aa,agu⟩:=a;simp only at lB;subst lB;have hcs:gZ w ny Aa cs:=fun j v hv=>by have:=hc j v hv;rwa[f_] at this
    refine dl S Y (run hx aQ (by omega)) ?_
    rw[f_];have fS:=sL u xs n.toNat y dC;have _T:=(hcs.drop (n.toNat*au u)).take (au u);have j5:=((gN (B:=B) (sites:=st.sites) hl hr).drop (n.toNat*au u)).take (au u);have e2:((cv (flat u xs)).drop (n.toNat*au u)).take (au u)=cv (enc u y):=by
     rw[<-fS];simp[cv,List.map_drop,List.map_take]
    rw[e2] at j5;have du:=h' j5;have iL:ny<w.heap.size:=by
     have m9:0<cs.length:=by rw[hl,dO];exact Nat.mul_pos (List.length_pos_iff.mpr hne) (iC u)
     exact World.block_lt_of_cell? w _ (hcs 0 cs[0] (List.getElem?_eq_getElem m9))
    exact⟨ny,Aa+n.toNat*au u,by rw[Nat.add_zero],hb hne,iL,_,du.1,_T,du.2⟩
  ·cases dC
 ·rename_i o s bN;rw[bN] at a';split
  ·rename_i u xs cY;split;case isFalse=>exact .fail
   rename_i nh;subst nh;refine Holds.dT fun y ai=>?_
   have dC:e8 xs.length n=some y:=ai;unfold e8 at dC;split at dC
   ·rename_i hb;cases dC;obtain⟨⟨O,fS,ju⟩,iI⟩:=S.any cY;have hv:Act.eval ⟨tm,[]⟩ x=bO (B o):=Ref.at a'.2 fS ju;rcases iI with⟨hn,zz⟩|⟨b,c,bI⟩
    ·subst zz;simp at hb;omega
    ·refine dl S Y (run (by rw[hv];exact bI) hb.1 hb.2) ?_
     rw[f_,Nat.zero_add];exact⟨b,by rw[Nat.add_zero],Ref.mk fS ju ⟨_,_,bI⟩⟩
   ·cases dC
  ·exact .fail
 ·exact .fail
end
section
variable {P:Program}{L:World}{J:List Nat}{X:Nat->Prop}{B:Nat->Value}{st:ab}{tm:Array Value}{w:World}{D:Oper}
theorem JQ(S:ae L J X B st tm w){C:Ctx}{cA:Option Operand}{kL l:Int}(h:hQ kL (cA.map (aO C st 0))=some l):
  (cA=none/\l=kL)\/∃x k,cA=some x/\Act.eval ⟨tm,[]⟩ x=.int k l:=by
 cases cA with
 |none=>simp only[Option.map_none,hQ,Option.some.injEq] at h;exact .inl ⟨rfl,h.symm⟩
 |some x=>
  simp only[Option.map_some] at h;generalize hx:aO C st 0 x=v at h;unfold hQ at h;split at h
  ·rename_i bN;cases bN
  ·rename_i k n bN;cases h;cases bN;exact .inr ⟨x,k,rfl,je S hx⟩
  ·cases h
theorem A8(t:aE)(xs:List (den t))(n:Nat):flat t (xs.take n)=(flat t xs).take (n*au t):=by
 rcases Nat.lt_or_ge xs.length n with h|h
 ·rw[List.take_of_length_le (Nat.le_of_lt h),List.take_of_length_le (by rw[dO];exact Nat.mul_le_mul_right _ (Nat.le_of_lt h))]
 ·have:=nD t (xs.take n) (xs.drop n);rw[List.take_append_drop] at this;rw[this,List.take_left' (by rw[dO,List.length_take,Nat.min_eq_left h])]
theorem IZ(t:aE)(xs:List (den t))(n:Nat):flat t (xs.drop n)=(flat t xs).drop (n*au t):=by
 rcases Nat.lt_or_ge xs.length n with h|h
 ·rw[List.drop_eq_nil_of_le (Nat.le_of_lt h),List.drop_eq_nil_of_le (by rw[dO];exact Nat.mul_le_mul_right _ (Nat.le_of_lt h))]
  rfl
 ·have:=nD t (xs.take n) (xs.drop n);rw[List.take_append_drop] at this;rw[this,List.drop_left' (by rw[dO,List.length_take,Nat.min_eq_left h])]
theorem Aw{P:Program}{w:World}(isSlice:Bool)(len cap:Nat)(cA hi:Option Value)(l h:Int)(fF:(cA=none/\l=0)\/∃k,cA=some (.int k l))(it:(hi=none/\h=len)\/∃k,hi=some (.int k h))
  (aQ:0<=l) (h1:l<=h) (h2:h<=len) (hc:len<=cap):(Instr.sliceBounds isSlice len cap cA hi none).run P w=.ok (l.toNat,h.toNat,cap) w:=by
 have bW:0<=h:=by omega
 have Qg:h<=cap:=by omega
 have afh:((h.toNat:Nat):Int)=h:=Int.toNat_of_nonneg bW;rcases fF with⟨rfl,rfl⟩|⟨k,rfl⟩<;>rcases it with⟨rfl,rfl⟩|⟨k',rfl⟩
 ·simp[Instr.sliceBounds]
 ·simp[Instr.sliceBounds,Instr.sliceBound,asIntOf,bW,Qg]
 ·simp[Instr.sliceBounds,Instr.sliceBound,asIntOf,aQ,h1]
 ·simp[Instr.sliceBounds,Instr.sliceBound,asIntOf,bW,Qg,aQ,afh,h1]
theorem WH(s:ByteArray)(l h:Nat)(h2:h<=s.size):(s.extract l h).data.toList=(s.data.toList.take h).drop l:=by
 rw[ByteArray.data_extract,Array.toList_extract];simp[List.extract_eq_take_drop,List.drop_take]
theorem KM{w:World}{av:Nat->Prop}{t:aE}{xs:List (den t)}{b D:Nat}{cs:List Value}(hb:xs≠[]->¬av b)(hr:b' w av (flat t xs) cs)(hc:gZ w b D cs)(l h:Nat)(h1:l<=h)(h2:h<=xs.length)(a:Addr)(fk:Nat)(Qn:h-l<=fk)
  (a9:a=⟨b,D+l*au t,none⟩\/l=h) (Qo:a.block=b):a8 w av (.sl t ((xs.take h).drop l)) (.slice (some a) (h-l) fk):=by
 have hlen:((xs.take h).drop l).length=h-l:=by simp;omega
 by_cases Qb:l=h
 ·subst Qb;have:(xs.take l).drop l=[]:=List.eq_nil_of_length_eq_zero (by rw[hlen];omega)
  rw[this];exact .sl t [] a fk [] _ (by simp) Qn (fun hx=>absurd rfl hx) rfl (fun j u hu=>by simp at hu) (fun j h=>by simp[flat] at h)
 ·rcases a9 with a9|a9
  ·subst a9;have hf:flat t ((xs.take h).drop l)=((flat t xs).take (h*au t)).drop (l*au t):=by
    rw[IZ,A8]
   have j5:=((gN (B:=fun _=>undef) (sites:=[]) hr.1 hr.2).take (h*au t)).drop (l*au t)
   have e2:((cv (flat t xs)).take (h*au t)).drop (l*au t)=cv (flat t ((xs.take h).drop l)):=by
    rw[hf];simp[cv,List.map_drop,List.map_take]
   rw[e2] at j5;have cG:=h' j5;refine .sl t _ _ fk _ _ hlen.symm Qn (fun hx=>hb ?_) cG.1 (fun j u hu=>?_) cG.2
   ·rintro rfl;simp at hx
   ·rw[f_];exact((hc.take (h*au t)).drop (l*au t)) j u hu
  ·exact absurd a9 Qb
theorem Ce{w:World}{av:Nat->Prop}{t:aE}{xs:List (den t)}{a:Addr}{cs:List Value}(hb:xs≠[]->¬av a.block)(hr:b' w av (flat t xs) cs)(hc:∀j u,cs[j]? =some u->w.cell? (a.add j)=some u)
  (l h cap:Nat) (h1:l<=h) (h2:h<=xs.length) (hcap:xs.length<=cap):
  a8 w av (.sl t ((xs.take h).drop l)) (.slice (if cap=l then some a else(some a).map (·.add (l*au t))) (h-l) (cap-l)):=by
 by_cases hx:xs=[]
 ·subst hx;have:h=0:=by simpa using h2
  subst this;have ol:l=0:=by omega
  subst ol;have:((if cap=0 then some a else(some a).map (·.add (0*au t))):Option Addr)=some a:=by
   split
   ·rfl
   ·simp[Addr.add]
  rw[this];exact .sl t [] a (cap-0) [] 0 rfl (by omega) (fun hx=>absurd rfl hx) rfl (fun j u hu=>by simp at hu) (fun j h=>by simp[flat] at h)
 ·have lB:a.spot=none:=by
   have m9:0<cs.length:=by rw[hr.1,dO];exact Nat.mul_pos (List.length_pos_iff.mpr hx) (iC t)
   have h1:=hc 0 cs[0] (List.getElem?_eq_getElem m9);have h2:a.add 0=a:=by unfold Addr.add;simp
   rw[h2] at h1;unfold World.cell? at h1;split at h1
   ·cases M:a.spot with
    |none=>rfl
    |some _=>simp[M] at h1
   ·cases h1
  obtain⟨ny,Aa,agu⟩:=a;simp only at lB;subst lB;have hcs:gZ w ny Aa cs:=fun j v hv=>by have:=hc j v hv;rwa[f_] at this
  split
  ·rename_i e;exact KM hb hr hcs l h h1 h2 _ _ (by omega) (.inr (by omega)) rfl
  ·simp only[Option.map_some,f_];exact KM hb hr hcs l h h1 h2 _ _ (by omega) (.inl rfl) rfl
theorem IB{v:aI}{us iO:List (Nat×Site)}(e:aR st.sites us=aR st.sites iO)(h:cq P L J X st tm w D v us):cq P L J X st tm w D v iO:=by
 have:st.cw D.dst v iO=st.cw D.dst v us:=by cases D.dst<;>simp only[ab.cw,ab.s6,e]
 intro K Q bm;rw[this] at bm;exact h K Q bm
theorem WO(S:ae L J X B st tm w){C:Ctx}(ax:CtxOk P C){T:TypeId}{x:Operand}{cA hi:Option Operand}(ar:D.op=.slice T x cA hi none)(Y:b0 st D.dst=true):
  Holds (qP (C.tt T) st (aO C st T x) (cA.map (aO C st 0)) (hi.map (aO C st 0))) (cq P L J X st tm w D):=by
 have a':=cO S C T x;have ph:∀{cA:Option Operand} {kL l:Int},hQ kL (cA.map (aO C st 0))=some l->(cA.map (Act.eval ⟨tm,[]⟩)=none/\l=kL)\/∃k,cA.map (Act.eval ⟨tm,[]⟩)=some (.int k l):=by
  intro cA kL l h;rcases JQ S h with⟨rfl,aa⟩|⟨x,k,rfl,aa⟩
  ·exact .inl ⟨rfl,aa⟩
  ·exact .inr ⟨k,by simp[aa]⟩
 have runs:∀{vv:Value},(Instr.sliceAt T (Act.eval ⟨tm,[]⟩ x) (cA.map (Act.eval ⟨tm,[]⟩)) (hi.map (Act.eval ⟨tm,[]⟩)) none).run P w=.ok vv w->(execOp (Act.eval ⟨tm,[]⟩) D).run P w=.ok (.value vv) w:=by
  intro vv h;unfold execOp;simp only[ar,Option.map_none,Sem.run_bind,h,Result.andThen_ok,Sem.run_pure]
 have tD:∀{e:TypeId} {t:aE} {bytes:Nat} {a:Option Addr} {len cap:Nat} {l h:Int},C.tt T=.slice e t bytes->Act.eval ⟨tm,[]⟩ x=.slice a len cap->hQ 0 (cA.map (aO C st 0))=some l->hQ len (hi.map (aO C st 0))=some h->
   0<=l->l<=h->h<=len->len<=cap->(execOp (Act.eval ⟨tm,[]⟩) D).run P w=.ok (.value (.slice (if cap=l.toNat then a else a.map (·.add (l.toNat*au t))) (h.toNat-l.toNat) (cap-l.toNat))) w:=by
  intro e t bytes a len cap l h aU hx fF it aQ h1 h2 hc;obtain⟨dR,inf,z,jX,gy,_⟩:=nE ax aU;refine runs ?_
  have hb:=Aw (P:=P) (w:=w) true len cap (cA.map (Act.eval ⟨tm,[]⟩)) (hi.map (Act.eval ⟨tm,[]⟩)) l h (ph fF) (ph it) aQ h1 h2 hc;simp only[Instr.sliceAt,Instr.slice,Sem.run_bind,run_underlying dR,Result.andThen_ok,hx,hb,sizeOf,kp jX,gy,Sem.run_pure]
 unfold qP;split
 ·rename_i s bN;rw[bN] at a';obtain⟨b,hx,M⟩:=g4 a';split
  ·rename_i l h aU fF it;have bv:=ax.tt T;rw[aU] at bv;refine Holds.dT fun r hr=>?_
   have cG:dr s l h=some r:=hr;unfold dr at cG;split at cG
   ·rename_i hb;obtain⟨aQ,h1,h2⟩:=hb;cases cG;have hsz:s.length=b.size:=by rw[<-M];rfl
    rw[hsz] at h2 it;refine dl S Y (vv:=.string (b.extract l.toNat h.toNat)) (runs ?_) (.str _ _ ?_)
    ·have hb:=Aw (P:=P) (w:=w) false b.size b.size (cA.map (Act.eval ⟨tm,[]⟩)) (hi.map (Act.eval ⟨tm,[]⟩)) l h (ph fF) (ph it) aQ h1 h2 (Nat.le_refl _);simp[Instr.sliceAt,Instr.slice,run_underlying bv.1,hx,hb]
    ·rw[WH b _ _ (by omega),M]
   ·cases cG
  ·exact .fail
 ·rename_i t xs bN;rw[bN] at a';have a':a8 w (am X B st.sites) (.sl t xs) (Act.eval ⟨tm,[]⟩ x):=a';split
  ·rename_i e u bytes l h aU fF it;split;case isFalse=>exact .fail
   rename_i nh;subst nh;refine Holds.dT fun r hr=>?_
   have cG:dr xs l h=some r:=hr;unfold dr at cG;split at cG
   ·rename_i hb;obtain⟨aQ,h1,h2⟩:=hb;cases cG;generalize hx:Act.eval ⟨tm,[]⟩ x=v at a';cases a' with
    |nil=>
     have bW:h=0:=by simp at h2;omega
     have hl:l=0:=by omega
     subst bW hl;refine dl S Y (tD aU hx fF it aQ h1 h2 (Nat.le_refl _)) ?_
     simp only[List.take_nil,List.drop_nil];exact a8.nil t
    |sl _ _ a cap cs m hm hcap hb hl hc hr=>
     subst hm;refine dl S Y (tD aU hx fF it aQ h1 h2 hcap) ?_
     exact Ce hb ⟨hl,hr⟩ hc l.toNat h.toNat cap (by omega) (by omega) hcap
   ·cases cG
  ·exact .fail
 ·rename_i t bN;rw[bN] at a';have hx:Act.eval ⟨tm,[]⟩ x=.slice none 0 0:=a';split
  ·rename_i e u bytes l h aU fF it;refine Holds.dT fun r hr=>?_
   have cG:dr ([]:List (den t)) l h=some r:=hr;unfold dr at cG;split at cG
   ·rename_i hb;obtain⟨aQ,h1,h2⟩:=hb;cases cG;have bW:h=0:=by simp at h2;omega
    have hl:l=0:=by omega
    subst bW hl;refine dl S Y (tD aU hx fF it aQ h1 h2 (Nat.le_refl _)) ?_
    simp only[List.take_nil,List.drop_nil];exact a8.nil t
   ·cases cG
  ·exact .fail
 ·rename_i o s bN;rw[bN] at a';split
  ·rename_i t xs cY;split
   ·rename_i e u bytes l h aU fF it;split;case isFalse=>exact .fail
    rename_i nh;subst nh;refine Holds.eV fun r hr=>?_
    have cG:dr xs l h=some r:=hr;unfold dr at cG;split at cG
    ·rename_i hb;obtain⟨aQ,h1,h2⟩:=hb;cases cG;refine IB (us:=[(o,.cM s t xs)]) (JK cY).symm ?_
     have g_:de st.sites [(o,.cM s t xs)]:=by
      intro F O hm;simp only[List.mem_singleton,Prod.mk.injEq] at hm;obtain⟨rfl,rfl⟩:=hm;exact⟨s,t,xs,rfl,(jb cY).imp id .inl⟩
     have aV:ko L J X B st tm w [(o,.cM s t xs)]:=⟨S,g_⟩;have oi:=vF g_ (List.mem_singleton.2 rfl);obtain⟨du,Md⟩:=aV.new.sites o _ oi;have hv:Act.eval ⟨tm,[]⟩ x=bO (B o):=by
      rcases jb cY with h1|h1<;>exact Ref.at a'.2 h1 rfl
     generalize hx:bO (B o)=v at du Md;rw[hx] at hv;cases du with
     |nil=>
      have bW:h=0:=by simp at h2;omega
      have hl:l=0:=by omega
      subst bW hl;refine h9 (us:=[(o,.cM s t [])]) aV.new Y (tD aU hv fF it aQ h1 h2 (Nat.le_refl _)) ?_
      simp only[List.take_nil,List.drop_nil];exact a8.nil t
     |sl _ _ a cap cs m hm hcap hb hl hc hr=>
      subst hm;refine h9 (us:=[(o,.cM s t xs)]) aV.new Y (tD aU hv fF it aQ h1 h2 hcap) ?_
      exact Ce hb ⟨hl,hr⟩ hc l.toNat h.toNat cap (by omega) (by omega) hcap
    ·cases cG
   ·exact .fail
  ·exact .fail
 ·exact .fail
end
section
variable {P:Program}{L:World}{J:List Nat}{X:Nat->Prop}{B:Nat->Value}{st:ab}{tm:Array Value}{w:World}{D:Oper}
theorem Yx{av:Nat->Prop}{o s:Nat}{t:aE}{xs:List (den t)}{v:Value}(h:b4 B st.sites w av (bD (.own o s)) v)(hr:rowOf st o s=some ⟨t,xs⟩):v=bO (B o):=by
 rcases jb hr with h1|h1<;>exact Ref.at h.2 h1 rfl
theorem Kl(S:ae L J X B st tm w){l:aq}{v:Value}{t:aE}{es:List (al×den t)}(h:c_ B st.sites w (am X B st.sites) l v)(hm:mapOf st l=some ⟨t,es⟩):
  (v=.map none/\es=[])\/∃b,v=.map (some b)/\li w b t es:=by
 unfold mapOf at hm;split at hm
 ·cases hm;have h:a8 w (am X B st.sites) (.map t es) v:=h;cases h with
  |tW=>exact .inl ⟨rfl,rfl⟩
  |map _ _ b hb hm=>exact .inr ⟨b,rfl,hm⟩
 ·rename_i o s;split at hm
  ·rename_i aj u sk hl;cases hb:aj.beq s with
   |false=>rw[hb] at hm;cases hm
   |true=>
    rw[hb] at hm;have M:=Nat.eq_of_beq_eq_true hb;subst M;cases hm;have hl:look st.sites o=some (.map aj _ es):=hl;have hv:v=bO (B o):=Ref.at h.2 hl rfl;obtain⟨b,h1,h2⟩:=S.sites o _ hl;exact .inr ⟨b,by rw[hv,h1];rfl,h2⟩
  ·cases hm
 ·cases hm
theorem li.size{b:Nat}{t:aE}{es:List (al×den t)}{arr:Array MapEntry}(h:l7 arr=jg t es):arr.size=es.length:=by
 have:=congrArg List.length h;simpa[l7,jg] using this
theorem ZL(S:ae L J X B st tm w){C:Ctx}(ax:CtxOk P C){T:TypeId}{x:Operand}(ar:D.op=.call {callee:=.builtin .len,args:=#[x],argTypes:=#[T]})(Y:b0 st D.dst=true):
  Holds (rG (C.tt T) st (aO C st T x)) (cq P L J X st tm w D):=by
 have a':=cO S C T x;have bv:=ax.tt T;have run:∀{vv:Value},(Builtin.len_ #[T] D.type #[Act.eval ⟨tm,[]⟩ x]).run P w=.ok vv w->(execOp (Act.eval ⟨tm,[]⟩) D).run P w=.ok (.value vv) w:=by
  intro vv h;unfold execOp;simp only[ar,resolve,invoke,builtin,Sem.run_bind,Sem.run_pure,Result.andThen_ok,List.map_toArray,List.map_cons,List.map_nil,h]
 unfold rG;split
 ·rename_i s aU bN;rw[bN] at a';rw[aU] at bv;obtain⟨b,hx,M⟩:=g4 a';refine Holds.ok (dl S Y (run (vv:=.int .i64 s.length) ?_) (.int _ _));have:s.length=b.size:=by rw[<-M];rfl
  simp[Builtin.len_,hx,run_underlying bv.1,goInt,this]
 ·rename_i e t b u xs aU bN;rw[bN] at a';rw[aU] at bv;have a':a8 w (am X B st.sites) (.sl u xs) (Act.eval ⟨tm,[]⟩ x):=a';refine Holds.ok (dl S Y (run (vv:=.int .i64 xs.length) ?_) (.int _ _));generalize Act.eval ⟨tm,[]⟩ x=v at a';cases a' with
  |nil=>simp[Builtin.len_,run_underlying bv.1.1,goInt]
  |sl _ _ a cap cs n hn hcap hb hl hc hr=>simp[Builtin.len_,run_underlying bv.1.1,goInt,hn]
 ·rename_i e t b u aU bN;rw[bN] at a';rw[aU] at bv;have hx:Act.eval ⟨tm,[]⟩ x=.slice none 0 0:=a';exact Holds.ok (dl S Y (run (vv:=.int .i64 0) (by simp[Builtin.len_,hx,run_underlying bv.1.1,goInt])) (.int _ _))
 ·rename_i e t b o s aU bN;rw[bN] at a';rw[aU] at bv;split
  ·rename_i u xs cY;obtain⟨⟨O,fS,ju⟩,hc⟩:=S.any cY;have hv:Act.eval ⟨tm,[]⟩ x=bO (B o):=Ref.at a'.2 fS ju;refine Holds.ok (dl S Y (run (vv:=.int .i64 xs.length) ?_) (.int _ _));rcases hc with⟨h1,h2⟩|⟨a3,c,h1⟩
   ·subst h2;simp[Builtin.len_,hv,h1,run_underlying bv.1.1,goInt]
   ·simp[Builtin.len_,hv,h1,run_underlying bv.1.1,goInt]
  ·exact .fail
 ·rename_i gW kf u l aU bN;rw[bN] at a';rw[aU] at bv;split
  ·rename_i bA es hm;refine Holds.ok (dl S Y (run (vv:=.int .i64 es.length) ?_) (.int _ _));rcases Kl S a' hm with⟨h1,rfl⟩|⟨b,h1,arr,c,h2,Z⟩
   ·simp[Builtin.len_,h1,run_underlying bv.1.1,goInt]
   ·have hsz:=li.size (b:=b) Z;simp[Builtin.len_,h1,run_underlying bv.1.1,goInt,MapKept.run_getObj_map h2,hsz,Result.andThen]
  ·exact .fail
 ·exact .fail
theorem Xs(S:ae L J X B st tm w){C:Ctx}(ax:CtxOk P C){T:TypeId}{x i:Operand}{s:al}{k:IntKind}{n:Int}(ar:D.op=.index T x i)(Y:b0 st D.dst=true)(aU:C.tt T=.str)
  (hx:aO C st T x=.av (.ah (.d (.str s)))) (hi:aO C st 0 i=.av (.ah (.d (.int k n)))):Holds (.dT (bl s n) fun b=>one (.int .u8 b.toNat)) (cq P L J X st tm w D):=by
 have bv:=ax.tt T;rw[aU] at bv;obtain⟨b,hb,M⟩:=ZW S hx;have hn:=je S hi;refine Holds.dT fun y ai=>?_
 have dC:bl s n=some y:=ai;unfold bl at dC;split at dC
 ·rename_i aQ;refine dl S Y (vv:=.int .u8 y.toNat) ?_ (.int _ _);have oa:b[n.toNat]? =some y:=by
   have:n.toNat<s.length:=by
    rcases Nat.lt_or_ge n.toNat s.length with h|h
    ·exact h
    ·rw[List.getElem?_eq_none h] at dC;cases dC
   rw[<-M] at dC this;have hsz:n.toNat<b.size:=this;rw[getElem?_pos b n.toNat hsz];rw[List.getElem?_eq_getElem this] at dC;have Z:b.data[n.toNat]=y:=by simpa using dC
   rw[<-Z];rfl
  unfold execOp;simp[ar,hb,hn,Instr.index,asIntOf,run_underlying bv.1,aQ,oa]
 ·cases dC
theorem bytes_beq(x y:ByteArray):(x==y)=(x.data.toList==y.data.toList):=by
 obtain⟨a⟩:=x;obtain⟨b⟩:=y;have h:((⟨a⟩:ByteArray)==⟨b⟩)=(a==b):=rfl;rw[h,Bool.eq_iff_iff];simp
theorem Xv:∀{z U:List aq} {vs:List Value},pi z U=true->ca B st.sites w (am X B st.sites) U vs->od z vs=true:=by
 intro z;induction z with
 |nil=>
  intro U vs h h1;cases U with
  |nil=>rw[h1.kx];rfl
  |cons l U=>cases h
 |cons c z ih=>
  intro U vs h h1;unfold pi at h;split at h
  ·rename_i hz;cases hz
  ·rename_i bN;cases bN;obtain⟨v,cg,rfl,a1,a2⟩:=h1.inv;rw[ic a1];exact ih h a2
  ·rename_i bN;cases bN;obtain⟨v,cg,rfl,a1,a2⟩:=h1.inv;rw[iD a1];exact ih h a2
  ·rename_i bN;cases bN;obtain⟨v,cg,rfl,a1,a2⟩:=h1.inv;obtain⟨x,rfl,hx⟩:=g4 a1;exact ih h a2
  ·cases h
theorem TL:∀{U h7:List aq} {vs us:List Value} {b:Bool},tj U h7=some b->ca B st.sites w (am X B st.sites) U vs->ca B st.sites w (am X B st.sites) h7 us->iz vs us=some b:=by
 have leaf:∀{d e:aK} {v u:Value} {b:Bool} {av:Nat->Prop},x4 d e=some b->a8 w av d v->a8 w av e u->mP v u=some b:=by
  intro d e v u b av h h1 h2;unfold x4 at h;split at h
  ·rw[ic h1,ic h2];exact h
  ·rw[iD h1,iD h2];exact h
  ·obtain⟨x,rfl,hx⟩:=g4 h1;obtain⟨y,rfl,ai⟩:=g4 h2;subst hx ai;cases h;show some (x==y)=some (x.data.toList==y.data.toList);rw[bytes_beq]
  ·cases h
 intro U;induction U with
 |nil=>intro h7 vs us b h _ _;cases h7<;>simp[tj] at h
 |cons l U ih=>
  intro h7 vs us b h h1 h2;obtain⟨v,cg,rfl,a1,a2⟩:=h1.inv;unfold tj at h;split at h
  ·rename_i d e bN;cases bN;obtain⟨u,iO,rfl,aS,aG⟩:=h2.inv;rw[a2.kx,aG.kx];exact leaf h a1 aS
  ·rename_i d ds e es hne bN;cases bN;obtain⟨u,iO,rfl,aS,aG⟩:=h2.inv;split at h
   ·rename_i x y hx ai;cases h;have e1:=leaf hx a1 aS;have e2:=ih ai a2 aG;match cg,iO,e2 with
    |[],[],e2=>simp[iz] at e2
    |[],_::_,e2=>simp[iz] at e2
    |_::_,[],e2=>simp[iz] at e2
    |v2::ajD,u2::ajF,e2=>rw[iz,e1,e2];simp
   ·cases h
  ·cases h
theorem run_equal_bool{T:TypeId}(h:P.underlying T=some .bool)(a b:Bool):(Op.equal T (.bool a) (.bool b)).run P w=.ok (a==b) w:=by
 have e:Op.maxDepth=9999+1:=rfl;unfold Op.equal;rw[e];unfold Op.equalIn;simp only[Sem.run_bind,run_underlying h,Result.andThen_ok,Sem.run_pure]
theorem run_eql_bool{T:TypeId}(h:P.underlying T=some .bool)(a b:Bool):(binOp .eql T (.bool a) (.bool b)).run P w=.ok (.bool (a==b)) w:=by
 show((do pure (.bool (<-Op.equal T (.bool a) (.bool b)))):Sem Value).run P w=_
 simp only[Sem.run_bind,run_equal_bool h,Result.andThen_ok,Sem.run_pure]
theorem run_neq_bool{T:TypeId}(h:P.underlying T=some .bool)(a b:Bool):(binOp .neq T (.bool a) (.bool b)).run P w=.ok (.bool (!(a==b))) w:=by
 show((do pure (.bool (!(<-Op.equal T (.bool a) (.bool b))))):Sem Value).run P w=_
 simp only[Sem.run_bind,run_equal_bool h,Result.andThen_ok,Sem.run_pure]
theorem YX(S:ae L J X B st tm w){C:Ctx}(ax:CtxOk P C){op:BinOp}{T mz:TypeId}{x y:Operand}(ar:D.op=.binOp op T x y mz)(Y:b0 st D.dst=true):
  Holds (EO op (C.tt T) (aO C st T x) (aO C st T y)) (cq P L J X st tm w D):=by
 have hx:=cO S C T x;have ai:=cO S C T y;have bv:=ax.tt T;have run:∀{vv:Value},(eqGuard op T x y (Act.eval ⟨tm,[]⟩ x) (Act.eval ⟨tm,[]⟩ y)).run P w=.ok () w->(binOp op T (Act.eval ⟨tm,[]⟩ x) (Act.eval ⟨tm,[]⟩ y)).run P w=.ok vv w->
   (execOp (Act.eval ⟨tm,[]⟩) D).run P w=.ok (.value vv) w:=by
  intro vv h1 h2;unfold execOp;simp only[ar,Sem.run_bind,h1,h2,Result.andThen_ok,Sem.run_pure]
 have plain:∀{r:cU},(eqGuard op T x y (Act.eval ⟨tm,[]⟩ x) (Act.eval ⟨tm,[]⟩ y)).run P w=.ok () w->Holds r (Plain P w (binOp op T (Act.eval ⟨tm,[]⟩ x) (Act.eval ⟨tm,[]⟩ y)))->Holds r (cq P L J X st tm w D):=by
  intro r h1 h2 z hz hc;obtain⟨vv,d,g1,g2,g3,eA⟩:=h2 z hz hc;rw[g2,g3];exact dl S Y (run h1 g1) (eA _)
 unfold EO;split
 ·rename_i k a k' b j1 mr;rw[j1] at hx;rw[mr] at ai;refine plain (by rw[ic hx,ic ai];exact Sd _ _ _ _ _ _ _ _) ?_
  rw[ic hx,ic ai];unfold K6;split
  ·refine Holds.dT fun n hn=>?_
   have eY:D0 k a b=some n:=hn;unfold D0 at eY;split at eY
   ·cases eY
   ·rename_i hb;cases eY;exact .mk (by simp[binOp,Op.shift,hb]) fun av=>.int _ _
  ·refine Holds.dT fun n hn=>?_
   have eY:pb k a b=some n:=hn;unfold pb at eY;split at eY
   ·cases eY
   ·rename_i hb;cases eY;exact .mk (by simp[binOp,Op.shift,hb]) fun av=>.int _ _
  ·rename_i h1 h2;split
   ·rename_i ag;subst ag;exact Vp _ T k a b h1 h2
   ·exact .fail
 ·rename_i s t j1 mr;rw[j1] at hx;rw[mr] at ai;obtain⟨a,a9,M⟩:=g4 hx;obtain⟨b,hb,aB⟩:=g4 ai;subst M aB;refine plain (by rw[a9,hb];exact R7 _ _ _ _ _ _) ?_
  rw[a9,hb];exact Vn op T a b
 ·rename_i a b j1 mr;rw[j1] at hx;rw[mr] at ai;unfold Lp;split
  ·rename_i aU;rw[aU] at bv;split
   ·refine plain (by rw[iD hx,iD ai];exact Hd _ _ _ _ _ _) (Holds.ok ?_)
    rw[iD hx,iD ai];exact .mk (run_eql_bool bv.1 _ _) fun av=>.bool _
   ·refine plain (by rw[iD hx,iD ai];exact Hd _ _ _ _ _ _) (Holds.ok ?_)
    rw[iD hx,iD ai];exact .mk (run_neq_bool bv.1 _ _) fun av=>.bool _
   ·exact .fail
  ·exact .fail
 ·rename_i xs ys j1 mr;rw[j1] at hx;rw[mr] at ai;unfold Mh;split
  ·rename_i bx n z aU;rw[aU] at bv;cases hl:xs.length.beq n&&pi z xs with
   |false=>exact .fail
   |true=>
    simp only[cond_true];simp only[Bool.and_eq_true] at hl;have fr:=Nat.eq_of_beq_eq_true hl.1;split
    ·rename_i b hb;obtain⟨vs,hv,iQ,js⟩:=hx;obtain⟨us,hu,r3,uI⟩:=ai;have zP:=TL hb ⟨iQ,js⟩ ⟨r3,uI⟩;obtain⟨fields,dR,_,⟨fh,hz,_,_⟩,bN⟩:=bv;obtain⟨hg,Ev⟩:=bN rfl;have:=Ev vs us b w zP (Xv hl.2 ⟨iQ,js⟩);split
     ·refine plain ?_ (Holds.ok ?_)
      ·rw[hv,hu];simp[eqGuard,hg]
      ·rw[hv,hu];refine .mk (vv:=.bool b) ?_ fun av=>.bool _
       show((do pure (.bool (<-Op.equal T (.agg vs.toArray) (.agg us.toArray)))):Sem Value).run P w=_
       simp only[Sem.run_bind,this,Result.andThen_ok,Sem.run_pure]
     ·refine plain ?_ (Holds.ok ?_)
      ·rw[hv,hu];simp[eqGuard,hg]
      ·rw[hv,hu];refine .mk (vv:=.bool (!b)) ?_ fun av=>.bool _
       show((do pure (.bool (!(<-Op.equal T (.agg vs.toArray) (.agg us.toArray))))):Sem Value).run P w=_
       simp only[Sem.run_bind,this,Result.andThen_ok,Sem.run_pure]
     ·exact .fail
    ·exact .fail
  ·exact .fail
 ·exact .fail
theorem SQ{T:TypeId}{h7:Array (String×TypeId)}(aB:P.underlying T=some (.interface h7))(fv:TypeId)(cS:Option Int)(v:Value)(hv:v=match cS with|none=>.nilIface|some n=>.iface fv (.agg #[.int .i64 n])):
  (Op.equal T v .nilIface).run P w=.ok cS.isNone w:=by
 have h:∀d:Nat,(Op.equalIn (d+1) T v .nilIface).run P w=.ok cS.isNone w:=fun d=>by
  subst hv;cases cS<;>simp[Op.equalIn,run_underlying aB]
 exact h 9999
theorem V4(S:ae L J X B st tm w){C:Ctx}(ax:CtxOk P C){op:BinOp}{T mz:TypeId}{x y:Operand}(ar:D.op=.binOp op T x y mz)(Y:b0 st D.dst=true)(hn:x5 y=true):
  Holds (Du op (C.tt T) (aO C st T x)) (cq P L J X st tm w D):=by
 have ai:y=.const .nilIface:=by
  unfold x5 at hn;split at hn
  ·rfl
  ·cases hn
 subst ai;have hx:=cO S C T x;have bv:=ax.tt T;have key:∀(fv:TypeId) (cS:Option Int),(Act.eval ⟨tm,[]⟩ x=match cS with|none=>.nilIface|some n=>.iface fv (.agg #[.int .i64 n]))->Holds (yJ op (C.tt T) cS) (cq P L J X st tm w D):=by
  intro fv cS hv;unfold yJ;split
  ·rename_i aU;rw[aU] at bv;obtain⟨h7,bv⟩:=bv;have he:=SQ (P:=P) (w:=w) bv.1 fv cS _ hv;have hg:(eqGuard op T x (.const .nilIface) (Act.eval ⟨tm,[]⟩ x) .nilIface).run P w=.ok () w:=by
    rw[hv];cases cS<;>cases op<;>simp[eqGuard]
   split
   ·refine Holds.ok (dl S Y (vv:=.bool cS.isNone) ?_ (.bool _));unfold execOp;simp only[ar,Act.eval,Sem.run_bind,Result.andThen_ok,Sem.run_pure] at hg ⊢;rw[hg];simp only[Result.andThen_ok];have:(binOp .eql T (Act.eval ⟨tm,[]⟩ x) .nilIface).run P w=.ok (.bool cS.isNone) w:=by
     have e:binOp .eql T (Act.eval ⟨tm,[]⟩ x) .nilIface=(do pure (.bool (<-Op.equal T (Act.eval ⟨tm,[]⟩ x) .nilIface))):=by rw[hv];cases cS<;>rfl
     rw[e];simp only[Sem.run_bind,he,Result.andThen_ok,Sem.run_pure]
    simp only[Act.eval] at this;rw[this];rfl
   ·refine Holds.ok (dl S Y (vv:=.bool cS.isSome) ?_ (.bool _));unfold execOp;simp only[ar,Act.eval,Sem.run_bind,Result.andThen_ok,Sem.run_pure] at hg ⊢;rw[hg];simp only[Result.andThen_ok];have:(binOp .neq T (Act.eval ⟨tm,[]⟩ x) .nilIface).run P w=.ok (.bool cS.isSome) w:=by
     have e:binOp .neq T (Act.eval ⟨tm,[]⟩ x) .nilIface=(do pure (.bool (!(<-Op.equal T (Act.eval ⟨tm,[]⟩ x) .nilIface)))):=by rw[hv];cases cS<;>rfl
     rw[e];simp only[Sem.run_bind,he,Result.andThen_ok,Sem.run_pure];cases cS<;>rfl
    simp only[Act.eval] at this;rw[this];rfl
   ·exact .fail
  ·exact .fail
 unfold Du;split
 ·rename_i fv cS j1;rw[j1] at hx;have hx:a8 w (am X B st.sites) (.err fv cS) (Act.eval ⟨tm,[]⟩ x):=hx;exact key fv cS (by revert hx;generalize Act.eval ⟨tm,[]⟩ x=vv;intro hx;cases hx<;>rfl)
 ·rename_i j1;rw[j1] at hx;exact key 0 none hx
 ·exact .fail
theorem R'(S:ae L J X B st tm w){C:Ctx}(ax:CtxOk P C){T:TypeId}{x:Operand}{n:Int}{bx z q e}(ar:D.op=.makeInterface T x)(Y:b0 st D.dst=true)(aU:C.tt T=.struct bx q z e)
  (hx:aO C st T x=.av (.agg [.d (.int .i64 n)])):cq P L J X st tm w D (one (.err T (some n))) []:=by
 have bv:=ax.tt T;rw[aU] at bv;obtain⟨fields,hu,_⟩:=bv;have a':=cO S C T x;rw[hx] at a';obtain⟨vs,h1,h2,Z⟩:=a';match vs,h2,h1,Z with
 |[v],_,h1,Z=>
  have hv:=ic (Z 0 (by simp) (by simp))
  simp only[List.getElem_cons_zero] at hv;subst hv;refine dl S Y (vv:=.iface T (.agg #[.int .i64 n])) ?_ (.err _ _);unfold execOp;simp[ar,Instr.makeInterface,run_underlying hu,h1]
end
section
variable {P:Program}{L:World}{J:List Nat}{X:Nat->Prop}{B:Nat->Value}{st:ab}{tm:Array Value}{w:World}{D:Oper}
theorem qG(xs:List Int):flat .u8 xs=xs.map (aK.int .u8):=by
 unfold flat;induction xs with
 |nil=>rfl
 |cons x xs ih=>simp only[List.flatMap_cons,List.map_cons,ih];rfl
theorem KL{w:World}{av:Nat->Prop}{xs:List Int}{cs:List Value}(h:b' w av (flat .u8 xs) cs):cs=xs.map (Value.int .u8):=by
 obtain⟨h1,h2⟩:=h;rw[qG] at h1;apply List.ext_getElem
 ·rw[h1];simp
 ·intro j g1 g2;have g3:j<xs.length:=by simpa using g2
  have:=h2 j (by rw[qG];simpa using g3) g1
  have e:(flat .u8 xs)[j]'(by rw[qG];simpa using g3)=aK.int .u8 xs[j]:=by simp[qG]
  rw[e] at this;rw[ic this];simp
theorem Hq{src dst e:TypeId}{a:Addr}{len cap:Nat}{xs:List Int}(M:P.underlying src=some (.slice e))(he:P.underlying e=some (.int .u8))(Y:P.underlying dst=some .string)
  (hlen:xs.length=len) (hc:∀j u,(xs.map (Value.int .u8))[j]? =some u->w.cell? (a.add j)=some u):
  ∃b:ByteArray,(convert src dst (.slice (some a) len cap)).run P w=.ok (.string b) w/\b.data.toList=strOf xs:=by
 have hl:(loadCells a len).run P w=.ok (xs.map (Value.int .u8)).toArray w:=by
  have:=run_loadCells_list (P:=P) w a (xs.map (Value.int .u8)) hc;simpa[hlen] using this
 rw[run_convert_bytes_string w src dst e _ len cap M he Y,run_bytesToString w a len cap xs hl,foldl_push_bytes];exact⟨_,rfl,by simp[strOf]⟩
theorem vN{ti:b8}(h:isByte ti=true):ti=.int .u8:=by
 unfold isByte at h;split at h
 ·rfl
 ·cases h
theorem Wa(s:al):(bytesOf s).length=s.length:=by simp[bytesOf]
theorem XE(S:ae L J X B st tm w){C:Ctx}(ax:CtxOk P C){src dst:TypeId}{x:Operand}{o:Nat}(ar:D.op=.convert src dst x)(cZ:D.dst=some o)(Y:b0 st D.dst=true):
  Holds (rp C src dst o st (aO C st src x)) (cq P L J X st tm w D):=by
 have a':=cO S C src x;have M:=ax.tt src;have aB:=ax.tt dst;have run:∀{vv:Value} {w':World},(convert src dst (Act.eval ⟨tm,[]⟩ x)).run P w=.ok vv w'->(execOp (Act.eval ⟨tm,[]⟩) D).run P w=.ok (.value vv) w':=by
  intro vv w' h;unfold execOp;simp only[ar,Sem.run_bind,h,Result.andThen_ok,Sem.run_pure]
 have pk:∀{ti:b8},ti.ok P src->ti≠.none->∃d,P.underlying src=some d:=by
  intro ti h hn;cases ti with
  |none=>exact absurd rfl hn
  |int k=>exact⟨_,h.1⟩
  |bool=>exact⟨_,h.1⟩
  |str=>exact⟨_,h.1⟩
  |ptr=>obtain⟨_,h⟩:=h;exact⟨_,h.1⟩
  |func=>obtain⟨_,_,_,h⟩:=h;exact⟨_,h.1⟩
  |iface=>obtain⟨_,h⟩:=h;exact⟨_,h.1⟩
  |slice e t b=>exact⟨_,h.1.1⟩
  |map k e t=>exact⟨_,h.1.1⟩
  |struct bx n z eq=>obtain⟨f,h,_⟩:=h;exact⟨_,h⟩
  |arr e t n=>exact⟨_,h.1⟩
 unfold rp;split
 ·exact .fail
 ·rename_i k k' n ag hx hn;rw[hx] at a';rw[ag] at aB;obtain⟨d,lJ⟩:=pk M (by rintro h;exact absurd h (by simpa using hn))
  refine Holds.ok (dl S Y (run (vv:=.int k (k.wrap n)) ?_) (.int _ _));rw[ic a'];simp[convert,run_underlying lJ,run_underlying aB.1,Conv.intToInt]
 ·rename_i s ag hx hn;rw[hx] at a';rw[ag] at aB;obtain⟨b,hb,c9⟩:=g4 a';obtain⟨d,lJ⟩:=pk M (by rintro h;exact absurd h (by simpa using hn))
  refine Holds.ok (dl S Y (run (vv:=.string b) ?_) (.str _ _ c9));rw[hb];simp[convert,run_underlying lJ,run_underlying aB.1]
 ·rename_i e b xs eu o_ hx;cases lK:isByte (C.tt e) with
  |false=>exact .fail
  |true=>
   rw[hx] at a';rw[o_] at aB;rw[eu] at M;have he:=ax.tt e;rw[vN lK] at he;have a':a8 w (am X B st.sites) (.sl .u8 xs) (Act.eval ⟨tm,[]⟩ x):=a';have:∃b:ByteArray,(convert src dst (Act.eval ⟨tm,[]⟩ x)).run P w=.ok (.string b) w/\b.data.toList=strOf xs:=by
    generalize Act.eval ⟨tm,[]⟩ x=v at a';cases a' with
    |nil=>exact⟨_,run_convert_bytes_nil w src e M.1.1 he.1 _ _ dst aB.1,rfl⟩
    |sl _ _ a cap cs n hn hcap hb hl hc hr=>
     have:=KL (xs:=xs) ⟨hl,hr⟩;subst this;exact Hq M.1.1 he.1 aB.1 hn.symm hc
   obtain⟨b,h1,h2⟩:=this;exact Holds.ok (dl S Y (run h1) (.str _ _ h2))
 ·rename_i e b u eu o_ hx;cases lK:isByte (C.tt e) with
  |false=>exact .fail
  |true=>
   rw[hx] at a';rw[o_] at aB;rw[eu] at M;have he:=ax.tt e;rw[vN lK] at he;have a':Act.eval ⟨tm,[]⟩ x=.slice none 0 0:=a';refine Holds.ok (dl S Y (run (vv:=.string ByteArray.empty) ?_) (.str _ _ rfl));rw[a'];exact run_convert_bytes_nil w src e M.1.1 he.1 _ _ dst aB.1
 ·rename_i e b F s eu o_ hx;split
  ·rename_i xs cY;cases lK:isByte (C.tt e) with
   |false=>exact .fail
   |true=>
    rw[hx] at a';rw[o_] at aB;rw[eu] at M;have he:=ax.tt e;rw[vN lK] at he;have hv:=Yx a' cY;have:∃b:ByteArray,(convert src dst (Act.eval ⟨tm,[]⟩ x)).run P w=.ok (.string b) w/\b.data.toList=strOf xs:=by
     rw[hv];obtain⟨cs,h1,hc⟩:=S.row cY;rcases hc with⟨h2,Z⟩|⟨a3,c,h2,Z,aH⟩
     ·subst Z;rw[h2];exact⟨_,run_convert_bytes_nil w src e M.1.1 he.1 _ _ dst aB.1,rfl⟩
     ·have:=KL (xs:=xs) (h' h1);subst this;rw[h2];exact Hq M.1.1 he.1 aB.1 rfl (fun j u hu=>by rw[f_];exact Z j u hu)
    obtain⟨b,h1,h2⟩:=this;exact Holds.ok (dl S Y (run h1) (.str _ _ h2))
  ·exact .fail
 ·rename_i e b s eu o_ hx;cases lK:isByte (C.tt e) with
  |false=>exact .fail
  |true=>
   rw[hx] at a';rw[o_] at aB;rw[eu] at M;have he:=ax.tt e;rw[vN lK] at he;obtain⟨gm,hb,c9⟩:=g4 a';have cC:(convert src dst (Act.eval ⟨tm,[]⟩ x)).run P w=.ok (.slice (some ⟨w.heap.size,0,none⟩) gm.size (grownCap w gm.size 0 e)) (Go.Lib.bytesWorld w e gm):=by
    rw[hb];exact Go.Lib.run_convert_string_bytes w src dst e gm M.1 aB.1.1 he.1
   have hcap:gm.size<=grownCap w gm.size 0 e:=grownCap_ge w gm.size 0 e;refine Holds.eV fun r hr=>?_
   have t':gm.size<=maxLen:=by
    have hr:(if s.length<=maxLen then some () else none)=some r:=hr
    split at hr
    ·rename_i h;rw[<-c9] at h;simpa using h
    ·cases hr
   have hsz:(Go.Lib.bytesCells w e gm).size=grownCap w gm.size 0 e:=by
    simp only[Go.Lib.bytesCells,Array.size_append,Array.size_map,Array.size_replicate];have:gm.data.size=gm.size:=rfl;omega
   have hlen:gm.size=(bytesOf s).length:=by rw[Wa,<-c9];rfl
   have gI:ae L J X (fun F=>if F=o then .slice (some ⟨w.heap.size,0,none⟩) gm.size (grownCap w gm.size 0 e) else B F) {st with sites:=b2 st.sites o (.row (aT st o) .u8 (bytesOf s))} tm (Go.Lib.bytesWorld w e gm):=by
    refine S.make (fun b hb=>Go.Lib.bytesWorld_at_old w e gm b hb) rfl rfl rfl (by rw[Go.Lib.bytesWorld_size];omega) (fun O M=>ja M)
     (fun b hb=>by have hb:=List.mem_singleton.1 hb;subst hb;exact⟨Nat.le_refl _,by rw[Go.Lib.bytesWorld_size];exact Nat.lt_succ_self _⟩) ?_
    intro ba aw eN dy go aiW ai4;refine⟨e,gm.data.toList.map fun b=>Value.int .u8 b.toNat,⟨?_,.inr ⟨_,_,Go.Lib.bytesCells w e gm,_,dy.trans (by rw[hlen]),⟨(fun h=>by obtain⟨_,z,_,_,ej⟩:=aB;exact ej h),.inr ⟨rfl,Nat.le_refl _⟩⟩,Go.Lib.bytesWorld_at_new w e gm,by rw[<-hlen];exact hcap,grownCap_le_maxLen w gm.size 0 e t',?_,?_⟩⟩,fun j g1 g2=>?_⟩
    ·rw[List.length_map,<-hlen];exact(Nat.mul_one _).symm
    ·rw[hsz];exact(Nat.mul_one _).symm
    ·have h1:(bytesOf s).length*au .u8=(gm.data.toList.map fun b=>Value.int .u8 b.toNat).length:=by rw[List.length_map,<-hlen];exact Nat.mul_one _
     rw[h1];simp only[Go.Lib.bytesCells,Array.toList_append,Array.toList_map];exact List.take_left
    ·subst c9;simp only[qG,bytesOf,List.getElem_map];exact .int _ _
   refine h9 (us:=[(o,.row (aT st o) .u8 (bytesOf s))]) gI Y (run cC) ?_
   refine⟨rfl,Ref.mk (O:=.row (aT st o) .u8 (bytesOf s)) ?_ rfl (by simp[bO])⟩
   simp only[aR,ce];simp
 ·exact .fail
end
section
variable {P:Program}{L:World}{J:List Nat}{X:Nat->Prop}{B:Nat->Value}{st:ab}{tm:Array Value}{w:World}{D:Oper}
theorem Kj(S:ae L J X B st tm w){C:Ctx}{x:Operand}(ar:D.op=.move x\/D.op=.assign x)(Y:b0 st D.dst=true)(T:TypeId):cq P L J X st tm w D (aO C st T x) []:=by
 refine dl S Y (vv:=Act.eval ⟨tm,[]⟩ x) ?_ (cO S C T x);unfold execOp;rcases ar with h|h<;>simp only[h,Sem.run_pure]
theorem Kc(S:ae L J X B st tm w){C:Ctx}{c a b:Operand}{t:Bool}{T:TypeId}(ar:D.op=.pick c a b)(Y:b0 st D.dst=true)(hc:aO C st T c=.av (.ah (.d (.bool t)))):
  cq P L J X st tm w D (aO C st T (if t then a else b)) []:=by
 refine dl S Y (vv:=Act.eval ⟨tm,[]⟩ (if t then a else b)) ?_ (cO S C T _)
 unfold execOp;have:=CM S hc;cases t<;>simp[ar,this,asBool]
theorem Td(S:ae L J X B st tm w){C:Ctx}{x:Operand}{t:Bool}{T dY:TypeId}(ar:D.op=.unOp .not dY x)(Y:b0 st D.dst=true)(hc:aO C st T x=.av (.ah (.d (.bool t)))):
  cq P L J X st tm w D (one (.bool (!t))) []:=by
 refine dl S Y (vv:=.bool (!t)) ?_ (.bool _);unfold execOp;simp[ar,CM S hc,Op.unary]
theorem Te(S:ae L J X B st tm w){C:Ctx}{x:Operand}{k:IntKind}{n:Int}{T dY:TypeId}(ar:D.op=.unOp .neg dY x)(Y:b0 st D.dst=true)(hc:aO C st T x=.av (.ah (.d (.int k n)))):
  cq P L J X st tm w D (one (.int k (k.wrap (0-n)))) []:=by
 refine dl S Y (vv:=.int k (k.wrap (0-n))) ?_ (.int _ _);unfold execOp;simp[ar,je S hc,Op.unary,Op.intArith]
theorem Aq(S:ae L J X B st tm w){C:Ctx}{x:Operand}{v:aI}{T:TypeId}(ar:D.op=.nilCheck x)(Y:b0 st D.dst=true)(hc:aO C st T x=v)
  (hv:∀vv,b4 B st.sites w (am X B st.sites) v vv->∃a,vv=.pointer (some a)):cq P L J X st tm w D v []:=by
 have:=cO S C T x;rw[hc] at this;obtain⟨a,a9⟩:=hv _ this;refine dl S Y (vv:=Act.eval ⟨tm,[]⟩ x) ?_ this;unfold execOp;simp[ar,a9]
theorem Uw(S:ae L J X B st tm w){C:Ctx}{x:Operand}{i:Nat}{as:List bg}{a:bg}{T:TypeId}(ar:D.op=.extract x i)(Y:b0 st D.dst=true)(hc:aO C st T x=.iP as)(a9:as[i]? =some a):
  cq P L J X st tm w D (.av a) []:=by
 have a':=cO S C T x;rw[hc] at a';obtain⟨vs,h1,h2,Z⟩:=a';obtain⟨hi,afD⟩:=List.getElem?_eq_some_iff.1 a9;have jw:i<vs.length:=by omega
 refine dl S Y (vv:=vs[i]) ?_ (by rw[<-afD];exact Z i hi jw)
 unfold execOp;simp[ar,h1,Instr.extract,jw]
theorem IN(S:ae L J X B st tm w){C:Ctx}{x y:Operand}{k k':IntKind}{a b:Int}{T:TypeId}{ri:Bool}{cD:Array TypeId}(ar:D.op=.call {callee:=.builtin (if ri then .max else .min),args:=#[x,y],argTypes:=cD})(Y:b0 st D.dst=true)
  (hx:aO C st T x=.av (.ah (.d (.int k a)))) (ai:aO C st T y=.av (.ah (.d (.int k' b)))):cq P L J X st tm w D (one (.int k (if ri then gx a b else yU a b))) []:=by
 refine dl S Y (vv:=.int k (if ri then gx a b else yU a b)) ?_ (.int _ _)
 unfold execOp;cases ri<;>simp[ar,resolve,invoke,builtin,je S hx,je S ai,Builtin.max_,Builtin.min_,Builtin.max2,Builtin.min2,gx,yU]
theorem YD(S:ae L J X B st tm w){C:Ctx}{x y z u v:Operand}{k ay ao be b9:IntKind}{a b c d e:Int}{T:TypeId}{cD:Array TypeId}(ar:D.op=.call {callee:=.builtin .max,args:=#[x,y,z,u,v],argTypes:=cD})(Y:b0 st D.dst=true)
  (hx:aO C st T x=.av (.ah (.d (.int k a)))) (ai:aO C st T y=.av (.ah (.d (.int ay b)))) (hz:aO C st T z=.av (.ah (.d (.int ao c)))) (hu:aO C st T u=.av (.ah (.d (.int be d)))) (hv:aO C st T v=.av (.ah (.d (.int b9 e)))):
  cq P L J X st tm w D (one (.int k (gx (gx (gx (gx a b) c) d) e))) []:=by
 refine dl S Y (vv:=.int k (gx (gx (gx (gx a b) c) d) e)) ?_ (.int _ _);unfold execOp;simp[ar,resolve,invoke,builtin,je S hx,je S ai,je S hz,je S hu,je S hv,Builtin.max_,Builtin.max2,gx]
theorem XF(S:ae L J X B st tm w){C:Ctx}:∀{xs:List Operand} {bj:List (Nat×Nat)},step.mX C st xs=some bj->xs.length=bj.length/\
  ∀i (h:i<bj.length) (aa:i<xs.length),Ref st.sites (bj[i]).1 (bj[i]).2 (Act.eval ⟨tm,[]⟩ (xs[i])=bO (B (bj[i]).1)):=by
 intro xs;induction xs with
 |nil=>intro bj h;simp only[step.mX] at h;cases h;exact⟨rfl,fun i h=>by simp at h⟩
 |cons x xs ih=>
  intro bj h;simp only[step.mX] at h;split at h
  ·rename_i o s l hx hl;cases h;obtain⟨h1,h2⟩:=ih hl;refine⟨by simp[h1],fun i g1 g2=>?_⟩
   cases i with
   |zero=>
    have:=cO S C 0 x;rw[hx] at this;obtain⟨b,hb,O,r1,r2,hJ⟩:=this;exact⟨O,r1,r2,fun e=>by simp only[List.getElem_cons_zero];rw[hJ e];exact hb⟩
   |succ i=>simpa using h2 i (by simpa using g1) (by simpa using g2)
  ·cases h
theorem Tw(S:ae L J X B st tm w){C:Ctx}{g:FuncId}{first captured:Array Operand}{bj:List (Nat×Nat)}(ar:D.op=.makeFunc (.func g) first captured)(Y:b0 st D.dst=true)(hf:first.toList.isEmpty=true)
  (hc:step.mX C st captured.toList=some bj):cq P L J X st tm w D (bD (.clo g bj)) []:=by
 obtain⟨h1,h2⟩:=XF S hc;refine dl S Y (vv:=.func (.func g) #[] (captured.toList.map (Act.eval ⟨tm,[]⟩)).toArray) ?_ ⟨captured.toList.map (Act.eval ⟨tm,[]⟩),rfl,by simpa using h1,fun i g1 g2=>?_⟩
 ·have:first=#[]:=by simpa using hf
  unfold execOp;simp only[ar,Instr.makeFunc,Sem.run_bind,Sem.run_pure,Result.andThen_ok,this];simp;apply Array.ext';simp
 ·have:=h2 i g1 (by simpa using g2)
  simpa using this
theorem I5(S:ae L J X B st tm w){C:Ctx}{bx:List (Nat×Nat)}:∀(parts:List (Nat×Operand)) (z:List aq) (cells:Array Value),ca B st.sites w (am X B st.sites) z cells.toList->
  Holds (step.l9 C st bx z parts) (fun v us=>us=[]/\∃iE,Instr.fill (bx.toArray[·]?) cells (parts.map fun p=>(p.1,Act.eval ⟨tm,[]⟩ p.2))=some iE/\b4 B st.sites w (am X B st.sites) v (.agg iE)):=by
 intro parts;induction parts with
 |nil=>intro z cells h;exact Holds.ok ⟨rfl,cells,rfl,cells.toList,by simp,h.1,h.2⟩
 |cons p parts ih=>
  obtain⟨i,x⟩:=p;intro z cells h;simp only[step.l9];split
  ·rename_i off n a hf a9;cases hb:(a.cells.length.beq n&&fY a.cells&&Nat.ble (off+n) z.length) with
   |false=>exact .fail
   |true=>
    simp only[cond_true];simp only[Bool.and_eq_true] at hb;obtain⟨⟨aS,aG⟩,bL⟩:=hb;have aS:=Nat.eq_of_beq_eq_true aS;have bL:=Nat.le_of_ble_eq_true bL;have a':=cO S C 0 x;rw[oL a9] at a';have nU:=fP.cells (a':fP B st.sites w _ a _) aG;have hsz:(Act.eval ⟨tm,[]⟩ x).cells.size=n:=by rw[<-aS,<-nU.1];simp
    have cX:off+(Act.eval ⟨tm,[]⟩ x).cells.size<=cells.size:=by
     have:=h.1;simp at this;omega
    have:=ih (Jk.bf z off a.cells) (Jk.bf cells.toList off (Act.eval ⟨tm,[]⟩ x).cells.toList).toArray (by simpa using ca.bf off h nU)
    intro y ai hc;obtain⟨g1,iE,g2,g3⟩:=this y ai hc;refine⟨g1,iE,?_,g3⟩;simp only[List.map_cons,Instr.fill];have FR:bx.toArray[i]? =some (off,n):=by simpa using hf
    simp only[FR];have c1:¬((Act.eval ⟨tm,[]⟩ x).cells.size≠n\/off+(Act.eval ⟨tm,[]⟩ x).cells.size>cells.size):=by omega
    have c2:(decide ((Act.eval ⟨tm,[]⟩ x).cells.size≠n)||decide (off+(Act.eval ⟨tm,[]⟩ x).cells.size>cells.size))=false:=by
     simp;omega
    have il:off+n<=cells.size:=by omega
    rw[HO _ _ _ cX];simp only[Bool.decide_or,hsz] at*;simpa[c2,il] using g2
  ·exact .fail
theorem XH(S:ae L J X B st tm w){C:Ctx}(ax:CtxOk P C){T:TypeId}{parts:Array (Nat×Operand)}{bx:List (Nat×Nat)}{n:Nat}{z:List aq}{eq:Bool}(aU:C.tt T=.struct bx n z eq)(ar:D.op=.build T parts)
  (Y:b0 st D.dst=true):Holds (step.l9 C st bx z parts.toList) (cq P L J X st tm w D):=by
 have bv:=ax.tt T;rw[aU] at bv;obtain⟨fields,dR,⟨hf,_⟩,⟨fh,hz,hzz,zw⟩,_⟩:=bv;obtain⟨ay,ao,be⟩:=qc hzz;intro y ai hc;obtain⟨g1,iE,g2,g3⟩:=I5 S parts.toList z fh ⟨ay,fun j h aa=>be _ _ _ _ j h aa⟩ y ai hc
 rw[g1];refine dl S Y (vv:=.agg iE) ?_ g3;cases hi:P.info? T with
 |none=>simp[hi] at hz
 |some RH=>
  simp only[hi,Option.map_some,Option.some.injEq,Prod.mk.injEq] at hz;have hb:P.built T (parts.toList.map fun p=>(p.1,Act.eval ⟨tm,[]⟩ p.2))=some iE:=by
   unfold Program.built;simp only[hi,dR,hz.2,hf];exact g2
  have b3:P.built T (parts.map fun p=>(p.1,Act.eval ⟨tm,[]⟩ p.2)).toList=some iE:=by simpa using hb
  unfold execOp;simp only[ar,Sem.run_bind,run_build w T _ iE b3,Result.andThen_ok,Sem.run_pure]
end
def l4(w:World)(b:Nat)(D:Obj):World:={w with heap:=w.heap.setIfInBounds b D}
theorem J5{b:ByteArray}{l:al}(h:b.data.toList=l):Value.string b=gw l:=by
 subst h;rfl
def kE{az:Type}:List (al×az)->al->Nat->Option (Nat×az)
 |[],_,_=>none
 |(k,v)::r,n,i=>bif k==n then some (i,v) else kE r n (i+1)
theorem VP{az:Type}(n:al):∀(es:List (al×az)) (i:Nat),(kE es n i).map (·.2)=jO es n:=by
 intro es;induction es with
 |nil=>intro i;rfl
 |cons p es ih=>
  intro i;simp only[kE,jO];cases p.1==n with
  |true=>rfl
  |false=>exact ih (i+1)
theorem Tv{az:Type}(n:al)(v:az):∀(es:List (al×az)) (i:Nat),kE es n i=none->nS es n v=es++[(n,v)]:=by
 intro es;induction es with
 |nil=>intro i _;rfl
 |cons p es ih=>
  intro i h;simp only[kE] at h;simp only[nS];cases an:(p.1==n) with
  |true=>rw[an] at h;cases h
  |false=>rw[an] at h;simp only[cond_false,ih (i+1) h,List.cons_append]
theorem Uo{az:Type}(n:al)(v:az):∀(es:List (al×az)) (i j:Nat) (v0:az),kE es n i=some (j,v0)->i<=j/\(∃p,es[j-i]? =some p/\p.1=n)/\nS es n v=es.modify (j-i) fun p=>(p.1,v):=by
 intro es;induction es with
 |nil=>intro i j v0 h;cases h
 |cons p es ih=>
  intro i j v0 h;simp only[kE] at h;simp only[nS];cases an:(p.1==n) with
  |true=>
   rw[an] at h;cases h;refine⟨Nat.le_refl _,⟨p,by simp,eq_of_beq an⟩,?_⟩
   simp
  |false=>
   rw[an] at h;obtain⟨h1,⟨q,h2,Z⟩,aH⟩:=ih (i+1) j v0 h;have e:j-i=(j-(i+1))+1:=by omega
   refine⟨by omega,⟨q,by rw[e];simpa using h2,Z⟩,?_⟩
   rw[e,cond_false,aH,List.modify_succ_cons]
theorem HQ{t:aE}(n:al):∀(es:List (al×den t)) (h7:List MapEntry) (i:Nat),h7.map (fun e=>(e.key,e.val))=jg t es->
  Instr.findNow .string (gw n) h7 i=some ((kE es n i).map fun p=>(p.1,mB t p.2))
 |[],h7,i,h=>by
  have:h7=[]:=by simpa[jg] using h
  subst this;rfl
 |(k,v)::es,[],i,h=>by simp[jg] at h
 |(k,v)::es,m::h7,i,h=>by
  simp only[jg,List.map_cons,List.cons.injEq,Prod.mk.injEq] at h;obtain⟨⟨h1,h2⟩,Z⟩:=h;have ih:=HQ n es h7 (i+1) Z;have M:Instr.sameNow .string (gw n) m.key=some (k==n):=by
   rw[h1];show some ((⟨n.toArray⟩:ByteArray)==⟨k.toArray⟩)=_;rw[bytes_beq];congr 1
   rw[Bool.eq_iff_iff];simp only[beq_iff_eq];exact eq_comm
  unfold Instr.findNow kE;rw[M];cases k==n with
  |true=>simp only[cond_true,Option.map_some,h2]
  |false=>simp only[cond_false];exact ih
section
variable {P:Program}{w:World}{gW kf T:TypeId}{t:aE}
theorem T8{gW:TypeId}(ag:P.underlying gW=some .string)(c:Bool)(s:al)(n:Nat):(Instr.checkKey c (n+1) gW (gw s)).run P w=.ok () w:=by
 simp[Instr.checkKey,run_underlying ag,gw,Result.andThen]
theorem sM{gW:TypeId}(ag:P.underlying gW=some .string)(c:Bool)(s:al):(Instr.checkKey c 10000 gW (gw s)).run P w=.ok () w:=T8 ag c s 9999
theorem wu{gW:TypeId}(ag:P.underlying gW=some .string){es:List (al×den t)}{arr:Array MapEntry}(h:l7 arr=jg t es)(n:al):
  (Instr.findKey gW (gw n) arr.toList).run P w=.ok ((kE es n 0).map fun p=>(p.1,mB t p.2)) w:=by
 simp[Instr.findKey,run_underlying ag,HQ n es arr.toList 0 h,Result.andThen]
theorem Vo(s:al):(Instr.keyThatStays (gw s) (gw s)).run P w=.ok (gw s) w:=by
 have:Instr.sameBits 10000 (gw s) (gw s)=true:=by
  show((⟨s.toArray⟩:ByteArray)==⟨s.toArray⟩)=true;rw[bytes_beq];simp
 simp[Instr.keyThatStays,this]
theorem _E{t:aE}{d:aK}{x:den t}{v:Value}{av:Nat->Prop}(h:DY t d=some x)(hr:a8 w av d v):v=mB t x:=by
 unfold DY at h;split at h
 ·cases h;cases hr;rfl
 ·cases h;cases hr;rfl
 ·cases h
theorem T6(aU:P.underlying T=some (.map gW kf))(ag:P.underlying gW=some .string){b:Nat}{arr:Array MapEntry}{clock:Nat}{es:List (al×den t)}(hb:w.heap[b]? =some (.map arr clock))(he:l7 arr=jg t es)(n:al)(x:den t):
  ∃oe nV,(Instr.mapUpdate T (.map (some b)) (gw n) (mB t x)).run P w=.ok () (l4 w b (.map oe nV))/\l7 oe=jg t (nS es n x):=by
 cases hm:kE es n 0 with
 |none=>
  refine⟨arr.push ⟨gw n,mB t x,clock⟩,clock+1,?_,?_⟩
  ·have hf:=wu (w:=w) ag he n;rw[hm] at hf;simp[Instr.mapUpdate,run_underlying aU,MapKept.run_getObj_map hb,sM ag,hf,MapKept.run_setObj_map _ hb,Result.andThen,l4]
  ·rw[Tv n x es 0 hm];unfold l7 jg at he ⊢;simp[he]
 |some p=>
  obtain⟨j,v0⟩:=p;obtain⟨_,⟨q,h2,Z⟩,aH⟩:=Uo n x es 0 j v0 hm;rw[Nat.sub_zero] at h2 aH;have hlen:arr.size=es.length:=li.size (b:=b) he;have hj:j<arr.size:=by rw[hlen];exact(List.getElem?_eq_some_iff.1 h2).1
  have ab1:((arr[j]?).map (·.key)).getD (gw n)=gw n:=by
   have bp:=congrArg (fun l=>l[j]?) he
   simp only[l7,jg,List.getElem?_map,h2,Option.map_some,Array.getElem?_toList] at bp;cases a9:arr[j]? with
   |none=>rfl
   |some e=>
    rw[a9] at bp;simp only[Option.map_some,Option.some.injEq,Prod.mk.injEq] at bp;simp[bp.1,Z]
  refine⟨arr.modify j fun e=>{e with key:=gw n,val:=mB t x},clock,?_,?_⟩
  ·have hf:=wu (w:=w) ag he n;rw[hm] at hf;simp[Instr.mapUpdate,run_underlying aU,MapKept.run_getObj_map hb,sM ag,hf,MapKept.run_setObj_map _ hb,Result.andThen,l4,ab1,Vo]
  ·rw[aH];unfold l7 jg at he ⊢;apply List.ext_getElem?;intro i;have bp:=congrArg (fun l=>l[i]?) he
   simp only[List.getElem?_map,Array.getElem?_toList] at bp;simp only[List.getElem?_map,Array.getElem?_toList,Array.getElem?_modify,List.getElem?_modify];by_cases oo:j=i
   ·subst oo;simp only[if_true,h2,Option.map_some,<-Z];cases a9:arr[j]? with
    |none=>rw[a9,h2] at bp;cases bp
    |some e=>rfl
   ·simp only[oo,if_false];cases a9:arr[i]? <;>cases b3:es[i]? <;>rw[a9,b3] at bp<;>simp_all
end
section
variable {P:Program}{L:World}{J:List Nat}{X:Nat->Prop}{B:Nat->Value}{st:ab}{tm:Array Value}{w:World}{D:Oper}
theorem Ay(w:World)(b a3:Nat)(D:Obj)(h:a3≠b):(l4 w b D).heap[a3]? =w.heap[a3]? :=by
 simp only[l4,Array.getElem?_setIfInBounds];rw[if_neg (fun e=>h e.symm)]
theorem Se(w:World)(b:Nat)(D cS:Obj)(h:w.heap[b]? =some cS):(l4 w b D).heap[b]? =some D:=by
 have:=(Array.getElem?_eq_some_iff.1 h).1;simp[l4,Array.getElem?_setIfInBounds,this]
theorem ae.ZD(S:ae L J X B st tm w){o s b:Nat}{t:aE}{es sk:List (al×den t)}{D:Obj}{oe:Array MapEntry}{nV:Nat}(hl:look st.sites o=some (.map s t es))(bI:B o=.map (some b))(hg:w.heap[b]? =some D)
  (he:l7 oe=jg t sk):ae L J X B {st with sites:=b2 st.sites o (.map s t sk)} tm (l4 w b (.map oe nV)):=by
 have u3:b∈bu (B o):=fL (by rw[bI];rfl)
 have ci:bM st.sites o:=⟨_,hl,rfl⟩;have ln:∀F,bM (b2 st.sites o (.map s t sk)) F <-> bM st.sites F:=Ia hl rfl;have bU:∀a3,am X B (b2 st.sites o (.map s t sk)) a3 <-> am X B st.sites a3:=by
  intro a3;unfold am;simp only[ln]
 have hne:∀a3,¬am X B st.sites a3->a3≠b:=by
  rintro a3 h rfl;exact h (.inr ⟨o,ci,u3⟩)
 have hsz:(l4 w b (.map oe nV)).heap.size=w.heap.size:=by simp[l4]
 refine S.n7 (fun F aj bh=>?_) (fun a3 h _=>Ay w b a3 _ (hne a3 h)) (fun a3 h _=>by rw[bU];exact h) (fun go F aj bh=>?_) (fun F aN a3 h1 h2=>S.c8 F aN a3 ((ln F).1 h1) ((ln aN).1 h2))
  (fun F a3 h=>S.b1 F a3 ((ln F).1 h)) (fun F a3 h hb=>by rw[hsz];exact S.dP ((ln F).1 h) hb) ?_ (by rw[hsz];exact Nat.le_refl _)
 ·rw[ce];by_cases e:o=F
  ·subst e;rw[hl] at bh;cases bh;exact⟨.map s t sk,by simp,Nat.le_refl _,fun _=>rfl⟩
  ·exact⟨aj,by simp[e,bh],Nat.le_refl _,fun _=>rfl⟩
 ·rw[ce] at bh;by_cases e:o=F
  ·subst e;simp only[if_true,Option.some.injEq] at bh;subst bh;exact .inr ⟨b,bI,oe,nV,Se w b _ _ hg,he⟩
  ·simp only[e,if_false] at bh;refine .inl ⟨bh,rfl,fun rK a3 b3=>Ay w b a3 _ ?_⟩
   rintro rfl;exact e (S.c8 o F _ ci ⟨aj,bh,rK⟩ u3 b3)
 ·have aV:=S.frame;refine⟨aV.os,aV.tape,aV.output,by rw[hsz];exact aV.size,fun a3 h1 h2=>?_⟩
  rw[Ay w b a3 _ ?_]
  ·exact aV.block a3 h1 h2
  ·rintro rfl;rcases(S.b1 o _ ci u3).2 with h|h
   ·exact h2 h
   ·omega
theorem ae.makeMap(S:ae L J X B st tm w){o:Nat}{t:aE}:
  ae L J X (fun F=>if F=o then .map (some w.heap.size) else B F) {st with sites:=b2 st.sites o (.map (aT st o) t [])} tm (w.alloc (.map #[] 0)):=
 S.make (fun b hb=>RowKit.Below.heap_alloc w _ b hb) rfl rfl rfl (by simp) (fun O M=>ja M) (fun b hb=>by have hb:=List.mem_singleton.1 hb;subst hb;exact⟨Nat.le_refl _,by simp⟩)
  (fun M bI go _ _=>⟨w.heap.size,bI,#[],0,heap_alloc_new w _,rfl⟩)
end
end Go.Jk
