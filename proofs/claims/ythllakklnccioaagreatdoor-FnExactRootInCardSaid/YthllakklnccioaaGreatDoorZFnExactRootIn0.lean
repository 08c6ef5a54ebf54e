/- FnExactRootIn: the program's RootIn returns what the reference's returns, for all arguments. (part 1 of 6: JnCore, JnGlob, JnState, JnExec, JnFoot, JnCode, JnTurn, JnOps1, JnOps2, JnOps3, JnOps4, JnOps5, JnOps6, JnOps7, JnOps8, JnOps9, JnOps10, JnOpsD, JnOps11, JnOps12, JnOps13, JnOps14, JnOps15, JnOps16) Conditions: none beyond the statement. -/
import Derived.Calls
import Derived.Below
import Derived.WalkKit
import Derived.Laws.AppendOwn
import Derived.Great.BuildSlice
import Derived.IntWalk
import Derived.Laws.Tables
import Derived.MapKept
import Derived.Laws.BytesArg
import Derived.Lib.ConvBytes
set_option linter.unusedSimpArgs false
set_option linter.unusedVariables false
namespace Go.Jk
abbrev al:=List UInt8
structure a4 where
 path:al
 kind:Int
 mode:Int
 text:al
structure dq where
 name:al
 kind:Int
 be:al
structure aM where
 name:al
 be:al
 bb:List dq
 br:List a4
structure ahL where
 name:al
 text:al
structure U4 where
 name:al
 text:al
structure Source where
 name:al
 sum:al
structure Piece where
 name:al
 eS:al
structure ac6 where
 name:al
 be:al
 lets:List U4
 builds:List dq
 runs:List dq
 sources:List Source
 pieces:List Piece
 steps:List al
structure ahp where
 at_:Int
 lines:List al
inductive aF where
 |i64|u8|u32|bool|str|entry|need|pack|file|lt|source|piece|recipe|hunk|r'
 deriving DecidableEq
@[reducible] def den:aF->Type
 |.i64|.u8|.u32=>Int
 |.bool=>Bool
 |.str=>al
 |.entry=>a4
 |.need=>dq
 |.pack=>aM
 |.file=>ahL
 |.lt=>U4
 |.source=>Source
 |.piece=>Piece
 |.recipe=>ac6
 |.hunk=>ahp
 |.r'=>List Bool
inductive aL:Type where
 |int (k:IntKind) (n:Int)
 |bool (b:Bool)
 |str (s:al)
 |sl (t:aF) (xs:List (den t))
 |fn (g:FuncId) (bE:List (List aL))
 |map (t:aF) (es:List (al×den t))
 |err (T:Nat) (D:Option Int)
def enc:(t:aF)->den t->List aL
 |.i64,n=>[.int .i64 n]
 |.u8,n=>[.int .u8 n]
 |.u32,n=>[.int .u32 n]
 |.bool,b=>[.bool b]
 |.str,s=>[.str s]
 |.entry,e=>[.str e.path,.int .i64 e.kind,.int .i64 e.mode,.str e.text]
 |.need,n=>[.str n.name,.int .i64 n.kind,.str n.be]
 |.pack,p=>[.str p.name,.str p.be,.sl .need p.bb,.sl .entry p.br]
 |.file,f=>[.str f.name,.str f.text]
 |.lt,f=>[.str f.name,.str f.text]
 |.source,f=>[.str f.name,.str f.sum]
 |.piece,f=>[.str f.name,.str f.eS]
 |.recipe,r=>[.str r.name,.str r.be,.sl .lt r.lets,.sl .need r.builds,.sl .need r.runs,.sl .source r.sources,.sl .piece r.pieces,.sl .str r.steps]
 |.hunk,h=>[.int .i64 h.at_,.sl .str h.lines]
 |.r',b=>[.sl .bool b]
def ax:aF->Nat
 |.i64|.u8|.u32|.bool|.str|.r'=>1
 |.entry=>4
 |.need=>3
 |.pack=>4
 |.file|.lt|.source|.piece|.hunk=>2
 |.recipe=>8
def dec:(t:aF)->List aL->Option (den t)
 |.i64,[.int .i64 n]=>some n
 |.u8,[.int .u8 n]=>some n
 |.u32,[.int .u32 n]=>some n
 |.bool,[.bool b]=>some b
 |.str,[.str s]=>some s
 |.entry,[.str a,.int .i64 k,.int .i64 m,.str b]=>some ⟨a,k,m,b⟩
 |.need,[.str a,.int .i64 k,.str b]=>some ⟨a,k,b⟩
 |.pack,[.str a,.str b,.sl .need az,.sl .entry es]=>some ⟨a,b,az,es⟩
 |.file,[.str a,.str b]=>some ⟨a,b⟩
 |.lt,[.str a,.str b]=>some ⟨a,b⟩
 |.source,[.str a,.str b]=>some ⟨a,b⟩
 |.piece,[.str a,.str b]=>some ⟨a,b⟩
 |.recipe,[.str a,.str b,.sl .lt U,.sl .need bs,.sl .need kv,.sl .source aS,.sl .piece ps,.sl .str cV]=>some ⟨a,b,U,bs,kv,aS,ps,cV⟩
 |.hunk,[.int .i64 n,.sl .str U]=>some ⟨n,U⟩
 |.r',[.sl .bool b]=>some b
 |_,_=>none
theorem fc:∀(t:aF) (x:den t),(enc t x).length=ax t:=by
 intro t x;cases t<;>rfl
theorem iQ(t:aF):0<ax t:=by cases t<;>decide
theorem nw:∀(t:aF) (ds:List aL) (x:den t),dec t ds=some x->enc t x=ds:=by
 intro t ds x h;unfold dec at h;split at h<;>first|(cases h;rfl)|cases h
def flat(t:aF)(xs:List (den t)):List aL:=xs.flatMap (enc t)
theorem dQ(t:aF)(xs:List (den t)):(flat t xs).length=xs.length*ax t:=by
 unfold flat;induction xs with
 |nil=>simp
 |cons x xs ih=>simp[List.flatMap_cons,fc,ih,Nat.add_mul,Nat.add_comm]
theorem kI(t:aF)(xs ys:List (den t)):flat t (xs++ys)=flat t xs++flat t ys:=by
 simp[flat,List.flatMap_append]
theorem flat_get(t:aF)(xs:List (den t))(i j:Nat)(x:den t)(hx:xs[i]? =some x)(hj:j<ax t):
  (flat t xs)[i*ax t+j]? =(enc t x)[j]? :=by
 induction xs generalizing i with
 |nil=>simp at hx
 |cons y ys ih=>
  cases i with
  |zero=>
   simp only[List.getElem?_cons_zero,Option.some.injEq] at hx;subst hx;simp only[Nat.zero_mul,Nat.zero_add,flat,List.flatMap_cons];rw[List.getElem?_append_left (by rw[fc];exact hj)]
  |succ i=>
   simp only[List.getElem?_cons_succ] at hx;have:=ih i hx;simp only[flat,List.flatMap_cons] at this ⊢;rw[List.getElem?_append_right (by rw[fc,Nat.add_mul];omega),fc]
   rw[<-this];congr 1
   rw[Nat.add_mul];omega
theorem _8(t:aF)(xs:List (den t))(i:Nat)(x:den t):
  flat t (xs.set i x)=(flat t xs).take (i*ax t)++(if i<xs.length then enc t x else [])++(flat t xs).drop ((i+1)*ax t):=by
 induction xs generalizing i with
 |nil=>simp[flat]
 |cons y ys ih=>
  cases i with
  |zero=>
   simp only[List.set_cons_zero,flat,List.flatMap_cons,Nat.zero_mul,List.take_zero,List.nil_append,List.length_cons,Nat.zero_lt_succ,if_true,Nat.zero_add,Nat.one_mul];rw[List.drop_append_of_le_length (by rw[fc];omega)]
   rw[show List.drop (ax t) (enc t y)=[] from List.drop_eq_nil_of_le (by rw[fc];exact Nat.le_refl _)]
   rfl
  |succ i=>
   have h:=ih i;simp only[flat] at h;simp only[List.set_cons_succ,flat,List.flatMap_cons,List.length_cons];rw[h];have e1:List.take ((i+1)*ax t) (enc t y++ys.flatMap (enc t))=enc t y++(ys.flatMap (enc t)).take (i*ax t):=by
    rw[List.take_append,List.take_of_length_le (by rw[fc,Nat.add_mul];omega),fc]
    congr 2
    rw[Nat.add_mul];omega
   have e2:List.drop ((i+1+1)*ax t) (enc t y++ys.flatMap (enc t))=(ys.flatMap (enc t)).drop ((i+1)*ax t):=by
    rw[List.drop_append,List.drop_eq_nil_of_le (by rw[fc,Nat.add_mul,Nat.add_mul];omega),fc,List.nil_append]
    congr 1
    rw[Nat.add_mul (i+1) 1];omega
   rw[e1,e2];simp only[Nat.add_lt_add_iff_right,List.append_assoc]
def qp:TypeId:=999999
def lc:TypeId:=5
def nZ:List Nat:=[]
def o'(w:World):Prop:=True
theorem aeb{w w':World}(h:∀b,b∈nZ->w'.heap[b]? =w.heap[b]?)(k:o' w):o' w':=trivial
theorem akx{w:World}(k:o' w)(b:Nat)(h:b∈nZ):b<w.heap.size:=by
 unfold nZ at h;cases h
inductive aw:Type where
 |d (v:aL)
 |nil (t:aF) -- mM nil slice
 |own (o s:Nat) -- mM whole of a row of rR own
 |ptr (o s off:Nat) -- a pointer an4 a box of rR own
 |ee (cells:List aL) (off:Nat) -- a pointer Bh cells uN H9 only read
 |ej (o s:Nat) (t:aF) (k off:Nat) -- a pointer Bh anx k of a row of rR own,Hm cell 'oL
 |clo (g:FuncId) (bE:List (Nat×Nat)) -- a closure over boxes of rR own
 |cB (v:Value) -- an2 this value
 |fresh (t:aF) (xs:List (den t)) -- a row uN anE else holds (abP caller and callee alone)
 |eK (t:aF) (xs:List (den t)) -- mM same,with mM rows in Hm elements
 |ev -- in a aef first cell:nil,or mM aef own address (strings.anA)
 |any
inductive bz:Type where
 |ai (l:aw)
 |agg (U:List aw)
inductive aK:Type where
 |av (a:bz)
 |jd (as:List bz)
inductive Site:Type where
 |box (s:Nat) (cells:List aw)
 |row (s:Nat) (t:aF) (xs:List (den t))
 |cR (s:Nat) (t:aF) (xs:List (den t))
 |map (s:Nat) (t:aF) (es:List (al×den t))
 |deep (s:Nat) (t:aF) (xs:List (den t)) -- a row of rR own with mM rows in Hm elements
 |dead (s:Nat)
def Site.b1:Site->Nat
 |.box s _|.row s _ _|.cR s _ _|.map s _ _|.deep s _ _|.dead s=>s
def Site.live:Site->Bool
 |.box _ _|.row _ _ _|.map _ _ _|.deep _ _ _=>true
 |_=>false
def look{aH:Type}:List (Nat×aH)->Nat->Option aH
 |[],_=>none
 |(k,v)::r,n=>bif k.beq n then some v else look r n
def b8{aH:Type}:List (Nat×aH)->Nat->aH->List (Nat×aH)
 |[],n,v=>[(n,v)]
 |(k,w)::r,n,v=>bif k.beq n then(k,v)::r else(k,w)::b8 r n v
theorem jb{a b:Nat}(h:¬a=b):a.beq b=false:=by
 cases e:a.beq b
 ·rfl
 ·exact absurd (Nat.eq_of_beq_eq_true e) h
theorem cn{aH:Type}(l:List (Nat×aH))(n m:Nat)(v:aH):look (b8 l n v) m=if n=m then some v else look l m:=by
 induction l with
 |nil=>
  simp only[b8,look];by_cases h:n=m
  ·subst h;simp
  ·have:n.beq m=false:=jb h;simp[this,h]
 |cons p l ih=>
  obtain⟨k,w⟩:=p;simp only[b8];by_cases h:k=n
  ·subst h;simp only[Nat.beq_refl,cond_true,look];by_cases hm:k=m
   ·subst hm;simp
   ·have:k.beq m=false:=jb hm;simp[this,hm]
  ·have hb:k.beq n=false:=jb h;simp only[hb,cond_false,look];by_cases hm:k=m
   ·subst hm;have:¬n=k:=fun e=>h e.symm
    simp[this]
   ·have:k.beq m=false:=jb hm;simp[this,ih]
structure ad where
 cF:List (Nat×aK)
 sites:List (Nat×Site)
 nt:Nat
def ad.get(st:ad)(t:Nat):aK:=match look st.cF t with|some v=>v|none=>.av (.ai .any)
def ad.O(st:ad)(o:Nat):Option Site:=look st.sites o
def ad.set(st:ad)(t:Nat)(v:aK):ad:={st with cF:=b8 st.cF t v}
def ad.dn(st:ad)(o:Nat)(s:Site):ad:={st with sites:=b8 st.sites o s}
@[simp] theorem ad.D6(st:ad)(t u:Nat)(v:aK):(st.set t v).get u=if t=u then v else st.get u:=by
 unfold ad.set ad.get;rw[cn];by_cases h:t=u<;>simp[h]
@[simp] theorem ad._p(st:ad)(t o:Nat)(v:aK):(st.set t v).O o=st.O o:=rfl
@[simp] theorem ad.acJ(st:ad)(t:Nat)(v:aK):(st.set t v).nt=st.nt:=rfl
@[simp] theorem ad.W4(st:ad)(o u:Nat)(s:Site):(st.dn o s).get u=st.get u:=rfl
@[simp] theorem ad.mf(st:ad)(o F:Nat)(s:Site):(st.dn o s).O F=if o=F then some s else st.O F:=by
 unfold ad.dn ad.O;simp only[cn]
@[simp] theorem ad.XI(st:ad)(o:Nat)(s:Site):(st.dn o s).nt=st.nt:=rfl
def m7:(t:aF)->den t->Value
 |.i64,n=>.int .i64 n
 |.bool,b=>.bool b
 |_,_=>undef
def gA(l:al):Value:=.string ⟨l.toArray⟩
def mu(arr:Array MapEntry):List (Value×Value):=arr.toList.map fun e=>(e.key,e.val)
def jz(t:aF)(es:List (al×den t)):List (Value×Value):=es.map fun p=>(gA p.1,m7 t p.2)
def lA(w:World)(b:Nat)(t:aF)(es:List (al×den t)):Prop:=∃arr clock,w.heap[b]? =some (.map arr clock)/\mu arr=jz t es
theorem lA.of{w w':World}{b:Nat}{t:aF}{es:List (al×den t)}(h:w'.heap[b]? =w.heap[b]?)(m:lA w b t es):lA w' b t es:=by
 obtain⟨arr,c,h1,h2⟩:=m;exact⟨arr,c,h.trans h1,h2⟩
theorem lA.lt{w:World}{b:Nat}{t:aF}{es:List (al×den t)}(m:lA w b t es):b<w.heap.size:=by
 obtain⟨arr,c,h1,h2⟩:=m;rcases Nat.lt_or_ge b w.heap.size with h|h
 ·exact h
 ·rw[Array.getElem?_eq_none h] at h1;cases h1
inductive bi(w:World)(av:Nat->Prop):aL->Value->Prop where
 |int (k:IntKind) (n:Int):bi w av (.int k n) (.int k n)
 |bool (b:Bool):bi w av (.bool b) (.bool b)
 |str (l:al) (s:ByteArray) (h:s.data.toList=l):bi w av (.str l) (.string s)
 |nil (t:aF):bi w av (.sl t []) (.slice none 0 0)
 |sl (t:aF) (xs:List (den t)) (a:Addr) (cap:Nat) (cs:List Value) (n:Nat) (hn:n=xs.length) (hcap:n<=cap) (hb:xs≠[]->¬av a.block)
   (hl:cs.length=(flat t xs).length)
   (hc:∀j u,cs[j]? =some u->w.cell? (a.add j)=some u)
   (hr:∀j (h:j<(flat t xs).length) (ab:j<cs.length),bi w av ((flat t xs)[j]) (cs[j])):bi w av (.sl t xs) (.slice (some a) n cap)
 |fn (g:FuncId) (bE:List (List aL)) (bs:List Nat) (ij:Nat->List Value) (lb:Array Value) (AK:lb=(bs.map fun b=>Value.pointer (some ⟨b,0,none⟩)).toArray) (o8:bs.length=bE.length)
   (hb:∀b,b∈bs->¬av b) (a3:∀b,b∈bs->b<w.heap.size)
   (hl:∀i (h:i<bE.length),(ij i).length=(bE[i]).length)
   (hc:∀i (h:i<bs.length) j u,(ij i)[j]? =some u->w.cell? ⟨bs[i],j,none⟩=some u)
   (hr:∀i (h:i<bE.length) j (h1:j<(bE[i]).length) (h2:j<(ij i).length),bi w av ((bE[i])[j]) ((ij i)[j])):
   bi w av (.fn g bE) (.func (.func g) #[] lb)
 |sn (t:aF):bi w av (.map t []) (.map none)
 |map (t:aF) (es:List (al×den t)) (b:Nat) (hb:¬av b) (hm:lA w b t es):bi w av (.map t es) (.map (some b))
 |pY (T:TypeId):bi w av (.err T none) .nilIface
 |err (T:TypeId) (n:Int):bi w av (.err T (some n)) (.iface T (.agg #[.int .i64 n]))
theorem bi.h4{w:World}{av:Nat->Prop}{d:aL}{v:Value}(r:bi w av d v):v.oneCell'=true:=by
 cases r<;>rfl
def u_(v:Value):Prop:=v=.slice none 0 0\/∃b n c,v=.slice (some ⟨b,0,none⟩) n c
def a6:Value->Option Nat
 |.slice (some a) _ _=>some a.block
 |.pointer (some a)=>some a.block
 |.map (some b)=>some b
 |_=>none
def bY:Value->Value
 |.tuple vs=>vs.toList.headD undef
 |v=>v
def bJ:Value->List Nat
 |.tuple vs=>vs.toList.flatMap fun v=>(a6 v).toList
 |v=>(a6 v).toList
theorem fS{v:Value}{b:Nat}(h:a6 v=some b):b∈bJ v:=by
 cases v<;>first|(show b∈(a6 _).toList;rw[h];simp)|cases h
section
variable (B:Nat->Value)(sites:List (Nat×Site))(w:World)(av:Nat->Prop)
def Ref(o s:Nat)(p:Prop):Prop:=∃O,look sites o=some O/\s<=O.b1/\(O.b1=s->p)
def dj:aw->Value->Prop
 |.d x,v=>bi w av x v
 |.nil _,v=>v=.slice none 0 0
 |.own o s,v=>v.oneCell'=true/\Ref sites o s (v=bY (B o))
 |.ptr o s off,v=>∃b,v=.pointer (some ⟨b,off,none⟩)/\Ref sites o s (bY (B o)=.pointer (some ⟨b,0,none⟩))
 |.ee cells off,v=>∃b D,v=.pointer (some ⟨b,D+off,none⟩)/\¬av b/\b<w.heap.size/\∃cs:List Value,cs.length=cells.length/\(∀j u,cs[j]? =some u->w.cell? ⟨b,D+j,none⟩=some u)/\
   ∀j (h:j<cells.length) (ab:j<cs.length),bi w av (cells[j]) (cs[j])
 |.ej o s t k off,v=>∃b,v=.pointer (some ⟨b,k*ax t+off,none⟩)/\Ref sites o s (∃n c,bY (B o)=.slice (some ⟨b,0,none⟩) n c)
 |.clo g bE,v=>∃vs:List Value,v=.func (.func g) #[] vs.toArray/\vs.length=bE.length/\∀i (h:i<bE.length) (ab:i<vs.length),Ref sites (bE[i]).1 (bE[i]).2 (vs[i]=bY (B (bE[i]).1))
 |.cB u,v=>v=u
 |.fresh _ _,_=>False
 |.eK _ _,_=>False
 |.ev,_=>True
 |.any,_=>True
def aF.ek:aF->Bool
 |.u8=>true
 |_=>false
def k3(u:Bool)(e:TypeId)(cur:Array Value)(bG:Nat×Nat):Prop:=(u=true->e=lc)/\(bG=(0,0)\/u=true/\cur.size<=bG.1)
def rowAt(w:World)(u:Bool)(e:TypeId)(size:Nat)(v:Value)(n:Nat)(xs:List Value):Prop:=
 xs.length=n*size/\((v=.slice none 0 0/\n=0)\/
  ∃g cap cur bG,v=.slice (some ⟨g,0,none⟩) n cap/\k3 u e cur bG/\w.heap[g]? =some (.cells cur e bG)/\n<=cap/\cap<=maxLen/\cur.size=cap*size/\cur.toList.take (n*size)=xs)
theorem tw(w:World)(u:Bool)(e:TypeId)(size:Nat):rowAt w u e size (.slice none 0 0) 0 []:=⟨by simp,.inl ⟨rfl,rfl⟩⟩
theorem is{w:World}{u:Bool}{e:TypeId}{size:Nat}{v:Value}{n:Nat}{xs:List Value}(h:rowAt w u e size v n xs):bY v=v/\bJ v=(a6 v).toList:=by
 rcases h.2 with⟨rfl,_⟩|⟨g,cap,cur,bG,rfl,_⟩<;>exact⟨rfl,rfl⟩
theorem tR{w:World}{u:Bool}{e:TypeId}{size:Nat}{v:Value}{n:Nat}{xs:List Value}{b:Nat}(h:rowAt w u e size v n xs)(hb:b∈bJ v):a6 v=some b:=by
 rw[(is h).2] at hb;simpa using hb
theorem pm{w w':World}{u:Bool}{e:TypeId}{size:Nat}{v:Value}{n:Nat}{xs:List Value}(h:rowAt w u e size v n xs)(hb:∀b,a6 v=some b->w'.heap[b]? =w.heap[b]?):rowAt w' u e size v n xs:=by
 refine⟨h.1,?_⟩;rcases h.2 with hn|⟨g,cap,cur,bG,hv,r1,r2,g9⟩
 ·exact .inl hn
 ·refine .inr ⟨g,cap,cur,bG,hv,r1,?_,g9⟩;rw[hb g (by rw[hv];rfl)];exact r2
def ch(w:World)(av:Nat->Prop)(ds:List aL)(vs:List Value):Prop:=vs.length=ds.length/\∀j (h:j<ds.length) (ab:j<vs.length),bi w av (ds[j]) (vs[j])
def aL.plain:aL->Bool
 |.sl _ _|.fn _ _|.map _ _=>false
 |_=>true
inductive Deep(w:World)(av:Nat->Prop):List aL->List Value->List Value->Prop where
 |nil:Deep w av [] [] []
 |row (u:aF) (ys:List (den u)) (e:TypeId) (U:List Value) (aj:∀d,d∈flat u ys->d.plain=true) {c:Value} {ds:List aL} {cs az:List Value} (h:rowAt w u.ek e (ax u) c ys.length U) (hr:ch w av (flat u ys) U) (k:Deep w av ds cs az):Deep w av (.sl u ys::ds) (c::cs) (c::az)
 |leaf {d:aL} {c:Value} {ds:List aL} {cs az:List Value} (aj:d.plain=true) (h:bi w av d c) (k:Deep w av ds cs az):Deep w av (d::ds) (c::cs) az
def mD(cells:List aw)(T:TypeId)(cur:List Value)(b:Nat):Prop:=cells.head?=some .ev->T=qp/\(cur.head?=some (.pointer none)\/cur.head?=some (.pointer (some ⟨b,0,none⟩)))
def fW:bz->Value->Prop
 |.ai l,v=>dj B sites w av l v
 |.agg U,v=>∃vs:List Value,v=.agg vs.toArray/\vs.length=U.length/\∀j (h:j<U.length) (ab:j<vs.length),dj B sites w av (U[j]) (vs[j])
def b_:aK->Value->Prop
 |.av a,v=>fW B sites w av a v
 |.jd as,v=>∃vs:List Value,v=.tuple vs.toArray/\vs.length=as.length/\∀j (h:j<as.length) (ab:j<vs.length),fW B sites w av (as[j]) (vs[j])
def it(o:Nat):Site->Prop
 |.box _ cells=>∃b T,∃cur:List Value,B o=.pointer (some ⟨b,0,none⟩)/\w.heap[b]? =some (.cells cur.toArray T (0,0))/\cur.length=cells.length/\
   (∀u∈cur,u.oneCell'=true)/\mD cells T cur b/\∀j (h:j<cells.length) (ab:j<cur.length),dj B sites w av (cells[j]) (cur[j])
 |.row _ t xs=>∃e,∃cs:List Value,rowAt w t.ek e (ax t) (B o) xs.length cs/\∀j (h:j<(flat t xs).length) (ab:j<cs.length),bi w av ((flat t xs)[j]) (cs[j])
 |.cR _ t xs=>bi w av (.sl t xs) (bY (B o))/\u_ (bY (B o))
 |.map _ t es=>∃b,B o=.map (some b)/\lA w b t es
 |.deep _ t xs=>∃e v,∃az cs:List Value,B o=.tuple (v::az).toArray/\(bJ (B o)).Nodup/\rowAt w t.ek e (ax t) v xs.length cs/\Deep w av (flat t xs) cs az
 |.dead _=>True
end
theorem im{v:Value}{az:List Value}{b:Nat}:b∈bJ (.tuple (v::az).toArray) <-> a6 v=some b\/∃n,n∈az/\a6 n=some b:=by
 simp[bJ]
def bX(sites:List (Nat×Site))(o:Nat):Prop:=∃O,look sites o=some O/\O.live=true
def an(X:Nat->Prop)(B:Nat->Value)(sites:List (Nat×Site))(b:Nat):Prop:=X b\/∃o,bX sites o/\b∈bJ (B o)
structure Fr(J:List Nat)(L w:World):Prop where
 os:w.os=L.os
 tape:w.tape=L.tape
 output:w.output=L.output
 size:L.heap.size<=w.heap.size
 block:∀b,b<L.heap.size->b∉J->w.heap[b]? =L.heap[b]?
theorem Fr.refl(J:List Nat)(w:World):Fr J w w:=⟨rfl,rfl,rfl,Nat.le_refl _,fun _ _ _=>rfl⟩
structure hO(w:World)(J:List Nat)(X:Nat->Prop):Prop where
 ok:o' w
 J:∀b,b∈nZ->b∉J
 X:∀b,b∈nZ->¬X b
 lt:∀b,b∈nZ->b<w.heap.size
theorem hO.less{w:World}{J:List Nat}{X X':Nat->Prop}(G:hO w J X)(h:∀b,b∈nZ->X' b->X b):hO w J X':=⟨G.ok,G.J,fun b hb hx=>G.X b hb (h b hb hx),G.lt⟩
theorem hO.adP{w:World}{J:List Nat}{X X':Nat->Prop}(G:hO w J X)(h:∀b,X' b->X b\/b∈J):hO w J X':=⟨G.ok,G.J,fun b hb hx=>(h b hx).elim (G.X b hb) (G.J b hb),G.lt⟩
structure ah(L:World)(J:List Nat)(X:Nat->Prop)(B:Nat->Value)(st:ad)(tm:Array Value)(w:World):Prop where
 nt:tm.size=st.nt
 cF:∀t,b_ B st.sites w (an X B st.sites) (st.get t) (tm.getD t undef)
 sites:∀o O,look st.sites o=some O->it B st.sites w (an X B st.sites) o O
 de:∀o F b,bX st.sites o->bX st.sites F->b∈bJ (B o)->b∈bJ (B F)->o=F
 b7:∀o b,bX st.sites o->b∈bJ (B o)->¬X b/\(b∈J\/L.heap.size<=b)
 frame:Fr J L w
 old:∀b,X b->b<w.heap.size
 eS:hO L J X
inductive cd:Type where
 |none
 |int (k:IntKind)
 |bool
 |str
 |ptr
 |func
 |slice (e:TypeId) (t:aF) (bytes:Nat)
 |struct (bN:List (Nat×Nat)) (n:Nat) (z:List aw) (eq:Bool)
 |map (k e:TypeId) (t:aF)
 |arr (e:TypeId) (t:aF) (n:Nat)
 |iface
def we:(t:aF)->Option (den t)
 |.i64|.u8|.u32=>some (0:Int)
 |.bool=>some false
 |.str=>some ([]:al)
 |_=>none
def sA:aF->Option aw
 |.i64=>some (.d (.int .i64 0))
 |.u8=>some (.d (.int .u8 0))
 |.u32=>some (.d (.int .u32 0))
 |.bool=>some (.d (.bool false))
 |.str=>some (.d (.str []))
 |_=>none
def cd.agg:cd->Bool
 |.struct _ _ _ _|.arr _ _ _=>true
 |_=>false
def cd.known:cd->Bool
 |.none=>false
 |_=>true
def cd.size:cd->Nat
 |.struct _ n _ _=>n
 |.arr _ _ n=>n
 |_=>1
def cd.zero:cd->Option (List aw)
 |.none=>Option.none
 |.int k=>some [.d (.int k 0)]
 |.bool=>some [.d (.bool false)]
 |.str=>some [.d (.str [])]
 |.ptr=>some [.cB (.pointer Option.none)]
 |.func=>some [.cB .nilFunc]
 |.slice _ t _=>some [.nil t]
 |.struct _ _ z _=>some z
 |.map _ _ _=>some [.cB (.map Option.none)]
 |.arr _ t n=>(sA t).map (List.replicate n)
 |.iface=>some [.cB .nilIface]
inductive Arg:Type where
 |av (a:bz)
 |dH (cells:List aw)
structure u6:Type 1 where
 H:Type
 comp:Option H
 dH:H->List (List aw)
 eQ:H->List bz
 ew:H->List aw -- rows uN anT ad9,as anU aoh back
abbrev aT:=List Arg->u6
def u6.fail:u6:=⟨Unit,Option.none,fun _=>[],fun _=>[],fun _=>[]⟩
structure Ctx:Type 1 where
 tt:TypeId->cd
 bN:FuncId->Option aT
 kt:FuncId->Option FuncId:=fun _=>none
 m_:FuncId->Bool:=fun _=>false
 op:FuncId->Bool:=fun _=>false
 ha:FuncId->Bool:=fun _=>false -- a ZR copy check
 bs:FuncId->Bool:=fun _=>false -- a ZR String
 gt:Nat->Option ((t:aF)×List (den t)):=fun _=>none -- mM anu tables
 dP:Bool:=false -- rows of rows H9 made as rR own,whole
structure c5:Type 1 where
 H:Type
 comp:Option H
 val:H->aK
 us:H->List (Nat×Site)
 qt:H->Bool
def c5.fail:c5:=⟨Unit,Option.none,fun _=>.av (.ai .any),fun _=>[],fun _=>false⟩
def c5.ok(v:aK):c5:=⟨Unit,some (),fun _=>v,fun _=>[],fun _=>true⟩
def c5.e8(v:aK)(us:List (Nat×Site)):c5:=⟨Unit,some (),fun _=>v,fun _=>us,fun _=>true⟩
def c5.d'{H:Type}(c:Option H)(f:H->aK):c5:=⟨H,c,f,fun _=>[],fun _=>true⟩
def c5.e3{H:Type}(c:Option H)(f:H->aK)(us:H->List (Nat×Site)):c5:=⟨H,c,f,us,fun _=>true⟩
def bk{aH:Type}(xs:List aH)(i:Int):Option aH:=if 0<=i then xs[i.toNat]? else none
def e9(n:Nat)(i:Int):Option Nat:=if 0<=i/\i<n then some i.toNat else none
def dw{aH:Type}(xs:List aH)(cG hi:Int):Option (List aH):=if 0<=cG/\cG<=hi/\hi<=xs.length then some ((xs.take hi.toNat).drop cG.toNat) else none
def room:Nat:=140737488355328
def dx{aH:Type}(bytes:Nat)(xs ys:List aH):Option (List aH):=if(xs.length+ys.length)*bytes<=room/\xs.length+ys.length<=maxLen then some (xs++ys) else none
def n3(s t:al):Option al:=if((s.length+t.length:Nat):Int)>IntKind.i64.max then none else some (s++t)
def si(k:IntKind)(x y:Int):Option Int:=if y=0 then none else some (k.wrap (x.tdiv y))
def sg(x y:Int):Option Int:=if y=0 then none else some (x.tmod y)
def FI(k:IntKind)(x y:Int):Option Int:=if y<0 then none else some (k.wrap (x*2^(min y.toNat k.bits)))
def nD(k:IntKind)(x y:Int):Option Int:=if y<0 then none else some (x.fdiv (2^(min y.toNat k.bits)))
def lP{aH:Type}(bytes:Nat)(n c:Int)(z:aH):Option (List aH):=if 0<=n/\n<=c/\c*bytes<=room/\c<=maxLen then some (List.replicate n.toNat z) else none
def gB(x y:Int):Int:=if y>x then y else x
def zY(x y:Int):Int:=if y<x then y else x
def QV(k:IntKind)(x y:Int):Int:=k.wrap (BitVec.ofInt k.bits x &&& BitVec.ofInt k.bits y).toNat
def Sg(k:IntKind)(x y:Int):Int:=k.wrap (BitVec.ofInt k.bits x ||| BitVec.ofInt k.bits y).toNat
def se(k:IntKind)(x y:Int):Int:=k.wrap (BitVec.ofInt k.bits x ^^^ BitVec.ofInt k.bits y).toNat
def bytesOf(s:al):List Int:=s.map fun b=>(b.toNat:Int)
def strOf(xs:List Int):al:=xs.map fun n=>UInt8.ofNat n.toNat
abbrev one(d:aL):aK:=.av (.ai (.d d))
abbrev bP(l:aw):aK:=.av (.ai l)
def uc(ti:cd):Value->aK
 |.int k n=>one (.int k n)
 |.bool b=>one (.bool b)
 |.string s=>one (.str s.data.toList)
 |.slice none 0 0=>match ti with|.slice _ t _=>bP (.nil t)|_=>bP (.cB (.slice none 0 0))
 |.map none=>match ti with|.map _ _ t=>one (.map t [])|_=>bP (.cB (.map none))
 |.agg _|.tuple _=>bP .any
 |v=>bP (.cB v)
def aP(C:Ctx)(st:ad)(T:TypeId):Operand->aK
 |.tmp t=>st.get t
 |.const v=>uc (C.tt T) v
 |.global g=>bP (.cB (.pointer (some ⟨g,0,none⟩)))
 |.func f=>bP (.clo f [])
def rowOf(st:ad)(o s:Nat):Option ((t:aF)×List (den t)):=
 match st.O o with
 |some (.row am t xs)=>bif am.beq s then some ⟨t,xs⟩ else none
 |some (.cR am t xs)=>bif am.beq s then some ⟨t,xs⟩ else none
 |_=>none
def ls(st:ad)(o s:Nat):Option ((t:aF)×List (den t)):=
 match st.O o with
 |some (.deep am t xs)=>bif am.beq s then some ⟨t,xs⟩ else none
 |_=>none
def oI(st:ad)(o s:Nat):Option ((t:aF)×List (den t)):=match rowOf st o s with
 |some x=>some x
 |none=>ls st o s
def fs(st:ad)(o s:Nat):Option (List aw):=
 match st.O o with
 |some (.box am cells)=>bif am.beq s then some cells else none
 |_=>none
def mapOf(st:ad):aw->Option ((t:aF)×List (al×den t))
 |.d (.map t es)=>some ⟨t,es⟩
 |.own o s=>match st.O o with
  |some (.map am t es)=>bif am.beq s then some ⟨t,es⟩ else none
  |_=>none
 |_=>none
def jZ{aH:Type}:List (al×aH)->al->Option aH
 |[],_=>none
 |(k,v)::r,n=>bif k==n then some v else jZ r n
def oz{aH:Type}:List (al×aH)->al->aH->List (al×aH)
 |[],n,v=>[(n,v)]
 |(k,w)::r,n,v=>bif k==n then(k,v)::r else(k,w)::oz r n v
def FG:(t:aF)->aL->Option (den t)
 |.i64,.int .i64 n=>some n
 |.bool,.bool b=>some b
 |_,_=>none
def uI:(t:aF)->Option (den t)->Option aL
 |.i64,D=>some (.int .i64 (D.getD 0))
 |.bool,D=>some (.bool (D.getD false))
 |_,_=>none
def aY(st:ad)(o:Nat):Nat:=match st.O o with|some x=>x.b1+1|none=>0
def lJ(st:ad)(o s:Nat)(t:aF)(xs:List (den t)):List (Nat×Site):=match st.O o with
 |some (.cR _ _ _)=>[]
 |_=>[(o,.cR s t xs)]
def jj(st:ad):aw->Option (aL×List (Nat×Site))
 |.d v=>some (v,[])
 |.nil t=>some (.sl t [],[])
 |.own o s=>match rowOf st o s with
  |some ⟨t,xs⟩=>some (.sl t xs,lJ st o s t xs)
  |none=>match ls st o s with
   |some ⟨t,xs⟩=>some (.sl t xs,[(o,.cR s t xs)])
   |none=>none
 |.clo g []=>some (.fn g [],[])
 |_=>none
def g4(st:ad):List aw->Option (List aL×List (Nat×Site))
 |[]=>some ([],[])
 |l::U=>match jj st l,g4 st U with
  |some (d,us),some (ds,vs)=>some (d::ds,us++vs)
  |_,_=>none
def aF.gU:aF->Bool
 |.pack|.recipe|.hunk|.r'=>true
 |_=>false
def sink(st:ad):aw->Option (aL×List (Nat×Site))
 |.d (.int k n)=>some (.int k n,[])
 |.d (.bool b)=>some (.bool b,[])
 |.d (.str s)=>some (.str s,[])
 |.nil t=>some (.sl t [],[])
 |.own o s=>match st.O o with
  |some (.row am t xs)=>bif am.beq s&&!t.gU then some (.sl t xs,[(o,.dead s)]) else none
  |_=>none
 |_=>none
def sinks(st:ad):List aw->Option (List aL×List (Nat×Site))
 |[]=>some ([],[])
 |l::U=>match sink st l,sinks st U with
  |some (d,us),some (ds,vs)=>some (d::ds,us++vs)
  |_,_=>none
def bz.cells:bz->List aw
 |.ai l=>[l]
 |.agg U=>U
def aw.storable:aw->Bool
 |.any|.ev|.fresh _ _|.eK _ _|.ee _ _|.ej _ _ _ _ _=>false
 |.cB (.agg _)|.cB (.tuple _)=>false
 |_=>true
def gf:List aw->Bool
 |[]=>true
 |l::U=>l.storable&&gf U
def cut(agg:Bool)(off n:Nat)(U:List aw):Option aK:=
 bif agg then(bif Nat.ble (off+n) U.length then some (.av (.agg ((U.drop off).take n))) else none)
 else match U.drop off with|l::_=>some (bP l)|[]=>none
def cC(ds:List aL):List aw:=ds.map .d
def a8{aH:Type}(old:List aH)(off:Nat)(new:List aH):List aH:=old.take off++new++old.drop (off+new.length)
def y2:aL->aL->Option Bool
 |.int k a,.int k' b=>if k=k' then some (a==b) else none
 |.bool a,.bool b=>some (a==b)
 |.str a,.str b=>some (a==b)
 |_,_=>none
def ud:List aw->List aw->Option Bool
 |[.d a],[.d b]=>y2 a b
 |.d a::as,.d b::bs=>match y2 a b,ud as bs with
  |some x,some y=>some (x&&y)
  |_,_=>none
 |_,_=>none
def OF(op:BinOp)(k:IntKind)(x y:Int):c5:=
 match op with
 |.add=>.ok (one (.int k (k.wrap (x+y))))
 |.sub=>.ok (one (.int k (k.wrap (x-y))))
 |.mul=>.ok (one (.int k (k.wrap (x*y))))
 |.quo=>.d' (si k x y) fun n=>one (.int k n)
 |.rem=>.d' (sg x y) fun n=>one (.int k n)
 |.and=>.ok (one (.int k (QV k x y)))
 |.or=>.ok (one (.int k (Sg k x y)))
 |.xor=>.ok (one (.int k (se k x y)))
 |.eql=>.ok (one (.bool (x==y)))
 |.neq=>.ok (one (.bool (x !=y)))
 |.lss=>.ok (one (.bool (decide (x<y))))
 |.leq=>.ok (one (.bool (decide (x<=y))))
 |.gtr=>.ok (one (.bool (decide (x>y))))
 |.geq=>.ok (one (.bool (decide (x>=y))))
 |_=>.fail
def Ok(op:BinOp)(s t:al):c5:=
 match op with
 |.add=>.d' (n3 s t) fun r=>one (.str r)
 |.eql=>.ok (one (.bool (s==t)))
 |.neq=>.ok (one (.bool (!(s==t))))
 |.lss=>.ok (one (.bool (Op.bytesLess s t)))
 |.leq=>.ok (one (.bool (Op.bytesLess s t||s==t)))
 |.gtr=>.ok (one (.bool (!(Op.bytesLess s t||s==t))))
 |.geq=>.ok (one (.bool (!(Op.bytesLess s t))))
 |_=>.fail
def NA(op:BinOp)(k:IntKind)(a:Int)(k':IntKind)(b:Int):c5:=
 match op with
 |.shl=>.d' (FI k a b) fun n=>one (.int k n)
 |.shr=>.d' (nD k a b) fun n=>one (.int k n)
 |op=>if k=k' then OF op k a b else .fail
def NW(op:BinOp)(ti:cd)(a b:Bool):c5:=
 match ti with
 |.bool=>match op with
  |.eql=>.ok (one (.bool (a==b)))
  |.neq=>.ok (one (.bool (!(a==b))))
  |_=>.fail
 |_=>.fail
def pX:List aw->List aw->Bool
 |[],[]=>true
 |.d (.int _ _)::z,.d (.int _ _)::l=>pX z l
 |.d (.bool _)::z,.d (.bool _)::l=>pX z l
 |.d (.str _)::z,.d (.str _)::l=>pX z l
 |_,_=>false
def OW(op:BinOp)(ti:cd)(xs ys:List aw):c5:=
 match ti with
 |.struct _ n z true=>bif xs.length.beq n&&pX z xs then
   match ud xs ys with
   |some b=>match op with
    |.eql=>.ok (one (.bool b))
    |.neq=>.ok (one (.bool (!b)))
    |_=>.fail
   |none=>.fail
  else .fail
 |_=>.fail
def zK(op:BinOp)(ti:cd)(D:Option Int):c5:=
 match ti with
 |.iface=>match op with
  |.eql=>.ok (one (.bool D.isNone))
  |.neq=>.ok (one (.bool D.isSome))
  |_=>.fail
 |_=>.fail
def y4:Operand->Bool
 |.const .nilIface=>true
 |_=>false
def E4(op:BinOp)(ti:cd):aK->c5
 |.av (.ai (.d (.err _ D)))=>zK op ti D
 |.av (.ai (.cB .nilIface))=>zK op ti none
 |_=>.fail
def Gw(op:BinOp)(ti:cd)(x y:aK):c5:=
 match x,y with
 |.av (.ai (.d (.int k a))),.av (.ai (.d (.int k' b)))=>NA op k a k' b
 |.av (.ai (.d (.str s))),.av (.ai (.d (.str t)))=>Ok op s t
 |.av (.ai (.d (.bool a))),.av (.ai (.d (.bool b)))=>NW op ti a b
 |.av (.agg xs),.av (.agg ys)=>OW op ti xs ys
 |_,_=>.fail
def rV(agg:Bool)(n:Nat)(st:ad)(a:aK):c5:=
 match a with
 |.av (.ai (.ptr o s off))=>match fs st o s with
  |some cells=>match cut agg off n cells with|some v=>.ok v|none=>.fail
  |none=>.fail
 |.av (.ai (.ee cells off))=>match cut agg off n (cC cells) with|some v=>.ok v|none=>.fail
 |.av (.ai (.ej o s u k off))=>match rowOf st o s with
  |some ⟨t,xs⟩=>if t=u/\off+n<=ax t then .d' (xs[k]?) fun x=>match cut agg off n (cC (enc t x)) with|some v=>v|none=>bP .any else .fail
  |none=>.fail
 |_=>.fail
def keys{aH:Type}:List (Nat×aH)->List Nat
 |[]=>[]
 |p::r=>p.1::keys r
def fF(n:Nat):List Nat->Bool
 |[]=>false
 |m::r=>n.beq m||fF n r
def eJ:List Nat->Bool
 |[]=>true
 |n::r=>!fF n r&&eJ r
def aL.hR:aL->Bool
 |.int _ _|.bool _|.str _=>true
 |_=>false
def rm(n:Nat)(st:ad)(a:aK)(v:bz):c5:=
 bif v.cells.length.beq n then
 match a with
 |.av (.ai (.ptr o s off))=>match fs st o s with
  |some cells=>bif Nat.ble (off+n) cells.length&&gf v.cells then .e8 (bP (.cB undef)) [(o,.box s (a8 cells off v.cells))] else .fail
  |none=>.fail
 |.av (.ai (.ej o s u k off))=>match st.O o with
  |some (.row am t xs)=>bif am.beq s&&Nat.ble (off+n) (ax t)&&decide (t=u) then
    match g4 st v.cells with
    |some (ds,us)=>bif(look us o).isNone then .e3 ((xs[k]?).bind fun x=>dec t (a8 (enc t x) off ds)) (fun _=>bP (.cB undef)) fun x=>us++[(o,.row s t (xs.set k x))] else .fail
    |none=>.fail
   else .fail
  |some (.deep am t xs)=>bif am.beq s&&decide (t=u) then(bif off.beq 0&&n.beq (ax t) then
    match sinks st v.cells with
    |some (ds,us)=>bif(look us o).isNone&&eJ (keys us) then .e3 ((xs[k]?).bind fun _=>dec t ds) (fun _=>bP (.cB undef)) fun x=>us++[(o,.deep s t (xs.set k x))] else .fail
    |none=>.fail
   else match v.cells with
    |[.d d]=>bif d.hR&&Nat.blt off (ax t) then .e3 ((xs[k]?).bind fun x=>dec t (a8 (enc t x) off [d])) (fun _=>bP (.cB undef)) fun x=>[(o,.deep s t (xs.set k x))] else .fail
    |_=>.fail)
   else .fail
  |_=>.fail
 |_=>.fail
 else .fail
def qO(u:aF)(st:ad)(x:aK)(i:Int):c5:=
 match x with
 |.av (.ai (.d (.sl t xs)))=>if t=u then .d' (bk xs i) fun x=>bP (.ee (enc t x) 0) else .fail
 |.av (.ai (.own o s))=>match oI st o s with
  |some ⟨t,xs⟩=>if t=u then .d' (e9 xs.length i) fun k=>bP (.ej o s t k 0) else .fail
  |none=>.fail
 |_=>.fail
def BT(off:Nat):aK->c5
 |.av (.ai (.ptr o s D))=>.ok (bP (.ptr o s (D+off)))
 |.av (.ai (.ee cells D))=>.ok (bP (.ee cells (D+off)))
 |.av (.ai (.ej o s t k D))=>.ok (bP (.ej o s t k (D+off)))
 |_=>.fail
def h6(k1:Int):Option aK->Option Int
 |none=>some k1
 |some (.av (.ai (.d (.int _ n))))=>some n
 |some _=>none
def rr(ti:cd)(st:ad)(x:aK)(cG hi:Option aK):c5:=
 match x with
 |.av (.ai (.d (.str s)))=>match ti,h6 0 cG,h6 s.length hi with
  |.str,some l,some h=>.d' (dw s l h) fun r=>one (.str r)
  |_,_,_=>.fail
 |.av (.ai (.d (.sl t xs)))=>match ti,h6 0 cG,h6 xs.length hi with
  |.slice _ u _,some l,some h=>if t=u then .d' (dw xs l h) fun r=>one (.sl t r) else .fail
  |_,_,_=>.fail
 |.av (.ai (.nil t))=>match ti,h6 0 cG,h6 0 hi with
  |.slice _ _ _,some l,some h=>.d' (dw ([]:List (den t)) l h) fun r=>one (.sl t r)
  |_,_,_=>.fail
 |.av (.ai (.own o s))=>match rowOf st o s with
  |some ⟨t,xs⟩=>match ti,h6 0 cG,h6 xs.length hi with
   |.slice _ u _,some l,some h=>if t=u then .e3 (dw xs l h) (fun r=>one (.sl t r)) fun _=>lJ st o s t xs else .fail
   |_,_,_=>.fail
  |none=>.fail
 |_=>.fail
def so(ti:cd)(st:ad)(x:aK):c5:=
 match ti,x with
 |.str,.av (.ai (.d (.str s)))=>.ok (one (.int .i64 s.length))
 |.slice _ _ _,.av (.ai (.d (.sl _ xs)))=>.ok (one (.int .i64 xs.length))
 |.slice _ _ _,.av (.ai (.nil _))=>.ok (one (.int .i64 0))
 |.slice _ _ _,.av (.ai (.own o s))=>match oI st o s with
  |some ⟨_,xs⟩=>.ok (one (.int .i64 xs.length))
  |none=>.fail
 |.map _ _ _,.av (.ai l)=>match mapOf st l with
  |some ⟨_,es⟩=>.ok (one (.int .i64 es.length))
  |none=>.fail
 |_,_=>.fail
def rM(st:ad):aK->Option aL
 |.av (.ai (.d (.sl t xs)))=>some (.sl t xs)
 |.av (.ai (.d (.str s)))=>some (.str s)
 |.av (.ai (.nil t))=>some (.sl t [])
 |.av (.ai (.own o s))=>match rowOf st o s with|some ⟨t,xs⟩=>some (.sl t xs)|none=>none
 |_=>none
def px(bytes:Nat)(t:aF)(dst:Nat)(st:ad)(s:aK)(ys:List (den t)):c5:=
 match s with
 |.av (.ai (.nil _))=>.e3 (dx bytes [] ys) (fun _=>bP (.own dst (aY st dst))) fun r=>[(dst,.row (aY st dst) t r)]
 |.av (.ai (.own o s))=>match st.O o with
  |some (.row am bj xs)=>bif am.beq s then
    if ab:bj=t then .e3 (dx bytes (ab▸xs:List (den t)) ys) (fun _=>bP (.own dst (aY (st.dn o (.dead s)) dst)))
     fun r=>[(o,.dead s),(dst,.row (aY (st.dn o (.dead s)) dst) t r)]
    else .fail
   else .fail
  |_=>.fail
 |_=>.fail
def ri(bytes:Nat)(t:aF)(dst:Nat)(st:ad)(s x:aK):c5:=
 match rM st x with
 |none=>.fail
 |some d=>match d with
  |.sl u ys=>if h:u=t then px bytes t dst st s (h▸ys:List (den t)) else .fail
  |_=>.fail
def rk(bytes:Nat)(t:aF)(dst:Nat)(st:ad)(s x:aK):c5:=
 match x with
 |.av (.ai (.own F u))=>match ls st F u with
  |some ⟨bj,ys⟩=>if h:bj=t then(match s with
   |.av (.ai (.nil _))=>.e3 (dx bytes [] (h▸ys:List (den t))) (fun _=>bP (.own dst (aY (st.dn F (.dead u)) dst))) fun r=>[(F,.dead u),(dst,.deep (aY (st.dn F (.dead u)) dst) t r)]
   |.av (.ai (.own o s))=>match ls st o s with
    |some ⟨t2,xs⟩=>if h2:t2=t then(bif o.beq F then .fail else
      .e3 (dx bytes (h2▸xs:List (den t)) (h▸ys)) (fun _=>bP (.own dst (aY ((st.dn F (.dead u)).dn o (.dead s)) dst)))
       fun r=>[(F,.dead u),(o,.dead s),(dst,.deep (aY ((st.dn F (.dead u)).dn o (.dead s)) dst) t r)]) else .fail
    |none=>.fail
   |_=>.fail) else .fail
  |none=>.fail
 |_=>.fail
def uk(st:ad):aK->Bool
 |.av (.ai (.own o s))=>(ls st o s).isSome
 |_=>false
def rj(bytes:Nat)(t:aF)(dst:Nat)(st:ad)(s x:aK):c5:=
 match x with
 |.av (.ai (.d (.str y)))=>if h:t=.u8 then px bytes t dst st s (h▸(bytesOf y:List (den .u8))) else .fail
 |_=>.fail
def pT(dP:Bool)(bytes o:Nat)(st:ad)(ty:aF)(n m:Int)(z:List aw):c5:=match bif dP&&ty.gU then sinks st z else none with
 |some (ds,us)=>match dec ty ds with
  |some ea=>bif us.isEmpty then .e3 (lP bytes n m ea) (fun _=>bP (.own o (aY st o))) fun r=>[(o,.deep (aY st o) ty r)] else .fail
  |none=>.fail
 |none=>match g4 st z with
  |some (ds,_)=>match dec ty ds with
   |some ea=>.e3 (lP bytes n m ea) (fun _=>bP (.own o (aY st o))) fun r=>[(o,.row (aY st o) ty r)]
   |none=>.fail
  |none=>.fail
def k2(t:aF)(st:ad):List bz->Option (List (den t)×List (Nat×Site))
 |[]=>some ([],[])
 |a::as=>match g4 st a.cells with
  |some (ds,us)=>match dec t ds,k2 t st as with
   |some x,some (xs,vs)=>some (x::xs,us++vs)
   |_,_=>none
  |none=>none
def mn(t:aF)(st:ad):List bz->Option (List (den t)×List (Nat×Site))
 |[]=>some ([],[])
 |a::as=>match sinks st a.cells with
  |some (ds,us)=>match dec t ds,mn t st as with
   |some x,some (xs,vs)=>some (x::xs,us++vs)
   |_,_=>none
  |none=>none
def lM:aK->Option bz
 |.av a=>some a
 |.jd _=>none
def mC:List aK->Option (List bz)
 |[]=>some []
 |v::vs=>match lM v,mC vs with|some a,some as=>some (a::as)|_,_=>none
def ow:Nat->List (Nat×Operand)->Bool
 |_,[]=>true
 |n,(i,_)::r=>i.beq n&&ow (n+1) r
def isByte:cd->Bool
 |.int .u8=>true
 |_=>false
def r_(C:Ctx)(src dst:TypeId)(o:Nat)(st:ad)(x:aK):c5:=
 match C.tt src,C.tt dst,x with
 |.none,_,_=>.fail
 |_,.int k,.av (.ai (.d (.int _ n)))=>.ok (one (.int k (k.wrap n)))
 |_,.str,.av (.ai (.d (.str s)))=>.ok (one (.str s))
 |.slice e .u8 _,.str,.av (.ai (.d (.sl .u8 xs)))=>bif isByte (C.tt e) then .ok (one (.str (strOf xs))) else .fail
 |.slice e .u8 _,.str,.av (.ai (.nil _))=>bif isByte (C.tt e) then .ok (one (.str [])) else .fail
 |.slice e .u8 _,.str,.av (.ai (.own F s))=>match rowOf st F s with
  |some ⟨.u8,xs⟩=>bif isByte (C.tt e) then .ok (one (.str (strOf xs))) else .fail
  |_=>.fail
 |.str,.slice e .u8 _,.av (.ai (.d (.str s)))=>bif isByte (C.tt e) then .e3 (if s.length<=maxLen then some () else none) (fun _=>bP (.own o (aY st o))) fun _=>[(o,.row (aY st o) .u8 (bytesOf s))] else .fail
 |_,_,_=>.fail
def kS(st:ad):List (Nat×Nat)->Option (List (List aL)×List (Nat×Site)×List Nat)
 |[]=>some ([],[],[])
 |(o,s)::r=>match fs st o s with
  |some cells=>match g4 st cells,kS st r with
   |some (ds,us),some (rest,vs,bs)=>some (ds::rest,us++vs,o::bs)
   |_,_=>none
  |none=>none
def mF(st:ad):aw->Option (aw×List (Nat×Site)×List Nat)
 |.ee cells 0=>some (.ee cells 0,[],[])
 |.clo g (c::cs)=>match kS st (c::cs) with|some (ds,us,bs)=>some (.d (.fn g ds),us,bs)|none=>none
 |l=>match jj st l with|some (d,us)=>some (.d d,us,[])|none=>none
def lw(st:ad):List aw->Option (List aw×List (Nat×Site)×List Nat)
 |[]=>some ([],[],[])
 |l::U=>match mF st l,lw st U with
  |some (a,us,bs),some (as,vs,cs)=>some (a::as,us++vs,bs++cs)
  |_,_=>none
def mB(st:ad):aw->Option (aw×List (Nat×Site))
 |.d v=>some (.d v,[])
 |.nil t=>some (.fresh t [],[])
 |.own o s=>match st.O o with
  |some (.row am t xs)=>bif am.beq s then some (.fresh t xs,[(o,.dead s)]) else none
  |some (.cR am t xs)=>bif am.beq s then some (.d (.sl t xs),[]) else none
  |some (.deep am t xs)=>bif am.beq s then some (.eK t xs,[(o,.dead s)]) else none
  |_=>none
 |.ev=>some (.ev,[])
 |.cB v=>some (.cB v,[])
 |_=>none
def uu:List aw->List aw
 |.cB (.pointer none)::r=>.ev::r
 |l=>l
def jE(st:ad):List aw->Option (List aw×List (Nat×Site))
 |[]=>some ([],[])
 |l::U=>match mB st l,jE st U with
  |some (a,us),some (as,vs)=>some (a::as,us++vs)
  |_,_=>none
structure jH where
 as:List Arg
 er:List (Nat×Site) -- rows uN H9 er,as anC ao4 frozen
 fr:List Nat -- boxes uN H9 er
 gone:List (Nat×Site) -- boxes uN go over,and rows in anV
 boxes:List (Nat×Nat) -- mM boxes:O,b1
 rows:List (Option (Nat×Nat)) -- mM cells of anS holds ad9 rows:a anK O,b1
def ir(st:ad):List aK->Option jH
 |[]=>some ⟨[],[],[],[],[],[]⟩
 |.av (.ai (.ptr o s 0))::vs=>match fs st o s,ir st vs with
  |some cells,some r=>match jE st cells with
   |some (cs,gone)=>some ⟨.dH cs::r.as,r.er,r.fr,((o,.dead s)::gone)++r.gone,(o,s)::r.boxes,r.rows⟩
   |none=>none
  |_,_=>none
 |.av (.ai l)::vs=>match mF st l,ir st vs with
  |some (a,us,bs),some r=>some ⟨.av (.ai a)::r.as,us++r.er,bs++r.fr,r.gone,r.boxes,[]⟩
  |_,_=>none
 |.av (.agg U)::vs=>match lw st U,ir st vs with
  |some (as,us,bs),some r=>some ⟨.av (.agg as)::r.as,us++r.er,bs++r.fr,r.gone,r.boxes,[]⟩
  |_,_=>none
 |_::_=>none
def lr(st:ad):aw->Option (aw×List (Nat×Site)×List (Nat×Site)×List Nat)
 |.own o s=>match mB st (.own o s) with|some (a,us)=>some (a,us,[],[])|none=>none
 |.nil t=>some (.fresh t [],[],[],[])
 |l=>match mF st l with|some (a,us,bs)=>some (a,[],us,bs)|none=>none
def lp(st:ad):List aw->Option (List aw×List (Nat×Site)×List (Nat×Site)×List Nat)
 |[]=>some ([],[],[],[])
 |l::U=>match lr st l,lp st U with
  |some (a,us,bN,bs),some (as,vs,gs,cs)=>some (a::as,us++vs,bN++gs,bs++cs)
  |_,_=>none
def aw.q8:aw->Bool
 |.fresh _ _|.eK _ _=>false
 |_=>true
def fR:List aw->Bool
 |[]=>true
 |l::U=>l.q8&&fR U
def kX(st:ad):aw->Option (Nat×Nat)
 |.own o s=>match st.O o with
  |some (.row _ _ _)|some (.deep _ _ _)=>some (o,s)
  |_=>none
 |_=>none
def nz(st:ad)(U dl:List aw):List (Option (Nat×Nat)):=bif fR dl then [] else U.map (kX st)
def jV(st:ad):List aK->Option jH
 |[]=>some ⟨[],[],[],[],[],[]⟩
 |.av (.ai l)::vs=>match lr st l,jV st vs with
  |some (a,us,U,bs),some r=>some ⟨.av (.ai a)::r.as,U++r.er,bs++r.fr,us++r.gone,r.boxes,nz st [l] [a]++r.rows⟩
  |_,_=>none
 |.av (.agg as)::vs=>match lp st as,jV st vs with
  |some (jl,us,U,bs),some r=>some ⟨.av (.agg jl)::r.as,U++r.er,bs++r.fr,us++r.gone,r.boxes,nz st as jl++r.rows⟩
  |_,_=>none
 |_::_=>none
def q_(b:Bool)(st:ad)(vs:List aK):Option jH:=bif b then jV st vs else ir st vs
def aw.gU:aw->Bool
 |.d (.sl _ _)|.d (.fn _ _)|.d (.map _ _)=>true
 |.d _=>false
 |.fresh t _=>t.gU
 |.ev|.cB _|.eK _ _=>false
 |_=>true
def nj:List aw->Bool
 |[]=>false
 |l::U=>l.gU||nj U
def qS:List bz->Bool
 |[]=>false
 |a::as=>nj a.cells||qS as
def qR:List (List aw)->Bool
 |[]=>false
 |a::as=>nj a||qR as
def take(st:ad)(n:Nat):List aw->List aw×List (Nat×Site)
 |[]=>([],[])
 |.fresh t xs::U=>let r:=take st (n+1) U;(.own n (aY st n)::r.1,(n,.row (aY st n) t xs)::r.2)
 |.eK t xs::U=>let r:=take st (n+1) U;(.own n (aY st n)::r.1,(n,.deep (aY st n) t xs)::r.2)
 |l::U=>let r:=take st (n+1) U;(l::r.1,r.2)
def dE(st:ad)(n:Nat):List bz->List bz×List (Nat×Site)
 |[]=>([],[])
 |.ai l::as=>let x:=take st n [l];let r:=dE st (n+100) as;((match x.1 with|[fm]=>.ai fm|U=>.agg U)::r.1,x.2++r.2)
 |.agg U::as=>let x:=take st n U;let r:=dE st (n+100) as;(.agg x.1::r.1,x.2++r.2)
def eY(st:ad):List (Nat×Nat)->List (List aw)->List (Nat×Site)
 |(o,s)::bs,cs::ct=>let x:=take st (1000000+o*100) cs;x.2++(o,.box s x.1)::eY st bs ct
 |_,_=>[]
def oq:List (Option (Nat×Nat))->List Nat
 |[]=>[]
 |none::r=>oq r
 |some p::r=>p.1::oq r
def eL:List (Option (Nat×Nat))->List aw->List (Nat×Site)
 |some (o,s)::r,.fresh t xs::U=>(o,.row s t xs)::eL r U
 |some (o,s)::r,.eK t xs::U=>(o,.deep s t xs)::eL r U
 |_::r,_::U=>eL r U
 |_,_=>[]
def Om:List bz->aK
 |[a]=>.av a
 |as=>.jd as
def eO:List Nat->List Nat->Bool
 |[],_=>true
 |n::r,l=>!fF n l&&eO r l
def oH(dst:Nat)(st:ad)(S:aT)(a:jH):c5:=
 let r:=S a.as
 {H:=r.H,comp:=r.comp
  val:=fun y=>Om (dE st (2000000+dst*10000) (r.eQ y)).1
  us:=fun y=>(bif qS (r.eQ y)||qR (r.dH y)||nj (r.ew y) then a.er else [])++a.gone++(eY st a.boxes (r.dH y)++eL a.rows (r.ew y))++(dE st (2000000+dst*10000) (r.eQ y)).2
  qt:=fun y=>eJ (keys a.gone)&&eO (keys a.er++a.fr) (keys a.gone)&&eJ (keys ((eY st a.boxes (r.dH y)++eL a.rows (r.ew y))++(dE st (2000000+dst*10000) (r.eQ y)).2))&&
   eO (keys a.er++a.fr) (keys ((eY st a.boxes (r.dH y)++eL a.rows (r.ew y))++(dE st (2000000+dst*10000) (r.eQ y)).2))&&(!(qS (r.eQ y)||qR (r.dH y)||nj (r.ew y))||a.fr.isEmpty)&&(eJ (oq a.rows)&&eO (oq a.rows) (keys (eY st a.boxes (r.dH y))))}
def callee(v:aK):Option (FuncId×List (Nat×Nat)):=
 match v with
 |.av (.ai (.clo g bE))=>some (g,bE)
 |_=>none
def f_(C:Ctx)(st:ad):List Operand->List TypeId->List aK
 |[],_=>[]
 |x::xs,[]=>aP C st 0 x::f_ C st xs []
 |x::xs,T::cK=>aP C st T x::f_ C st xs cK
def kP:List (List aL)->List Arg
 |[]=>[]
 |c::cs=>.av (.ai (.ee c 0))::kP cs
def rq(g:FuncId)(n:Nat)(st:ad):List aK->c5
 |[.av (.ai (.d (.str s))),.av (.ai (.d (.str p)))]=>.e8 (bP (.clo g [(n,aY st n),(n+1,aY st (n+1)),(n+2,aY st (n+2))]))
   [(n,.box (aY st n) [.d (.str p)]),(n+1,.box (aY st (n+1)) [.d (.str s)]),(n+2,.box (aY st (n+2)) [.d (.int .i64 0)])]
 |_=>.fail
def copyV(st:ad):List aK->c5
 |[.av (.ai (.ptr o s 0))]=>match st.O o with
  |some (.box am [.ev,l])=>bif am.beq s then .e8 (.jd []) [(o,.box s [.ev,l])] else .fail
  |_=>.fail
 |_=>.fail
def q6(st:ad):List aK->c5
 |[.av (.ai (.ptr o s 0))]=>match fs st o s with
  |some [_,.nil .u8]=>.ok (one (.str []))
  |some [_,.own F u]=>match st.O F with
   |some (.row bF .u8 xs)=>bif bF.beq u then .e8 (one (.str (strOf xs))) [(F,.cR u .u8 xs)] else .fail
   |_=>.fail
  |_=>.fail
 |_=>.fail
def rP(n:Nat)(st:ad):List aK->c5
 |[.av (.ai (.d (.sl .u8 xs)))]=>.e8 (bP (.ptr n (aY st n) 0)) [(n,.box (aY st n) [.d (.sl .u8 (xs.take 2000)),.d (.int .i64 0)])]
 |_=>.fail
def ln(C:Ctx)(dst:Nat)(st:ad)(f:aK)(vs:List aK):c5:=
  match f with
  |.av (.ai (.clo g bE))=>match C.kt g with
   |some cv=>match bE with
    |[]=>rq cv (3000000+dst*10) st vs
    |_=>.fail
   |none=>bif C.op g then(match bE with
    |[]=>rP (4000000+dst) st vs
    |_=>.fail) else bif C.ha g then(match bE with
    |[]=>copyV st vs
    |_=>.fail) else bif C.bs g then(match bE with
    |[]=>q6 st vs
    |_=>.fail) else match C.bN g,q_ (C.m_ g) st vs,kS st bE with
    |some S,some a,some (cs,us,bs)=>oH dst st S {a with as:=a.as++kP cs,er:=a.er++us,fr:=a.fr++bs}
    |_,_,_=>.fail
  |.av (.ai (.d (.fn g bE)))=>match C.bN g,ir st vs with
    |some S,some a=>oH dst st S {a with as:=a.as++kP bE}
    |_,_=>.fail
  |_=>.fail
def Ac(t:aF)(xs:List (den t))(n:Nat):List aw:=match we t with
 |some z=>(List.range n).flatMap fun j=>cC (enc t (xs.getD j z))
 |none=>[]
def sw(t:aF):List aw->Option (List (den t))
 |[]=>some []
 |.d d::U=>match dec t [d],sw t U with
  |some x,some xs=>some (x::xs)
  |_,_=>none
 |_=>none
def long{aH:Type}(n:Nat)(xs:List aH):Option (List aH):=if xs.length=n then some xs else none
def pS(o:Nat)(st:ad)(t:aF)(n:Nat)(xs:List (den t)):c5:=bif xs.length.beq n&&Nat.ble n 1000 then .e8 (bP (.ej o (aY st o) t 0 0)) [(o,.row (aY st o) t xs)] else .fail
def rJ(o:Nat)(st:ad)(t:aF)(n:Nat):c5:=match we t with
 |some z=>pS o st t n (List.replicate n z)
 |none=>.fail
def sy(o:Nat)(st:ad)(t:aF)(n:Nat)(v:aK):c5:=match v with
 |.av (.agg U)=>match sw t U with
  |some xs=>pS o st t n xs
  |none=>.fail
 |_=>.fail
def rW(st:ad)(t:aF)(n:Nat)(a:aK):c5:=match a with
 |.av (.ai (.ej o s u 0 0))=>match rowOf st o s with
  |some ⟨bj,xs⟩=>if bj=t/\bj=u then .d' (long n xs) fun xs=>.av (.agg (Ac bj xs n)) else .fail
  |none=>.fail
 |_=>.fail
def rp(st:ad)(t:aF)(n:Nat)(a:aK)(v:bz):c5:=match a,v with
 |.av (.ai (.ej o s u 0 0)),.agg U=>match st.O o with
  |some (.row am bj xs)=>if bj=t/\bj=u/\am=s then(match sw bj U with
   |some ys=>bif ys.length.beq n then .e3 (long n xs) (fun _=>bP (.cB undef)) fun _=>[(o,.row s bj ys)] else .fail
   |none=>.fail) else .fail
  |_=>.fail
 |_,_=>.fail
def qP(C:Ctx)(st:ad)(t:aF)(n:Nat)(x:aK)(i:Int):c5:=match x with
 |.av (.ai (.ej o s u 0 0))=>match rowOf st o s with
  |some ⟨bj,xs⟩=>if bj=t/\bj=u then .d' ((long n xs).bind fun xs=>e9 xs.length i) fun k=>bP (.ej o s bj k 0) else .fail
  |none=>.fail
 |.av (.ai (.cB (.pointer (some ⟨g,0,none⟩))))=>match C.gt g with
  |some ⟨bj,xs⟩=>bif decide (bj=t)&&xs.length.beq n then .d' (bk xs i) fun x=>bP (.ee (enc bj x) 0) else .fail
  |none=>.fail
 |_=>.fail
def EX(t:aF)(n:Nat)(x:aK)(i:Int):c5:=match x with
 |.av (.agg U)=>match sw t U with
  |some xs=>bif xs.length.beq n then .d' (bk xs i) fun x=>(match enc t x with|[d]=>bP (.d d)|_=>bP .any) else .fail
  |none=>.fail
 |_=>.fail
def rs(st:ad)(t:aF)(n:Nat)(x:aK)(cG hi:Option aK):c5:=match x with
 |.av (.ai (.ej o s u 0 0))=>match rowOf st o s,h6 0 cG,h6 n hi with
  |some ⟨bj,xs⟩,some l,some h=>if bj=t/\bj=u then .e3 ((long n xs).bind fun xs=>dw xs l h) (fun r=>bP (.d (.sl bj r))) fun _=>lJ st o s bj xs else .fail
  |_,_,_=>.fail
 |_=>.fail
def kN(C:Ctx)(st:ad)(D:Oper):c5:=
 match D.op with
 |.makeMap t r=>match D.dst,C.tt t with
  |some o,.map _ _ ty=>match r with
   |none=>.e8 (bP (.own o (aY st o))) [(o,.map (aY st o) ty [])]
   |some x=>match aP C st 0 x with
    |.av (.ai (.d (.int _ _)))=>.e8 (bP (.own o (aY st o))) [(o,.map (aY st o) ty [])]
    |_=>.fail
  |_,_=>.fail
 |.mapUpdate t m k x=>rA C st t m k x
 |.insert t m k x=>rA C st t m k x
 |.lookup t m k c=>match C.tt t,aP C st t m,aP C st 0 k with
  |.map _ _ ty,.av (.ai l),.av (.ai (.d (.str n)))=>match mapOf st l with
   |some ⟨u,es⟩=>bif decide (u=ty) then(match uI u (jZ es n) with
    |some d=>.ok (bif c then .jd [.ai (.d d),.ai (.d (.bool (jZ es n).isSome))] else one d)
    |none=>.fail) else .fail
   |none=>.fail
  |_,_,_=>.fail
 |.makeInterface t x=>match C.tt t,aP C st t x with
  |.struct _ _ _ _,.av (.agg [.d (.int .i64 n)])=>.ok (one (.err t (some n)))
  |_,_=>.fail
 |_=>.fail
where
 rA (C:Ctx) (st:ad) (t:TypeId) (m k x:Operand):c5:=match C.tt t,aP C st t m,aP C st 0 k,aP C st 0 x with
  |.map _ _ ty,.av (.ai (.own o s)),.av (.ai (.d (.str n))),.av (.ai (.d d))=>match st.O o with
   |some (.map am u es)=>bif am.beq s&&decide (u=ty) then(match FG u d with
    |some v=>.e8 (bP (.cB undef)) [(o,.map s u (oz es n v))]
    |none=>.fail) else .fail
   |_=>.fail
  |_,_,_,_=>.fail
def step(C:Ctx)(st:ad)(D:Oper):c5:=
 match D.op with
 |.move x|.assign x=>.ok (aP C st D.type x)
 |.pick c a b=>match aP C st D.type c with
  |.av (.ai (.d (.bool true)))=>.ok (aP C st D.type a)
  |.av (.ai (.d (.bool false)))=>.ok (aP C st D.type b)
  |_=>.fail
 |.alloc elem=>match D.dst,C.tt elem with
  |some o,.arr _ t n=>rJ o st t n
  |some o,ti=>match ti.zero with
   |some z=>.e8 (bP (.ptr o (aY st o) 0)) [(o,.box (aY st o) (bif elem.beq qp then uu z else z))]
   |none=>.fail
  |_,_=>.fail
 |.box elem x=>match D.dst,C.tt elem with
  |some o,.arr _ t n=>sy o st t n (aP C st elem x)
  |some o,_=>match lM (aP C st elem x) with
   |some a=>bif gf a.cells then .e8 (bP (.ptr o (aY st o) 0)) [(o,.box (aY st o) a.cells)] else .fail
   |none=>.fail
  |_,_=>.fail
 |.build t parts=>match C.tt t with
  |.struct bN _ z _=>mw C st bN z parts.toList
  |.arr _ ty n=>match sA ty with
   |some z=>mw C st ((List.range n).map fun j=>(j,1)) (List.replicate n z) parts.toList
   |none=>.fail
  |_=>.fail
 |.buildSlice t len parts=>match D.dst,C.tt t with
  |some o,.slice e ty _=>bif parts.toList.length.beq len&&ow 0 parts.toList&&Nat.ble (len*ax ty) 1000 then
    match mC (parts.toList.map fun p=>aP C st e p.2) with
    |some as=>match bif C.dP&&ty.gU then mn ty st as else none with
     |some (xs,us)=>bif eJ (keys us)&&(look us o).isNone then .e8 (bP (.own o (aY st o))) (us++[(o,.deep (aY st o) ty xs)]) else .fail
     |none=>match k2 ty st as with
      |some (xs,us)=>.e8 (bP (.own o (aY st o))) (us++[(o,.row (aY st o) ty xs)])
      |none=>.fail
    |none=>.fail
   else .fail
  |_,_=>.fail
 |.load t a=>match C.tt t with
  |.arr _ ty n=>rW st ty n (aP C st t a)
  |ti=>bif ti.known then rV ti.agg ti.size st (aP C st t a) else .fail
 |.store t a x=>match lM (aP C st t x) with
  |some v=>match C.tt t with
   |.arr _ ty n=>rp st ty n (aP C st t a) v
   |ti=>bif ti.known then rm ti.size st (aP C st t a) v else .fail
  |none=>.fail
 |.nilCheck x=>match aP C st D.type x with
  |.av (.ai (.ptr o s f))=>.ok (bP (.ptr o s f))
  |.av (.ai (.ee cs f))=>.ok (bP (.ee cs f))
  |.av (.ai (.ej o s t k f))=>.ok (bP (.ej o s t k f))
  |_=>.fail
 |.binOp op t x y _=>bif y4 y then E4 op (C.tt t) (aP C st t x) else Gw op (C.tt t) (aP C st t x) (aP C st t y)
 |.unOp op _ x=>match op,aP C st D.type x with
  |.not,.av (.ai (.d (.bool b)))=>.ok (one (.bool (!b)))
  |.neg,.av (.ai (.d (.int k n)))=>.ok (one (.int k (k.wrap (0-n))))
  |.xor,.av (.ai (.d (.int k n)))=>.ok (one (.int k (se k (if k.signed then-1 else k.max) n)))
  |_,_=>.fail
 |.convert src dst x=>(match D.dst with|some o=>r_ C src dst o st (aP C st src x)|none=>.fail)
 |.makeFunc fn first captured=>match fn with
  |.func g=>bif first.toList.isEmpty then(match nB C st captured.toList with|some bE=>.ok (bP (.clo g bE))|none=>.fail) else .fail
  |_=>.fail
 |.makeSlice t l c=>match D.dst,C.tt t,aP C st 0 l,aP C st 0 c with
  |some o,.slice e ty bytes,.av (.ai (.d (.int _ n))),.av (.ai (.d (.int _ m)))=>match(C.tt e).zero with
   |some z=>pT C.dP bytes o st ty n m z
   |none=>.fail
  |_,_,_,_=>.fail
 |.slice t x cG hi Bk=>match Bk with
  |none=>match C.tt t with
   |.arr _ ty n=>rs st ty n (aP C st t x) (cG.map (aP C st 0)) (hi.map (aP C st 0))
   |ti=>rr ti st (aP C st t x) (cG.map (aP C st 0)) (hi.map (aP C st 0))
  |some _=>.fail
 |.fieldAddr s x f=>match C.tt s with
  |.struct bN _ _ _=>match bN[f]? with
   |some (off,_)=>BT off (aP C st 0 x)
   |none=>.fail
  |_=>.fail
 |.indexAddr t x i=>match C.tt t,aP C st 0 i with
  |.slice _ ty _,.av (.ai (.d (.int _ n)))=>qO ty st (aP C st t x) n
  |.arr _ ty m,.av (.ai (.d (.int _ n)))=>qP C st ty m (aP C st t x) n
  |_,_=>.fail
 |.index t x i=>match C.tt t,aP C st t x,aP C st 0 i with
  |.str,.av (.ai (.d (.str s))),.av (.ai (.d (.int _ n)))=>.d' (bk s n) fun b=>one (.int .u8 b.toNat)
  |.arr _ ty m,v,.av (.ai (.d (.int _ n)))=>EX ty m v n
  |_,_,_=>.fail
 |.extract t i=>match aP C st 0 t with
  |.jd as=>match as[i]? with
   |some a=>.ok (.av a)
   |none=>.fail
  |_=>.fail
 |.call c=>match c.callee with
  |.value f=>match D.dst with
   |some d=>ln C d st (aP C st 0 f) (f_ C st c.args.toList c.argTypes.toList)
   |none=>ln C 0 st (aP C st 0 f) (f_ C st c.args.toList c.argTypes.toList)
  |.builtin b=>match b,D.dst,c.args.toList,c.argTypes.toList with
   |.len,_,[x],[t]=>so (C.tt t) st (aP C st t x)
   |.append,some o,[s,x],[t,u]=>match C.tt t,C.tt u with
    |.slice _ ty bytes,.slice _ _ _=>bif uk st (aP C st u x) then rk bytes ty o st (aP C st t s) (aP C st u x) else ri bytes ty o st (aP C st t s) (aP C st u x)
    |.slice _ ty bytes,.str=>rj bytes ty o st (aP C st t s) (aP C st u x)
    |_,_=>.fail
   |.max,_,[x,y],_=>match aP C st D.type x,aP C st D.type y with
    |.av (.ai (.d (.int k a))),.av (.ai (.d (.int _ b)))=>.ok (one (.int k (gB a b)))
    |_,_=>.fail
   |.max,_,[x,y,z,u,v],_=>match aP C st D.type x,aP C st D.type y,aP C st D.type z,aP C st D.type u,aP C st D.type v with
    |.av (.ai (.d (.int k a))),.av (.ai (.d (.int _ b))),.av (.ai (.d (.int _ c))),.av (.ai (.d (.int _ d))),.av (.ai (.d (.int _ e)))=>.ok (one (.int k (gB (gB (gB (gB a b) c) d) e)))
    |_,_,_,_,_=>.fail
   |.min,_,[x,y],_=>match aP C st D.type x,aP C st D.type y with
    |.av (.ai (.d (.int k a))),.av (.ai (.d (.int _ b)))=>.ok (one (.int k (zY a b)))
    |_,_=>.fail
   |_,_,_,_=>.fail
  |_=>.fail
 |_=>kN C st D
where
 mw (C:Ctx) (st:ad) (bN:List (Nat×Nat)):List aw->List (Nat×Operand)->c5
  |z,[]=>.ok (.av (.agg z))
  |z,(i,x)::r=>match bN[i]?,lM (aP C st 0 x) with
   |some (off,n),some a=>bif a.cells.length.beq n&&gf a.cells&&Nat.ble (off+n) z.length then mw C st bN (a8 z off a.cells) r else .fail
   |_,_=>.fail
 nB (C:Ctx) (st:ad):List Operand->Option (List (Nat×Nat))
  |[]=>some []
  |x::r=>match aP C st 0 x,nB C st r with
   |.av (.ai (.ptr o s 0)),some l=>some ((o,s)::l)
   |_,_=>none
def EE(C:Ctx)(st:ad)(D:Oper):Option (((t:aF)×List (den t))×Bool):=
 match D.op with
 |.binOp op T x (.const (.slice none 0 0)) _=>match C.tt T with
  |.slice _ _ _=>match op with
   |.eql=>match aP C st T x with
    |.av (.ai (.d (.sl t xs)))=>some (⟨t,xs⟩,false)
    |_=>none
   |.neq=>match aP C st T x with
    |.av (.ai (.d (.sl t xs)))=>some (⟨t,xs⟩,true)
    |_=>none
   |_=>none
  |_=>none
 |_=>none
def aw.names:aw->List Nat
 |.own o _|.ptr o _ _|.ej o _ _ _ _=>[o]
 |.clo _ bE=>keys bE
 |_=>[]
def cP:List aw->List Nat
 |[]=>[]
 |l::U=>l.names++cP U
def om:List bz->List Nat
 |[]=>[]
 |a::as=>cP a.cells++om as
def aK.names:aK->List Nat
 |.av a=>cP a.cells
 |.jd as=>om as
def wS(st:ad)(o:Nat):List Nat:=match st.O o with
 |some (.box _ cells)=>cP cells
 |_=>[]
def ep(st:ad):List Nat->List Nat
 |[]=>[]
 |o::r=>o::(wS st o++ep st r)
def kT:Op->List Operand
 |.move x|.assign x|.makeInterface _ x|.box _ x|.load _ x|.nilCheck x|.unOp _ _ x|.convert _ _ x|.fieldAddr _ x _|.extract x _=>[x]
 |.pick c a b=>[c,a,b]
 |.build _ ps|.buildSlice _ _ ps=>ps.toList.map (·.2)
 |.store _ a v|.binOp _ _ a v _|.makeSlice _ a v|.indexAddr _ a v|.index _ a v=>[a,v]
 |.makeFunc _ _ captured=>captured.toList
 |.slice _ x l h _=>x::(l.toList++h.toList)
 |.call c=>(match c.callee with|.value f=>[f]|_=>[])++c.args.toList
 |.lookup _ m k _=>[m,k]
 |.mapUpdate _ m k x|.insert _ m k x=>[m,k,x]
 |.makeMap _ r=>r.toList
 |_=>[]
def nq(st:ad):List Operand->List Nat
 |[]=>[]
 |.tmp t::r=>(st.get t).names++nq st r
 |_::r=>nq st r
def ot:List Operand->List Nat
 |[]=>[]
 |.tmp t::r=>t::ot r
 |_::r=>ot r
def y5:Op->Bool
 |.call c=>match c.callee with
  |.value _=>true
  |_=>false
 |_=>false
def E_(C:Ctx):Op->List Nat
 |.makeSlice t _ _=>match C.tt t with
  |.slice e _ _=>match(C.tt e).zero with
   |some z=>cP z
   |none=>[]
  |_=>[]
 |_=>[]
def looks:Op->Bool
 |.load _ _|.store _ _ _|.slice _ _ _ _ _|.indexAddr _ _ _|.convert _ _ _|.buildSlice _ _ _|.call _|.lookup _ _ _ _|.mapUpdate _ _ _ _|.insert _ _ _ _=>true
 |_=>false
def Fs(C:Ctx)(st:ad)(D:Oper):List Nat:=(bif looks D.op then ep st (nq st (kT D.op)) else [])++D.dst.toList++E_ C D.op
def L1(u:Nat):List Oper->List Nat
 |[]=>[]
 |D::r=>(match D.op,D.dst with
  |.move (.tmp t),some d=>bif Nat.beq d u then [t] else []
  |_,_=>[])++L1 u r
def CG(all:List Oper):List Oper->List Nat
 |[]=>[]
 |D::r=>(match D.op with
  |.slice _ (.tmp u) _ _ _=>u::L1 u all
  |_=>[])++CG all r
def OV(st:ad)(t:Nat):List (Nat×Site):=match st.get t with
 |.av (.ai (.own o s))=>match st.O o with
  |some (.row am t xs)=>bif am.beq s then [(o,.cR am t xs)] else []
  |_=>[]
 |_=>[]
def zk(st:ad):List Nat->List (Nat×Site)
 |[]=>[]
 |t::r=>OV st t++zk st r
def ad.hs(st:ad):List (Nat×Site)->ad
 |[]=>st
 |(o,s)::r=>(st.dn o s).hs r
def ad.cu(st:ad)(dst:Option Nat)(v:aK)(us:List (Nat×Site)):ad:=
 match dst with
 |some t=>(st.hs us).set t v
 |none=>st.hs us
def b6(st:ad):Option Nat->Bool
 |some t=>Nat.blt t st.nt
 |none=>true
abbrev yI:aK:=bP (.cB undef)
section
variable {R:Type}
open Classical in
noncomputable def nk{t:aF}(xs:List (den t))(a b:Option R):Option R:=if xs=[]->a=b then b else none
def jY(C:Ctx)(st:ad)(D:Oper)(K:ad->Option R):Option R:=
 bif b6 st D.dst then(step C st D).comp.bind fun y=>bif(step C st D).qt y then K (st.cu D.dst ((step C st D).val y) ((step C st D).us y)) else none else none
noncomputable def uw(C:Ctx)(st:ad)(D:Oper)(K:ad->Option R):Option R:=
 match EE C st D with
 |some (⟨t,xs⟩,neg)=>bif b6 st D.dst then nk xs (K (st.cu D.dst (one (.bool (!neg))) [])) (K (st.cu D.dst (one (.bool neg)) [])) else none
 |none=>jY C st D K
def ru(st:ad)(D:Oper)(K:ad->Option R):Option R:=
 bif b6 st D.dst then K (st.cu D.dst yI []) else none
noncomputable def t_(C:Ctx)(ops:Array Oper)(st:ad)(D:Oper)(K:ad->Option R):Option R:=
 match D.guard with
 |none=>uw C st D K
 |some (j,want)=>match(ops[j]?).bind (·.dst) with
  |some t=>match st.get t with
   |.av (.ai (.d (.bool b)))=>bif(bif want then b else !b) then uw C (st.set t (one (.bool want))) D K else ru (st.set t (one (.bool (!want)))) D K
   |.av (.ai (.cB (.tuple _)))=>ru st D K
   |_=>none
  |none=>none
structure pP:Type 1 where
 o:Nat
 s:Nat
 t:aF
 xs:List (den t)
 k:Nat
 off:Nat
 S:aT
 i:IntKind
 n:Int
 d1:Nat
 dP:Nat
 v:aK
def ad.nE(st:ad)(q:pP):ad:=(st.set q.d1 (bP .any)).set q.dP q.v
def uj(C:Ctx)(st:ad)(D:Oper):Option (Nat×aK):=match D.op,D.dst,D.guard with
 |.move x,some dP,none=>bif Nat.blt dP st.nt then some (dP,aP C st D.type x) else none
 |_,_,_=>none
def rS(C:Ctx)(st:ad)(o1 fg o2:Oper):Option pP:=
 match o1.op,o1.dst,o1.guard,o2.op,o2.guard with
 |.load T a,some d1,none,.call c,none=>match aP C st T a with
  |.av (.ai (.ej o s u k off))=>match st.O o,c.callee,c.args.toList with
   |some (.deep am t xs),.value (.func g),[.tmp d2,x]=>match uj C (st.set d1 (bP .any)) fg with
    |some (dP,v)=>match C.tt T,aP C ((st.set d1 (bP .any)).set dP v) 0 x,C.bN g with
     |.slice _ _ _,.av (.ai (.d (.int i n))),some S=>bif d2.beq d1&&am.beq s&&decide (t=u)&&Nat.blt d1 st.nt&&!dP.beq d1 then some ⟨o,am,t,xs,k,off,S,i,n,d1,dP,v⟩ else none
     |_,_,_=>none
    |none=>none
   |_,_,_=>none
  |_=>none
 |_,_,_,_,_=>none
def Oz(st:ad)(o2:Oper)(q:pP)(x:den q.t)(K:ad->Option R):List bz->List (List aw)->List aw->Option R
 |[.ai (.d d)],[],[.fresh bF mK]=>match dec q.t (a8 (enc q.t x) q.off [.sl bF mK]) with
  |some cU=>bif d.hR&&!bF.gU&&b6 st o2.dst then K ((st.nE q).cu o2.dst (one d) [(q.o,.deep q.s q.t (q.xs.set q.k cU))]) else none
  |none=>none
 |_,_,_=>none
def MJ(st:ad)(o2:Oper)(q:pP)(K:ad->Option R):Option R:=
 (q.xs[q.k]?).bind fun x=>match(enc q.t x)[q.off]? with
  |some (.sl u ys)=>(q.S [.av (.ai (.fresh u ys)),.av (.ai (.d (.int q.i q.n)))]).comp.bind fun y=>
    Oz st o2 q x K ((q.S [.av (.ai (.fresh u ys)),.av (.ai (.d (.int q.i q.n)))]).eQ y) ((q.S [.av (.ai (.fresh u ys)),.av (.ai (.d (.int q.i q.n)))]).dH y) ((q.S [.av (.ai (.fresh u ys)),.av (.ai (.d (.int q.i q.n)))]).ew y)
  |_=>none
noncomputable def mq(C:Ctx)(ops:Array Oper):List Oper->ad->(ad->Option R)->Option R
 |[],st,K=>K st
 |[D],st,K=>t_ C ops st D K
 |[D,o2],st,K=>t_ C ops st D fun af=>mq C ops [o2] af K
 |D::fg::o2::r,st,K=>match rS C st D fg o2 with
  |some q=>MJ st o2 q fun af=>mq C ops r af K
  |none=>t_ C ops st D fun af=>mq C ops (fg::o2::r) af K
structure Rec where
 D:Oper
 go:Bool
 v:aK
 us:List (Nat×Site)
 kv:List Nat
 rn:List Nat
 A1:Bool
def uo:List Nat->Bool
 |[]=>false
 |n::r=>Nat.ble 1000000 n||uo r
def sk(d:Option Nat)(l:List Nat):Bool:=match d with|some d=>fF d l|none=>false
def lE(a b:Rec):Bool:=
 sk a.D.dst b.kv||sk a.D.dst b.D.dst.toList||sk b.D.dst a.kv||
 !eO (keys a.us) (b.rn++keys b.us)||!eO (keys b.us) a.rn||(a.A1&&uo (keys b.us))||(b.A1&&uo (keys a.us))
def ly(bv:List (Nat×Rec×List Nat)):List Edge->List Nat
 |[]=>[]
 |e::r=>bif Region.binds .any e then(match look bv e.on with|some x=>e.on::(x.2++ly bv r)|none=>ly bv r) else ly bv r
def rh(i:Nat):List Edge->Bool
 |[]=>true
 |e::r=>(!Region.binds .any e||Nat.blt e.on i)&&rh i r
def rz(v9:List Nat)(x:Rec):List (Nat×Rec×List Nat)->Bool
 |[]=>true
 |(j,y,_)::r=>(fF j v9||!lE y x)&&rz v9 x r
def MR(i:Nat):List Oper->Bool
 |[]=>false
 |D::r=>(match D.guard with|some (j,_)=>Nat.beq i j|none=>false)||MR i r
def F0(g:Bool)(v:aK)(K:aK->Option R):Option R:=
 bif g then(match v with
  |.av (.ai (.d (.bool b)))=>bif b then K (one (.bool true)) else K (one (.bool false))
  |v=>K v) else K v
def yD(C:Ctx)(g:Bool)(st:ad)(D:Oper)(gs:List Nat)(K:Rec->Option R):Option R:=
 (step C st D).comp.bind fun y=>bif(step C st D).qt y then F0 g ((step C st D).val y) fun v=>
  K ⟨D,true,v,(step C st D).us y,gs++ot (kT D.op),Fs C st D,y5 D.op⟩ else none
def C6(D:Oper)(gs:List Nat)(K:Rec->Option R):Option R:=K ⟨D,false,yI,[],gs,[],false⟩
def E6(C:Ctx)(ops:Array Oper)(g:Bool)(st:ad)(D:Oper)(K:Rec->Option R):Option R:=
 match D.guard with
 |none=>yD C g st D [] K
 |some (j,want)=>match(ops[j]?).bind (·.dst) with
  |some t=>match st.get t with
   |.av (.ai (.d (.bool b)))=>bif(bif want then b else !b) then yD C g st D [t] K else C6 D [t] K
   |.av (.ai (.cB (.tuple _)))=>C6 D [t] K
   |_=>none
  |none=>none
def zt(C:Ctx)(ops:Array Oper):List Oper->Nat->List (Nat×Rec×List Nat)->ad->(ad->Option R)->Option R
 |[],_,_,st,K=>K st
 |D::r,i,bv,st,K=>bif b6 st D.dst&&rh i D.after.toList then E6 C ops (MR i r) st D fun x=>
   bif rz (ly bv D.after.toList) x bv then zt C ops r (i+1) ((i,x,ly bv D.after.toList)::bv) (st.cu D.dst x.v x.us) K else none
  else none
def MY(C:Ctx)(ops:Array Oper)(st:ad)(K:ad->Option R):Option R:=zt C ops ops.toList 0 [] (st.hs (zk st (CG ops.toList ops.toList))) K
inductive Out:Type where
 |norm (st:ad)
 |exit (id:Nat) (st:ad)
 |ret (st:ad)
structure agH:Type 1 where
 H:Type
 comp:Option H
 out:H->Out
 run:(R:Type)->H->(Out->Option R)->Option R
 run_eq:∀(R:Type) (y:H) (K:Out->Option R),run R y K=K (out y)
abbrev gJ:=ad->agH
structure g5:Type 1 extends Ctx where
 nP:Nat->Option gJ
def wrap(C:g5)(p:Nat)(st:ad)(K:Out->Option R)(x:Option R):Option R:=
 match C.nP p with
 |some f=>(f st).comp.bind fun y=>(f st).run R y K
 |none=>x
noncomputable def exec(C:g5):Code->Nat->ad->(Out->Option R)->Option R
 |.skip,_,st,K=>K (.norm st)
 |.region _ ops false,p,st,K=>wrap C p st K (mq C.toCtx ops ops.toList st fun af=>K (.norm af))
 |.region _ ops true,p,st,K=>wrap C p st K (MY C.toCtx ops st fun af=>K (.norm af))
 |.seq a b,p,st,K=>wrap C p st K (exec C a (2*p) st fun
  |.norm af=>exec C b (2*p+1) af K
  |D=>K D)
 |.cond c a b,p,st,K=>wrap C p st K (match aP C.toCtx st 0 c with
  |.av (.ai (.d (.bool t)))=>bif t then exec C a (2*p) st K else exec C b (2*p+1) st K
  |_=>none)
 |.block id c,p,st,K=>wrap C p st K (exec C c (2*p) st fun
  |.exit ia af=>bif ia.beq id then K (.norm af) else K (.exit ia af)
  |D=>K D)
 |.loop _,p,st,K=>wrap C p st K none
 |.rangeFunc _ _ _ _,p,st,K=>wrap C p st K none
 |.exit id,_,st,K=>K (.exit id st)
 |.ret,_,st,K=>K (.ret st)
 |_,_,_,_=>none
end
section
variable {B aA:Nat->Value}{sites bo:List (Nat×Site)}{w w':World}{av bS:Nat->Prop}
structure gD(B aA:Nat->Value)(sites bo:List (Nat×Site))(w w':World)(av bS:Nat->Prop):Prop where
 ref:∀o O,look sites o=some O->∃bI,look bo o=some bI/\O.b1<=bI.b1/\(bI.b1=O.b1->bY (aA o)=bY (B o))
 a6:∀b,¬av b->b<w.heap.size->w'.heap[b]? =w.heap[b]?
 av:∀b,¬av b->b<w.heap.size->¬bS b
theorem bi.goes{d:aL}{v:Value}(G:gD B aA sites bo w w' av bS)(M:w.heap.size<=w'.heap.size)(aoi:∀b,bS b->b<w'.heap.size)(r:bi w av d v):bi w' bS d v:=by
 induction r with
 |int k n=>exact .int k n
 |bool b=>exact .bool b
 |str l s h=>exact .str l s h
 |nil t=>exact .nil t
 |sl t xs a cap cs n hn hcap hb hl hc _ ih=>
  have key:xs≠[]->a.block<w.heap.size:=by
   intro hne;have nI:0<cs.length:=by
    rw[hl,dQ];exact Nat.mul_pos (List.length_pos_iff.mpr hne) (iQ t)
   have:=hc 0 (cs[0]) (List.getElem?_eq_getElem nI);have h2:=World.block_lt_of_cell? w _ this;have gm:(a.add 0).block=a.block:=by unfold Addr.add;split<;>rfl
   rwa[gm] at h2
  refine .sl t xs a cap cs n hn hcap (fun hx=>G.av _ (hb hx) (key hx)) hl (fun j u hu=>?_) ih
  have iX:=hc j u hu;have hne:xs≠[]:=by
   rintro rfl;have:cs=[]:=List.eq_nil_of_length_eq_zero (by simpa[flat] using hl)
   subst this;simp at hu
  have gm:(a.add j).block=a.block:=by unfold Addr.add;split<;>rfl
  rw[World.cell?_of_block (w:=w) (a:=a.add j) (by rw[gm];exact G.a6 _ (hb hne) (key hne))]
  exact iX
 |fn g bE bs ij lb AK o8 hb a3 hl hc _ ih=>
  refine .fn g bE bs ij lb AK o8 (fun b hm=>G.av b (hb b hm) (a3 b hm)) (fun b hm=>Nat.lt_of_lt_of_le (a3 b hm) M) hl (fun i hi j u hu=>?_) ih
  have iX:=hc i hi j u hu;have hm:bs[i]∈bs:=List.getElem_mem hi;rw[World.cell?_of_block (w:=w) (a:=⟨bs[i],j,none⟩) (G.a6 _ (hb _ hm) (a3 _ hm))];exact iX
 |sn t=>exact .sn t
 |pY T=>exact .pY T
 |err T n=>exact .err T n
 |map t es b hb hm=>exact .map t es b (G.av b hb hm.lt) (hm.of (G.a6 b hb hm.lt))
theorem Ref.goes{o s:Nat}{p qC:Prop}(G:gD B aA sites bo w w' av bS)(h:Ref sites o s p)(aj:bY (aA o)=bY (B o)->p->qC):Ref bo o s qC:=by
 obtain⟨O,h1,h2,aa⟩:=h;obtain⟨bI,g1,g2,g3⟩:=G.ref o O h1;refine⟨bI,g1,Nat.le_trans h2 g2,fun e=>?_⟩
 have:bI.b1=O.b1:=by omega
 exact aj (g3 this) (aa (by omega))
theorem dj.goes{l:aw}{v:Value}(G:gD B aA sites bo w w' av bS)(M:w.heap.size<=w'.heap.size)(b0:∀b,bS b->b<w'.heap.size)(h:dj B sites w av l v):dj aA bo w' bS l v:=by
 cases l with
 |d x=>exact bi.goes G M b0 h
 |nil t=>exact h
 |own o s=>exact⟨h.1,Ref.goes G h.2 (fun e p=>by rw[e];exact p)⟩
 |ptr o s off=>obtain⟨b,h1,h2⟩:=h;exact⟨b,h1,Ref.goes G h2 (fun e p=>by rw[e];exact p)⟩
 |ee cells off=>
  obtain⟨b,D,hv,hb,a3,cs,hl,hc,hr⟩:=h;refine⟨b,D,hv,G.av b hb a3,Nat.lt_of_lt_of_le a3 M,cs,hl,fun j u hu=>?_,fun j h1 h2=>(hr j h1 h2).goes G M b0⟩
  have iX:=hc j u hu;rw[World.cell?_of_block (w:=w) (a:=⟨b,D+j,none⟩) (G.a6 b hb a3)];exact iX
 |ej o s t k off=>obtain⟨b,h1,h2⟩:=h;exact⟨b,h1,Ref.goes G h2 (fun e p=>by rw[e];exact p)⟩
 |clo g bE=>
  obtain⟨vs,hv,hl,hr⟩:=h;exact⟨vs,hv,hl,fun i h1 h2=>Ref.goes G (hr i h1 h2) (fun e p=>p.trans e.symm)⟩
 |cB u=>exact h
 |fresh t xs=>exact h
 |eK t xs=>exact h
 |ev=>trivial
 |any=>trivial
theorem fW.goes{a:bz}{v:Value}(G:gD B aA sites bo w w' av bS)(M:w.heap.size<=w'.heap.size)(b0:∀b,bS b->b<w'.heap.size)(h:fW B sites w av a v):fW aA bo w' bS a v:=by
 cases a with
 |ai l=>exact dj.goes G M b0 h
 |agg U=>
  obtain⟨vs,hv,hl,hr⟩:=h;exact⟨vs,hv,hl,fun j h1 h2=>(hr j h1 h2).goes G M b0⟩
theorem b_.goes{a:aK}{v:Value}(G:gD B aA sites bo w w' av bS)(M:w.heap.size<=w'.heap.size)(b0:∀b,bS b->b<w'.heap.size)(h:b_ B sites w av a v):b_ aA bo w' bS a v:=by
 cases a with
 |av a=>exact fW.goes G M b0 h
 |jd as=>
  obtain⟨vs,hv,hl,hr⟩:=h;exact⟨vs,hv,hl,fun j h1 h2=>(hr j h1 h2).goes G M b0⟩
theorem ch.goes{ds:List aL}{vs:List Value}(G:gD B aA sites bo w w' av bS)(M:w.heap.size<=w'.heap.size)(b0:∀b,bS b->b<w'.heap.size)(h:ch w av ds vs):ch w' bS ds vs:=
 ⟨h.1,fun j h1 h2=>(h.2 j h1 h2).goes G M b0⟩
theorem Deep.goes{ds:List aL}{cs az:List Value}(G:gD B aA sites bo w w' av bS)(M:w.heap.size<=w'.heap.size)(b0:∀b,bS b->b<w'.heap.size)(h:Deep w av ds cs az):
  (∀n,n∈az->∀b,Jk.a6 n=some b->w'.heap[b]? =w.heap[b]?)->Deep w' bS ds cs az:=by
 induction h with
 |nil=>intro _;exact .nil
 |row u ys e U aj h hr _ ih=>intro ag;exact .row u ys e U aj (pm h (ag _ List.mem_cons_self)) (hr.goes G M b0) (ih fun n hn=>ag n (List.mem_cons_of_mem _ hn))
 |leaf aj h _ ih=>intro ag;exact .leaf aj (h.goes G M b0) (ih ag)
theorem it.goes{o:Nat}{O:Site}(G:gD B aA sites bo w w' av bS)(M:w.heap.size<=w'.heap.size)(b0:∀b,bS b->b<w'.heap.size)(bW:aA o=B o)
  (hb:O.live=true->∀b,b∈Jk.bJ (B o)->w'.heap[b]? =w.heap[b]?) (h:it B sites w av o O):it aA bo w' bS o O:=by
 cases O with
 |box s cells=>
  obtain⟨b,T,cur,h1,h2,aa,aI,H1,bD⟩:=h;have:=hb rfl b (fS (by rw[h1];rfl))
  exact⟨b,T,cur,bW.trans h1,this.trans h2,aa,aI,H1,fun j g1 g2=>(bD j g1 g2).goes G M b0⟩
 |row s t xs=>
  obtain⟨e,cs,h1,h2⟩:=h;refine⟨e,cs,?_,fun j g1 g2=>(h2 j g1 g2).goes G M b0⟩
  rw[bW];exact pm h1 fun b b9=>hb rfl b (fS b9)
 |cR s t xs=>exact⟨by rw[bW];exact bi.goes G M b0 h.1,by rw[bW];exact h.2⟩
 |map s t es=>
  obtain⟨b,h1,h2⟩:=h;exact⟨b,bW.trans h1,h2.of (hb rfl b (fS (by rw[h1];rfl)))⟩
 |deep s t xs=>
  obtain⟨e,v,az,cs,h1,h2,aa,aI⟩:=h;have ag:∀b,a6 v=some b\/(∃n,n∈az/\a6 n=some b)->w'.heap[b]? =w.heap[b]? :=fun b h=>hb rfl b (by rw[h1];exact im.2 h)
  exact⟨e,v,az,cs,bW.trans h1,by rw[bW];exact h2,pm aa fun b h=>ag b (.inl h),aI.goes G M b0 fun n hn b h=>ag b (.inr ⟨n,hn,h⟩)⟩
 |dead s=>trivial
end
theorem ah.oJ{L:World}{J:List Nat}{X:Nat->Prop}{B aA:Nat->Value}{st:ad}{bo:List (Nat×Site)}{tm:Array Value}{w w':World}
  (S:ah L J X B st tm w)
  (pV:∀o O,look st.sites o=some O->∃bI,look bo o=some bI/\O.b1<=bI.b1/\(bI.b1=O.b1->bY (aA o)=bY (B o)))
  (gm:∀b,¬an X B st.sites b->b<w.heap.size->w'.heap[b]? =w.heap[b]?)
  (b0:∀b,¬an X B st.sites b->b<w.heap.size->¬an X aA bo b)
  (af1:(∀{a v},b_ B st.sites w (an X B st.sites) a v->b_ aA bo w' (an X aA bo) a v)->∀o bI,look bo o=some bI->
   (look st.sites o=some bI/\aA o=B o/\(bI.live=true->∀b,b∈bJ (B o)->w'.heap[b]? =w.heap[b]?))\/it aA bo w' (an X aA bo) o bI)
  (ad6:∀o F b,bX bo o->bX bo F->b∈bJ (aA o)->b∈bJ (aA F)->o=F)
  (ad3:∀o b,bX bo o->b∈bJ (aA o)->¬X b/\(b∈J\/L.heap.size<=b))
  (a3:∀o b,bX bo o->b∈bJ (aA o)->b<w'.heap.size)
  (acT:Fr J L w') (M:w.heap.size<=w'.heap.size):
  ah L J X aA {st with sites:=bo} tm w':=by
 have G:gD B aA st.sites bo w w' (an X B st.sites) (an X aA bo):=⟨pV,gm,b0⟩;have u0:∀b,an X aA bo b->b<w'.heap.size:=by
  rintro b (hx|⟨o,h1,h2⟩)
  ·exact Nat.lt_of_lt_of_le (S.old b hx) M
  ·exact a3 o b h1 h2
 refine⟨S.nt,fun t=>(S.cF t).goes G M u0,fun o bI bg=>?_,ad6,ad3,acT,fun b h=>Nat.lt_of_lt_of_le (S.old b h) M,S.eS⟩
 rcases af1 (fun h=>h.goes G M u0) o bI bg with⟨h1,h2,aa⟩|h
 ·exact(S.sites o bI h1).goes G M u0 h2 aa
 ·exact h
def cl(tm:Array Value)(dst:Option Nat)(v:Value):Array Value:=
 match dst with
 |some d=>tm.setIfInBounds d v
 |none=>tm
section
variable {P:Program}{K:Act->World->Prop}{Q:Exit->Act->World->Prop}{D:Oper}{tm:Array Value}{w w':World}{vv:Value}
theorem mm(h:(execOp (Act.eval ⟨tm,[]⟩) D).run P w=.ok (.value vv) w')(ag:K ⟨cl tm D.dst vv,[]⟩ w'):D.wp P ⟨tm,[]⟩ w K Q:=by
 unfold Oper.wp;rw[h,Oper.upon_value];cases Y:D.dst with
 |none=>simp only[Y,cl] at ag;simpa[Act.put] using ag
 |some d=>simp only[Y,cl] at ag;simpa[Act.put] using ag
theorem ab9(h:(execOp (Act.eval ⟨tm,[]⟩) D).run P w=.ok .skip w')(ag:K ⟨cl tm D.dst undef,[]⟩ w'):D.wp P ⟨tm,[]⟩ w K Q:=by
 unfold Oper.wp;rw[h,Oper.upon_skip];cases Y:D.dst with
 |none=>simp only[Y,cl] at ag;simpa[Act.put] using ag
 |some d=>simp only[Y,cl] at ag;simpa[Act.put] using ag
end
def aW(sites:List (Nat×Site)):List (Nat×Site)->List (Nat×Site)
 |[]=>sites
 |(o,s)::r=>aW (b8 sites o s) r
theorem ad.tO(st:ad)(us:List (Nat×Site)):st.hs us={st with sites:=aW st.sites us}:=by
 induction us generalizing st with
 |nil=>rfl
 |cons p us ih=>obtain⟨o,s⟩:=p;simp only[ad.hs,aW];rw[ih];rfl
theorem hZ(sites:List (Nat×Site))(us vs:List (Nat×Site)):aW sites (us++vs)=aW (aW sites us) vs:=by
 induction us generalizing sites with
 |nil=>rfl
 |cons p us ih=>obtain⟨o,s⟩:=p;simp only[List.cons_append,aW];exact ih _
section
variable {L:World}{J:List Nat}{X:Nat->Prop}{B:Nat->Value}{st:ad}{tm:Array Value}{w:World}
theorem ah.put(S:ah L J X B st tm w){t:Nat}{v:aK}{vv:Value}(aC:t<st.nt)(hv:b_ B st.sites w (an X B st.sites) v vv):
  ah L J X B (st.set t v) (tm.setIfInBounds t vv) w:=by
 refine⟨by simpa using S.nt,fun u=>?_,S.sites,S.de,S.b7,S.frame,S.old,S.eS⟩
 rw[ad.D6];by_cases h:t=u
 ·subst h;simp only[if_true];have:(tm.setIfInBounds t vv).getD t undef=vv:=by
   have h1:t<tm.size:=by rw[S.nt];exact aC
   simp[Array.getD,h1]
  rw[this];exact hv
 ·simp only[h,if_false];have:(tm.setIfInBounds t vv).getD u undef=tm.getD u undef:=by
   simp only[Array.getD_eq_getD_getElem?,Array.getElem?_setIfInBounds,h,if_false]
  rw[this];exact S.cF u
theorem ah.cu{dst:Option Nat}{v:aK}{vv:Value}{us:List (Nat×Site)}(S:ah L J X B {st with sites:=aW st.sites us} tm w)
  (Y:b6 st dst=true) (hv:b_ B (aW st.sites us) w (an X B (aW st.sites us)) v vv):ah L J X B (st.cu dst v us) (cl tm dst vv) w:=by
 cases dst with
 |none=>simp only[ad.cu,ad.tO,cl];exact S
 |some t=>
  simp only[ad.cu,ad.tO,cl];have aC:t<st.nt:=by simpa[b6] using Y
  exact ah.put (st:={st with sites:=aW st.sites us}) S aC hv
theorem cT(S:ah L J X B st tm w)(C:Ctx)(T:TypeId)(x:Operand):b_ B st.sites w (an X B st.sites) (aP C st T x) (Act.eval ⟨tm,[]⟩ x):=by
 cases x with
 |tmp t=>exact S.cF t
 |const v=>
  show b_ _ _ _ _ (uc (C.tt T) v) v;unfold uc;split
  ·exact .int _ _
  ·exact .bool _
  ·exact .str _ _ rfl
  ·split<;>exact rfl
  ·split
   ·exact .sn _
   ·exact rfl
  ·trivial
  ·trivial
  ·exact rfl
 |global g=>exact rfl
 |func f=>
  refine⟨[],rfl,rfl,fun i h=>?_⟩
  simp at h
variable {P:Program}{C:Ctx}{D:Oper}{K:Act->World->Prop}{Q:Exit->Act->World->Prop}
def cz(P:Program)(L:World)(J:List Nat)(X:Nat->Prop)(st:ad)(tm:Array Value)(w:World)(D:Oper)(v:aK)(us:List (Nat×Site)):Prop:=
 ∀(K:Act->World->Prop) (Q:Exit->Act->World->Prop),(∀aA bT w',ah L J X aA (st.cu D.dst v us) bT w'->K ⟨bT,[]⟩ w')->D.wp P ⟨tm,[]⟩ w K Q
theorem dv(S:ah L J X B st tm w)(Y:b6 st D.dst=true){v:aK}{vv:Value}
  (h:(execOp (Act.eval ⟨tm,[]⟩) D).run P w=.ok (.value vv) w) (hv:b_ B st.sites w (an X B st.sites) v vv):cz P L J X st tm w D v []:=
 fun _ _ bC=>mm h (bC _ _ _ (ah.cu (us:=[]) S Y hv))
end
section
variable {P:Program}{w:World}
theorem Vm(op:BinOp)(t:TypeId)(x y:Operand)(k k':IntKind)(a b:Int):(eqGuard op t x y (.int k a) (.int k' b)).run P w=.ok () w:=by
 unfold eqGuard;cases op<;>rfl
theorem Ve(op:BinOp)(t:TypeId)(x y:Operand)(a b:ByteArray):(eqGuard op t x y (.string a) (.string b)).run P w=.ok () w:=by
 unfold eqGuard;cases op<;>rfl
theorem Jb(op:BinOp)(t:TypeId)(x y:Operand)(a b:Bool):(eqGuard op t x y (.bool a) (.bool b)).run P w=.ok () w:=by
 unfold eqGuard;cases op<;>rfl
def Holds(r:c5)(dG:aK->List (Nat×Site)->Prop):Prop:=∀y,r.comp=some y->r.qt y=true->dG (r.val y) (r.us y)
theorem Holds.fail{dG:aK->List (Nat×Site)->Prop}:Holds .fail dG:=fun _ h _=>by cases h
theorem Holds.ok{v:aK}{dG:aK->List (Nat×Site)->Prop}(h:dG v []):Holds (.ok v) dG:=fun _ _ _=>h
theorem Holds.e8{v:aK}{us:List (Nat×Site)}{dG:aK->List (Nat×Site)->Prop}(h:dG v us):Holds (.e8 v us) dG:=fun _ _ _=>h
theorem Holds.d'{H:Type}{c:Option H}{f:H->aK}{dG:aK->List (Nat×Site)->Prop}(h:∀y,c=some y->dG (f y) []):Holds (.d' c f) dG:=fun y ak _=>h y ak
theorem Holds.e3{H:Type}{c:Option H}{f:H->aK}{us:H->List (Nat×Site)}{dG:aK->List (Nat×Site)->Prop}(h:∀y,c=some y->dG (f y) (us y)):Holds (.e3 c f us) dG:=fun y ak _=>h y ak
def Plain(P:Program)(w:World)(s:Sem Value)(v:aK)(us:List (Nat×Site)):Prop:=
 ∃vv d,s.run P w=.ok vv w/\us=[]/\v=one d/\∀av,bi w av d vv
theorem Plain.mk{s:Sem Value}{vv:Value}{d:aL}(h:s.run P w=.ok vv w)(hr:∀av,bi w av d vv):Plain P w s (one d) []:=⟨vv,d,h,rfl,rfl,hr⟩
theorem Y0(op:BinOp)(T:TypeId)(k:IntKind)(a b:Int)(M:op≠.shl)(eT:op≠.shr):
  Holds (OF op k a b) (Plain P w (binOp op T (.int k a) (.int k b))):=by
 cases op with
 |shl=>exact absurd rfl M
 |shr=>exact absurd rfl eT
 |andNot=>exact .fail
 |quo=>
  refine Holds.d' fun y ak=>?_
  unfold si at ak;split at ak
  ·cases ak
  ·rename_i hb;cases ak;exact .mk (by simp[binOp,Op.intDiv,hb]) fun av=>.int _ _
 |rem=>
  refine Holds.d' fun y ak=>?_
  unfold sg at ak;split at ak
  ·cases ak
  ·rename_i hb;cases ak;exact .mk (by simp[binOp,Op.intDiv,hb]) fun av=>.int _ _
 |add=>exact Holds.ok (.mk (by simp[binOp,Op.intArith]) fun av=>.int _ _)
 |sub=>exact Holds.ok (.mk (by simp[binOp,Op.intArith]) fun av=>.int _ _)
 |mul=>exact Holds.ok (.mk (by simp[binOp,Op.intArith]) fun av=>.int _ _)
 |and=>exact Holds.ok (.mk (by simp[binOp,Op.intBits,QV]) fun av=>.int _ _)
 |or=>exact Holds.ok (.mk (by simp[binOp,Op.intBits,Sg]) fun av=>.int _ _)
 |xor=>exact Holds.ok (.mk (by simp[binOp,Op.intBits,se]) fun av=>.int _ _)
 |eql=>exact Holds.ok (.mk (by simp[binOp,Op.intCmp]) fun av=>.bool _)
 |neq=>exact Holds.ok (.mk (by simp[binOp,Op.intCmp]) fun av=>.bool _)
 |lss=>exact Holds.ok (.mk (by simp[binOp,Op.intCmp]) fun av=>.bool _)
 |leq=>exact Holds.ok (.mk (by simp[binOp,Op.intCmp]) fun av=>.bool _)
 |gtr=>exact Holds.ok (.mk (by simp[binOp,Op.intCmp]) fun av=>.bool _)
 |geq=>exact Holds.ok (.mk (by simp[binOp,Op.intCmp]) fun av=>.bool _)
theorem YY(op:BinOp)(T:TypeId)(a b:ByteArray):
  Holds (Ok op a.data.toList b.data.toList) (Plain P w (binOp op T (.string a) (.string b))):=by
 have e1:a.toList=a.data.toList:=ByteArray.toList_eq a;have e2:b.toList=b.data.toList:=ByteArray.toList_eq b;have cW:a.data.toList.length=a.size:=rfl;have ga:b.data.toList.length=b.size:=rfl;cases op with
 |add=>
  refine Holds.d' fun y ak=>?_
  simp only[n3,cW,ga] at ak;split at ak
  ·cases ak
  ·rename_i hc;cases ak;refine .mk (vv:=.string (a++b)) ?_ fun av=>.str _ _ (by simp[ByteArray.data_append])
   simp only[binOp,Op.stringOp,hc,if_false,Sem.run_pure]
 |eql=>exact Holds.ok (.mk (by rw[<-e1,<-e2];rfl) fun av=>.bool _)
 |neq=>exact Holds.ok (.mk (by rw[<-e1,<-e2];rfl) fun av=>.bool _)
 |lss=>exact Holds.ok (.mk (by rw[<-e1,<-e2];rfl) fun av=>.bool _)
 |leq=>exact Holds.ok (.mk (by rw[<-e1,<-e2];rfl) fun av=>.bool _)
 |gtr=>exact Holds.ok (.mk (by rw[<-e1,<-e2];rfl) fun av=>.bool _)
 |geq=>exact Holds.ok (.mk (by rw[<-e1,<-e2];rfl) fun av=>.bool _)
 |_=>exact .fail
end
def pt:aw->Option Value
 |.d (.int k n)=>some (.int k n)
 |.d (.bool b)=>some (.bool b)
 |.d (.str [])=>some (.string ⟨#[]⟩)
 |.nil _=>some (.slice none 0 0)
 |.cB (.pointer none)=>some (.pointer none)
 |.cB .nilFunc=>some .nilFunc
 |.cB (.map none)=>some (.map none)
 |.cB .nilIface=>some .nilIface
 |_=>none
def kM:List aw->Option (List Value)
 |[]=>some []
 |l::U=>match pt l,kM U with
  |some v,some vs=>some (v::vs)
  |_,_=>none
theorem J3{l:aw}{v:Value}(h:pt l=some v)(B:Nat->Value)(sites:List (Nat×Site))(w:World)(av:Nat->Prop):dj B sites w av l v/\v.oneCell'=true:=by
 unfold pt at h;split at h<;>first|cases h|skip
 ·exact⟨.int _ _,rfl⟩
 ·exact⟨.bool _,rfl⟩
 ·exact⟨.str _ _ rfl,rfl⟩
 ·exact⟨rfl,rfl⟩
 ·exact⟨rfl,rfl⟩
 ·exact⟨rfl,rfl⟩
 ·exact⟨rfl,rfl⟩
 ·exact⟨rfl,rfl⟩
theorem qM:∀{U:List aw} {vs:List Value},kM U=some vs->vs.length=U.length/\(∀u∈vs,u.oneCell'=true)/\
  ∀(B:Nat->Value) (sites:List (Nat×Site)) (w:World) (av:Nat->Prop) j (h:j<U.length) (ab:j<vs.length),dj B sites w av (U[j]) (vs[j]):=by
 intro U;induction U with
 |nil=>intro vs h;simp[kM] at h;subst h;exact⟨rfl,fun u hu=>by simp at hu,fun _ _ _ _ j h=>by simp at h⟩
 |cons l U ih=>
  intro vs h;simp only[kM] at h;split at h
  ·rename_i v cq h1 h2;cases h;obtain⟨g1,g2,g3⟩:=ih h2;refine⟨by simp[g1],fun u hu=>?_,fun B sites w av j hj jg=>?_⟩
   ·rcases List.mem_cons.1 hu with rfl|hu
    ·exact(J3 h1 (fun _=>undef) [] default (fun _=>False)).2
    ·exact g2 u hu
   ·cases j with
    |zero=>exact(J3 h1 _ _ _ _).1
    |succ j=>exact g3 B sites w av j (by simpa using hj) (by simpa using jg)
  ·cases h
def nr:Value->Value->Option Bool
 |.int k a,.int k' b=>if k=k' then some (a==b) else none
 |.bool a,.bool b=>some (a==b)
 |.string a,.string b=>some (a==b)
 |_,_=>none
def iO:List Value->List Value->Option Bool
 |[a],[b]=>nr a b
 |a::as,b::bs=>match nr a b,iO as bs with
  |some x,some y=>some (x&&y)
  |_,_=>none
 |_,_=>none
def oR:List aw->List Value->Bool
 |[],[]=>true
 |.d (.int _ _)::z,.int _ _::l=>oR z l
 |.d (.bool _)::z,.bool _::l=>oR z l
 |.d (.str _)::z,.string _::l=>oR z l
 |_,_=>false
def iB(P:Program)(T:TypeId)(d:TypeDesc)(z:Value):Prop:=
 P.underlying T=some d/\(∀bN,d≠.struct bN)/\(∀n e,d≠.array n e)/\(P.info? T).map (fun i=>(i.size,i.zero))=some (1,some z)
def mapElem(P:Program)(e:TypeId):aF->Prop
 |.i64=>iB P e (.int .i64) (.int .i64 0)
 |.bool=>iB P e .bool (.bool false)
 |_=>False
def Ej(P:Program)(e:TypeId):aF->Prop
 |.i64=>iB P e (.int .i64) (.int .i64 0)
 |.u32=>iB P e (.int .u32) (.int .u32 0)
 |.bool=>iB P e .bool (.bool false)
 |.str=>iB P e .string (.string ⟨#[]⟩)
 |_=>False
def cd.ok(P:Program)(T:TypeId):cd->Prop
 |.none=>True
 |.int k=>iB P T (.int k) (.int k 0)
 |.bool=>iB P T .bool (.bool false)
 |.str=>iB P T .string (.string ⟨#[]⟩)
 |.ptr=>∃e,iB P T (.pointer e) (.pointer Option.none)
 |.func=>∃ps kv v,iB P T (.func ps kv v) .nilFunc
 |.slice e t bytes=>iB P T (.slice e) (.slice Option.none 0 0)/\∃z,(P.info? e).map (fun i=>(i.size,i.bytes,i.zero))=some (ax t,bytes,some z)/\z.cells.size=ax t/\(t.ek=true->e=lc)
 |.struct bN n z eq=>∃fields:Array Field,P.underlying T=some (.struct fields)/\
   (fields.toList.mapM (fun f=>(P.info? f.type).map fun i=>(f.offset,i.size))=some bN/\∀p∈bN,p.2≠0)/\
   (∃fl,(P.info? T).map (fun i=>(i.size,i.zero))=some (n,some (.agg fl))/\kM z=some fl.toList/\z.length=n)/\
   (eq=true->P.eqGuardType P.depth T=false/\∀(vs us:List Value) (b:Bool) (w:World),iO vs us=some b->oR z vs=true->(Op.equal T (.agg vs.toArray) (.agg us.toArray)).run P w=.ok b w)
 |.map k e t=>iB P T (.map k e) (.map Option.none)/\P.underlying k=some .string/\mapElem P e t
 |.iface=>∃ii,iB P T (.interface ii) .nilIface
 |.arr e t n=>P.underlying T=some (.array n e)/\(∃fl z,(P.info? T).map (fun i=>(i.size,i.zero))=some (n,some (.agg fl))/\sA t=some z/\kM (List.replicate n z)=some fl.toList)/\Ej P e t
section
variable {P:Program}{T:TypeId}{w:World}
theorem kG{i:TypeInfo}(h:P.info? T=some i):(typeInfo T).run P w=.ok i w:=by
 simp[typeInfo,h]
theorem cd.LY{ti:cd}(h:ti.ok P T)(hn:ti≠.none):(sizeOf T).run P w=.ok ti.size w:=by
 have key:∀{z:Option Value} {n:Nat},(P.info? T).map (fun i=>(i.size,i.zero))=some (n,z)->(sizeOf T).run P w=.ok n w:=by
  intro z n h;cases hi:P.info? T with
  |none=>simp[hi] at h
  |some i=>
   simp only[hi,Option.map_some,Option.some.injEq,Prod.mk.injEq] at h;simp[sizeOf,kG hi,h.1]
 cases ti with
 |none=>exact absurd rfl hn
 |int k=>exact key h.2.2.2
 |bool=>exact key h.2.2.2
 |str=>exact key h.2.2.2
 |ptr=>obtain⟨e,h⟩:=h;exact key h.2.2.2
 |func=>obtain⟨_,_,_,h⟩:=h;exact key h.2.2.2
 |iface=>obtain⟨_,h⟩:=h;exact key h.2.2.2
 |slice e t b=>exact key h.1.2.2.2
 |map k e t=>exact key h.1.2.2.2
 |struct bN n z eq=>obtain⟨fields,_,_,⟨fl,h,_⟩,_⟩:=h;exact key h
 |arr e t n=>obtain⟨_,⟨fl,z,h,_⟩,_⟩:=h;exact key h
theorem cd.xk{ti:cd}(h:ti.ok P T){z:List aw}(hz:ti.zero=some z):∃v,(zeroValue T).run P w=.ok v w/\kM z=some v.cells.toList:=by
 have key:∀{z:Value} {n:Nat},(P.info? T).map (fun i=>(i.size,i.zero))=some (n,some z)->(zeroValue T).run P w=.ok z w:=by
  intro z n h;cases hi:P.info? T with
  |none=>simp[hi] at h
  |some i=>
   simp only[hi,Option.map_some,Option.some.injEq,Prod.mk.injEq] at h;simp[zeroValue,kG hi,h.2]
 cases ti with
 |none=>cases hz
 |int k=>cases hz;exact⟨_,key h.2.2.2,rfl⟩
 |bool=>cases hz;exact⟨_,key h.2.2.2,rfl⟩
 |str=>cases hz;exact⟨_,key h.2.2.2,rfl⟩
 |ptr=>cases hz;obtain⟨e,h⟩:=h;exact⟨_,key h.2.2.2,rfl⟩
 |func=>cases hz;obtain⟨_,_,_,h⟩:=h;exact⟨_,key h.2.2.2,rfl⟩
 |iface=>cases hz;obtain⟨_,h⟩:=h;exact⟨_,key h.2.2.2,rfl⟩
 |slice e t b=>cases hz;exact⟨_,key h.1.2.2.2,rfl⟩
 |map k e t=>cases hz;exact⟨_,key h.1.2.2.2,rfl⟩
 |struct bN n ea eq=>cases hz;obtain⟨fields,_,_,⟨fl,h,h2,_⟩,_⟩:=h;exact⟨_,key h,h2⟩
 |arr e t n=>
  obtain⟨_,⟨fl,Bf,h,h1,h2⟩,_⟩:=h;simp only[cd.zero,h1,Option.map_some,Option.some.injEq] at hz;subst hz;exact⟨_,key h,h2⟩
theorem cd.KW{ti:cd}(h:ti.ok P T)(hn:ti≠.none):(isAgg T).run P w=.ok ti.agg w:=by
 have key:∀{d:TypeDesc},P.underlying T=some d->(∀bN,d≠.struct bN)->(∀n e,d≠.array n e)->(isAgg T).run P w=.ok false w:=by
  intro d h h1 h2;simp only[isAgg,Sem.run_bind,run_underlying h,Result.andThen_ok];cases d<;>first|rfl|exact absurd rfl (h1 _)|exact absurd rfl (h2 _ _)
 cases ti with
 |none=>exact absurd rfl hn
 |int k=>exact key h.1 h.2.1 h.2.2.1
 |bool=>exact key h.1 h.2.1 h.2.2.1
 |str=>exact key h.1 h.2.1 h.2.2.1
 |ptr=>obtain⟨e,h⟩:=h;exact key h.1 h.2.1 h.2.2.1
 |func=>obtain⟨_,_,_,h⟩:=h;exact key h.1 h.2.1 h.2.2.1
 |iface=>obtain⟨_,h⟩:=h;exact key h.1 h.2.1 h.2.2.1
 |slice e t b=>exact key h.1.1 h.1.2.1 h.1.2.2.1
 |map k e t=>exact key h.1.1 h.1.2.1 h.1.2.2.1
 |struct bN n z eq=>
  obtain⟨fields,h,_⟩:=h;simp only[isAgg,Sem.run_bind,run_underlying h,Result.andThen_ok];rfl
 |arr e t n=>
  obtain⟨h,_⟩:=h;simp only[isAgg,Sem.run_bind,run_underlying h,Result.andThen_ok];rfl
def rO(agg:Bool)(cs:List Value):Value:=bif agg then .agg cs.toArray else cs.headD undef
theorem qK{ti:cd}(h:ti.ok P T)(hn:ti≠.none)(a:Addr)(cs:List Value)(hl:cs.length=ti.size)(hc:∀j u,cs[j]? =some u->w.cell? (a.add j)=some u):
  (loadVar T a).run P w=.ok (rO ti.agg cs) w:=by
 simp only[loadVar,Sem.run_bind,cd.KW h hn,Result.andThen_ok];cases Gl:ti.agg with
 |true=>
  simp only[if_true,Sem.run_bind,cd.LY h hn,Result.andThen_ok,rO,cond_true];rw[<-hl,run_loadCells_list w a cs hc];rfl
 |false=>
  have h1:ti.size=1:=by cases ti<;>first|rfl|cases Gl
  rw[h1] at hl;match cs,hl with
  |[c],_=>
   have h0:=hc 0 c rfl;have a9:a.add 0=a:=by unfold Addr.add;simp
   rw[a9] at h0;simp[rO,h0]
end
section
variable {B:Nat->Value}{sites:List (Nat×Site)}{w:World}{av:Nat->Prop}
def ck(B:Nat->Value)(sites:List (Nat×Site))(w:World)(av:Nat->Prop)(U:List aw)(vs:List Value):Prop:=
 vs.length=U.length/\∀j (h:j<U.length) (ab:j<vs.length),dj B sites w av (U[j]) (vs[j])
theorem ck.nil:ck B sites w av [] []:=⟨rfl,fun j h=>by simp at h⟩
theorem ck.cons{l:aw}{U:List aw}{v:Value}{vs:List Value}(h:dj B sites w av l v)(M:ck B sites w av U vs):ck B sites w av (l::U) (v::vs):=
 ⟨by simp[M.1],fun j h1 h2=>by
  cases j with
  |zero=>exact h
  |succ j=>exact M.2 j (by simpa using h1) (by simpa using h2)⟩
theorem ck.inv{l:aw}{U:List aw}{vs:List Value}(h:ck B sites w av (l::U) vs):∃v cq,vs=v::cq/\dj B sites w av l v/\ck B sites w av U cq:=by
 obtain⟨h1,h2⟩:=h;match vs,h1 with
 |v::cq,h1=>
  exact⟨v,cq,rfl,h2 0 (by simp) (by simp),by simpa using h1,fun j g1 g2=>h2 (j+1) (by simpa using g1) (by simpa using g2)⟩
theorem ck.kO{vs:List Value}(h:ck B sites w av [] vs):vs=[]:=List.eq_nil_of_length_eq_zero h.1
theorem ck.drop{U:List aw}{vs:List Value}(n:Nat)(h:ck B sites w av U vs):ck B sites w av (U.drop n) (vs.drop n):=
 ⟨by simp[h.1],fun j h1 h2=>by simp only[List.getElem_drop];exact h.2 _ (by simp at h1;omega) (by simp at h2;omega)⟩
theorem ck.take{U:List aw}{vs:List Value}(n:Nat)(h:ck B sites w av U vs):ck B sites w av (U.take n) (vs.take n):=
 ⟨by simp[h.1],fun j h1 h2=>by simp only[List.getElem_take];exact h.2 _ (by simp at h1;omega) (by simp at h2;omega)⟩
theorem ck.append{U dl:List aw}{vs cq:List Value}(h:ck B sites w av U vs)(ab:ck B sites w av dl cq):ck B sites w av (U++dl) (vs++cq):=by
 induction U generalizing vs with
 |nil=>rw[h.kO];exact ab
 |cons l U ih=>
  obtain⟨v,aon,rfl,h1,h2⟩:=h.inv;exact .cons h1 (ih h2)
theorem ck.a8{U dl:List aw}{vs cq:List Value}(off:Nat)(h:ck B sites w av U vs)(ab:ck B sites w av dl cq):ck B sites w av (Jk.a8 U off dl) (Jk.a8 vs off cq):=by
 unfold Jk.a8;rw[ab.1];exact((h.take off).append ab).append (h.drop _)
theorem dj.h4{l:aw}{u:Value}(h:dj B sites w av l u)(c9:l.storable=true):u.oneCell'=true:=by
 cases l with
 |d x=>exact bi.h4 h
 |nil t=>rw[show u=_ from h];rfl
 |own o s=>exact h.1
 |ptr o s off=>obtain⟨b,rfl,_⟩:=h;rfl
 |ee c D=>cases c9
 |ej _ _ _ _ _=>cases c9
 |clo g bE=>obtain⟨vs,rfl,_⟩:=h;rfl
 |cB x=>rw[show u=x from h];cases x<;>first|rfl|cases c9
 |fresh t xs=>cases c9
 |eK t xs=>cases c9
 |ev=>cases c9
 |any=>cases c9
theorem ck.h4{U:List aw}{vs:List Value}(h:ck B sites w av U vs)(c9:gf U=true):∀u∈vs,u.oneCell'=true:=by
 induction U generalizing vs with
 |nil=>rw[h.kO];intro u hu;simp at hu
 |cons l U ih=>
  obtain⟨v,cq,rfl,h1,h2⟩:=h.inv;simp only[gf,Bool.and_eq_true] at c9;intro u hu;rcases List.mem_cons.1 hu with rfl|hu
  ·exact h1.h4 c9.1
  ·exact ih h2 c9.2 u hu
theorem fW.cells{a:bz}{v:Value}(h:fW B sites w av a v)(c9:gf a.cells=true):ck B sites w av a.cells v.cells.toList:=by
 cases a with
 |ai l=>
  have h1:v.oneCell'=true:=dj.h4 h (by simpa[bz.cells,gf] using c9)
  have:v.cells=#[v]:=by cases v<;>first|rfl|cases h1
  rw[this];exact .cons h .nil
 |agg U=>
  obtain⟨vs,rfl,h1,h2⟩:=h;exact⟨h1,h2⟩
theorem NV{agg:Bool}{off n:Nat}{U:List aw}{vs:List Value}{v:aK}(hc:cut agg off n U=some v)(h1:agg=false->n=1)(h:ck B sites w av U vs):
  off+n<=vs.length/\b_ B sites w av v (rO agg ((vs.drop off).take n)):=by
 unfold cut at hc;cases agg with
 |true=>
  simp only[cond_true] at hc;cases hb:Nat.ble (off+n) U.length with
  |false=>simp[hb] at hc
  |true=>
   simp only[hb,cond_true,Option.some.injEq] at hc;subst hc;have cY:off+n<=U.length:=Nat.le_of_ble_eq_true hb;have:=(h.drop off).take n;exact⟨by rw[h.1];exact cY,_,rfl,this.1,this.2⟩
 |false=>
  simp only[cond_false] at hc;have hn:=h1 rfl;subst hn;cases Y:U.drop off with
  |nil=>simp[Y] at hc
  |cons l r=>
   simp only[Y,Option.some.injEq] at hc;subst hc;have Ts:=h.drop off;rw[Y] at Ts;obtain⟨u,us,hu,hl,_⟩:=Ts.inv;have hlen:off<U.length:=by
    rcases Nat.lt_or_ge off U.length with h|h
    ·exact h
    ·rw[List.drop_eq_nil_of_le h] at Y;cases Y
   refine⟨by rw[h.1];omega,?_⟩
   rw[hu];exact hl
theorem gV{ds:List aL}{vs:List Value}(hl:vs.length=ds.length)(h:∀j (h:j<ds.length) (ab:j<vs.length),bi w av (ds[j]) (vs[j])):ck B sites w av (cC ds) vs:=
 ⟨by simp[cC,hl],fun j h1 h2=>by simp only[cC,List.getElem_map];exact h j (by simpa[cC] using h1) h2⟩
end
theorem gh(b D j:Nat):(⟨b,D,none⟩:Addr).add j=⟨b,D+j,none⟩:=by
 unfold Addr.add;split<;>simp_all
def ho(w:World)(b D:Nat)(cs:List Value):Prop:=∀j u,cs[j]? =some u->w.cell? ⟨b,D+j,none⟩=some u
theorem ho.drop{w:World}{b D:Nat}{cs:List Value}(h:ho w b D cs)(m:Nat):ho w b (D+m) (cs.drop m):=by
 intro j u hu;rw[List.getElem?_drop] at hu;have:=h _ _ hu;rwa[Nat.add_assoc]
theorem ho.take{w:World}{b D:Nat}{cs:List Value}(h:ho w b D cs)(m:Nat):ho w b D (cs.take m):=by
 intro j u hu;rw[List.getElem?_take] at hu;split at hu
 ·exact h _ _ hu
 ·cases hu
theorem ho.row{w:World}{b:Nat}{cur:List Value}{T:TypeId}{cw:Nat×Nat}(h:w.heap[b]? =some (.cells cur.toArray T cw)):ho w b 0 cur:=by
 intro j u hu;rw[Nat.zero_add,cell_of_row w b j _ T cw h];simpa using hu
theorem ts(t:aF)(xs:List (den t))(k:Nat)(x:den t)(hx:xs[k]? =some x):((flat t xs).drop (k*ax t)).take (ax t)=enc t x:=by
 apply List.ext_getElem?;intro j;rw[List.getElem?_take,List.getElem?_drop];split
 ·rename_i hj;exact flat_get t xs k j x hx hj
 ·rename_i hj;rw[List.getElem?_eq_none (by rw[fc];omega)]
section
variable {P:Program}{C:g5}{L:World}{J:List Nat}{X:Nat->Prop}{B:Nat->Value}{st:ad}{tm:Array Value}{w:World}
theorem gw{o s:Nat}{cells:List aw}(h:fs st o s=some cells):look st.sites o=some (.box s cells):=by
 unfold fs ad.O at h;split at h
 ·rename_i am iT hl;cases hb:am.beq s with
  |false=>simp[hb] at h
  |true=>
   simp only[hb,cond_true,Option.some.injEq] at h;have:=Nat.eq_of_beq_eq_true hb;subst this h;exact hl
 ·cases h
theorem jt{o s:Nat}{t:aF}{xs:List (den t)}(h:rowOf st o s=some ⟨t,xs⟩):look st.sites o=some (.row s t xs)\/look st.sites o=some (.cR s t xs):=by
 unfold rowOf ad.O at h;split at h
 ·rename_i am bj hB hl;cases hb:am.beq s with
  |false=>simp[hb] at h
  |true=>
   simp only[hb,cond_true,Option.some.injEq] at h;have:=Nat.eq_of_beq_eq_true hb;subst this;cases h;exact .inl hl
 ·rename_i am bj hB hl;cases hb:am.beq s with
  |false=>simp[hb] at h
  |true=>
   simp only[hb,cond_true,Option.some.injEq] at h;have:=Nat.eq_of_beq_eq_true hb;subst this;cases h;exact .inr hl
 ·cases h
theorem Ref.at{sites:List (Nat×Site)}{o s:Nat}{p:Prop}{O:Site}(h:Ref sites o s p)(hl:look sites o=some O)(M:O.b1=s):p:=by
 obtain⟨bI,h1,_,aa⟩:=h;rw[hl] at h1;cases h1;exact aa M
theorem Ref.mk{sites:List (Nat×Site)}{o s:Nat}{p:Prop}{O:Site}(hl:look sites o=some O)(M:O.b1=s)(aj:p):Ref sites o s p:=
 ⟨O,hl,by omega,fun _=>aj⟩
theorem ah.box(S:ah L J X B st tm w){o s off:Nat}{cells:List aw}(h:look st.sites o=some (.box s cells)){v:Value}(hv:dj B st.sites w (an X B st.sites) (.ptr o s off) v):
  ∃b T cur,B o=.pointer (some ⟨b,0,none⟩)/\v=.pointer (some ⟨b,off,none⟩)/\w.heap[b]? =some (.cells (List.toArray cur) T (0,0))/\(∀u∈cur,u.oneCell'=true)/\ck B st.sites w (an X B st.sites) cells cur:=by
 obtain⟨b,T,cur,h1,h2,aa,aI,_,bD⟩:=S.sites o _ h;obtain⟨a_,g2,g3⟩:=hv;have g1:=Ref.at g3 h rfl;rw[h1] at g1;cases g1;exact⟨b,T,cur,h1,g2,h2,aI,aa,bD⟩
theorem ah.row(S:ah L J X B st tm w){o s:Nat}{t:aF}{xs:List (den t)}(h:rowOf st o s=some ⟨t,xs⟩):
  ∃cs:List Value,ck B st.sites w (an X B st.sites) (cC (flat t xs)) cs/\
   ((bY (B o)=.slice none 0 0/\xs=[])\/∃b c,bY (B o)=.slice (some ⟨b,0,none⟩) xs.length c/\ho w b 0 cs/\xs.length<=c):=by
 rcases jt h with h|h
 ·obtain⟨e,cs,h1,h2⟩:=S.sites o _ h;have hl:cs.length=(flat t xs).length:=by rw[dQ];exact h1.1
  refine⟨cs,gV hl h2,?_⟩;rw[(is h1).1];rcases h1.2 with⟨hn,h0⟩|⟨g,cap,cur,bG,hv,_,hg,hnc,_,_,jK⟩
  ·exact .inl ⟨hn,List.eq_nil_of_length_eq_zero h0⟩
  ·refine .inr ⟨_,_,hv,fun j u hu=>?_,hnc⟩
   rw[Nat.zero_add,cell_of_row w g j cur e bG hg];rw[<-jK,List.getElem?_take] at hu;split at hu
   ·simpa using hu
   ·cases hu
 ·obtain⟨h1,bR⟩:bi w (an X B st.sites) (.sl t xs) (bY (B o))/\u_ (bY (B o)):=S.sites o _ h;generalize hv:bY (B o)=v at h1 bR;cases h1 with
  |nil t=>exact⟨[],⟨rfl,fun j h=>by simp[cC,flat] at h⟩,.inl ⟨rfl,rfl⟩⟩
  |sl t xs a cap cs n hn hcap hb hl hc hr=>
   subst hn;rcases bR with bR|⟨b,n,c,bR⟩
   ·cases bR
   ·cases bR;exact⟨cs,gV hl hr,.inr ⟨b,cap,rfl,fun j u hu=>by have:=hc j u hu;rwa[gh] at this,hcap⟩⟩
def RK(g:Nat)(t:aF)(xs:List (den t)):Prop:=g∈nZ/\∀w (av:Nat->Prop),o' w->∃T bG,∃cs:List Value,w.heap[g]? =some (.cells cs.toArray T bG)/\cs.length=(flat t xs).length/\∀j (h:j<(flat t xs).length) (ab:j<cs.length),bi w av ((flat t xs)[j]) (cs[j])
structure CtxOk(P:Program)(C:Ctx):Prop where
 tt:∀T,(C.tt T).ok P T
 gt:∀g t xs,C.gt g=some ⟨t,xs⟩->RK g t xs
theorem CQ{ti:cd}(h:ti.known=true):ti≠.none:=by rintro rfl;cases h
theorem C'{ti:cd}(h:ti.agg=false):ti.size=1:=by cases ti<;>first|rfl|cases h
theorem aah{agg:Bool}{off n:Nat}{U:List aw}(h:off+n<=U.length)(h1:agg=false->n=1):cut agg off n U≠none:=by
 unfold cut;cases agg with
 |true=>
  have:Nat.ble (off+n) U.length=true:=Nat.ble_eq_true_of_le h;simp[this]
 |false=>
  have:=h1 rfl;simp only[cond_false];cases Y:U.drop off with
  |nil=>have:=congrArg List.length Y;simp at this;omega
  |cons l r=>simp
theorem abr(S:ah L J X B st tm w){C:Ctx}(ay:CtxOk P C){D:Oper}{T:TypeId}{x:Operand}(au:D.op=.load T x)(Y:b6 st D.dst=true)(ag:(C.tt T).known=true):
  Holds (rV (C.tt T).agg (C.tt T).size st (aP C st T x)) (cz P L J X st tm w D):=by
 have hn:=CQ ag;have bn:=cT S C T x;have fin:∀{b p:Nat} {U:List aw} {vs:List Value} {off:Nat} {v:aK},Act.eval ⟨tm,[]⟩ x=.pointer (some ⟨b,p+off,none⟩)->ho w b p vs->ck B st.sites w (an X B st.sites) U vs->
   cut (C.tt T).agg off (C.tt T).size U=some v->cz P L J X st tm w D v []:=by
  intro b p U vs off v hx hc hl ja;obtain⟨cY,HD⟩:=NV ja C' hl;refine dv S Y (vv:=rO (C.tt T).agg ((vs.drop off).take (C.tt T).size)) ?_ HD;have cI:=qK (P:=P) (w:=w) (ay.tt T) hn ⟨b,p+off,none⟩ ((vs.drop off).take (C.tt T).size) (by simp;omega) (fun j u hu=>by rw[gh];exact(hc.drop off).take _ j u hu)
  unfold execOp;simp only[au,Instr.loadAt,Instr.sureAddr,hx,Sem.run_bind,Sem.run_pure,Result.andThen_ok,cI]
 unfold rV;split
 ·rename_i o s off bU;rw[bU] at bn;split
  ·rename_i cells hb;split
   ·rename_i v ja;obtain⟨b,fA,cur,_,hv,hg,_,hl⟩:=S.box (gw hb) bn;exact Holds.ok (fin (p:=0) (by rw[Nat.zero_add];exact hv) (ho.row hg) hl ja)
   ·exact .fail
  ·exact .fail
 ·rename_i cells off bU;rw[bU] at bn;split
  ·rename_i v ja;obtain⟨b,p,hv,_,_,cs,hl,hc,hr⟩:=bn;exact Holds.ok (fin hv hc (gV hl hr) ja)
  ·exact .fail
 ·rename_i o s u k off bU;rw[bU] at bn;split
  ·rename_i t xs cJ;split
   ·rename_i nS;obtain⟨rfl,cY⟩:=nS;refine Holds.d' fun y ak=>?_
    have dM:xs[k]? =some y:=ak;obtain⟨cs,hl,iX⟩:=S.row cJ;have c9:∃O,look st.sites o=some O/\O.b1=s:=by
     rcases jt cJ with h|h<;>exact⟨_,h,rfl⟩
    obtain⟨O,fZ,jL⟩:=c9;obtain⟨b,hv,uZ⟩:=bn;obtain⟨n,c,bW⟩:=Ref.at uZ fZ jL;cases ja:cut (C.tt T).agg off (C.tt T).size (cC (enc t y)) with
    |none=>exact absurd ja (aah (by simpa[cC,fc] using cY) C')
    |some v=>
     rcases iX with⟨oM,_⟩|⟨a_,fp,dJ,hcs,_⟩
     ·rw[bW] at oM;cases oM
     ·rw[bW] at dJ;cases dJ;have e1:cC (enc t y)=((cC (flat t xs)).drop (k*ax t)).take (ax t):=by
       rw[<-ts t xs k y dM];simp[cC,List.map_drop,List.map_take]
      rw[e1] at ja;refine fin (p:=k*ax t) hv ?_ ((hl.drop (k*ax t)).take (ax t)) ja;have:=(hcs.drop (k*ax t)).take (ax t);rwa[Nat.zero_add] at this
   ·exact .fail
  ·exact .fail
 ·exact .fail
end
section
variable {P:Program}{L:World}{J:List Nat}{X:Nat->Prop}{B:Nat->Value}{st:ad}{tm:Array Value}{w:World}
theorem tG{u:Bool}{e:TypeId}{size:Nat}{v:Value}{n:Nat}{xs:List Value}{b:Nat}(h:rowAt w u e size v n xs)(hb:a6 v=some b):b<w.heap.size:=by
 rcases h.2 with⟨hn,_⟩|⟨g,cap,cur,bG,hv,_,hg,_⟩
 ·rw[hn] at hb;cases hb
 ·rw[hv] at hb;cases hb;exact(Array.getElem?_eq_some_iff.1 hg).1
theorem Deep.lt{av:Nat->Prop}{ds:List aL}{cs az:List Value}(h:Deep w av ds cs az):∀n,n∈az->∀b,a6 n=some b->b<w.heap.size:=by
 induction h with
 |nil=>intro n hn;cases hn
 |row u ys e U _ h _ _ ih=>
  intro n hn b hb;rcases List.mem_cons.1 hn with rfl|hn
  ·exact tG h hb
  ·exact ih n hn b hb
 |leaf _ _ _ ih=>exact ih
theorem ah.dX(S:ah L J X B st tm w){o b:Nat}(hl:bX st.sites o)(hb:b∈bJ (B o)):b<w.heap.size:=by
 obtain⟨O,h1,h2⟩:=hl;have:=S.sites o O h1;cases O with
 |box s cells=>
  obtain⟨a_,T,cur,g1,g2,_⟩:=this;rw[g1] at hb;have hb:b∈[a_]:=hb;rw[List.mem_singleton.1 hb];exact(Array.getElem?_eq_some_iff.1 g2).1
 |row s t xs=>
  obtain⟨e,cs,g1,_⟩:=this;exact tG g1 (tR g1 hb)
 |map s t es=>
  obtain⟨a_,g1,g2⟩:=this;rw[g1] at hb;have hb:b∈[a_]:=hb;rw[List.mem_singleton.1 hb];exact g2.lt
 |deep s t xs=>
  obtain⟨e,v,az,cs,g1,_,g2,g3⟩:=this;rw[g1] at hb;rcases im.1 hb with hb|⟨n,hn,hb⟩
  ·exact tG g2 hb
  ·exact g3.lt n hn b hb
 |cR=>cases h2
 |dead=>cases h2
theorem y1{B aA:Nat->Value}{sites bo:List (Nat×Site)}{w w':World}{av bS:Nat->Prop}(go:∀{a:aK} {v:Value},b_ B sites w av a v->b_ aA bo w' bS a v){U:List aw}{vs:List Value}
  (h:ck B sites w av U vs):ck aA bo w' bS U vs:=by
 obtain⟨cq,h1,h2,aa⟩:=go (a:=.av (.agg U)) (v:=.agg vs.toArray) ⟨vs,rfl,h.1,h.2⟩;have:vs=cq:=by simpa using h1
 subst this;exact⟨h2,aa⟩
theorem jy{B aA:Nat->Value}{sites bo:List (Nat×Site)}{w w':World}{av bS:Nat->Prop}(go:∀{a:aK} {v:Value},b_ B sites w av a v->b_ aA bo w' bS a v){d:aL}{v:Value}
  (h:bi w av d v):bi w' bS d v:=go (a:=one d) (v:=v) h
theorem Kk{sites:List (Nat×Site)}{o:Nat}{O bI:Site}(hl:look sites o=some O)(h:bI.live=O.live)(F:Nat):bX (b8 sites o bI) F <-> bX sites F:=by
 unfold bX;rw[cn];by_cases e:o=F
 ·subst e;simp only[if_true,hl,Option.some.injEq];constructor
  ·rintro⟨s,rfl,h2⟩;exact⟨O,rfl,h▸h2⟩
  ·rintro⟨s,rfl,h2⟩;exact⟨bI,rfl,h▸h2⟩
 ·simp only[e,if_false]
theorem ah.write(S:ah L J X B st tm w){o b:Nat}{O bI:Site}{cur sx:Array Value}{T:TypeId}{cw:Nat×Nat}(hl:look st.sites o=some O)(fD:O.live=true)(acS:bI.live=true)(M:bI.b1=O.b1)
  (bW:b∈bJ (B o)) (hg:w.heap[b]? =some (.cells cur T cw))
  (ff:∀{bo:List (Nat×Site)} {w':World},bo=b8 st.sites o bI->w'=w.setRow b sx->w'.heap[b]? =some (.cells sx T cw)->
   (∀{a v},b_ B st.sites w (an X B st.sites) a v->b_ B bo w' (an X B bo) a v)->it B bo w' (an X B bo) o bI):
  ah L J X B {st with sites:=b8 st.sites o bI} tm (w.setRow b sx):=by
 have cr:bX st.sites o:=⟨O,hl,fD⟩;have lF:∀F,bX (b8 st.sites o bI) F <-> bX st.sites F:=Kk hl (acS.trans fD.symm);have b0:∀a_,an X B (b8 st.sites o bI) a_ <-> an X B st.sites a_:=by
  intro a_;unfold an;simp only[lF]
 have hne:∀a_,¬an X B st.sites a_->a_≠b:=by
  rintro a_ h rfl;exact h (.inr ⟨o,cr,bW⟩)
 refine S.oJ (fun F s bB=>?_) (fun a_ h _=>setRow_other w b a_ _ (hne a_ h)) (fun a_ h _=>by rw[b0];exact h) (fun go F s bB=>?_) (fun F aO a_ h1 h2=>S.de F aO a_ ((lF F).1 h1) ((lF aO).1 h2))
  (fun F a_ h=>S.b7 F a_ ((lF F).1 h)) (fun F a_ h hb=>by rw[setRow_size];exact S.dX ((lF F).1 h) hb) ?_ (by rw[setRow_size];exact Nat.le_refl _)
 ·rw[cn];by_cases e:o=F
  ·subst e;rw[hl] at bB;cases bB;exact⟨bI,by simp,by omega,fun _=>rfl⟩
  ·exact⟨s,by simp[e,bB],Nat.le_refl _,fun _=>rfl⟩
 ·rw[cn] at bB;by_cases e:o=F
  ·subst e;simp only[if_true,Option.some.injEq] at bB;subst bB;exact .inr (ff rfl rfl (setRow_heap w b cur sx T cw hg) go)
  ·simp only[e,if_false] at bB;refine .inl ⟨bB,rfl,fun sr a_ b9=>setRow_other w b a_ _ ?_⟩
   rintro rfl;exact e (S.de o F _ cr ⟨s,bB,sr⟩ bW b9)
 ·have aR:=S.frame;refine⟨aR.os,aR.tape,aR.output,by rw[setRow_size];exact aR.size,fun a_ h1 h2=>?_⟩
  rw[setRow_other w b a_ _ ?_]
  ·exact aR.block a_ h1 h2
  ·rintro rfl;rcases(S.b7 o _ cr bW).2 with h|h
   ·exact h2 h
   ·omega
theorem B7{av:Nat->Prop}{t:aF}{xs:List (den t)}{e:TypeId}{v:Value}{cs:List Value}(h1:rowAt w t.ek e (ax t) v xs.length cs)(h2:ch w av (flat t xs) cs)(hb:∀b,a6 v=some b->¬av b):bi w av (.sl t xs) v/\u_ v:=by
 rcases h1.2 with⟨hn,h0⟩|⟨g,cap,cur,bG,hv,_,hg,hnc,_,_,jK⟩
 ·have:xs=[]:=List.eq_nil_of_length_eq_zero h0;subst this;rw[hn];exact⟨.nil t,.inl rfl⟩
 ·rw[hv];refine⟨?_,.inr ⟨_,_,_,rfl⟩⟩;refine .sl t xs _ cap cs xs.length rfl hnc (fun _=>hb g (by rw[hv];rfl)) h2.1 (fun j u hu=>?_) h2.2
  rw[gh,Nat.zero_add,cell_of_row w g j cur e bG hg];rw[<-jK,List.getElem?_take] at hu;split at hu
  ·simpa using hu
  ·cases hu
theorem ch.cons{av:Nat->Prop}{d:aL}{ds:List aL}{v:Value}{vs:List Value}(h:bi w av d v)(k:ch w av ds vs):ch w av (d::ds) (v::vs):=by
 refine⟨by simp[k.1],fun j g1 g2=>?_⟩
 cases j with
 |zero=>exact h
 |succ j=>exact k.2 j (by simpa using g1) (by simpa using g2)
theorem Deep.aiP{w':World}{av bS:Nat->Prop}{ds:List aL}{cs az:List Value}(h:Deep w av ds cs az)(go:∀{d v},bi w av d v->bi w' bS d v):
  (∀n,n∈az->∀b,a6 n=some b->¬bS b/\w'.heap[b]? =w.heap[b]?)->ch w' bS ds cs:=by
 induction h with
 |nil=>intro _;exact⟨rfl,fun j h=>by simp at h⟩
 |row u ys e U _ h hr _ ih=>
  intro ag;refine .cons (B7 (pm h fun b hb=>(ag _ List.mem_cons_self b hb).2) ⟨hr.1,fun j g1 g2=>go (hr.2 j g1 g2)⟩ fun b hb=>(ag _ List.mem_cons_self b hb).1).1 (ih fun n hn=>ag n (List.mem_cons_of_mem _ hn))
 |leaf _ h _ ih=>intro ag;exact .cons (go h) (ih ag)
theorem ah.freeze(S:ah L J X B st tm w){o s:Nat}{t:aF}{xs:List (den t)}(hl:look st.sites o=some (.row s t xs)\/look st.sites o=some (.deep s t xs)):
  ah L J X B {st with sites:=b8 st.sites o (.cR s t xs)} tm w:=by
 have cr:bX st.sites o:=by rcases hl with hl|hl<;>exact⟨_,hl,rfl⟩
 have dA:∀F,bX (b8 st.sites o (.cR s t xs)) F->bX st.sites F/\F≠o:=by
  rintro F ⟨O,h1,h2⟩;rw[cn] at h1;by_cases e:o=F
  ·subst e;simp at h1;subst h1;cases h2
  ·simp only[e,if_false] at h1;exact⟨⟨O,h1,h2⟩,fun h=>e h.symm⟩
 have b0:∀a_,an X B (b8 st.sites o (.cR s t xs)) a_->an X B st.sites a_:=by
  rintro a_ (h|⟨F,h1,h2⟩)
  ·exact .inl h
  ·exact .inr ⟨F,(dA F h1).1,h2⟩
 have lV:∀b,b∈bJ (B o)->¬an X B (b8 st.sites o (.cR s t xs)) b:=by
  rintro b hb (hx|⟨F,g1,g2⟩)
  ·exact(S.b7 o b cr hb).1 hx
  ·obtain⟨g3,eH⟩:=dA F g1;exact eH (S.de F o b g3 cr g2 hb)
 refine S.oJ (fun F O bB=>?_) (fun _ _ _=>rfl) (fun a_ h _ ab=>h (b0 a_ ab)) (fun go F O bB=>?_) (fun F aO a_ h1 h2=>S.de F aO a_ (dA F h1).1 (dA aO h2).1)
  (fun F a_ h=>S.b7 F a_ (dA F h).1) (fun F a_ h hb=>S.dX (dA F h).1 hb) S.frame (Nat.le_refl _)
 ·rw[cn];by_cases e:o=F
  ·subst e;refine⟨.cR s t xs,by simp,?_,fun _=>rfl⟩
   rcases hl with hl|hl<;>rw[hl] at bB<;>cases bB<;>exact Nat.le_refl _
  ·exact⟨O,by simp[e,bB],Nat.le_refl _,fun _=>rfl⟩
 ·rw[cn] at bB;by_cases e:o=F
  ·subst e;simp only[if_true,Option.some.injEq] at bB;subst bB;refine .inr ?_
   show bi _ _ (.sl t xs) (bY (B o))/\u_ (bY (B o));rcases hl with hl|hl
   ·obtain⟨b3,cs,h1,h2⟩:=S.sites o _ hl;rw[(is h1).1];exact B7 h1 ⟨by rw[dQ];exact h1.1,fun j g1 g2=>jy go (h2 j g1 g2)⟩ fun b hb=>lV b (fS hb)
   ·obtain⟨b3,v,az,cs,h0,_,h1,h2⟩:=S.sites o _ hl;have bR:bY (B o)=v:=by rw[h0];rfl
    rw[bR];exact B7 h1 (h2.aiP (jy go) fun n hn b hb=>⟨lV b (by rw[h0];exact im.2 (.inr ⟨n,hn,hb⟩)),rfl⟩) fun b hb=>lV b (by rw[h0];exact im.2 (.inl hb))
  ·simp only[e,if_false] at bB;exact .inl ⟨bB,rfl,fun _ _ _=>rfl⟩
theorem Lz{aH:Type}(l:List (Nat×aH))(n:Nat)(v:aH)(h:look l n=some v):b8 l n v=l:=by
 induction l with
 |nil=>simp[look] at h
 |cons p l ih=>
  obtain⟨k,u⟩:=p;simp only[look] at h;simp only[b8];cases hb:k.beq n with
  |true=>simp only[hb,cond_true,Option.some.injEq] at h;subst h;simp
  |false=>simp only[hb,cond_false] at h;simp[ih h]
def dp(sites:List (Nat×Site))(us:List (Nat×Site)):Prop:=
 ∀o O,(o,O)∈us->∃s t,∃xs:List (den t),O=.cR s t xs/\(look sites o=some (.row s t xs)\/look sites o=some (.cR s t xs)\/look sites o=some (.deep s t xs))
theorem dp.nil{sites:List (Nat×Site)}:dp sites []:=fun _ _ h=>by simp at h
theorem dp.append{sites us vs:List (Nat×Site)}(h:dp sites us)(ab:dp sites vs):dp sites (us++vs):=by
 intro o O hm;rcases List.mem_append.1 hm with hm|hm
 ·exact h o O hm
 ·exact ab o O hm
theorem dp.step{sites us:List (Nat×Site)}{o:Nat}{O:Site}(h:dp sites ((o,O)::us)):dp (b8 sites o O) us:=by
 obtain⟨s,t,xs,rfl,hl⟩:=h o O (by simp)
 intro F bI hm;obtain⟨am,bj,hB,rfl,fv⟩:=h F bI (by simp[hm])
 refine⟨am,bj,hB,rfl,?_⟩;rw[cn];by_cases e:o=F
 ·subst e;simp only[if_true];right;left;rcases hl with hl|hl|hl<;>rcases fv with fv|fv|fv<;>rw[hl] at fv<;>cases fv<;>rfl
 ·simp only[e,if_false];exact fv
theorem ah.yA{us:List (Nat×Site)}:∀{st:ad},ah L J X B st tm w->dp st.sites us->ah L J X B {st with sites:=aW st.sites us} tm w:=by
 induction us with
 |nil=>intro st S _;exact S
 |cons p us ih=>
  obtain⟨o,O⟩:=p;intro st S h;have ab:=h.step;obtain⟨s,t,xs,rfl,hl⟩:=h o O (by simp)
  simp only[aW];rcases hl with hl|hl|hl
  ·exact ih (S.freeze (.inl hl)) ab
  ·rw[Lz _ _ _ hl] at ab ⊢;exact ih S ab
  ·exact ih (S.freeze (.inr hl)) ab
theorem ll{us:List (Nat×Site)}:∀{sites:List (Nat×Site)},dp sites us->∀o,(look (aW sites us) o=look sites o)\/(∃s t,∃xs:List (den t),(look sites o=some (.row s t xs)\/look sites o=some (.cR s t xs)\/look sites o=some (.deep s t xs))/\look (aW sites us) o=some (.cR s t xs)):=by
 induction us with
 |nil=>intro sites _ o;exact .inl rfl
 |cons p us ih=>
  obtain⟨F,O⟩:=p;intro sites h o;obtain⟨s,t,xs,rfl,hl⟩:=h F O (by simp)
  simp only[aW];have hc:=cn sites F o (.cR s t xs);rcases ih h.step o with h1|⟨am,bj,hB,h1,h2⟩
  ·by_cases e:F=o
   ·subst e;simp only[if_true] at hc;exact .inr ⟨s,t,xs,hl,h1.trans hc⟩
   ·simp only[e,if_false] at hc;exact .inl (h1.trans hc)
  ·by_cases e:F=o
   ·subst e;simp only[if_true] at hc;rw[hc] at h1;rcases h1 with h1|h1|h1
    ·cases h1
    ·cases h1;exact .inr ⟨s,t,xs,hl,h2⟩
    ·cases h1
   ·simp only[e,if_false] at hc;rw[hc] at h1;exact .inr ⟨am,bj,hB,h1,h2⟩
theorem wC{us:List (Nat×Site)}:∀{sites:List (Nat×Site)},dp sites us->∀{o s:Nat} {t:aF} {xs:List (den t)},(o,Site.cR s t xs)∈us->look (aW sites us) o=some (.cR s t xs):=by
 intro sites h o s t xs hm;obtain⟨jo,t0,Al,he,hl⟩:=h o _ hm;cases he;rcases ll h o with h1|⟨am,bj,hB,h1,h2⟩
 ·-- named,and aoQ anB
  induction us generalizing sites with
  |nil=>simp at hm
  |cons p us ih=>
   obtain⟨F,O⟩:=p;simp only[aW] at h1 ⊢;rcases List.mem_cons.1 hm with hm|hm
   ·cases hm;rcases ll h.step o with h2|⟨am,bj,hB,h2,aa⟩
    ·rw[h2,cn];simp
    ·rw[cn] at h2;simp at h2;obtain⟨rfl,rfl,h2⟩:=h2;rw[aa];cases h2;rfl
   ·have hc:=cn sites F o O;by_cases e:F=o
    ·subst e;obtain⟨s1,t1,aik,rfl,hl1⟩:=h F O (by simp)
     have:Site.cR s1 t1 aik=Site.cR s t xs:=by
      rcases hl with hl|hl|hl<;>rcases hl1 with hl1|hl1|hl1<;>rw[hl] at hl1<;>cases hl1<;>rfl
     cases this;simp only[if_true] at hc;rcases ll h.step F with h2|⟨am,bj,hB,h2,aa⟩
     ·rw[h2,hc]
     ·rw[hc] at h2;rcases h2 with h2|h2|h2
      ·cases h2
      ·cases h2;exact aa
      ·cases h2
    ·simp only[e,if_false] at hc;refine ih h.step hm (by rw[hc];exact hl) ?_
     rw[h1,hc]
 ·rcases hl with hl|hl|hl<;>rcases h1 with h1|h1|h1<;>rw[hl] at h1<;>cases h1<;>exact h2
end
section
variable {P:Program}{L:World}{J:List Nat}{X:Nat->Prop}{B:Nat->Value}{st:ad}{tm:Array Value}{w:World}
structure kF(L:World)(J:List Nat)(X:Nat->Prop)(B:Nat->Value)(st:ad)(tm:Array Value)(w:World)(vs:List (Nat×Site)):Prop where
 old:ah L J X B st tm w
 bG:dp st.sites vs
theorem kF.new{vs:List (Nat×Site)}(aR:kF L J X B st tm w vs):ah L J X B {st with sites:=aW st.sites vs} tm w:=aR.old.yA aR.bG
theorem kF.go{vs:List (Nat×Site)}(aR:kF L J X B st tm w vs){a:aK}{v:Value}(h:b_ B st.sites w (an X B st.sites) a v):b_ B (aW st.sites vs) w (an X B (aW st.sites vs)) a v:=by
 have dA:∀F,bX (aW st.sites vs) F->bX st.sites F:=by
  rintro F ⟨O,h1,h2⟩;rcases ll aR.bG F with h|⟨s,t,xs,_,h⟩
  ·exact⟨O,h▸h1,h2⟩
  ·rw[h] at h1;cases h1;cases h2
 refine h.goes ⟨fun o O bg=>?_,fun _ _ _=>rfl,fun b hb _ b9=>hb ?_⟩ (Nat.le_refl _) ?_
 ·rcases ll aR.bG o with h|⟨s,t,xs,h1,h2⟩
  ·exact⟨O,h.trans bg,Nat.le_refl _,fun _=>rfl⟩
  ·refine⟨_,h2,?_,fun _=>rfl⟩
   rw[bg] at h1;rcases h1 with h1|h1|h1<;>cases h1<;>exact Nat.le_refl _
 ·rcases b9 with h|⟨F,h1,h2⟩
  ·exact .inl h
  ·exact .inr ⟨F,dA F h1,h2⟩
 ·rintro b (h|⟨F,h1,h2⟩)
  ·exact aR.old.old b h
  ·exact aR.old.dX (dA F h1) h2
theorem abD{o s:Nat}{t:aF}{xs:List (den t)}(hr:rowOf st o s=some ⟨t,xs⟩):dp st.sites (lJ st o s t xs):=by
 unfold lJ;split
 ·exact .nil
 ·intro F O hm;simp only[List.mem_singleton,Prod.mk.injEq] at hm;obtain⟨rfl,rfl⟩:=hm;exact⟨s,t,xs,rfl,(jt hr).imp id .inl⟩
theorem L7{o s:Nat}{t:aF}{xs:List (den t)}(hr:rowOf st o s=some ⟨t,xs⟩):aW st.sites (lJ st o s t xs)=aW st.sites [(o,.cR s t xs)]:=by
 unfold lJ;split
 ·rename_i jo t0 Al h0;have h0:look st.sites o=some (.cR jo t0 Al):=h0;simp only[aW];rcases jt hr with h|h
  ·rw[h0] at h;cases h
  ·exact(Lz _ _ _ h).symm
 ·rfl
theorem ZE{sites us:List (Nat×Site)}(h:dp sites us){o s:Nat}{t:aF}{xs:List (den t)}(hl:look sites o=some (.cR s t xs)):look (aW sites us) o=some (.cR s t xs):=by
 rcases ll h o with h1|⟨am,bj,hB,h1,h2⟩
 ·rw[h1];exact hl
 ·rw[hl] at h1;rcases h1 with h1|h1|h1
  ·cases h1
  ·cases h1;exact h2
  ·cases h1
theorem to{o s:Nat}{t:aF}{xs:List (den t)}(h:ls st o s=some ⟨t,xs⟩):look st.sites o=some (.deep s t xs):=by
 unfold ls at h;split at h
 ·rename_i am bj hB M;cases hb:am.beq s with
  |false=>rw[hb] at h;cases h
  |true=>
   rw[hb] at h;have:=Nat.eq_of_beq_eq_true hb;subst this;cases h;exact M
 ·cases h
theorem NU{l:aw}{d:aL}{us:List (Nat×Site)}(h:jj st l=some (d,us)):dp st.sites us:=by
 unfold jj at h;split at h
 ·cases h;exact .nil
 ·cases h;exact .nil
 ·rename_i o s;split at h
  ·rename_i t xs hr;cases h;exact abD hr
  ·split at h
   ·rename_i t xs hr;cases h;intro F O hm;simp only[List.mem_singleton,Prod.mk.injEq] at hm;obtain⟨rfl,rfl⟩:=hm;exact⟨s,t,xs,rfl,.inr (.inr (to hr))⟩
   ·cases h
 ·cases h;exact .nil
 ·cases h
theorem NT{l:aw}{d:aL}{us vs:List (Nat×Site)}{v:Value}(h:jj st l=some (d,us))(hv:dj B st.sites w (an X B st.sites) l v)
  (aR:kF L J X B st tm w vs) (dA:∀p,p∈us->p∈vs):bi w (an X B (aW st.sites vs)) d v:=by
 unfold jj at h;split at h
 ·cases h;exact jy aR.go hv
 ·cases h;rw[show v=_ from hv];exact .nil _
 ·rename_i o s;split at h
  ·rename_i t xs hr;cases h;have hl:look (aW st.sites vs) o=some (.cR s t xs):=by
    unfold lJ at dA;split at dA
    ·rename_i jo t0 Al h0;have h0:look st.sites o=some (.cR jo t0 Al):=h0;rcases jt hr with h|h
     ·rw[h0] at h;cases h
     ·exact ZE aR.bG h
    ·exact wC aR.bG (dA _ (List.mem_singleton.2 rfl))
   have:=aR.new.sites o _ hl;have iF:v=bY (B o):=by
    rcases jt hr with h1|h1<;>exact Ref.at hv.2 h1 rfl
   rw[iF];exact this.1
  ·split at h
   ·rename_i t xs hr;cases h;have:=aR.new.sites o _ (wC aR.bG (dA _ (List.mem_singleton.2 rfl)));have iF:v=bY (B o):=Ref.at hv.2 (to hr) rfl;rw[iF];exact this.1
   ·cases h
 ·rename_i g;cases h;obtain⟨U,rfl,hl,_⟩:=hv;have:U=[]:=List.eq_nil_of_length_eq_zero (by simpa using hl)
  subst this;exact .fn g [] [] (fun _=>[]) _ rfl rfl (fun b hb=>by simp at hb) (fun b hb=>by simp at hb) (fun i hi=>by simp at hi) (fun i hi=>by simp at hi) (fun i hi=>by simp at hi)
 ·cases h
theorem Eh:∀{U:List aw} {ds:List aL} {us:List (Nat×Site)},g4 st U=some (ds,us)->dp st.sites us:=by
 intro U;induction U with
 |nil=>intro ds us h;simp only[g4] at h;cases h;exact .nil
 |cons l U ih=>
  intro ds us h;simp only[g4] at h;split at h
  ·rename_i d u1 f' u2 h1 h2;cases h;exact(NU h1).append (ih h2)
  ·cases h
theorem yE:∀{U:List aw} {ds:List aL} {us vs:List (Nat×Site)} {cs:List Value},g4 st U=some (ds,us)->ck B st.sites w (an X B st.sites) U cs->
  kF L J X B st tm w vs->(∀p,p∈us->p∈vs)->ch w (an X B (aW st.sites vs)) ds cs:=by
 intro U;induction U with
 |nil=>intro ds us vs cs h hl _ _;simp only[g4] at h;cases h;rw[hl.kO];exact⟨rfl,fun j h=>by simp at h⟩
 |cons l U ih=>
  intro ds us vs cs h hl aR dA;simp only[g4] at h;split at h
  ·rename_i d u1 f' u2 h1 h2;cases h;obtain⟨c,jk,rfl,hc,hcs⟩:=hl.inv;have r1:=NT h1 hc aR (fun p aj=>dA p (List.mem_append.2 (.inl aj)))
   obtain⟨r2,g9⟩:=ih h2 hcs aR (fun p aj=>dA p (List.mem_append.2 (.inr aj)))
   refine⟨by simp[r2],fun j g1 g2=>?_⟩
   cases j with
   |zero=>exact r1
   |succ j=>exact g9 j (by simpa using g1) (by simpa using g2)
  ·cases h
theorem k3.run{P:Program}{u:Bool}(g D:Nat)(t:TypeId)(bG:Nat×Nat):∀(vs:List Value) (i:Nat) (cur:Array Value) (w:World),w.heap[g]? =some (.cells cur t bG)->k3 u t cur bG->D+i+vs.length<=cur.size->(∀v∈vs,v.oneCell'=true)->
  (storeCells ⟨g,D,none⟩ vs i).run P w=.ok () (w.setRow g (cur.toList.take (D+i)++vs++cur.toList.drop (D+i+vs.length)).toArray)
 |[],i,cur,w,hg,_,_,_=>by
  simp only[storeCells,List.append_nil,List.length_nil,Nat.add_zero,List.take_append_drop,Array.toArray_toList];rw[setRow_self w g cur t bG hg];rfl
 |v::rest,i,cur,w,hg,hz,hl,h1=>by
  have hi:D+i<cur.size:=by simp at hl;omega
  have agp:(⟨g,D,none⟩:Addr).add i=⟨g,D+i,none⟩:=by unfold Addr.add;split<;>simp_all
  have iX:w.cell? ⟨g,D+i,none⟩=some cur[D+i]:=by simp[World.cell?,hg,hi]
  have agf:w.frozen? ⟨g,D+i,none⟩=false:=by
   rcases hz.2 with rfl|⟨_,hz⟩
   ·simp[World.frozen?,hg]
   ·simp only[World.frozen?,hg];have:¬bG.1<=D+i:=by omega
    simp[this]
  have c9:(store ((⟨g,D,none⟩:Addr).add i) v).run P w=.ok () (w.setRow g (cur.setIfInBounds (D+i) v)):=by
   rw[agp,run_store P w _ v _ (h1 v (by simp)),iX]
   simp[agf,setCell_eq_setRow w g (D+i) cur t bG v hg]
  have ih:=k3.run (P:=P) (u:=u) g D t bG rest (i+1) (cur.setIfInBounds (D+i) v) (w.setRow g (cur.setIfInBounds (D+i) v)) (setRow_heap w g cur _ t _ hg)
   ⟨hz.1,hz.2.imp id fun h=>⟨h.1,by simpa using h.2⟩⟩ (by simp at hl ⊢;omega) (fun x hx=>h1 x (by simp[hx]))
  simp only[storeCells,Sem.run_bind,c9,Result.andThen_ok,ih,setRow_setRow];congr 3
  have e:=list_seg_step cur.toList (D+i) v rest (by simp at hl ⊢;omega)
  simpa[Array.toList_setIfInBounds,Nat.add_assoc] using e
theorem Jc{u:Bool}{bG:Nat×Nat}{T:TypeId}{ti:cd}(h:ti.ok P T)(hn:ti≠.none){b off:Nat}{vv:Value}{cur:List Value}{fA:TypeId}(hg:w.heap[b]? =some (.cells cur.toArray fA bG))(hz:k3 u fA cur.toArray bG)
  (hsz:vv.cells.toList.length=ti.size) (cY:off+vv.cells.toList.length<=cur.length) (h1:∀u∈vv.cells.toList,u.oneCell'=true):
  (storeVar T ⟨b,off,none⟩ vv).run P w=.ok () (w.setRow b (a8 cur off vv.cells.toList).toArray):=by
 have M:vv.cells.size=ti.size:=by simpa using hsz
 have:=k3.run (P:=P) b off fA bG vv.cells.toList 0 cur.toArray w hg hz (by simpa using cY) h1
 simp only[storeVar,Sem.run_bind,cd.LY h hn,Result.andThen_ok,M,ne_eq,not_true_eq_false,if_false];rw[this];simp[a8]
variable {D:Oper}
theorem qN{aA:Nat->Value}{w':World}{us:List (Nat×Site)}(S:ah L J X aA {st with sites:=aW st.sites us} tm w')(Y:b6 st D.dst=true)
  (h:(execOp (Act.eval ⟨tm,[]⟩) D).run P w=.ok .skip w'):cz P L J X st tm w D (bP (.cB undef)) us:=
 fun _ _ bC=>ab9 h (bC _ _ _ (ah.cu S Y rfl))
theorem il{aA:Nat->Value}{w':World}{us:List (Nat×Site)}{v:aK}{vv:Value}(S:ah L J X aA {st with sites:=aW st.sites us} tm w')(Y:b6 st D.dst=true)
  (h:(execOp (Act.eval ⟨tm,[]⟩) D).run P w=.ok (.value vv) w') (hv:b_ aA (aW st.sites us) w' (an X aA (aW st.sites us)) v vv):cz P L J X st tm w D v us:=
 fun _ _ bC=>mm h (bC _ _ _ (ah.cu S Y hv))
theorem me{aH:Type}(a:List aH)(off:Nat)(b:List aH)(h:off+b.length<=a.length):(a8 a off b).length=a.length:=by
 unfold a8;simp only[List.length_append,List.length_take,List.length_drop];omega
theorem BA{aH:Type}(a:List aH)(off n:Nat)(b:List aH)(h:off+b.length<=n)(hn:n<=a.length):(a8 a off b).take n=a8 (a.take n) off b:=by
 unfold a8;apply List.ext_getElem?;intro j;simp only[List.getElem?_take,List.getElem?_append,List.length_append,List.length_take,List.getElem?_drop];have m1:min off a.length=off:=by omega
 have m2:min off (min n a.length)=off:=by omega
 simp only[m1,m2];by_cases c1:j<off
 ·have c2:j<n:=by omega
  have c3:j<off+b.length:=by omega
  simp[c1,c2,c3]
 ·by_cases c3:j<off+b.length
  ·have c2:j<n:=by omega
   simp[c1,c2,c3]
  ·have e:off+b.length+(j-(off+b.length))=j:=by omega
   simp[c1,c3,e]
theorem Xr{cells U:List aw}{T:TypeId}{cur vs:List Value}{b off:Nat}(h:mD cells T cur b)(hl:vs.length=U.length)(fL:gf U=true):mD (a8 cells off U) T (a8 cur off vs) b:=by
 intro bR;unfold a8 at bR ⊢;cases off with
 |zero=>
  cases U with
  |nil=>
   cases vs with
   |nil=>simpa using h (by simpa using bR)
   |cons=>cases hl
  |cons l U=>
   simp only[List.take_zero,List.nil_append,List.cons_append,List.head?_cons,Option.some.injEq] at bR;subst bR;cases fL
 |succ n=>
  cases cells with
  |nil=>
   cases U with
   |nil=>simp at bR
   |cons l U=>
    simp only[List.take_nil,List.nil_append,List.cons_append,List.head?_cons,Option.some.injEq] at bR;subst bR;cases fL
  |cons c cells=>
   simp only[List.take_succ_cons,List.cons_append,List.head?_cons,Option.some.injEq] at bR;subst bR;have:=h rfl;cases cur with
   |nil=>simp at this
   |cons v cur=>simpa using this
theorem ah._k(S:ah L J X B st tm w){o s off:Nat}{cells U:List aw}{v:Value}{vs:List Value}(hb:look st.sites o=some (.box s cells))(hv:dj B st.sites w (an X B st.sites) (.ptr o s off) v)
  (hl:ck B st.sites w (an X B st.sites) U vs) (cY:off+U.length<=cells.length) (h1:∀u∈vs,u.oneCell'=true) (fL:gf U=true):
  ∃b T cur,v=.pointer (some ⟨b,off,none⟩)/\w.heap[b]? =some (.cells (List.toArray cur) T (0,0))/\off+vs.length<=cur.length/\
   ah L J X B {st with sites:=b8 st.sites o (.box s (a8 cells off U))} tm (w.setRow b (a8 cur off vs).toArray):=by
 obtain⟨b,T,cur,bW,nR,hg,ht,kh⟩:=S.box hb hv;have iz:off+vs.length<=cur.length:=by rw[hl.1,kh.1];exact cY
 refine⟨b,T,cur,nR,hg,iz,?_⟩;have fZ:mD cells T cur b:=by
  obtain⟨aJ,dz,QT,aB,ao,_,_,bu,_⟩:=S.sites o _ hb;rw[bW] at aB;cases aB;rw[hg] at ao;cases ao;exact bu
 refine S.write hb rfl rfl rfl (fS (by rw[bW];rfl)) hg (fun M hw kk go=>?_)
 have QG:=y1 go (kh.a8 off hl);refine⟨b,T,_,bW,kk,QG.1,fun u hu=>?_,Xr fZ hl.1 fL,QG.2⟩
 unfold a8 at hu;simp only[List.mem_append] at hu;rcases hu with(hu|hu)|hu
 ·exact ht u (List.mem_of_mem_take hu)
 ·exact h1 u hu
 ·exact ht u (List.mem_of_mem_drop hu)
theorem io{B:Nat->Value}{sites:List (Nat×Site)}{w:World}{av:Nat->Prop}{ds:List aL}{vs:List Value}(h:ck B sites w av (cC ds) vs):ch w av ds vs:=
 ⟨by simpa[cC] using h.1,fun j g1 g2=>by
  have:=h.2 j (by simpa[cC] using g1) g2
  simp only[cC,List.getElem_map] at this;exact this⟩
theorem V_{w:World}{av:Nat->Prop}{t:aF}{xs:List (den t)}{k:Nat}{cU:den t}{cs az:List Value}(ag:k<xs.length)(h:ch w av (flat t xs) cs)(ab:ch w av (enc t cU) az):
  ch w av (flat t (xs.set k cU)) (a8 cs (k*ax t) az):=by
 have e:flat t (xs.set k cU)=a8 (flat t xs) (k*ax t) (enc t cU):=by
  rw[_8,if_pos ag];unfold a8;rw[fc,Nat.add_mul,Nat.one_mul]
 rw[e];have a:=gV (B:=fun _=>undef) (sites:=[]) h.1 h.2
 have b:=gV (B:=fun _=>undef) (sites:=[]) ab.1 ab.2
 have c:=a.a8 (k*ax t) b;have e2:a8 (cC (flat t xs)) (k*ax t) (cC (enc t cU))=cC (a8 (flat t xs) (k*ax t) (enc t cU)):=by
  simp[a8,cC,List.map_append,List.map_take,List.map_drop]
 rw[e2] at c;exact io c
theorem ah._j(S:ah L J X B st tm w){o s k off:Nat}{t:aF}{xs:List (den t)}{x cU:den t}{v:Value}{ds:List aL}{vs:List Value}(hb:look st.sites o=some (.row s t xs))
  (hv:dj B st.sites w (an X B st.sites) (.ej o s t k off) v) (hx:xs[k]? =some x) (kc:enc t cU=a8 (enc t x) off ds)
  (hl:ch w (an X B st.sites) ds vs) (cY:off+ds.length<=ax t) (h1:∀u∈vs,u.oneCell'=true):
  ∃b T cur bG,v=.pointer (some ⟨b,k*ax t+off,none⟩)/\w.heap[b]? =some (.cells (List.toArray cur) T bG)/\k3 t.ek T cur.toArray bG/\k*ax t+off+vs.length<=cur.length/\
   ah L J X B {st with sites:=b8 st.sites o (.row s t (xs.set k cU))} tm (w.setRow b (a8 cur (k*ax t+off) vs).toArray):=by
 obtain⟨b,nR,jJ⟩:=hv;obtain⟨n,c,bW⟩:=Ref.at jJ hb rfl;obtain⟨e,cs,iy,dF⟩:=S.sites o _ hb;rw[(is iy).1] at bW;have ag:k<xs.length:=by
  rcases Nat.lt_or_ge k xs.length with h|h
  ·exact h
  ·rw[List.getElem?_eq_none h] at hx;cases hx
 obtain⟨qg,h⟩:=iy;rcases h with⟨hn,_⟩|⟨g,cap,cur,bG,gp,lZ,hg,hnc,gq,hcs,jK⟩
 ·rw[bW] at hn;cases hn
 ·rw[bW] at gp;cases gp;have lX:(k+1)*ax t<=xs.length*ax t:=Nat.mul_le_mul_right _ ag;have hU:xs.length*ax t<=c*ax t:=Nat.mul_le_mul_right _ hnc;rw[Nat.add_mul,Nat.one_mul] at lX;have kd:vs.length=ds.length:=hl.1;have ht:cur.toList.length=c*ax t:=by simpa using hcs
  have iz:k*ax t+off+vs.length<=cur.toList.length:=by omega
  refine⟨b,e,cur.toList,bG,nR,by simpa using hg,by simpa using lZ,iz,?_⟩
  refine S.write hb rfl rfl rfl (fS (by rw[bW];rfl)) hg (fun M hw kk go=>?_)
  have aoc:cs.length=xs.length*ax t:=qg;refine⟨e,a8 cs (k*ax t+off) vs,⟨?_,.inr ⟨b,c,_,bG,?_,?_,kk,?_,gq,?_,?_⟩⟩,?_⟩
  ·rw[me _ _ _ (by omega),List.length_set];exact qg
  ·rw[bW,List.length_set]
  ·refine⟨lZ.1,?_⟩;rcases lZ.2 with h|⟨h,ab⟩
   ·exact .inl h
   ·refine .inr ⟨h,?_⟩;rw[List.size_toArray,me _ _ _ iz];simpa using ab
  ·rw[List.length_set];exact hnc
  ·rw[List.size_toArray,me _ _ _ iz];exact ht
  ·rw[<-jK,List.length_set,List.toList_toArray];exact BA _ _ _ _ (by omega) (by rw[ht];omega)
  ·have r0:ch w (an X B st.sites) (flat t xs) cs:=⟨by rw[dQ];exact qg,dF⟩
   have fZ:=ts t xs k x hx;have r1:ch w (an X B st.sites) (enc t x) ((cs.drop (k*ax t)).take (ax t)):=by
    have a:=gV (B:=fun _=>undef) (sites:=[]) r0.1 r0.2
    have a_:=(a.drop (k*ax t)).take (ax t);have e2:((cC (flat t xs)).drop (k*ax t)).take (ax t)=cC (enc t x):=by
     rw[<-fZ];simp[cC,List.map_drop,List.map_take]
    rw[e2] at a_;exact io a_
   have r2:ch w (an X B st.sites) (enc t cU) (a8 ((cs.drop (k*ax t)).take (ax t)) off vs):=by
    rw[kc];have a:=gV (B:=fun _=>undef) (sites:=[]) r1.1 r1.2
    have a_:=gV (B:=fun _=>undef) (sites:=[]) hl.1 hl.2
    have fp:=a.a8 off a_;have e2:a8 (cC (enc t x)) off (cC ds)=cC (a8 (enc t x) off ds):=by
     simp[a8,cC,List.map_append,List.map_take,List.map_drop]
    rw[e2] at fp;exact io fp
   have g9:=V_ ag r0 r2;have bK:a8 cs (k*ax t) (a8 ((cs.drop (k*ax t)).take (ax t)) off vs)=a8 cs (k*ax t+off) vs:=by
    unfold a8;apply List.ext_getElem?;intro j;simp only[List.getElem?_append,List.length_append,List.length_take,List.length_drop,List.getElem?_take,List.getElem?_drop];have m1:min (k*ax t) cs.length=k*ax t:=by omega
    have m2:min (k*ax t+off) cs.length=k*ax t+off:=by omega
    have m3:min (ax t) (cs.length-k*ax t)=ax t:=by omega
    have m4:min off (ax t)=off:=by omega
    simp only[m1,m2,m3,m4];by_cases c1:j<k*ax t
    ·have c2:j<k*ax t+off:=by omega
     have c3:j<k*ax t+off+vs.length:=by omega
     have dU:j<k*ax t+(off+vs.length+(ax t-(off+vs.length))):=by omega
     simp[c1,c2,c3,dU]
    ·by_cases c2:j<k*ax t+off
     ·have d1:j-k*ax t<off:=by omega
      have d2:j-k*ax t<off+vs.length:=by omega
      have d3:j-k*ax t<ax t:=by omega
      have c3:j<k*ax t+off+vs.length:=by omega
      have dU:j<k*ax t+(off+vs.length+(ax t-(off+vs.length))):=by omega
      have fy:k*ax t+(j-k*ax t)=j:=by omega
      simp[c1,c2,c3,dU,d1,d2,d3,fy]
     ·by_cases c3:j<k*ax t+off+vs.length
      ·have d1:¬j-k*ax t<off:=by omega
       have d2:j-k*ax t<off+vs.length:=by omega
       have dU:j<k*ax t+(off+vs.length+(ax t-(off+vs.length))):=by omega
       have fy:j-k*ax t-off=j-(k*ax t+off):=by omega
       simp[c1,c2,c3,dU,d1,d2,fy]
      ·by_cases dU:j<k*ax t+(off+vs.length+(ax t-(off+vs.length)))
       ·have d2:¬j-k*ax t<off+vs.length:=by omega
        have d1:¬j-k*ax t<off:=by omega
        have d5:off+vs.length+(j-k*ax t-(off+vs.length))<ax t:=by omega
        have fy:k*ax t+(off+vs.length+(j-k*ax t-(off+vs.length)))=k*ax t+off+vs.length+(j-(k*ax t+off+vs.length)):=by omega
        simp[c1,c2,c3,dU,d1,d2,d5,fy]
       ·have fy:k*ax t+(off+vs.length+(ax t-(off+vs.length)))+(j-(k*ax t+(off+vs.length+(ax t-(off+vs.length)))))=k*ax t+off+vs.length+(j-(k*ax t+off+vs.length)):=by omega
        simp[c1,c2,c3,dU,fy]
   rw[bK] at g9;exact fun j g1 g2=>jy go (g9.2 j g1 g2)
end
section
variable {P:Program}{L:World}{J:List Nat}{X:Nat->Prop}{B:Nat->Value}{st:ad}{tm:Array Value}{w:World}
theorem js{o:Nat}{O:Site}(h:look st.sites o=some O):O.b1<aY st o:=by
 unfold aY ad.O;rw[h];exact Nat.lt_succ_self _
theorem ah.make(S:ah L J X B st tm w){o:Nat}{bI:Site}{nv:Value}{w':World}
  (hw:∀b,b<w.heap.size->w'.heap[b]? =w.heap[b]?) (hos:w'.os=w.os) (Fj:w'.tape=w.tape) (uT:w'.output=w.output) (kV:w.heap.size<=w'.heap.size)
  (mr:∀O,look st.sites o=some O->O.b1<bI.b1) (gm:∀b,b∈bJ nv->w.heap.size<=b/\b<w'.heap.size)
  (ff:∀{bo:List (Nat×Site)} {aA:Nat->Value},bo=b8 st.sites o bI->aA o=nv->(∀{a v},b_ B st.sites w (an X B st.sites) a v->b_ aA bo w' (an X aA bo) a v)->
   (∀b,w.heap.size<=b->b∉bJ nv->¬an X aA bo b)->(bI.live=false->∀b,b∈bJ nv->¬an X aA bo b)->it aA bo w' (an X aA bo) o bI):
  ah L J X (fun F=>if F=o then nv else B F) {st with sites:=b8 st.sites o bI} tm w':=by
 have cr:∀F,bX (b8 st.sites o bI) F->(F=o/\bI.live=true)\/(F≠o/\bX st.sites F):=by
  rintro F ⟨O,h1,h2⟩;rw[cn] at h1;by_cases e:o=F
  ·subst e;simp at h1;subst h1;exact .inl ⟨rfl,h2⟩
  ·simp only[e,if_false] at h1;exact .inr ⟨fun h=>e h.symm,O,h1,h2⟩
 have b0:∀b,an X (fun F=>if F=o then nv else B F) (b8 st.sites o bI) b->an X B st.sites b\/(b∈bJ nv/\bI.live=true):=by
  rintro b (h|⟨F,h1,h2⟩)
  ·exact .inl (.inl h)
  ·rcases cr F h1 with⟨rfl,aa⟩|⟨aa,aI⟩
   ·simp at h2;exact .inr ⟨h2,aa⟩
   ·simp only[aa,if_false] at h2;exact .inl (.inr ⟨F,aI,h2⟩)
 have a3:∀b,an X B st.sites b->b<w.heap.size:=by
  rintro b (h|⟨F,h1,h2⟩)
  ·exact S.old b h
  ·exact S.dX h1 h2
 refine S.oJ (fun F O bB=>?_) (fun b _ hb=>hw b hb) (fun b h hb ab=>?_) (fun go F O bB=>?_) (fun F aO b h1 h2 g1 g2=>?_) (fun F b h1 g1=>?_) (fun F b h1 g1=>?_) ?_ kV
 ·rw[cn];by_cases e:o=F
  ·subst e;exact⟨bI,by simp,Nat.le_of_lt (mr O bB),fun h=>by have:=mr O bB;omega⟩
  ·have b3:¬F=o:=fun h=>e h.symm
   exact⟨O,by simp[e,bB],Nat.le_refl _,fun _=>by simp[b3]⟩
 ·rcases b0 b ab with ab|⟨ab,_⟩
  ·exact h ab
  ·have:=(gm b ab).1;omega
 ·rw[cn] at bB;by_cases e:o=F
  ·subst e;simp only[if_true,Option.some.injEq] at bB;subst bB;refine .inr (ff rfl (by simp) go (fun b hb hne ab=>?_) (fun hl b hb ab=>?_))
   ·rcases b0 b ab with ab|⟨ab,_⟩
    ·have:=a3 b ab;omega
    ·exact hne ab
   ·rcases b0 b ab with ab|⟨_,ab⟩
    ·have:=a3 b ab;have:=(gm b hb).1;omega
    ·rw[hl] at ab;cases ab
  ·have b3:¬F=o:=fun h=>e h.symm
   simp only[e,if_false] at bB;exact .inl ⟨bB,by simp[b3],fun hl b hb=>hw b (S.dX ⟨O,bB,hl⟩ hb)⟩
 ·rcases cr F h1 with⟨rfl,_⟩|⟨n1,cW⟩<;>rcases cr aO h2 with⟨rfl,_⟩|⟨n2,ga⟩
  ·rfl
  ·simp only[if_true] at g1;simp only[n2,if_false] at g2;have:=S.dX ga g2;have:=(gm b g1).1;omega
  ·simp only[if_true] at g2;simp only[n1,if_false] at g1;have:=S.dX cW g1;have:=(gm b g2).1;omega
  ·simp only[n1,if_false] at g1;simp only[n2,if_false] at g2;exact S.de F aO b cW ga g1 g2
 ·rcases cr F h1 with⟨rfl,_⟩|⟨n1,cW⟩
  ·simp only[if_true] at g1;have hb:=(gm b g1).1;exact⟨fun hx=>by have:=S.old b hx;have:=S.frame.size;omega,.inr (Nat.le_trans S.frame.size hb)⟩
  ·simp only[n1,if_false] at g1;exact S.b7 F b cW g1
 ·rcases cr F h1 with⟨rfl,_⟩|⟨n1,cW⟩
  ·simp only[if_true] at g1;exact(gm b g1).2
  ·simp only[n1,if_false] at g1;exact Nat.lt_of_lt_of_le (S.dX cW g1) kV
 ·have aR:=S.frame;exact⟨hos.trans aR.os,Fj.trans aR.tape,uT.trans aR.output,Nat.le_trans aR.size kV,fun b h1 h2=>(hw b (Nat.lt_of_lt_of_le h1 aR.size)).trans (aR.block b h1 h2)⟩
theorem ah.append(S:ah L J X B st tm w){o dst s:Nat}{t:aF}{xs r:List (den t)}(hl:look st.sites o=some (.row s t xs)){nv:Value}{w':World}
  (hg:w.grownBy w' (B o).ownBlock) (gm:∀b,b∈bJ nv->b<w'.heap.size/\(b∈bJ (B o)\/w.heap.size<=b))
  (ff:∀{bo:List (Nat×Site)} {aA:Nat->Value},aA dst=nv->(∀{a v},b_ B st.sites w (an X B st.sites) a v->b_ aA bo w' (an X aA bo) a v)->
   it aA bo w' (an X aA bo) dst (.row (aY (st.dn o (.dead s)) dst) t r)):
  ah L J X (fun F=>if F=dst then nv else B F) {st with sites:=aW st.sites [(o,.dead s),(dst,.row (aY (st.dn o (.dead s)) dst) t r)]} tm w':=by
 have bg:bX st.sites o:=⟨_,hl,rfl⟩;have iW:∀F,look (aW st.sites [(o,.dead s),(dst,.row (aY (st.dn o (.dead s)) dst) t r)]) F=
   if dst=F then some (.row (aY (st.dn o (.dead s)) dst) t r) else if o=F then some (.dead s) else look st.sites F:=by
  intro F;simp only[aW,cn]
 have mr:∀O,look st.sites dst=some O->O.b1<aY (st.dn o (.dead s)) dst:=by
  intro O h;unfold aY;rw[ad.mf];by_cases e:o=dst
  ·subst e;rw[hl] at h;cases h;simp[Site.b1]
  ·simp only[e,if_false,ad.O,h];exact Nat.lt_succ_self _
 have cr:∀F,bX (aW st.sites [(o,.dead s),(dst,.row (aY (st.dn o (.dead s)) dst) t r)]) F->F=dst\/(F≠dst/\F≠o/\bX st.sites F):=by
  rintro F ⟨O,h1,h2⟩;rw[iW] at h1;by_cases e:dst=F
  ·exact .inl e.symm
  ·simp only[e,if_false] at h1;by_cases e2:o=F
   ·simp only[e2,if_true,Option.some.injEq] at h1;subst h1;cases h2
   ·simp only[e2,if_false] at h1;exact .inr ⟨fun h=>e h.symm,fun h=>e2 h.symm,O,h1,h2⟩
 have afZ:∀b,(B o).ownBlock=some b->b∈bJ (B o):=by
  intro b hb;refine fS ?_
  cases hv:B o<;>rw[hv] at hb<;>first|cases hb|skip
  rename_i a n c;cases a<;>first|exact hb|cases hb
 have uE:∀b,b<w.heap.size->b∉bJ (B o)->w'.heap[b]? =w.heap[b]? :=fun b hb hne=>hg.block b hb (fun e=>hne (afZ b e.symm))
 refine S.oJ (fun F O bB=>?_) (fun b h hb=>uE b hb (fun e=>h (.inr ⟨o,bg,e⟩))) (fun b h hb ab=>?_) (fun go F O bB=>?_) (fun F aO b h1 h2 g1 g2=>?_) (fun F b h1 g1=>?_) (fun F b h1 g1=>?_) ?_ hg.size
 ·rw[iW];by_cases e:dst=F
  ·subst e;refine⟨.row (aY (st.dn o (.dead s)) dst) t r,by simp,?_,fun h=>?_⟩
   ·exact Nat.le_of_lt (mr O bB)
   ·have:=mr O bB;simp only[Site.b1] at h this;omega
  ·have b3:¬F=dst:=fun h=>e h.symm
   by_cases e2:o=F
   ·subst e2;rw[hl] at bB;cases bB;exact⟨.dead s,by simp[e],Nat.le_refl _,fun _=>by simp[b3]⟩
   ·exact⟨O,by simp[e,e2,bB],Nat.le_refl _,fun _=>by simp[b3]⟩
 ·rcases ab with ab|⟨F,h1,h2⟩
  ·exact h (.inl ab)
  ·rcases cr F h1 with rfl|⟨n1,_,cW⟩
   ·simp only[if_true] at h2;rcases(gm b h2).2 with aa|aa
    ·exact h (.inr ⟨o,bg,aa⟩)
    ·omega
   ·simp only[n1,if_false] at h2;exact h (.inr ⟨F,cW,h2⟩)
 ·rw[iW] at bB;by_cases e:dst=F
  ·subst e;simp only[if_true,Option.some.injEq] at bB;subst bB;exact .inr (ff (by simp) go)
  ·have b3:¬F=dst:=fun h=>e h.symm
   simp only[e,if_false] at bB;by_cases e2:o=F
   ·simp only[e2,if_true,Option.some.injEq] at bB;subst bB;exact .inr trivial
   ·simp only[e2,if_false] at bB;refine .inl ⟨bB,by simp[b3],fun fv b hb=>?_⟩
    have Ta:bX st.sites F:=⟨O,bB,fv⟩;exact uE b (S.dX Ta hb) (fun h=>e2 (S.de o F b bg Ta h hb))
 ·have key:∀F b,F≠dst->F≠o->bX st.sites F->b∈bJ (B F)->b∉bJ nv:=by
   intro F b n1 n2 cW hb hn;rcases(gm b hn).2 with aa|aa
   ·exact n2 (S.de F o b cW bg hb aa)
   ·have:=S.dX cW hb;omega
  rcases cr F h1 with rfl|⟨n1,m1,cW⟩<;>rcases cr aO h2 with rfl|⟨n2,m2,ga⟩
  ·rfl
  ·simp only[if_true] at g1;simp only[n2,if_false] at g2;exact absurd g1 (key aO b n2 m2 ga g2)
  ·simp only[if_true] at g2;simp only[n1,if_false] at g1;exact absurd g2 (key F b n1 m1 cW g1)
  ·simp only[n1,if_false] at g1;simp only[n2,if_false] at g2;exact S.de F aO b cW ga g1 g2
 ·rcases cr F h1 with rfl|⟨n1,_,cW⟩
  ·simp only[if_true] at g1;rcases(gm b g1).2 with aa|aa
   ·exact S.b7 o b bg aa
   ·exact⟨fun hx=>by have:=S.old b hx;have:=S.frame.size;omega,.inr (Nat.le_trans S.frame.size aa)⟩
  ·simp only[n1,if_false] at g1;exact S.b7 F b cW g1
 ·rcases cr F h1 with rfl|⟨n1,_,cW⟩
  ·simp only[if_true] at g1;exact(gm b g1).1
  ·simp only[n1,if_false] at g1;exact Nat.lt_of_lt_of_le (S.dX cW g1) hg.size
 ·have aR:=S.frame;refine⟨hg.os.trans aR.os,hg.tape.trans aR.tape,hg.output.trans aR.output,Nat.le_trans aR.size hg.size,fun b h1 h2=>?_⟩
  rw[uE b (Nat.lt_of_lt_of_le h1 aR.size) (fun e=>?_)]
  ·exact aR.block b h1 h2
  ·rcases(S.b7 o b bg e).2 with h|h
   ·exact h2 h
   ·omega
end
def Src(w:World)(size:Nat)(x:Value)(m:Nat)(news:List Value):Prop:=
 news.length=m*size/\(∀u∈news,u.oneCell'=true)/\((x=.slice none 0 0/\m=0)\/(∃a c,x=.slice (some a) m c/\∀j u,news[j]? =some u->w.cell? (a.add j)=some u)\/∃s:ByteArray,x=.string s/\m=s.size/\size=1/\news=s.data.toList.map fun b=>Value.int .u8 b.toNat)
theorem Src.run{P:Program}{w w2:World}{size m:Nat}{x:Value}{news:List Value}(h:Src w size x m news)(hw:w2.heap=w.heap):(Builtin.firstCells size m x).run P w2=.ok news.toArray w2:=by
 obtain⟨h1,_,h2⟩:=h;rcases h2 with⟨rfl,rfl⟩|⟨a,c,rfl,aa⟩|⟨s,rfl,rfl,rfl,rfl⟩
 ·have:news=[]:=List.eq_nil_of_length_eq_zero (by simpa using h1)
  subst this;exact run_firstCells_none w2 size 0 0 0
 ·refine run_firstCells_some w2 size m a m c news h1 (fun j u hu=>?_)
  have:=aa j u hu;unfold World.cell? at this ⊢;rw[hw];exact this
 ·have e:s.extract 0 s.size=s:=by simp
  show Result.ok ((s.extract 0 s.size).data.map fun b=>Value.int .u8 b.toNat) w2=_
  rw[e];congr 1
  apply Array.ext';simp
theorem Src.len{P:Program}{w w2:World}{size m:Nat}{x:Value}{news:List Value}(h:Src w size x m news):(Builtin.lenOf x).run P w2=.ok m w2:=by
 obtain⟨_,_,h2⟩:=h;rcases h2 with⟨rfl,rfl⟩|⟨a,c,rfl,_⟩|⟨s,rfl,rfl,_⟩<;>rfl
theorem tk{P:Program}{u:Bool}(w:World)(T Iz ty e:TypeId)(ey:u=true->e=lc)(i:TypeInfo)(z:Value)(size bytes:Nat)(aC:P.underlying T=some (.slice e))(iG:(∃ex,P.underlying Iz=some (.slice ex))\/P.underlying Iz=some .string)(hi:P.info? e=some i)
  (hz:i.zero=some z) (kV:i.size=size) (l3:i.bytes=bytes) (hzs:z.cells.size=size) (hsz:0<size)
  (v:Value) (n:Nat) (xs:List Value) (iy:∃b3,rowAt w u b3 size v n xs) (x:Value) (m:Nat) (news:List Value) (hsrc:Src w size x m news)
  (H0:n+m<=maxLen) (NO:(n+m)*bytes<=140737488355328):
  ∃v' w',(Builtin.append_ #[T,Iz] ty #[v,x]).run P w=.ok v' w'/\(∃b3,rowAt w' u b3 size v' (n+m) (xs++news))/\w.grownBy w' v.ownBlock/\
   ∀b,a6 v'=some b->b<w'.heap.size/\(a6 v=some b\/w.heap.size<=b):=by
 subst kV l3;obtain⟨b3,oZ,iy⟩:=iy;have um:n+m<=9223372036854775807:=by simp only[maxLen] at H0;omega
 have hlen:(xs++news).length=(n+m)*i.size:=by rw[List.length_append,oZ,hsrc.1,Nat.add_mul]
 have grown:∀(old:Nat),old<n+m->∀(row:Option Nat),
   rowAt (w.drew.alloc (.cells (xs.toArray++news.toArray++Builtin.zeroCells z.cells (grownCap w (n+m) old e-(n+m))) e)) u e i.size
    (.slice (some ⟨w.heap.size,0,none⟩) (n+m) (grownCap w (n+m) old e)) (n+m) (xs++news)/\
   w.grownBy (w.drew.alloc (.cells (xs.toArray++news.toArray++Builtin.zeroCells z.cells (grownCap w (n+m) old e-(n+m))) e)) row:=by
  intro old au row;have mR:=grownCap_ge w (n+m) old e;have gq:grownCap w (n+m) old e<=maxLen:=grownCap_le_maxLen w (n+m) old e H0;refine⟨⟨hlen,.inr ⟨w.heap.size,_,_,(0,0),rfl,⟨ey,.inl rfl⟩,heap_alloc_new w.drew _,mR,gq,?_,?_⟩⟩,⟨rfl,rfl,rfl,by simp,fun k ag _=>RowKit.Below.heap_alloc w.drew _ k ag⟩⟩
  ·simp only[Array.size_append,List.size_toArray,size_zeroCells,hzs,oZ,hsrc.1,<-Nat.add_mul];congr 1
   omega
  ·simp only[Array.toList_append,List.append_assoc];rw[<-List.append_assoc,<-hlen];exact List.take_left
 have Nx:∀{c:Nat} {D:Obj} {v:Value} b,a6 (.slice (some ⟨w.heap.size,0,none⟩) (n+m) c)=some b->b<(w.drew.alloc D).heap.size/\(a6 v=some b\/w.heap.size<=b):=by
  intro c D v b hb;cases hb;exact⟨by simp,.inr (Nat.le_refl _)⟩
 rcases iy with⟨rfl,rfl⟩|⟨g,cap,cur,bG,rfl,hD,hg,hnc,gq,hcs,lx⟩
 ·have hx:xs=[]:=List.eq_nil_of_length_eq_zero (by simpa using oZ)
  subst hx;by_cases hm:m=0
  ·subst hm;have hn:news=[]:=List.eq_nil_of_length_eq_zero (by simpa using hsrc.1)
   subst hn;refine⟨.slice none 0 0,w,?_,⟨e,tw w u e i.size⟩,⟨rfl,rfl,rfl,Nat.le_refl _,fun _ _ _=>rfl⟩,fun b hb=>by cases hb⟩
   rcases iG with⟨ex,iG⟩|iG<;>simp[Builtin.append_,run_underlying aC,run_underlying iG,sizeOf,typeInfo,hi,hsrc.len,hsrc.run (w2:=w) rfl]
  ·have vQ:=grown 0 (by omega) (Value.ownBlock (.slice none 0 0))
   refine⟨_,_,?_,⟨e,vQ.1⟩,vQ.2,Nx⟩;have Gm:¬(9223372036854775807<(m:Int)):=by omega
   have hb:=NO;simp only[Nat.zero_add] at hb;have Gn:¬(281474976710656<Builtin.nextslicecap m 0*i.bytes):=by rw[nextslicecap_zero (by omega)];omega
   rcases iG with⟨ex,iG⟩|iG<;>simp[Builtin.append_,run_underlying aC,run_underlying iG,sizeOf,typeInfo,zeroValue,hi,hz,hsrc.len,hm,Gm,Gn,Question.forced,run_firstCells_none,hsrc.run (w2:=w.drew) rfl,newRow,grownCap]
 ·by_cases hroom:n+m<=cap
  ·have iA:n*i.size+news.length<=cur.size:=by rw[hsrc.1,hcs,<-Nat.add_mul];exact Nat.mul_le_mul_right _ hroom
   have c9:=k3.run (P:=P) g (n*i.size) b3 bG news 0 cur w hg hD (by simpa using iA) hsrc.2.1
   simp only[Nat.add_zero] at c9;refine⟨.slice (some ⟨g,0,none⟩) (n+m) cap,w.setRow g (cur.toList.take (n*i.size)++news++cur.toList.drop (n*i.size+news.length)).toArray,?_,
    ⟨b3,hlen,.inr ⟨g,cap,_,bG,rfl,⟨hD.1,hD.2.imp id (fun h=>⟨h.1,?_⟩)⟩,setRow_heap w g cur _ b3 _ hg,hroom,gq,?_,?_⟩⟩,⟨rfl,rfl,rfl,by simp,fun k _ ag=>setRow_other w g k _ (fun e=>ag (by simp[Value.ownBlock,e]))⟩,fun b hb=>?_⟩
   ·rcases iG with⟨ex,iG⟩|iG<;>simp[Builtin.append_,run_underlying aC,run_underlying iG,sizeOf,typeInfo,hi,hsrc.len,hroom,hsrc.run (w2:=w) rfl,Addr.add_lit,c9]
   ·have:=h.2;simp only[List.size_toArray,List.length_append,List.length_take,List.length_drop,Array.length_toList];omega
   ·simp only[List.size_toArray,List.length_append,List.length_take,List.length_drop,Array.length_toList];omega
   ·rw[lx,<-hlen];exact List.take_left
   ·cases hb;exact⟨by rw[setRow_size];exact(Array.getElem?_eq_some_iff.1 hg).1,.inl rfl⟩
  ·have vQ:=grown cap (by omega) (Value.ownBlock (.slice (some ⟨g,0,none⟩) n cap))
   refine⟨_,_,?_,⟨e,vQ.1⟩,vQ.2,Nx⟩;have holds:∀j u,xs[j]? =some u->w.drew.cell? ((⟨g,0,none⟩:Addr).add j)=some u:=by
    intro j u hu;rw[gh,Nat.zero_add,World.cell?_drew,cell_of_row w g j cur b3 bG hg];rw[<-lx,List.getElem?_take] at hu;split at hu
    ·simpa using hu
    ·cases hu
   have Gm:¬(9223372036854775807<((n:Int)+(m:Int))):=by omega
   have iA:=growslice_fits (need:=n+m) (old:=cap) (bytes:=i.bytes) (by omega) NO
   have Gn:¬(281474976710656<Builtin.nextslicecap (n+m) cap*i.bytes):=by omega
   have AR:=run_firstCells_some (P:=P) w.drew i.size n ⟨g,0,none⟩ n cap xs oZ holds;rcases iG with⟨ex,iG⟩|iG<;>simp[Builtin.append_,run_underlying aC,run_underlying iG,sizeOf,typeInfo,zeroValue,hi,hz,hsrc.len,hroom,Gm,Gn,Question.forced,hsrc.run (w2:=w.drew) rfl,AR,newRow,grownCap]
   all_goals
    congr 2
    apply Array.ext';simp[List.append_assoc]
section
variable {P:Program}{L:World}{J:List Nat}{X:Nat->Prop}{B:Nat->Value}{st:ad}{tm:Array Value}{w:World}{D:Oper}
theorem _m(S:ah L J X B st tm w){x:aK}{v:Value}{t:aF}{ys:List (den t)}(hx:b_ B st.sites w (an X B st.sites) x v)(h:rM st x=some (.sl t ys)):
  ∃news,Src w (ax t) v ys.length news/\ch w (an X B st.sites) (flat t ys) news:=by
 have one:∀{news:List Value},ck B st.sites w (an X B st.sites) (cC (flat t ys)) news->(∀u∈news,u.oneCell'=true):=by
  intro news h;refine h.h4 ?_
  unfold cC;generalize flat t ys=l;induction l with
  |nil=>rfl
  |cons d l ih=>simpa[gf,aw.storable] using ih
 unfold rM at h;split at h
 ·rename_i bj hB;cases h;have hx:bi w (an X B st.sites) (.sl t ys) v:=hx;cases hx with
  |nil t=>exact⟨[],⟨by simp,fun u hu=>by simp at hu,.inl ⟨rfl,rfl⟩⟩,rfl,fun j h=>by simp[flat] at h⟩
  |sl t xs a cap cs n hn hcap hb hl hc hr=>
   subst hn;have kh:=gV (B:=B) (sites:=st.sites) hl hr;exact⟨cs,⟨by rw[hl,dQ],one kh,.inr (.inl ⟨a,cap,rfl,hc⟩)⟩,hl,hr⟩
 ·cases h
 ·rename_i bj;cases h;rw[show v=_ from hx]
  exact⟨[],⟨by simp,fun u hu=>by simp at hu,.inl ⟨rfl,rfl⟩⟩,rfl,fun j h=>by simp[flat] at h⟩
 ·rename_i o s;split at h
  ·rename_i bj hB hr;cases h;obtain⟨cs,hl,hc⟩:=S.row hr;have hv:v=bY (B o):=by
    rcases jt hr with h1|h1<;>exact Ref.at hx.2 h1 rfl
   have cN:=io hl;refine⟨cs,⟨by rw[cN.1,dQ],one hl,?_⟩,cN⟩
   rw[hv];rcases hc with⟨h1,h2⟩|⟨b,c,h1,h2,_⟩
   ·subst h2;exact .inl ⟨h1,rfl⟩
   ·exact .inr (.inl ⟨⟨b,0,none⟩,c,h1,fun j u hu=>by rw[gh];exact h2 j u hu⟩)
  ·cases h
 ·cases h
theorem Kt(S:ah L J X B st tm w){C:Ctx}(ay:CtxOk P C){T ed:TypeId}{s x:Operand}{e:TypeId}{t:aF}{bytes:Nat}{dst:Nat}(aZ:C.tt T=.slice e t bytes)(uC:(∃ex,P.underlying ed=some (.slice ex))\/P.underlying ed=some .string)
  (au:D.op=.call {callee:=.builtin .append,args:=#[s,x],argTypes:=#[T,ed]}) (da:D.dst=some dst) (Y:b6 st D.dst=true) {ys:List (den t)} {news:List Value} (hsrc:Src w (ax t) (Act.eval ⟨tm,[]⟩ x) ys.length news)
  (dF:ch w (an X B st.sites) (flat t ys) news):Holds (px bytes t dst st (aP C st T s) ys) (cz P L J X st tm w D):=by
 have bM:=ay.tt T;rw[aZ] at bM;obtain⟨⟨dZ,_⟩,z,hinfo,hzs,ey⟩:=bM;obtain⟨i,hi,o5⟩:∃i,P.info? e=some i/\(i.size,i.bytes,i.zero)=(ax t,bytes,some z):=by
  cases aD:P.info? e with
  |none=>simp[aD] at hinfo
  |some i=>exact⟨i,rfl,by simpa[aD] using hinfo⟩
 simp only[Prod.mk.injEq] at o5;obtain⟨o5,vP,sQ⟩:=o5;have nJ:=cT S C T s;have runs:∀{v':Value} {w':World},(Builtin.append_ #[T,ed] D.type #[Act.eval ⟨tm,[]⟩ s,Act.eval ⟨tm,[]⟩ x]).run P w=.ok v' w'->
   (execOp (Act.eval ⟨tm,[]⟩) D).run P w=.ok (.value v') w':=by
  intro v' w' h;unfold execOp;simp only[au,resolve,invoke,builtin,Sem.run_bind,Sem.run_pure,Result.andThen_ok,List.map_toArray,List.map_cons,List.map_nil,h]
 have one:∀{u:Bool} {b3:TypeId} {v':Value} {n m:Nat} {l:List Value} {w':World},rowAt w' u b3 n v' m l->v'.oneCell'=true:=by
  intro u b3 v' n m l w' h;rcases h.2 with⟨rfl,_⟩|⟨g,cap,cur,bG,rfl,_⟩<;>rfl
 unfold px;split
 ·-- a nil slice
  rename_i t2 bU;rw[bU] at nJ;have oM:Act.eval ⟨tm,[]⟩ s=.slice none 0 0:=nJ;refine Holds.e3 fun r hr=>?_
  have cN:dx bytes [] ys=some r:=hr;unfold dx at cN;split at cN
  ·rename_i hb;cases cN;simp only[List.length_nil,Nat.zero_add,room] at hb;obtain⟨v',w',h1,⟨b3,h2⟩,aa,aI⟩:=tk (P:=P) (u:=t.ek) w T ed D.type e ey i z (ax t) bytes dZ uC hi sQ o5 vP hzs (iQ _) (.slice none 0 0) 0 [] ⟨e,tw w _ e _⟩ _ _ news hsrc
    (by rw[Nat.zero_add];exact hb.2) (by rw[Nat.zero_add];exact hb.1)
   rw[Nat.zero_add,List.nil_append] at h2;have bZ:=S.make (o:=dst) (bI:=.row (aY st dst) t ([]++ys)) (nv:=v') (w':=w') (fun b hb=>aa.block b hb (by simp[Value.ownBlock])) aa.os aa.tape aa.output aa.size
    (fun O M=>js M) (fun b hb=>by
     obtain⟨g1,g2⟩:=aI b (tR h2 hb);rcases g2 with g2|g2
     ·cases g2
     ·exact⟨g2,g1⟩) (fun M bW go _ _=>by
     refine⟨b3,news,by rw[bW];simpa using h2,?_⟩
     intro j g1 g2;have aky:j<(flat t ys).length:=by simpa using g1
     simpa using jy go (dF.2 j aky g2))
   refine il (us:=[(dst,.row (aY st dst) t ([]++ys))]) bZ Y (runs (by rw[oM];exact h1)) ?_
   refine⟨one h2,Ref.mk (O:=.row (aY st dst) t ([]++ys)) ?_ rfl (by simp[(is h2).1])⟩
   simp only[aW,cn];simp
  ·cases cN
 ·-- a row of rR own
  rename_i o s2 bU;rw[bU] at nJ;split
  ·rename_i hI t2 xs fi;have ny:look st.sites o=some (.row hI t2 xs):=fi;cases AV:hI.beq s2 with
   |false=>simp only[cond_false];exact .fail
   |true=>
    have jL:=Nat.eq_of_beq_eq_true AV;subst jL;simp only[cond_true];split
    ·rename_i g7;subst g7;refine Holds.e3 fun r hr=>?_
     have cN:dx bytes xs ys=some r:=hr;unfold dx at cN;split at cN
     ·rename_i hb;cases cN;simp only[room] at hb;have hv:Act.eval ⟨tm,[]⟩ s=bY (B o):=Ref.at nJ.2 ny rfl;obtain⟨l',cs,iy,hcs⟩:=S.sites o _ ny;rw[(is iy).1] at hv;obtain⟨v',w',h1,⟨b3,h2⟩,aa,aI⟩:=tk (P:=P) w T ed D.type e ey i z (ax t2) bytes dZ uC hi sQ o5 vP hzs (iQ _) (B o) xs.length cs ⟨l',iy⟩ _ _ news hsrc hb.2 hb.1;have bZ:=S.append (dst:=dst) (r:=xs++ys) ny (nv:=v') (w':=w') aa (fun b hb=>by
       obtain⟨aB,ao⟩:=aI b (tR h2 hb);exact⟨aB,ao.imp fS id⟩) (fun bW go=>by
       refine⟨b3,cs++news,by rw[bW,List.length_append];exact h2,?_⟩
       have nQ:ch w (an X B st.sites) (flat t2 xs) cs:=⟨by rw[dQ];exact iy.1,hcs⟩
       have mI:=io ((gV (B:=B) (sites:=st.sites) nQ.1 nQ.2).append (gV (B:=B) (sites:=st.sites) dF.1 dF.2)|>fun h=>by
        rw[show cC (flat t2 xs)++cC (flat t2 ys)=cC (flat t2 (xs++ys)) from by simp[cC,kI]] at h
        exact h)
       intro j g1 g2;exact jy go (mI.2 j g1 g2))
      refine il (us:=[(o,.dead hI),(dst,.row (aY (st.dn o (.dead hI)) dst) t2 (xs++ys))]) bZ Y (runs (by rw[hv];exact h1)) ?_
      refine⟨one h2,Ref.mk (O:=.row (aY (st.dn o (.dead hI)) dst) t2 (xs++ys)) ?_ rfl (by simp[(is h2).1])⟩
      simp only[aW,cn];simp
     ·cases cN
    ·exact .fail
  ·exact .fail
 ·exact .fail
theorem ZP(S:ah L J X B st tm w){C:Ctx}(ay:CtxOk P C){T ed:TypeId}{s x:Operand}{e ex:TypeId}{t u:aF}{bytes aJ:Nat}{dst:Nat}(aZ:C.tt T=.slice e t bytes)(ey:C.tt ed=.slice ex u aJ)
  (au:D.op=.call {callee:=.builtin .append,args:=#[s,x],argTypes:=#[T,ed]}) (da:D.dst=some dst) (Y:b6 st D.dst=true):
  Holds (ri bytes t dst st (aP C st T s) (aP C st ed x)) (cz P L J X st tm w D):=by
 have o9:=ay.tt ed;rw[ey] at o9;unfold ri;split
 ·exact .fail
 ·rename_i d l2;split
  ·rename_i bj ys;split
   ·rename_i g7;subst g7;obtain⟨news,hsrc,dF⟩:=_m S (cT S C ed x) l2;exact Kt S ay aZ (.inl ⟨_,o9.1.1⟩) au da Y hsrc dF
   ·exact .fail
  ·exact .fail
theorem Yf(S:ah L J X B st tm w){C:Ctx}(ay:CtxOk P C){T ed:TypeId}{s x:Operand}{e:TypeId}{t:aF}{bytes:Nat}{dst:Nat}(aZ:C.tt T=.slice e t bytes)(ey:C.tt ed=.str)
  (au:D.op=.call {callee:=.builtin .append,args:=#[s,x],argTypes:=#[T,ed]}) (da:D.dst=some dst) (Y:b6 st D.dst=true):
  Holds (rj bytes t dst st (aP C st T s) (aP C st ed x)) (cz P L J X st tm w D):=by
 have o9:=ay.tt ed;rw[ey] at o9;have bn:=cT S C ed x;unfold rj;split
 ·rename_i y hx;rw[hx] at bn;split
  ·rename_i g7;subst g7;have bn:bi w (an X B st.sites) (.str y) (Act.eval ⟨tm,[]⟩ x):=bn;generalize hv:Act.eval ⟨tm,[]⟩ x=v at bn;cases bn with
   |str _ b hb=>
    subst hb;refine Kt S ay aZ (.inr o9.1) au da Y (news:=b.data.toList.map fun b=>Value.int .u8 b.toNat) ?_ ?_
    ·rw[hv];refine⟨by simp[bytesOf,ax],fun u hu=>?_,.inr (.inr ⟨b,rfl,?_,rfl,rfl⟩)⟩
     ·obtain⟨c,_,rfl⟩:=List.mem_map.1 hu;rfl
     ·simp only[bytesOf,List.length_map,Array.length_toList];rfl
    ·have e1:flat .u8 (bytesOf b.data.toList)=(b.data.toList.map fun b=>aL.int .u8 b.toNat):=by
      unfold flat bytesOf;rw[List.flatMap_map];generalize b.data.toList=l;induction l with
      |nil=>rfl
      |cons a l ih=>simp only[List.flatMap_cons,List.map_cons,ih];rfl
     rw[e1];refine⟨by simp,fun j g1 g2=>?_⟩
     simp only[List.getElem_map];exact .int _ _
  ·exact .fail
 ·exact .fail
end
theorem foldl_set:∀(vs:List Value) (off k:Nat) (arr:Array Value),off+k+vs.length<=arr.size->
  (vs.zipIdx k).foldl (fun cs (x:Value×Nat)=>cs.setIfInBounds (off+x.2) x.1) arr=(a8 arr.toList (off+k) vs).toArray:=by
 intro vs;induction vs with
 |nil=>intro off k arr h;simp[a8]
 |cons v vs ih=>
  intro off k arr h;simp only[List.zipIdx_cons,List.foldl_cons];rw[ih off (k+1) _ (by simp at h ⊢;omega)]
  congr 1
  simp only[List.length_cons] at h;unfold a8;rw[Array.toList_setIfInBounds];apply List.ext_getElem?;intro j;simp only[List.getElem?_append,List.length_append,List.length_take,List.length_set,List.getElem?_take,List.getElem?_drop,List.getElem?_set,List.length_cons,Array.length_toList];have m1:min (off+k) arr.size=off+k:=by omega
  have m2:min (off+(k+1)) arr.size=off+(k+1):=by omega
  simp only[m1,m2];by_cases c1:j<off+k
  ·have c2:j<off+(k+1):=by omega
   have c3:j<off+(k+1)+vs.length:=by omega
   have dU:j<off+k+(vs.length+1):=by omega
   have jp:¬off+k=j:=by omega
   simp[c1,c2,c3,dU,jp]
  ·by_cases c0:j=off+k
   ·subst c0;have c2:off+k<off+(k+1):=by omega
    have c3:off+k<off+(k+1)+vs.length:=by omega
    have dU:off+k<off+k+(vs.length+1):=by omega
    have jp:off+k<arr.size:=by omega
    simp[c2,c3,dU,jp]
   ·by_cases dU:j<off+k+(vs.length+1)
    ·have c2:¬j<off+(k+1):=by omega
     have c3:j<off+(k+1)+vs.length:=by omega
     have e:j-(off+k)=(j-(off+(k+1)))+1:=by omega
     simp[c1,c2,c3,dU,e]
    ·have c3:¬j<off+(k+1)+vs.length:=by omega
     have jp:¬off+k=off+(k+1)+vs.length+(j-(off+(k+1)+vs.length)):=by omega
     have e:off+(k+1)+vs.length+(j-(off+(k+1)+vs.length))=off+k+(vs.length+1)+(j-(off+k+(vs.length+1))):=by omega
     simp[c3,dU,jp,e];try(intro bD;exfalso;omega)
theorem JU(v:Value)(off:Nat)(arr:Array Value)(h:off+v.cells.size<=arr.size):
  v.cells.zipIdx.foldl (fun cs (x:Value×Nat)=>cs.setIfInBounds (off+x.2) x.1) arr=(a8 arr.toList off v.cells.toList).toArray:=by
 rw[<-Array.foldl_toList,Array.toList_zipIdx];exact foldl_set v.cells.toList off 0 arr (by simpa using h)
theorem Ko(s:Nat):∀(vs:List (Nat×Value)) (n:Nat) (cells:Array Value),(∀j (h:j<vs.length),(vs[j]).1=n+j)->(∀p,p∈vs->p.2.cells.size=s)->(n+vs.length)*s<=cells.size->
  Instr.fill (fun i=>some (i*s,s)) cells vs=some (a8 cells.toList (n*s) (vs.flatMap fun p=>p.2.cells.toList)).toArray:=by
 intro vs;induction vs with
 |nil=>intro n cells _ _ _;simp[Instr.fill,a8]
 |cons p vs ih=>
  obtain⟨i,v⟩:=p;intro n cells hi M cY;have h0:i=n:=hi 0 (Nat.zero_lt_succ _);subst h0;have hv:v.cells.size=s:=M (i,v) (by simp)
  have iz:i*s+s<=cells.size:=by
   have:(i+1)*s<=(i+(vs.length+1))*s:=Nat.mul_le_mul_right _ (by omega)
   simp only[List.length_cons] at cY;rw[Nat.add_mul,Nat.one_mul] at this;omega
  simp only[Instr.fill,hv];rw[if_neg (by simp;omega)]
  have oF:=JU v (i*s) cells (by omega)
  rw[oF];have hlen:v.cells.toList.length=s:=by simpa using hv
  have afT:(a8 cells.toList (i*s) v.cells.toList).length=cells.toList.length:=me _ _ _ (by simp;omega)
  rw[ih (i+1) _ (fun j h=>by have:=hi (j+1) (by simpa using h);simp at this;omega) (fun p aj=>M p (by simp[aj])) (by
   simp only[List.length_cons] at cY;simp only[List.size_toArray,afT,Array.length_toList];have e:i+1+vs.length=i+(vs.length+1):=by omega
   rw[e];exact cY)]
  congr 2
  simp only[List.flatMap_cons,List.toList_toArray];have mS:(vs.flatMap fun p=>p.2.cells.toList).length=vs.length*s:=by
   clear ih hi cY;induction vs with
   |nil=>simp
   |cons q vs Hn=>
    have:q.2.cells.toList.length=s:=by simpa using M q (by simp)
    rw[List.flatMap_cons,List.length_append,this,Hn (fun p aj=>M p (by rcases List.mem_cons.1 aj with h|h<;>simp[h])),List.length_cons,Nat.add_mul];omega
  have af8:(i+(vs.length+1))*s<=cells.size:=by simpa using cY
  rw[Nat.add_mul,Nat.add_mul] at af8;unfold a8;apply List.ext_getElem?;intro j;have e1:(i+1)*s=i*s+s:=by rw[Nat.add_mul,Nat.one_mul]
  simp only[List.getElem?_append,List.length_append,List.length_take,List.getElem?_take,List.getElem?_drop,List.length_drop,Array.length_toList,hlen,mS,e1];have m1:min (i*s) cells.size=i*s:=by omega
  have m2:min (i*s+s) (i*s+s+(cells.size-(i*s+s)))=i*s+s:=by omega
  simp only[m1,m2];by_cases c1:j<i*s
  ·have c2:j<i*s+s:=by omega
   have c3:j<i*s+s+vs.length*s:=by omega
   have dU:j<i*s+(s+vs.length*s):=by omega
   simp[c1,c2,c3,dU]
  ·by_cases c2:j<i*s+s
   ·have c3:j<i*s+s+vs.length*s:=by omega
    have dU:j<i*s+(s+vs.length*s):=by omega
    have jp:j-i*s<s:=by omega
    simp[c1,c2,c3,dU,jp]
   ·by_cases c3:j<i*s+s+vs.length*s
    ·have dU:j<i*s+(s+vs.length*s):=by omega
     have jp:¬j-i*s<s:=by omega
     have e:j-i*s-s=j-(i*s+s):=by omega
     simp[c1,c2,c3,dU,jp,e]
    ·have dU:¬j<i*s+(s+vs.length*s):=by omega
     have jp:¬i*s+s+vs.length*s+(j-(i*s+s+vs.length*s))<i*s:=by omega
     have c6:¬i*s+s+vs.length*s+(j-(i*s+s+vs.length*s))<i*s+s:=by omega
     have e:i*s+s+(i*s+s+vs.length*s+(j-(i*s+s+vs.length*s))-(i*s+s))=i*s+(s+vs.length*s)+(j-(i*s+(s+vs.length*s))):=by omega
     simp[c3,dU,jp,c6,e]
theorem XU:∀(l:List (Nat×Operand)) (n:Nat),ow n l=true->∀j (h:j<l.length),(l[j]).1=n+j:=by
 intro l;induction l with
 |nil=>intro n _ j h;simp at h
 |cons p l ih=>
  obtain⟨i,x⟩:=p;intro n h j hj;simp only[ow,Bool.and_eq_true] at h;cases j with
  |zero=>simpa using Nat.eq_of_beq_eq_true h.1
  |succ j=>have:=ih (n+1) h.2 j (by simpa using hj);simp;omega
section
variable {P:Program}{L:World}{J:List Nat}{X:Nat->Prop}{B:Nat->Value}{st:ad}{tm:Array Value}{w:World}{D:Oper}
theorem Vz{U:List aw}(h:gf U=true):U.head?≠some .ev:=by
 intro bR;cases U with
 |nil=>cases bR
 |cons l r=>
  simp only[List.head?_cons,Option.some.injEq] at bR;subst bR;cases h
theorem ah.MN(S:ah L J X B st tm w){o:Nat}{cells:List aw}{vs:List Value}{T:TypeId}(hl:ck B st.sites w (an X B st.sites) cells vs)(h1:∀u∈vs,u.oneCell'=true)(fL:mD cells T vs w.heap.size):
  ah L J X (fun F=>if F=o then .pointer (some ⟨w.heap.size,0,none⟩) else B F) {st with sites:=b8 st.sites o (.box (aY st o) cells)} tm (w.alloc (.cells vs.toArray T (0,0))):=
 S.make (fun b hb=>RowKit.Below.heap_alloc w _ b hb) rfl rfl rfl (by simp) (fun O M=>js M) (fun b hb=>by have hb:=List.mem_singleton.1 hb;subst hb;exact⟨Nat.le_refl _,by simp⟩)
  (fun M bW go _ _=>⟨w.heap.size,T,vs,bW,heap_alloc_new w _,hl.1,h1,fL,fun j g1 g2=>(y1 go hl).2 j g1 g2⟩)
theorem _q{B:Nat->Value}{sites:List (Nat×Site)}{av:Nat->Prop}{cells:List aw}{T:TypeId}{cur:List Value}{b:Nat}(aZ:T=qp)(h:ck B sites w av cells cur)(M:cells.head?≠some .ev):ck B sites w av (uu cells) cur/\mD (uu cells) T cur b:=by
 unfold uu;split
 ·obtain⟨v,vs,rfl,h1,h2⟩:=h.inv;exact⟨.cons (show dj B sites w av .ev v from trivial) h2,fun _=>⟨aZ,.inl (by rw[show v=_ from h1];rfl)⟩⟩
 ·exact⟨h,fun ab=>absurd ab M⟩
theorem aar(S:ah L J X B st tm w){C:Ctx}(ay:CtxOk P C){elem:TypeId}{z:List aw}{o:Nat}(au:D.op=.alloc elem)(da:D.dst=some o)(hz:(C.tt elem).zero=some z)(Y:b6 st D.dst=true):
  cz P L J X st tm w D (bP (.ptr o (aY st o) 0)) [(o,.box (aY st o) (bif elem.beq qp then uu z else z))]:=by
 obtain⟨v,hv,hzv⟩:=cd.xk (w:=w) (ay.tt elem) hz;obtain⟨h1,h2,aa⟩:=qM hzv;have fL:z.head?≠some .ev:=by
  intro bR;cases z with
  |nil=>cases bR
  |cons l r=>
   simp only[List.head?_cons,Option.some.injEq] at bR;subst bR;simp[kM,pt] at hzv
 have cI:(execOp (Act.eval ⟨tm,[]⟩) D).run P w=.ok (.value (.pointer (some ⟨w.heap.size,0,none⟩))) (w.alloc (.cells v.cells.toList.toArray elem (0,0))):=by
  unfold execOp;simp[au,Instr.alloc,hv,newVar,newRow]
 have key:∀cells,ck B st.sites w (an X B st.sites) cells v.cells.toList->mD cells elem v.cells.toList w.heap.size->
   cz P L J X st tm w D (bP (.ptr o (aY st o) 0)) [(o,.box (aY st o) cells)]:=by
  intro cells hl M;have bZ:=S.MN (o:=o) (T:=elem) hl h2 M;refine il (us:=[(o,.box (aY st o) cells)]) bZ Y (vv:=.pointer (some ⟨w.heap.size,0,none⟩)) cI ?_
  refine⟨_,rfl,Ref.mk (O:=.box (aY st o) cells) ?_ rfl (by simp[bY])⟩
  simp only[aW,cn];simp
 cases aZ:elem.beq qp with
 |false=>exact key z ⟨h1,aa _ _ _ _⟩ fun h=>absurd h fL
 |true=>
  obtain⟨aB,ao⟩:=_q (b:=w.heap.size) (Nat.eq_of_beq_eq_true aZ) (⟨h1,aa B st.sites w (an X B st.sites)⟩:ck B st.sites w (an X B st.sites) z v.cells.toList) fL;exact key _ aB ao
theorem ac3(S:ah L J X B st tm w){elem:TypeId}{x:Operand}{a:bz}{o:Nat}(au:D.op=.box elem x)(da:D.dst=some o)(a9:fW B st.sites w (an X B st.sites) a (Act.eval ⟨tm,[]⟩ x))
  (c9:gf a.cells=true) (Y:b6 st D.dst=true):cz P L J X st tm w D (bP (.ptr o (aY st o) 0)) [(o,.box (aY st o) a.cells)]:=by
 have hl:=a9.cells c9;have bZ:=S.MN (o:=o) (T:=elem) hl (hl.h4 c9) (fun h=>absurd h (Vz c9))
 refine il (us:=[(o,.box (aY st o) a.cells)]) bZ Y (vv:=.pointer (some ⟨w.heap.size,0,none⟩)) ?_ ?_
 ·unfold execOp;simp[au,Instr.box,newVar,newRow]
 ·refine⟨_,rfl,Ref.mk (O:=.box (aY st o) a.cells) ?_ rfl (by simp[bY])⟩
  simp only[aW,cn];simp
theorem ah.DH(S:ah L J X B st tm w){o:Nat}{t:aF}{xs:List (den t)}{cs rest:List Value}{T:TypeId}{cap:Nat}(hl:ch w (an X B st.sites) (flat t xs) cs)(hcap:cs.length+rest.length=cap*ax t)(hm:cap<=maxLen)(ey:t.ek=true->T=lc):
  ah L J X (fun F=>if F=o then .slice (some ⟨w.heap.size,0,none⟩) xs.length cap else B F) {st with sites:=b8 st.sites o (.row (aY st o) t xs)} tm (w.alloc (.cells (cs++rest).toArray T (0,0))):=by
 have hcl:cs.length=xs.length*ax t:=by rw[hl.1,dQ]
 have cY:xs.length<=cap:=by
  have:xs.length*ax t<=cap*ax t:=by omega
  exact Nat.le_of_mul_le_mul_right this (iQ t)
 refine S.make (fun b hb=>RowKit.Below.heap_alloc w _ b hb) rfl rfl rfl (by simp) (fun O M=>js M) (fun b hb=>by have hb:=List.mem_singleton.1 hb;subst hb;exact⟨Nat.le_refl _,by simp⟩)
  (fun M bW go _ _=>⟨T,cs,⟨hcl,.inr ⟨w.heap.size,cap,_,(0,0),bW,⟨ey,.inl rfl⟩,heap_alloc_new w _,cY,hm,?_,?_⟩⟩,fun j g1 g2=>jy go (hl.2 j g1 g2)⟩)
 ·simp[hcap]
 ·rw[<-hcl];simp
theorem abI:∀{as:List bz} {t:aF} {xs:List (den t)} {us vs:List (Nat×Site)} {ws:List Value},k2 t st as=some (xs,us)->ws.length=as.length->
  (∀j (h:j<as.length) (ab:j<ws.length),fW B st.sites w (an X B st.sites) (as[j]) (ws[j]))->kF L J X B st tm w vs->(∀p,p∈us->p∈vs)->
  xs.length=as.length/\ch w (an X B (aW st.sites vs)) (flat t xs) (ws.flatMap fun v=>v.cells.toList)/\∀v,v∈ws->v.cells.size=ax t:=by
 intro as;induction as with
 |nil=>
  intro t xs us vs ws h hl _ _ _;simp only[k2] at h;cases h;have:ws=[]:=List.eq_nil_of_length_eq_zero hl;subst this;exact⟨rfl,⟨rfl,fun j h=>by simp[flat] at h⟩,fun v hv=>by simp at hv⟩
 |cons a as ih=>
  intro t xs us vs ws h hl ff aR dA;match ws,hl with
  |v::ws,hl=>
  simp only[k2] at h;split at h
  ·rename_i ds u1 lG;split at h
   ·rename_i x hB u2 d_ mA;cases h;have b0:=ff 0 (by simp) (by simp)
    simp only[List.getElem_cons_zero] at b0;have c9:gf a.cells=true:=by
     clear mA ih ff b0 hl d_;generalize a.cells=U at lG;induction U generalizing ds u1 with
     |nil=>rfl
     |cons l U ih=>
      simp only[g4] at lG;split at lG
      ·rename_i d UL f' n6 h1 h2;simp only[gf,Bool.and_eq_true];refine⟨?_,ih _ _ (fun p aj=>dA p (by cases lG;rcases List.mem_append.1 aj with h|h<;>simp[h])) h2⟩
       unfold jj at h1;split at h1<;>first|rfl|cases h1
      ·cases lG
    have hl1:=b0.cells c9;have qf:=yE lG hl1 aR (fun p aj=>dA p (List.mem_append.2 (.inl aj)))
    obtain⟨g1,g2,g3⟩:=ih mA (by simpa using hl) (fun j h1 h2=>ff (j+1) (by simpa using h1) (by simpa using h2)) aR (fun p aj=>dA p (List.mem_append.2 (.inr aj)))
    have nK:=nw _ _ _ d_;refine⟨by simp[g1],?_,fun u hu=>?_⟩
    ·simp only[flat,List.flatMap_cons];rw[nK];have:=io ((gV (B:=B) (sites:=st.sites) qf.1 qf.2).append (gV (B:=B) (sites:=st.sites) g2.1 g2.2)|>fun h=>by
      rw[show cC ds++cC (flat t hB)=cC (ds++flat t hB) from by simp[cC]] at h
      exact h)
     exact this
    ·rcases List.mem_cons.1 hu with rfl|hu
     ·have:u.cells.toList.length=ds.length:=qf.1;rw[<-nK,fc] at this;simpa using this
     ·exact g3 u hu
   ·cases h
  ·cases h
theorem abJ:∀{as:List bz} {t:aF} {xs:List (den t)} {us:List (Nat×Site)},k2 t st as=some (xs,us)->dp st.sites us:=by
 intro as;induction as with
 |nil=>intro t xs us h;simp only[k2] at h;cases h;exact .nil
 |cons a as ih=>
  intro t xs us h;simp only[k2] at h;split at h
  ·rename_i ds u1 lG;split at h
   ·rename_i x hB u2 d_ mA;cases h;exact(Eh lG).append (ih mA)
   ·cases h
  ·cases h
theorem Vg{us:List (Nat×Site)}(h:dp st.sites us)(o:Nat):aY {st with sites:=aW st.sites us} o=aY st o:=by
 unfold aY ad.O;simp only;rcases ll h o with h1|⟨s,t,xs,h1,h2⟩
 ·rw[h1]
 ·rw[h2];rcases h1 with h1|h1|h1<;>rw[h1]<;>rfl
end
section
variable {P:Program}{L:World}{J:List Nat}{X:Nat->Prop}{B:Nat->Value}{st:ad}{tm:Array Value}{w:World}{D:Oper}
theorem pn{v:aK}{a:bz}(h:lM v=some a):v=.av a:=by
 cases v with
 |av b=>cases h;rfl
 |jd _=>cases h
theorem Kq:∀{vs:List aK} {as:List bz},mC vs=some as->vs.length=as.length/\∀j (h:j<vs.length) (ab:j<as.length),vs[j]=.av (as[j]):=by
 intro vs;induction vs with
 |nil=>intro as h;simp only[mC] at h;cases h;exact⟨rfl,fun j h=>by simp at h⟩
 |cons v vs ih=>
  intro as h;simp only[mC] at h;split at h
  ·rename_i a jl h1 h2;cases h;obtain⟨g1,g2⟩:=ih h2;refine⟨by simp[g1],fun j aB ao=>?_⟩
   cases j with
   |zero=>exact pn h1
   |succ j=>exact g2 j (by simpa using aB) (by simpa using ao)
  ·cases h
theorem oe{C:Ctx}(ay:CtxOk P C){T e:TypeId}{t:aF}{bytes:Nat}(aZ:C.tt T=.slice e t bytes):
  P.underlying T=some (.slice e)/\∃i z,P.info? e=some i/\i.size=ax t/\i.bytes=bytes/\i.zero=some z/\z.cells.size=ax t/\(t.ek=true->e=lc):=by
 have bM:=ay.tt T;rw[aZ] at bM;obtain⟨⟨dZ,_⟩,z,hinfo,hzs⟩:=bM;refine⟨dZ,?_⟩;cases aD:P.info? e with
 |none=>simp[aD] at hinfo
 |some i=>
  simp only[aD,Option.map_some,Option.some.injEq,Prod.mk.injEq] at hinfo;exact⟨i,z,rfl,hinfo.1,hinfo.2.1,hinfo.2.2,hzs⟩
theorem Jf{C:Ctx}(ay:CtxOk P C){T e:TypeId}{t:aF}{bytes len:Nat}{parts:Array (Nat×Operand)}(aZ:C.tt T=.slice e t bytes)(hlen:parts.toList.length=len)(lD:ow 0 parts.toList=true)(um:len*ax t<=1000)
  {ws:List Value} (Hw:ws=parts.toList.map fun p=>Act.eval ⟨tm,[]⟩ p.2) (hcs:∀v,v∈ws->v.cells.size=ax t) (hcl:(ws.flatMap fun v=>v.cells.toList).length=len*ax t):
  (Instr.buildSlice T len (parts.map fun(x:Nat×Operand)=>(x.1,Act.eval ⟨tm,[]⟩ x.2))).run P w=
   .ok (.slice (some ⟨w.heap.size,0,none⟩) len len) (w.alloc (.cells (ws.flatMap fun v=>v.cells.toList).toArray e)):=by
 obtain⟨dZ,i,z,hi,gC,nW,kj,hzs,ey⟩:=oe ay aZ;have acQ:(parts.map fun(x:Nat×Operand)=>(x.1,Act.eval ⟨tm,[]⟩ x.2)).toList=parts.toList.map fun p=>(p.1,Act.eval ⟨tm,[]⟩ p.2):=by simp
 have ad5:((parts.toList.map fun p=>(p.1,Act.eval ⟨tm,[]⟩ p.2)).flatMap fun p:Nat×Value=>p.2.cells.toList)=ws.flatMap fun v=>v.cells.toList:=by
  simp[Hw,List.flatMap_map]
 by_cases h0:len*i.size=0
 ·have oZ:len=0:=by
   rcases Nat.mul_eq_zero.1 h0 with h|h
   ·exact h
   ·have:=iQ t;omega
  subst oZ;have nU:parts.toList=[]:=List.eq_nil_of_length_eq_zero hlen;have ajv:ws=[]:=by simp[Hw,nU]
  have ajH:parts=#[]:=by simpa using nU
  rw[ajv];have iH:∀f:Nat->Value,Array.map f (Array.range 0)=#[]:=fun f=>by apply Array.ext';simp
  simp[Instr.buildSlice,run_underlying dZ,sizeOf,typeInfo,hi,ajH,Instr.fill,newRow,iH]
 ·refine run_buildSlice w T e len _ _ i z dZ hi kj (by rw[gC];omega) h0 ?_
  rw[acQ];have adV:(((Array.range (len*i.size)).map fun x=>z.cells[x%z.cells.size]!)).size=len*i.size:=by simp
  have:=Ko (ax t) (parts.toList.map fun p=>(p.1,Act.eval ⟨tm,[]⟩ p.2)) 0 ((Array.range (len*i.size)).map fun x=>z.cells[x%z.cells.size]!)
   (fun j h=>by have:=XU _ 0 lD j (by simpa using h);simpa using this)
   (fun p aj=>by
    obtain⟨q,aD,rfl⟩:=List.mem_map.1 aj;exact hcs _ (by rw[Hw];exact List.mem_map.2 ⟨q,aD,rfl⟩))
   (by rw[adV,gC];simp[hlen])
  rw[gC] at this ⊢;rw[this,ad5];congr 2
  unfold a8;rw[Nat.zero_mul,List.take_zero,List.nil_append,Nat.zero_add,hcl,List.drop_eq_nil_of_le (by simp),List.append_nil]
theorem VP(S:ah L J X B st tm w){C:Ctx}(ay:CtxOk P C){T e:TypeId}{t:aF}{bytes len o:Nat}{parts:Array (Nat×Operand)}(aZ:C.tt T=.slice e t bytes)(au:D.op=.buildSlice T len parts)
  (da:D.dst=some o) (Y:b6 st D.dst=true) (hlen:parts.toList.length=len) (lD:ow 0 parts.toList=true) (um:len*ax t<=1000) {as:List bz} {xs:List (den t)} {us:List (Nat×Site)}
  (has:mC (parts.toList.map fun p=>aP C st e p.2)=some as) (d_:k2 t st as=some (xs,us)):
  cz P L J X st tm w D (bP (.own o (aY st o))) (us++[(o,.row (aY st o) t xs)]):=by
 obtain⟨dZ,i,z,hi,gC,nW,kj,hzs,ey⟩:=oe ay aZ;have hD:=abJ d_;have aR:kF L J X B st tm w us:=⟨S,hD⟩;obtain⟨vX,ko⟩:=Kq has;let ws:List Value:=parts.toList.map fun p=>Act.eval ⟨tm,[]⟩ p.2
 have vw:ws.length=as.length:=by rw[<-vX];simp[ws]
 have F6:∀j (h:j<as.length) (ab:j<ws.length),fW B st.sites w (an X B st.sites) (as[j]) (ws[j]):=by
  intro j h1 h2;have hj:j<(parts.toList.map fun p=>aP C st e p.2).length:=by rw[vX];exact h1
  have:=ko j hj h1;simp only[List.getElem_map] at this;have bn:=cT S C e (parts.toList[j]'(by simpa using hj)).2
  rw[this] at bn;have aa:b_ B st.sites w (an X B st.sites) (.av (as[j])) (ws[j]):=by simpa[ws] using bn
  exact aa
 obtain⟨vt,dF,hcs⟩:=abI d_ vw F6 aR (fun p aj=>aj)
 have pM:xs.length=len:=by rw[vt,<-vw];simpa[ws] using hlen
 have hcl:(ws.flatMap fun v=>v.cells.toList).length=len*ax t:=by rw[dF.1,dQ,pM]
 have hm:len<=maxLen:=by
  have:len*1<=len*ax t:=Nat.mul_le_mul_left _ (iQ t);unfold maxLen;omega
 have bZ:=aR.new.DH (o:=o) (xs:=xs) (cs:=ws.flatMap fun v=>v.cells.toList) (rest:=[]) (T:=e) (cap:=len) (by exact dF) (by simp[hcl]) hm ey
 rw[Vg hD,pM,List.append_nil] at bZ;have oA:aW st.sites (us++[(o,.row (aY st o) t xs)])=b8 (aW st.sites us) o (.row (aY st o) t xs):=by rw[hZ];rfl
 have cI:(Instr.buildSlice T len (parts.map fun(x:Nat×Operand)=>(x.1,Act.eval ⟨tm,[]⟩ x.2))).run P w=
   .ok (.slice (some ⟨w.heap.size,0,none⟩) len len) (w.alloc (.cells (ws.flatMap fun v=>v.cells.toList).toArray e)):=Jf ay aZ hlen lD um rfl hcs hcl
 refine il (us:=us++[(o,.row (aY st o) t xs)]) (by rw[oA];exact bZ) Y (vv:=.slice (some ⟨w.heap.size,0,none⟩) len len) ?_ ?_
 ·unfold execOp;simp only[au,Sem.run_bind];have Fl:=cI;simp only[Fl,Result.andThen_ok,Sem.run_pure]
 ·rw[oA];refine⟨rfl,Ref.mk (O:=.row (aY st o) t xs) ?_ rfl (by simp[bY])⟩
  simp only[cn];simp
theorem VC{w:World}{av:Nat->Prop}{t:aF}{z:den t}{fN:List Value}(h:ch w av (enc t z) fN)(n:Nat):ch w av (flat t (List.replicate n z)) ((List.replicate n fN).flatten):=by
 induction n with
 |zero=>exact⟨rfl,fun j h=>by simp[flat] at h⟩
 |succ n ih=>
  have:=io ((gV (B:=fun _=>undef) (sites:=[]) h.1 h.2).append (gV (B:=fun _=>undef) (sites:=[]) ih.1 ih.2)|>fun h=>by
   rw[show cC (enc t z)++cC (flat t (List.replicate n z))=cC (enc t z++flat t (List.replicate n z)) from by simp[cC]] at h
   exact h)
  simpa[List.replicate_succ,flat,List.flatMap_cons] using this
theorem Y4(z:Array Value)(n:Nat)(hz:0<z.size):((Array.range (n*z.size)).map fun x=>z[x%z.size]!).toList=(List.replicate n z.toList).flatten:=by
 induction n with
 |zero=>simp
 |succ n ih=>
  rw[List.replicate_succ',List.flatten_append];rw[<-ih];apply List.ext_getElem?;intro j;have e:(n+1)*z.size=n*z.size+z.size:=by rw[Nat.add_mul,Nat.one_mul]
  simp only[Array.toList_map,Array.toList_range,List.getElem?_map,List.getElem?_append,List.length_map,List.length_range,List.flatten_cons,List.flatten_nil,List.append_nil,e];by_cases h1:j<n*z.size
  ·rw[List.getElem?_range (by omega)];simp[h1]
  ·by_cases h2:j<n*z.size+z.size
   ·rw[List.getElem?_range h2];have aa:j-n*z.size<z.size:=by omega
    have aI:j%z.size=j-n*z.size:=by
     have:j=z.size*n+(j-n*z.size):=by rw[Nat.mul_comm];omega
     conv=>lhs;rw[this]
     rw[Nat.mul_add_mod,Nat.mod_eq_of_lt aa]
    simp[h1,aI,aa]
   ·rw[List.getElem?_eq_none (by simp;omega)]
    have aa:¬j-n*z.size<z.size:=by omega
    simp[h1,aa]
theorem Ws{l:aw}{v:Value}{d:aL}{us:List (Nat×Site)}(h:pt l=some v)(k:jj st l=some (d,us)):us=[]:=by
 cases l with
 |d x=>simp[jj] at k;exact k.2
 |nil t=>simp[jj] at k;exact k.2
 |own o s=>simp[pt] at h
 |clo g bE=>simp[pt] at h
 |_=>simp[jj] at k
theorem Ji{C:Ctx}{T e:TypeId}{t:aF}{bytes:Nat}{kn km:IntKind}{n m:Int}{i:TypeInfo}{v:Value}(dZ:P.underlying T=some (.slice e))(hi:P.info? e=some i)(gC:i.size=ax t)(nW:i.bytes=bytes)
  (kj:i.zero=some v) (hzs:v.cells.size=ax t) (aU:0<=n) (aJ:n<=m) (bQ:m*bytes<=room) (jq:m<=maxLen):
  (Instr.makeSlice T (.int kn n) (.int km m)).run P w=.ok (.slice (some ⟨w.heap.size,0,none⟩) n.toNat m.toNat) (w.alloc (.cells ((List.replicate m.toNat v.cells.toList).flatten).toArray e)):=by
 unfold maxLen at jq;have b5:IntKind.i64.wrap n=n:=IntWalk.i64_in n (by omega)
 have w2:IntKind.i64.wrap m=m:=IntWalk.i64_in m (by omega)
 have Gb:(decide (m<0)||decide (((i.bytes:Nat):Int)*m>2^48))=false:=by
  unfold room at bQ;rw[nW];have:(bytes:Int)*m<=140737488355328:=by rw[Int.mul_comm];exact bQ
  simp;omega
 have ms:((Array.range (m.toNat*i.size)).map fun x=>v.cells[x%v.cells.size]!)=((List.replicate m.toNat v.cells.toList).flatten).toArray:=by
  rw[<-Y4 v.cells m.toNat (by rw[hzs];exact iQ t),hzs,gC]
 have HL:¬n<0:=by omega
 have hT:¬n>m:=by omega
 unfold Instr.makeSlice;simp only[Sem.run_bind,run_underlying dZ,Result.andThen_ok,asInt,asIntOf,Sem.run_pure,kG hi,b5,w2,Gb,Bool.false_eq_true,HL,hT,decide_false,Bool.or_false,Bool.or_self,if_false,
  run_askRoom,sizeOf]
 by_cases hz0:m.toNat*i.size=0
 ·have sN:m.toNat=0:=by
   rcases Nat.mul_eq_zero.1 hz0 with h|h
   ·exact h
   ·have:=iQ t;omega
  have iH:∀f:Nat->Value,Array.map f (Array.range 0)=#[]:=fun f=>by apply Array.ext';simp
  simp[sN,newRow,iH]
 ·simp[hz0,kj,zeroValue,kG hi,newRow,ms]
theorem Wc(S:ah L J X B st tm w){C:Ctx}(ay:CtxOk P C){T e:TypeId}{t:aF}{bytes o:Nat}{l c:Operand}{kn km:IntKind}{n m:Int}{z:List aw}{ds:List aL}{us:List (Nat×Site)}{ea:den t}(aZ:C.tt T=.slice e t bytes)(au:D.op=.makeSlice T l c)
  (da:D.dst=some o) (Y:b6 st D.dst=true) (hl:aP C st 0 l=.av (.ai (.d (.int kn n)))) (hc:aP C st 0 c=.av (.ai (.d (.int km m)))) (hz:(C.tt e).zero=some z) (ef:g4 st z=some (ds,us)) (d_:dec t ds=some ea):
  ∀r,lP bytes n m ea=some r->cz P L J X st tm w D (bP (.own o (aY st o))) [(o,.row (aY st o) t r)]:=by
 intro r hr;obtain⟨dZ,i,fl,hi,gC,nW,kj,hzs,ey⟩:=oe ay aZ;obtain⟨v,hv,hzv⟩:=cd.xk (w:=w) (ay.tt e) hz;have Hx:v=fl:=by
  simp[zeroValue,typeInfo,hi,kj] at hv;exact hv.symm
 subst Hx;obtain⟨h1,h2,aa⟩:=qM hzv;have dN:us=[]:=by
  clear d_ hz aa h2 h1;have key:∀{U:List aw} {vs:List Value} {ds:List aL} {us:List (Nat×Site)},kM U=some vs->g4 st U=some (ds,us)->us=[]:=by
   intro U;induction U with
   |nil=>intro vs ds us _ h;simp only[g4] at h;cases h;rfl
   |cons l U ih=>
    intro vs ds us h1 h2;simp only[kM] at h1;split at h1
    ·rename_i v cq g1 g2;simp only[g4] at h2;split at h2
     ·rename_i d UL f' n6 aB ao;cases h2;rw[ih g2 ao,List.append_nil];exact Ws g1 aB
     ·cases h2
    ·cases h1
  exact key hzv ef
 subst dN;have aR:kF L J X B st tm w []:=⟨S,.nil⟩;have hrz:ch w (an X B st.sites) ds v.cells.toList:=yE ef ⟨h1,aa _ _ _ _⟩ aR (fun p aj=>aj)
 rw[<-nw _ _ _ d_] at hrz;unfold lP at hr;split at hr
 ·rename_i hb;obtain⟨aU,aJ,bQ,jq⟩:=hb;cases hr;have e1:Act.eval ⟨tm,[]⟩ l=.int kn n:=by
   have:=cT S C 0 l;rw[hl] at this;have this:bi _ _ (.int kn n) _:=this;generalize Act.eval ⟨tm,[]⟩ l=u at this;cases this;rfl
  have e2:Act.eval ⟨tm,[]⟩ c=.int km m:=by
   have:=cT S C 0 c;rw[hc] at this;have this:bi _ _ (.int km m) _:=this;generalize Act.eval ⟨tm,[]⟩ c=u at this;cases this;rfl
  have uS:=VC hrz n.toNat;have hlen:((List.replicate n.toNat v.cells.toList).flatten).length=n.toNat*ax t:=by
   rw[uS.1,dQ,List.length_replicate]
  have ul:(List.replicate m.toNat v.cells.toList).flatten=(List.replicate n.toNat v.cells.toList).flatten++(List.replicate (m.toNat-n.toNat) v.cells.toList).flatten:=by
   rw[<-List.flatten_append,List.replicate_append_replicate];congr 2;omega
  have hcap:((List.replicate n.toNat v.cells.toList).flatten).length+((List.replicate (m.toNat-n.toNat) v.cells.toList).flatten).length=m.toNat*ax t:=by
   rw[<-List.length_append,<-ul];simp[hzs]
  have uU:m.toNat<=maxLen:=by omega
  have bZ:=S.DH (o:=o) (T:=e) uS hcap uU ey;rw[List.length_replicate,<-ul] at bZ;refine il (us:=[(o,.row (aY st o) t (List.replicate n.toNat ea))]) bZ Y (vv:=.slice (some ⟨w.heap.size,0,none⟩) n.toNat m.toNat) ?_ ?_
  ·unfold execOp;simp only[au,e1,e2,Sem.run_bind];have cI:=Ji (C:=C) (w:=w) (kn:=kn) (km:=km) dZ hi gC nW kj hzs aU aJ bQ jq;simp only[cI,Result.andThen_ok,Sem.run_pure]
  ·refine⟨rfl,Ref.mk (O:=.row (aY st o) t (List.replicate n.toNat ea)) ?_ rfl (by simp[bY])⟩
   simp only[aW,cn];simp
 ·cases hr
end
theorem Zr{aH jN:Type}(g:aH->Option jN):∀{l:List aH} {r:List jN},l.mapM g=some r->∀{i:Nat} {y:jN},r[i]? =some y->∃x,l[i]? =some x/\g x=some y:=by
 intro l;induction l with
 |nil=>intro r h i y ak;simp at h;subst h;simp at ak
 |cons x l ih=>
  intro r h i y ak;simp only[List.mapM_cons,Option.bind_eq_bind,Option.pure_def] at h;cases hx:g x with
  |none=>simp[hx] at h
  |some z=>
   cases hl:l.mapM g with
   |none=>simp[hx,hl] at h
   |some iL=>
    simp only[hx,hl,Option.bind_some,Option.some.injEq] at h;subst h;cases i with
    |zero=>simp at ak;subst ak;exact⟨x,by simp,hx⟩
    |succ i=>simp at ak;simpa using ih hl ak
section
variable {P:Program}{L:World}{J:List Nat}{X:Nat->Prop}{B:Nat->Value}{st:ad}{tm:Array Value}{w:World}{D:Oper}
theorem hq{k:IntKind}{n:Int}{v:Value}{av:Nat->Prop}(h:bi w av (.int k n) v):v=.int k n:=by cases h;rfl
theorem iR{b:Bool}{v:Value}{av:Nat->Prop}(h:bi w av (.bool b) v):v=.bool b:=by cases h;rfl
theorem hp{s:al}{v:Value}{av:Nat->Prop}(h:bi w av (.str s) v):∃b:ByteArray,v=.string b/\b.data.toList=s:=by
 cases h with
 |str l s h=>exact⟨s,rfl,h⟩
theorem jx(S:ah L J X B st tm w){C:Ctx}{T:TypeId}{x:Operand}{k:IntKind}{n:Int}(h:aP C st T x=.av (.ai (.d (.int k n)))):Act.eval ⟨tm,[]⟩ x=.int k n:=by
 have:=cT S C T x;rw[h] at this;exact hq this
theorem Ef(S:ah L J X B st tm w){C:Ctx}{T:TypeId}{x:Operand}{b:Bool}(h:aP C st T x=.av (.ai (.d (.bool b)))):Act.eval ⟨tm,[]⟩ x=.bool b:=by
 have:=cT S C T x;rw[h] at this;exact iR this
theorem acZ(S:ah L J X B st tm w){C:Ctx}{T:TypeId}{x:Operand}{s:al}(h:aP C st T x=.av (.ai (.d (.str s)))):∃b:ByteArray,Act.eval ⟨tm,[]⟩ x=.string b/\b.data.toList=s:=by
 have:=cT S C T x;rw[h] at this;exact hp this
theorem WG{C:Ctx}(ay:CtxOk P C){T:TypeId}{bN:List (Nat×Nat)}{n:Nat}{z:List aw}{eq:Bool}(aZ:C.tt T=.struct bN n z eq):(cd.struct bN n z eq).ok P T:=by
 have:=ay.tt T;rwa[aZ] at this
theorem Wo(S:ah L J X B st tm w){C:Ctx}(ay:CtxOk P C){T:TypeId}{x:Operand}{f off IB:Nat}{bN:List (Nat×Nat)}{n:Nat}{z:List aw}{eq:Bool}(aZ:C.tt T=.struct bN n z eq)(au:D.op=.fieldAddr T x f)
  (Y:b6 st D.dst=true) (hf:bN[f]? =some (off,IB)):Holds (BT off (aP C st 0 x)) (cz P L J X st tm w D):=by
 obtain⟨fields,dZ,⟨af3,vJ⟩,_⟩:=WG ay aZ;obtain⟨UZ,h1,h2⟩:=Zr _ af3 hf;have h1':fields[f]? =some UZ:=by simpa using h1
 cases hi:P.info? UZ.type with
 |none=>simp[hi] at h2
 |some i=>
  simp only[hi,Option.map_some,Option.some.injEq,Prod.mk.injEq] at h2;have hsz:i.size≠0:=by rw[h2.2];exact vJ (off,IB) (List.mem_of_getElem? hf)
  have bn:=cT S C 0 x;have run:∀{b p:Nat},Act.eval ⟨tm,[]⟩ x=.pointer (some ⟨b,p,none⟩)->(execOp (Act.eval ⟨tm,[]⟩) D).run P w=.ok (.value (.pointer (some ⟨b,p+off,none⟩))) w:=by
   intro b p hx;unfold execOp;simp only[au,hx,Instr.fieldAt,Instr.sureAddr,Sem.run_bind,run_underlying dZ,Result.andThen_ok,h1',Sem.run_pure,fieldPlace,sizeOf,kG hi,hsz,if_false,h2.1,gh]
  unfold BT;split
  ·rename_i o s p bU;rw[bU] at bn;obtain⟨b,aB,ao⟩:=bn;exact Holds.ok (dv S Y (run aB) ⟨b,rfl,ao⟩)
  ·rename_i cells p bU;rw[bU] at bn;obtain⟨b,q,aB,ao⟩:=bn;refine Holds.ok (dv S Y (run aB) ⟨b,q,by rw[Nat.add_assoc],ao⟩)
  ·rename_i o s t k p bU;rw[bU] at bn;obtain⟨b,aB,ao⟩:=bn;exact Holds.ok (dv S Y (run aB) ⟨b,by rw[Nat.add_assoc],ao⟩)
  ·exact .fail
end
theorem tJ(n:Nat)(l:List Nat):fF n l=true <-> n∈l:=by
 induction l with
 |nil=>simp[fF]
 |cons m l ih=>
  simp only[fF,Bool.or_eq_true,ih,List.mem_cons];constructor
  ·rintro(h|h)
   ·exact .inl (Nat.eq_of_beq_eq_true h)
   ·exact .inr h
  ·rintro(rfl|h)
   ·exact .inl (Nat.beq_refl n)
   ·exact .inr h
theorem oh(l:List Nat):eJ l=true <-> l.Nodup:=by
 induction l with
 |nil=>simp[eJ]
 |cons n l ih=>
  simp only[eJ,Bool.and_eq_true,ih,List.nodup_cons,Bool.not_eq_true'];constructor
  ·rintro⟨h1,h2⟩;exact⟨fun h=>(by rw[(tJ n l).2 h] at h1;cases h1),h2⟩
  ·rintro⟨h1,h2⟩;refine⟨?_,h2⟩;cases h:fF n l with
   |false=>rfl
   |true=>exact absurd ((tJ n l).1 h) h1
theorem kH{sites us:List (Nat×Site)}{o:Nat}(h:o∉keys us):look (aW sites us) o=look sites o:=by
 induction us generalizing sites with
 |nil=>rfl
 |cons p us ih=>
  obtain⟨n,s⟩:=p;simp only[keys,List.mem_cons,not_or] at h;simp only[aW];rw[ih h.2,cn];have:¬n=o:=fun e=>h.1 e.symm
  simp[this]
theorem CJ{aH:Type}{us:List (Nat×aH)}{o:Nat}{s:aH}(h:(o,s)∈us):o∈keys us:=by
 induction us with
 |nil=>simp at h
 |cons p us ih=>
  rcases List.mem_cons.1 h with rfl|h
  ·exact List.mem_cons_self
  ·exact List.mem_cons_of_mem _ (ih h)
theorem ol{aH:Type}{us:List (Nat×aH)}{o:Nat}(h:o∈keys us):∃s,(o,s)∈us:=by
 induction us with
 |nil=>simp[keys] at h
 |cons p us ih=>
  obtain⟨n,s⟩:=p;rcases List.mem_cons.1 h with h|h
  ·exact⟨s,by rw[h];exact List.mem_cons_self⟩
  ·obtain⟨am,ab⟩:=ih h;exact⟨am,List.mem_cons_of_mem _ ab⟩
theorem gd{aH:Type}(a b:List (Nat×aH)):keys (a++b)=keys a++keys b:=by
 induction a with
 |nil=>rfl
 |cons p a ih=>simp[keys,ih]
section
variable {P:Program}{L:World}{J:List Nat}{X:Nat->Prop}{B:Nat->Value}{st:ad}{tm:Array Value}{w:World}{D:Oper}
def cp(B:Nat->Value)(ks:List Nat):List Nat:=ks.flatMap fun o=>bJ (B o)
theorem jU(a b:List Nat):cp B (a++b)=cp B a++cp B b:=by simp[cp]
def eP(sites:List (Nat×Site))(us:List (Nat×Site)):Prop:=∀o am,(o,am)∈us->∃O,look sites o=some O/\O.live=true/\am=.dead O.b1
theorem eP.nil{sites:List (Nat×Site)}:eP sites []:=fun _ _ h=>by simp at h
theorem eP.append{sites us vs:List (Nat×Site)}(h:eP sites us)(ab:eP sites vs):eP sites (us++vs):=by
 intro o s hm;rcases List.mem_append.1 hm with hm|hm
 ·exact h o s hm
 ·exact ab o s hm
theorem XV:∀{us:List (Nat×Site)} {sites:List (Nat×Site)},eP sites us->∀F,(F∉keys us/\look (aW sites us) F=look sites F)\/(F∈keys us/\∃O,look sites F=some O/\O.live=true/\look (aW sites us) F=some (.dead O.b1)):=by
 intro us;induction us with
 |nil=>intro sites _ F;exact .inl ⟨by simp[keys],rfl⟩
 |cons p us ih=>
  obtain⟨o,s⟩:=p;intro sites h F;obtain⟨O,h1,h2,rfl⟩:=h o s List.mem_cons_self;by_cases hm:F∈keys us
  ·obtain⟨am,gH⟩:=ol hm;obtain⟨bI,aB,ao,rfl⟩:=h F am (List.mem_cons_of_mem _ gH);refine .inr ⟨List.mem_cons_of_mem _ hm,bI,aB,ao,?_⟩;have:∀(us:List (Nat×Site)) (sites:List (Nat×Site)),(∀s,(F,s)∈us->s=.dead bI.b1)->F∈keys us->look (aW sites us) F=some (.dead bI.b1):=by
    intro us;induction us with
    |nil=>intro _ _ h;simp[keys] at h
    |cons q us Hn=>
     obtain⟨aO,r⟩:=q;intro sites M ag;simp only[aW];by_cases hU:F∈keys us
     ·exact Hn _ (fun s eT=>M s (List.mem_cons_of_mem _ eT)) hU
     ·rw[kH hU,cn];rcases List.mem_cons.1 ag with rfl|ag
      ·rw[M r List.mem_cons_self];simp
      ·exact absurd ag hU
   simp only[aW];refine this us _ (fun s M=>?_) hm
   obtain⟨s2,g1,g2,g3⟩:=h F s (List.mem_cons_of_mem _ M);rw[aB] at g1;cases g1;exact g3
  ·simp only[aW];rw[kH hm,cn];by_cases e:o=F
   ·subst e;exact .inr ⟨List.mem_cons_self,O,h1,h2,by simp⟩
   ·exact .inl ⟨fun ag=>(List.mem_cons.1 ag).elim (fun h=>e h.symm) hm,by simp[e]⟩
theorem Deep.len{av:Nat->Prop}{ds:List aL}{cs az:List Value}(h:Deep w av ds cs az):cs.length=ds.length:=by
 induction h with
 |nil=>rfl
 |row _ _ _ _ _ _ _ _ ih=>simp[ih]
 |leaf _ _ _ ih=>simp[ih]
theorem Deep.cu{av:Nat->Prop}{ds f':List aL}{cs jk az S8:List Value}(h:Deep w av ds cs az)(ab:Deep w av f' jk S8):Deep w av (ds++f') (cs++jk) (az++S8):=by
 induction h with
 |nil=>exact ab
 |row u ys e U aj h hr _ ih=>exact .row u ys e U aj h hr ih
 |leaf aj h _ ih=>exact .leaf aj h ih
theorem Deep.inv{av:Nat->Prop}:∀{ds f':List aL} {cs az:List Value},Deep w av (ds++f') cs az->∃qs TJ gG Aw,cs=qs++TJ/\az=gG++Aw/\Deep w av ds qs gG/\Deep w av f' TJ Aw:=by
 intro ds;induction ds with
 |nil=>intro f' cs az h;exact⟨[],cs,[],az,rfl,rfl,.nil,h⟩
 |cons d ds ih=>
  intro f' cs az h;cases h with
  |row u ys e U aj h hr k=>
   obtain⟨c1,c2,n1,n2,rfl,rfl,aB,ao⟩:=ih k;exact⟨_::c1,c2,_::n1,n2,rfl,rfl,.row u ys e U aj h hr aB,ao⟩
  |leaf aj h k=>
   obtain⟨c1,c2,n1,n2,rfl,rfl,aB,ao⟩:=ih k;exact⟨_::c1,c2,n1,n2,rfl,rfl,.leaf aj h aB,ao⟩
theorem Deep.map{w':World}{av bS:Nat->Prop}{ds:List aL}{cs az:List Value}(h:Deep w av ds cs az)(go:∀{d v},bi w av d v->bi w' bS d v):
  (∀n,n∈az->∀b,a6 n=some b->w'.heap[b]? =w.heap[b]?)->Deep w' bS ds cs az:=by
 induction h with
 |nil=>intro _;exact .nil
 |row u ys e U aj h hr _ ih=>intro ag;exact .row u ys e U aj (pm h (ag _ List.mem_cons_self)) ⟨hr.1,fun j g1 g2=>go (hr.2 j g1 g2)⟩ (ih fun n hn=>ag n (List.mem_cons_of_mem _ hn))
 |leaf aj h _ ih=>intro ag;exact .leaf aj (go h) (ih ag)
theorem Deep.one{av:Nat->Prop}{ds:List aL}{cs az:List Value}(h:Deep w av ds cs az):∀u∈cs,u.oneCell'=true:=by
 induction h with
 |nil=>intro u hu;cases hu
 |row u ys e U _ h _ _ ih=>
  intro v hv;rcases List.mem_cons.1 hv with rfl|hv
  ·rcases h.2 with⟨h,_⟩|⟨_,_,_,_,h,_⟩<;>rw[h]<;>rfl
  ·exact ih v hv
 |leaf _ h _ ih=>
  intro v hv;rcases List.mem_cons.1 hv with rfl|hv
  ·exact h.h4
  ·exact ih v hv
theorem Yh{o s:Nat}{t:aF}{xs:List (den t)}(h:oI st o s=some ⟨t,xs⟩):rowOf st o s=some ⟨t,xs⟩\/ls st o s=some ⟨t,xs⟩:=by
 unfold oI at h;split at h
 ·rename_i x hx;cases h;exact .inl hx
 ·exact .inr h
theorem ah.any(S:ah L J X B st tm w){o s:Nat}{t:aF}{xs:List (den t)}(h:oI st o s=some ⟨t,xs⟩):
  (∃O,look st.sites o=some O/\O.b1=s)/\((bY (B o)=.slice none 0 0/\xs=[])\/∃b c,bY (B o)=.slice (some ⟨b,0,none⟩) xs.length c):=by
 rcases Yh h with h|h
 ·obtain⟨cs,_,hc⟩:=S.row h;refine⟨by rcases jt h with h|h<;>exact⟨_,h,rfl⟩,hc.imp id fun⟨b,c,h,_⟩=>⟨b,c,h⟩⟩
 ·have hl:=to h;obtain⟨e,v,az,cs,h1,_,h2,_⟩:=S.sites o _ hl;refine⟨⟨_,hl,rfl⟩,?_⟩;rw[h1];show(v=_/\_)\/∃b c,v=_;rcases h2.2 with⟨hv,h0⟩|⟨g,cap,cur,bG,hv,_⟩
  ·exact .inl ⟨hv,List.eq_nil_of_length_eq_zero h0⟩
  ·exact .inr ⟨g,cap,hv⟩
theorem ah.Nw(S:ah L J X B st tm w){o:Nat}(h:bX st.sites o):(bJ (B o)).Nodup:=by
 obtain⟨O,h1,h2⟩:=h;have:=S.sites o O h1;cases O with
 |box s cells=>obtain⟨b,T,cur,g,_⟩:=this;rw[g];simp[bJ,a6]
 |row s t xs=>
  obtain⟨e,cs,g,_⟩:=this;rw[(is g).2];cases a6 (B o)<;>simp
 |map s t es=>obtain⟨b,g,_⟩:=this;rw[g];simp[bJ,a6]
 |deep s t xs=>obtain⟨e,v,az,cs,g1,g2,_⟩:=this;exact g2
 |cR=>cases h2
 |dead=>cases h2
theorem ah.Nv(S:ah L J X B st tm w):∀{ks:List Nat},(∀F,F∈ks->bX st.sites F)->ks.Nodup->(cp B ks).Nodup:=by
 intro ks;induction ks with
 |nil=>intro _ _;simp[cp]
 |cons k ks ih=>
  intro hl hn;obtain⟨n1,n2⟩:=List.nodup_cons.1 hn;unfold cp;rw[List.flatMap_cons];refine List.nodup_append.2 ⟨S.Nw (hl k List.mem_cons_self),ih (fun F h=>hl F (List.mem_cons_of_mem _ h)) n2,fun a a9 b hb e=>?_⟩
  subst e;obtain⟨F,bB,hb⟩:=List.mem_flatMap.1 hb;exact n1 (S.de k F a (hl k List.mem_cons_self) (hl F (List.mem_cons_of_mem _ bB)) a9 hb▸bB)
theorem ah.u3(S:ah L J X B st tm w){o:Nat}{bI:Site}{nv:Value}{w':World}{ks:List (Nat×Site)}{K:List Nat}(o4:eP st.sites ks)(bC:∀F,F∈K <-> F∈keys ks\/F=o/\bX st.sites o)
  (hw:∀b,b<w.heap.size->(∀F,F∈K->b∉bJ (B F))->w'.heap[b]? =w.heap[b]?) (hos:w'.os=w.os) (Fj:w'.tape=w.tape) (uT:w'.output=w.output) (kV:w.heap.size<=w'.heap.size)
  (fD:bI.live=true) (mr:∀O,look st.sites o=some O->O.b1<bI.b1\/(O.b1=bI.b1/\bY nv=bY (B o)))
  (gm:∀b,b∈bJ nv->b<w'.heap.size/\((∃F,F∈K/\b∈bJ (B F))\/w.heap.size<=b))
  (ff:∀{bo:List (Nat×Site)} {aA:Nat->Value},aA o=nv->(∀{a v},b_ B st.sites w (an X B st.sites) a v->b_ aA bo w' (an X aA bo) a v)->
   it aA bo w' (an X aA bo) o bI):
  ah L J X (fun F=>if F=o then nv else B F) {st with sites:=b8 (aW st.sites ks) o bI} tm w':=by
 have oX:=XV o4;have hold:∀F,F∈K->bX st.sites F:=by
  intro F h;rcases(bC F).1 h with h|⟨rfl,h⟩
  ·rcases oX F with⟨ab,_⟩|⟨_,O,h1,h2,_⟩
   ·exact absurd h ab
   ·exact⟨O,h1,h2⟩
  ·exact h
 have cr:∀F,bX (b8 (aW st.sites ks) o bI) F->F=o\/(F≠o/\F∉K/\bX st.sites F):=by
  rintro F ⟨O,h1,h2⟩;rw[cn] at h1;by_cases e:o=F
  ·exact .inl e.symm
  ·simp only[e,if_false] at h1;rcases oX F with⟨aB,ao⟩|⟨aB,s,ao,bu,b'⟩
   ·exact .inr ⟨fun h=>e h.symm,fun h=>((bC F).1 h).elim aB fun h=>e h.1.symm,O,ao▸h1,h2⟩
   ·rw[b'] at h1;cases h1;cases h2
 have uE:∀F b,F∉K->bX st.sites F->b∈bJ (B F)->w'.heap[b]? =w.heap[b]? :=fun F b h1 h2 aa=>hw b (S.dX h2 aa) fun aO vp hb=>h1 (S.de F aO b h2 (hold aO vp) aa hb▸vp)
 refine S.oJ (fun F O bB=>?_) (fun b h hb=>hw b hb fun F bB ab=>h (.inr ⟨F,hold F bB,ab⟩)) (fun b h hb ab=>?_) (fun go F O bB=>?_) (fun F aO b h1 h2 g1 g2=>?_) (fun F b h1 g1=>?_) (fun F b h1 g1=>?_) ?_ kV
 ·rw[cn];by_cases e:o=F
  ·subst e;refine⟨bI,by simp,?_,fun h=>?_⟩
   ·rcases mr O bB with h|⟨h,_⟩<;>omega
   ·rcases mr O bB with ab|⟨_,ab⟩
    ·omega
    ·simpa using ab
  ·have b3:¬F=o:=fun h=>e h.symm
   rcases oX F with⟨aB,ao⟩|⟨aB,s,ao,bu,b'⟩
   ·exact⟨O,by simp[e,ao,bB],Nat.le_refl _,fun _=>by simp[b3]⟩
   ·rw[bB] at ao;cases ao;exact⟨.dead O.b1,by simp[e,b'],Nat.le_refl _,fun _=>by simp[b3]⟩
 ·rcases ab with ab|⟨F,h1,h2⟩
  ·exact h (.inl ab)
  ·rcases cr F h1 with rfl|⟨n1,n2,cW⟩
   ·simp only[if_true] at h2;rcases(gm b h2).2 with⟨aO,aa,aI⟩|aa
    ·exact h (.inr ⟨aO,hold aO aa,aI⟩)
    ·omega
   ·simp only[n1,if_false] at h2;exact h (.inr ⟨F,cW,h2⟩)
 ·rw[cn] at bB;by_cases e:o=F
  ·subst e;simp only[if_true,Option.some.injEq] at bB;subst bB;exact .inr (ff (by simp) go)
  ·have b3:¬F=o:=fun h=>e h.symm
   simp only[e,if_false] at bB;rcases oX F with⟨aB,ao⟩|⟨aB,s,ao,bu,b'⟩
   ·exact .inl ⟨ao▸bB,by simp[b3],fun hl b hb=>uE F b (fun h=>((bC F).1 h).elim aB fun h=>e h.1.symm) ⟨O,ao▸bB,hl⟩ hb⟩
   ·rw[b'] at bB;cases bB;exact .inr trivial
 ·have key:∀F b,F∉K->bX st.sites F->b∈bJ (B F)->b∉bJ nv:=by
   intro F b n2 cW hb hn;rcases(gm b hn).2 with⟨aO,aa,aI⟩|aa
   ·exact n2 (S.de F aO b cW (hold aO aa) hb aI▸aa)
   ·have:=S.dX cW hb;omega
  rcases cr F h1 with rfl|⟨n1,m1,cW⟩<;>rcases cr aO h2 with rfl|⟨n2,m2,ga⟩
  ·rfl
  ·simp only[if_true] at g1;simp only[n2,if_false] at g2;exact absurd g1 (key aO b m2 ga g2)
  ·simp only[if_true] at g2;simp only[n1,if_false] at g1;exact absurd g2 (key F b m1 cW g1)
  ·simp only[n1,if_false] at g1;simp only[n2,if_false] at g2;exact S.de F aO b cW ga g1 g2
 ·rcases cr F h1 with rfl|⟨n1,_,cW⟩
  ·simp only[if_true] at g1;rcases(gm b g1).2 with⟨aO,aa,aI⟩|aa
   ·exact S.b7 aO b (hold aO aa) aI
   ·exact⟨fun hx=>by have:=S.old b hx;have:=S.frame.size;omega,.inr (Nat.le_trans S.frame.size aa)⟩
  ·simp only[n1,if_false] at g1;exact S.b7 F b cW g1
 ·rcases cr F h1 with rfl|⟨n1,_,cW⟩
  ·simp only[if_true] at g1;exact(gm b g1).1
  ·simp only[n1,if_false] at g1;exact Nat.lt_of_lt_of_le (S.dX cW g1) kV
 ·have aR:=S.frame;refine⟨hos.trans aR.os,Fj.trans aR.tape,uT.trans aR.output,Nat.le_trans aR.size kV,fun b h1 h2=>?_⟩
  rw[hw b (Nat.lt_of_lt_of_le h1 aR.size) (fun F bB hb=>?_)]
  ·exact aR.block b h1 h2
  ·rcases(S.b7 F b (hold F bB) hb).2 with h|h
   ·exact h2 h
   ·omega
theorem X4{t:aF}(h:t.gU=false)(x:den t):∀d,d∈enc t x->d.plain=true:=by
 cases t<;>first|(cases h;done)|(intro d Y;simp only[enc,List.mem_cons,List.not_mem_nil,or_false] at Y;(rcases Y with rfl|rfl|rfl|rfl|rfl);all_goals rfl)|skip
 all_goals(intro d Y;simp only[enc,List.mem_cons,List.not_mem_nil,or_false] at Y)
 all_goals first|(subst Y;rfl)|(rcases Y with rfl|rfl<;>rfl)|(rcases Y with rfl|rfl|rfl<;>rfl)|(rcases Y with rfl|rfl|rfl|rfl<;>rfl)
theorem BS{t:aF}(h:t.gU=false){xs:List (den t)}:∀d,d∈flat t xs->d.plain=true:=by
 intro d Y;simp only[flat,List.mem_flatMap] at Y;obtain⟨x,_,hx⟩:=Y;exact X4 h x d hx
theorem CH(S:ah L J X B st tm w):∀{U:List aw} {ds:List aL} {us:List (Nat×Site)} {vs:List Value},sinks st U=some (ds,us)->ck B st.sites w (an X B st.sites) U vs->
  eP st.sites us/\∃az,Deep w (an X B st.sites) ds vs az/\(az.flatMap fun v=>(a6 v).toList)=cp B (keys us):=by
 intro U;induction U with
 |nil=>intro ds us vs h hl;simp only[sinks] at h;cases h;rw[hl.kO];exact⟨.nil,[],.nil,rfl⟩
 |cons l U ih=>
  intro ds us vs h hl;simp only[sinks] at h;split at h
  ·rename_i d u1 f' u2 h1 h2;cases h;obtain⟨v,cq,rfl,hv,hvs⟩:=hl.inv;obtain⟨g2,az,ao,bu⟩:=ih h2 hvs;unfold sink at h1;split at h1
   ·cases h1;exact⟨g2,az,.leaf rfl hv ao,bu⟩
   ·cases h1;exact⟨g2,az,.leaf rfl hv ao,bu⟩
   ·cases h1;exact⟨g2,az,.leaf rfl hv ao,bu⟩
   ·rename_i t;cases h1;have hv:v=.slice none 0 0:=hv;subst hv;exact⟨g2,_::az,.row t [] 0 [] (fun d h=>by simp[flat] at h) (tw w _ _ _) ⟨rfl,fun j h=>by simp[flat] at h⟩ ao,by rw[List.flatMap_cons,bu];rfl⟩
   ·rename_i o s;split at h1
    ·rename_i am t xs fi;cases hb:(am.beq s&&!t.gU) with
     |false=>rw[hb] at h1;cases h1
     |true=>
      rw[hb] at h1;simp only[Bool.and_eq_true,Bool.not_eq_true'] at hb;have:=Nat.eq_of_beq_eq_true hb.1;subst this;cases h1;have aD:look st.sites o=some (.row am t xs):=fi;obtain⟨e,cs,r1,r2⟩:=S.sites o _ aD;have iF:v=B o:=(Ref.at hv.2 aD rfl).trans (is r1).1;subst iF;refine⟨fun F am hm=>?_,B o::az,.row t xs e cs (BS hb.2) r1 ⟨by rw[dQ];exact r1.1,r2⟩ ao,?_⟩
      ·rcases List.mem_cons.1 hm with hm|hm
       ·cases hm;exact⟨_,aD,rfl,rfl⟩
       ·exact g2 F am hm
      ·rw[List.flatMap_cons,bu,<-(is r1).2];rfl
    ·cases h1
   ·cases h1
  ·cases h
theorem Jd{U:List aw}:∀{ds:List aL} {us:List (Nat×Site)},sinks st U=some (ds,us)->gf U=true:=by
 induction U with
 |nil=>intro ds us _;rfl
 |cons l U ih=>
  intro ds us h;simp only[sinks] at h;split at h
  ·rename_i d u1 f' u2 h1 h2;simp only[gf,Bool.and_eq_true];refine⟨?_,ih h2⟩;unfold sink at h1;split at h1<;>first|rfl|cases h1
  ·cases h
theorem YX(S:ah L J X B st tm w):∀{as:List bz} {t:aF} {xs:List (den t)} {us:List (Nat×Site)} {ws:List Value},mn t st as=some (xs,us)->ws.length=as.length->
  (∀j (h:j<as.length) (ab:j<ws.length),fW B st.sites w (an X B st.sites) (as[j]) (ws[j]))->
  xs.length=as.length/\eP st.sites us/\(∃az,Deep w (an X B st.sites) (flat t xs) (ws.flatMap fun v=>v.cells.toList) az/\(az.flatMap fun v=>(a6 v).toList)=cp B (keys us))/\∀v,v∈ws->v.cells.size=ax t:=by
 intro as;induction as with
 |nil=>
  intro t xs us ws h hl _;simp only[mn] at h;cases h;have:ws=[]:=List.eq_nil_of_length_eq_zero hl;subst this;exact⟨rfl,.nil,⟨[],.nil,rfl⟩,fun v hv=>by simp at hv⟩
 |cons a as ih=>
  intro t xs us ws h hl ff;match ws,hl with
  |v::ws,hl=>
  simp only[mn] at h;split at h
  ·rename_i ds u1 lG;split at h
   ·rename_i x hB u2 d_ mA;cases h;have b0:=ff 0 (by simp) (by simp)
    simp only[List.getElem_cons_zero] at b0;have hl1:=b0.cells (Jd lG);obtain⟨g1,gG,d1,aU⟩:=CH S lG hl1;obtain⟨g2,g3,⟨Aw,d2,aJ⟩,eH⟩:=ih mA (by simpa using hl) (fun j h1 h2=>ff (j+1) (by simpa using h1) (by simpa using h2))
    have nK:=nw _ _ _ d_;refine⟨by simp[g2],g1.append g3,⟨gG++Aw,?_,?_⟩,fun u hu=>?_⟩
    ·simp only[flat,List.flatMap_cons];rw[nK];exact d1.cu d2
    ·rw[List.flatMap_append,aU,aJ,gd,jU]
    ·rcases List.mem_cons.1 hu with rfl|hu
     ·have:u.cells.toList.length=ds.length:=d1.len;rw[<-nK,fc] at this;simpa using this
     ·exact eH u hu
   ·cases h
  ·cases h
theorem JP{aH:Type}{us:List (Nat×aH)}{o:Nat}(h:(look us o).isNone=true):o∉keys us:=by
 induction us with
 |nil=>simp[keys]
 |cons p us ih=>
  obtain⟨n,s⟩:=p;simp only[look] at h;cases hb:n.beq o with
  |true=>rw[hb] at h;cases h
  |false=>
   rw[hb] at h;intro hm;rcases List.mem_cons.1 hm with rfl|hm
   ·rw[Nat.beq_refl] at hb;cases hb
   ·exact ih h hm
theorem xc(t:aF){xs:List (den t)}{k:Nat}(ag:k<xs.length)(cU:den t):flat t (xs.set k cU)=flat t (xs.take k)++(enc t cU++flat t (xs.drop (k+1))):=by
 rw[List.set_eq_take_append_cons_drop,if_pos ag,kI];rfl
theorem C4(t:aF){xs:List (den t)}{k:Nat}{x:den t}(hx:xs[k]? =some x):flat t xs=flat t (xs.take k)++(enc t x++flat t (xs.drop (k+1))):=by
 have ag:k<xs.length:=(List.getElem?_eq_some_iff.1 hx).1;have:=xc t ag x;rw[<-this];congr 1
 have kc:xs[k]=x:=(List.getElem?_eq_some_iff.1 hx).2;rw[<-kc,List.set_getElem_self]
theorem ah.YQ(S:ah L J X B st tm w){o s k:Nat}{t:aF}{xs:List (den t)}{x cU:den t}{v:Value}{us:List (Nat×Site)}{vs az:List Value}(hb:look st.sites o=some (.deep s t xs))
  (hv:dj B st.sites w (an X B st.sites) (.ej o s t k 0) v) (hx:xs[k]? =some x) (dN:eP st.sites us) (hn:(keys us).Nodup) (bg:o∉keys us)
  (Y:Deep w (an X B st.sites) (enc t cU) vs az) (fL:(az.flatMap fun v=>(a6 v).toList)=cp B (keys us)):
  ∃b T cur bG nv,v=.pointer (some ⟨b,k*ax t,none⟩)/\w.heap[b]? =some (.cells (List.toArray cur) T bG)/\k3 t.ek T cur.toArray bG/\k*ax t+vs.length<=cur.length/\
   ah L J X (fun F=>if F=o then nv else B F) {st with sites:=b8 (aW st.sites us) o (.deep s t (xs.set k cU))} tm (w.setRow b (a8 cur (k*ax t) vs).toArray):=by
 obtain⟨b,nR,jJ⟩:=hv;obtain⟨n,c,bW⟩:=Ref.at jJ hb rfl;obtain⟨e,v0,h_,cs,h0,dm,cJ,kW⟩:=S.sites o _ hb;have ag:k<xs.length:=(List.getElem?_eq_some_iff.1 hx).1;rw[h0] at bW;replace bW:v0=.slice (some ⟨b,0,none⟩) n c:=bW
 obtain⟨qg,h⟩:=cJ;rcases h with⟨e_,_⟩|⟨g,cap,cur,bG,gp,lZ,hg,hnc,gq,hcs,jK⟩
 ·rw[bW] at e_;cases e_
 ·rw[bW] at gp;cases gp;have lX:(k+1)*ax t<=xs.length*ax t:=Nat.mul_le_mul_right _ ag;have hU:xs.length*ax t<=c*ax t:=Nat.mul_le_mul_right _ hnc;rw[Nat.add_mul,Nat.one_mul] at lX;have kd:vs.length=ax t:=by rw[Y.len,fc]
  have ht:cur.toList.length=c*ax t:=by simpa using hcs
  have iz:k*ax t+vs.length<=cur.toList.length:=by omega
  rw[C4 t hx] at kW;obtain⟨c1,TK,n1,g6,rfl,rfl,d1,d23⟩:=kW.inv;obtain⟨c2,c3,n2,jQ,rfl,rfl,d2,d3⟩:=d23.inv;have cW:c1.length=k*ax t:=by rw[d1.len,dQ,List.length_take,Nat.min_eq_left (Nat.le_of_lt ag)]
  have ga:c2.length=ax t:=by rw[d2.len,fc]
  have fD:bX st.sites o:=⟨_,hb,rfl⟩;have ss:b∈bJ (B o):=by rw[h0];exact im.2 (.inl (by rw[bW];rfl))
  have OO:a6 v0=some b:=by rw[bW];rfl
  have old:∀F,F∈keys us->bX st.sites F:=fun F h=>by
   obtain⟨am,ab⟩:=ol h;obtain⟨O,aB,ao,_⟩:=dN F am ab;exact⟨O,aB,ao⟩
  have an3:∀y,y∈n1++(n2++jQ)->∀a_,a6 y=some a_->a_∈bJ (B o):=fun y ak a_ b9=>by rw[h0];exact im.2 (.inr ⟨y,ak,b9⟩)
  have AA:∀y,y∈az->∀a_,a6 y=some a_->∃F,F∈keys us/\a_∈bJ (B F):=fun y ak a_ b9=>by
   have:a_∈az.flatMap fun v=>(a6 v).toList:=List.mem_flatMap.2 ⟨y,ak,by rw[b9];simp⟩
   rw[fL] at this;exact List.mem_flatMap.1 this
  have zH:bJ (.tuple (v0::(n1++(az++jQ))).toArray)=b::((n1.flatMap fun v=>(a6 v).toList)++(cp B (keys us)++jQ.flatMap fun v=>(a6 v).toList)):=by
   simp[bJ,OO,fL]
  have r3:bJ (B o)=b::((n1.flatMap fun v=>(a6 v).toList)++((n2.flatMap fun v=>(a6 v).toList)++jQ.flatMap fun v=>(a6 v).toList)):=by
   rw[h0];simp[bJ,OO]
  refine⟨b,e,cur.toList,bG,.tuple (v0::(n1++(az++jQ))).toArray,by simpa using nR,by simpa using hg,by simpa using lZ,iz,?_⟩
  refine S.u3 (K:=o::keys us) dN (fun F=>?_) (fun a_ b9 hne=>setRow_other w b a_ _ ?_) rfl rfl rfl (by rw[setRow_size];exact Nat.le_refl _) rfl (fun O M=>?_) (fun a_ b9=>?_) (fun {bo aA} dJ go=>?_)
  ·constructor
   ·intro h;rcases List.mem_cons.1 h with rfl|h
    ·exact .inr ⟨rfl,fD⟩
    ·exact .inl h
   ·rintro(h|⟨rfl,_⟩)
    ·exact List.mem_cons_of_mem _ h
    ·exact List.mem_cons_self
  ·rintro rfl;exact hne o List.mem_cons_self ss
  ·rw[hb] at M;cases M;exact .inr ⟨rfl,by rw[h0];rfl⟩
  ·rw[setRow_size];rw[zH] at b9;have:(∃F,F∈o::keys us/\a_∈bJ (B F)):=by
    simp only[List.mem_cons,List.mem_append] at b9;rcases b9 with rfl|b9|b9|b9
    ·exact⟨o,List.mem_cons_self,ss⟩
    ·exact⟨o,List.mem_cons_self,by rw[r3];simp only[List.mem_cons,List.mem_append];exact .inr (.inl b9)⟩
    ·obtain⟨F,h1,h2⟩:=List.mem_flatMap.1 b9;exact⟨F,List.mem_cons_of_mem _ h1,h2⟩
    ·exact⟨o,List.mem_cons_self,by rw[r3];simp only[List.mem_cons,List.mem_append];exact .inr (.inr (.inr b9))⟩
   refine⟨?_,.inl this⟩;obtain⟨F,h1,h2⟩:=this;rcases List.mem_cons.1 h1 with rfl|h1
   ·exact S.dX fD h2
   ·exact S.dX (old F h1) h2
  ·have kk:=setRow_heap w b cur (a8 cur.toList (k*ax t) vs).toArray e bG hg;have hb1:b∉(n1.flatMap fun v=>(a6 v).toList)++((n2.flatMap fun v=>(a6 v).toList)++jQ.flatMap fun v=>(a6 v).toList):=by
    have:=dm;rw[r3] at this;exact(List.nodup_cons.1 this).1
   have jD:∀y,y∈n1++(az++jQ)->∀a_,a6 y=some a_->(w.setRow b (a8 cur.toList (k*ax t) vs).toArray).heap[a_]? =w.heap[a_]? :=by
    intro y ak a_ b9;refine setRow_other w b a_ _ ?_
    rintro rfl;simp only[List.mem_append] at ak;rcases ak with ak|ak|ak
    ·exact hb1 (List.mem_append.2 (.inl (List.mem_flatMap.2 ⟨y,ak,by rw[b9];simp⟩)))
    ·obtain⟨F,h1,h2⟩:=AA y ak _ b9;exact bg (S.de o F _ fD (old F h1) ss h2▸h1)
    ·exact hb1 (List.mem_append.2 (.inr (List.mem_append.2 (.inr (List.mem_flatMap.2 ⟨y,ak,by rw[b9];simp⟩)))))
   refine⟨e,v0,n1++(az++jQ),c1++(vs++c3),dJ,?_,⟨?_,.inr ⟨b,c,_,bG,?_,?_,kk,?_,gq,?_,?_⟩⟩,?_⟩
   ·rw[dJ,zH];have hu:=S.Nv old hn;rw[r3] at dm;obtain⟨m1,m2⟩:=List.nodup_cons.1 dm;obtain⟨m3,m4,m5⟩:=List.nodup_append.1 m2;obtain⟨UP,wi,aoW⟩:=List.nodup_append.1 m4;have apart:∀a,a∈cp B (keys us)->a∉bJ (B o):=by
     intro a a9 sT;obtain⟨F,h1,h2⟩:=List.mem_flatMap.1 a9;exact bg (S.de o F a fD (old F h1) sT h2▸h1)
    refine List.nodup_cons.2 ⟨fun h=>?_,List.nodup_append.2 ⟨m3,List.nodup_append.2 ⟨hu,wi,fun a a9 a_ b9 e=>?_⟩,fun a a9 a_ b9 e=>?_⟩⟩
    ·simp only[List.mem_append] at h;rcases h with h|h|h
     ·exact m1 (List.mem_append.2 (.inl h))
     ·exact apart _ h ss
     ·exact m1 (List.mem_append.2 (.inr (List.mem_append.2 (.inr h))))
    ·subst e;exact apart a a9 (by rw[r3];simp only[List.mem_cons,List.mem_append];exact .inr (.inr (.inr b9)))
    ·subst e;rcases List.mem_append.1 b9 with b9|b9
     ·exact apart a b9 (by rw[r3];simp only[List.mem_cons,List.mem_append];exact .inr (.inl a9))
     ·exact m5 a a9 a (List.mem_append.2 (.inr b9)) rfl
   ·rw[List.length_set];simp only[List.length_append] at qg ⊢;omega
   ·rw[bW,List.length_set]
   ·refine⟨lZ.1,?_⟩;rcases lZ.2 with h|⟨h,ab⟩
    ·exact .inl h
    ·refine .inr ⟨h,?_⟩;rw[List.size_toArray,me _ _ _ iz];simpa using ab
   ·rw[List.length_set];exact hnc
   ·rw[List.size_toArray,me _ _ _ iz];exact ht
   ·rw[List.length_set,List.toList_toArray,BA _ _ _ _ (by omega) (by rw[ht];omega),jK]
    unfold a8;rw[<-cW,List.take_left' rfl,kd,<-ga,<-List.append_assoc,<-List.append_assoc,<-List.length_append,List.drop_left' rfl]
   ·rw[xc t ag];have ji:∀{d v},bi w (an X B st.sites) d v->bi _ (an X aA bo) d v:=jy go;exact(d1.map ji fun y ak=>jD y (List.mem_append.2 (.inl ak))).cu ((Y.map ji fun y ak=>jD y (List.mem_append.2 (.inr (List.mem_append.2 (.inl ak))))).cu (d3.map ji fun y ak=>jD y (List.mem_append.2 (.inr (List.mem_append.2 (.inr ak))))))
theorem ZJ(t:aF)(x cU:den t):(enc t x).map aL.plain=(enc t cU).map aL.plain:=by cases t<;>rfl
theorem JV{d:aL}(h:d.hR=true):d.plain=true:=by cases d<;>first|rfl|cases h
theorem NS{t:aF}{x:den t}{off:Nat}(h:off<ax t):∃d,(enc t x)[off]? =some d/\enc t x=(enc t x).take off++d::(enc t x).drop (off+1):=by
 have hl:off<(enc t x).length:=by rw[fc];exact h
 refine⟨(enc t x)[off],List.getElem?_eq_getElem hl,?_⟩;rw[List.getElem_cons_drop,List.take_append_drop]
theorem Kc{aH:Type}{l:List aH}{off:Nat}{d:aH}:a8 l off [d]=l.take off++d::l.drop (off+1):=by simp[a8]
theorem V2{aH:Type}{a b c:List aH}{y z:aH}{p:Nat}(h:p=a.length+b.length):a8 (a++((b++y::c))) p [z]=a++(b++z::c):=by
 subst h;unfold a8;rw[<-List.append_assoc,<-List.length_append,List.take_left' rfl];have:(a++b++y::c).drop ((a++b).length+[z].length)=c:=by
  rw[List.drop_append,List.drop_eq_nil_of_le (by simp)]
  simp
 rw[this];simp
theorem ah.Xo(S:ah L J X B st tm w){o s k off:Nat}{t:aF}{xs:List (den t)}{x cU:den t}{v u:Value}{d:aL}(hb:look st.sites o=some (.deep s t xs))
  (hv:dj B st.sites w (an X B st.sites) (.ej o s t k off) v) (hx:xs[k]? =some x) (Y:dec t (a8 (enc t x) off [d])=some cU) (aj:d.hR=true) (au:off<ax t) (hu:bi w (an X B st.sites) d u):
  ∃b T cur bG,v=.pointer (some ⟨b,k*ax t+off,none⟩)/\w.heap[b]? =some (.cells (List.toArray cur) T bG)/\k3 t.ek T cur.toArray bG/\k*ax t+off+1<=cur.length/\
   ah L J X B {st with sites:=b8 st.sites o (.deep s t (xs.set k cU))} tm (w.setRow b (a8 cur (k*ax t+off) [u]).toArray):=by
 obtain⟨b,nR,jJ⟩:=hv;obtain⟨n,c,bW⟩:=Ref.at jJ hb rfl;obtain⟨e,v0,h_,cs,h0,dm,cJ,kW⟩:=S.sites o _ hb;have ag:k<xs.length:=(List.getElem?_eq_some_iff.1 hx).1;rw[h0] at bW;replace bW:v0=.slice (some ⟨b,0,none⟩) n c:=bW
 obtain⟨qg,h⟩:=cJ;rcases h with⟨e_,_⟩|⟨g,cap,cur,bG,gp,lZ,hg,hnc,gq,hcs,jK⟩
 ·rw[bW] at e_;cases e_
 ·rw[bW] at gp;cases gp;have lX:(k+1)*ax t<=xs.length*ax t:=Nat.mul_le_mul_right _ ag;have hU:xs.length*ax t<=c*ax t:=Nat.mul_le_mul_right _ hnc;rw[Nat.add_mul,Nat.one_mul] at lX;have ht:cur.toList.length=c*ax t:=by simpa using hcs
  have iz:k*ax t+off+[u].length<=cur.toList.length:=by simp only[List.length_singleton];omega
  rw[C4 t hx] at kW;obtain⟨c1,TK,n1,g6,rfl,rfl,d1,d23⟩:=kW.inv;obtain⟨c2,c3,n2,jQ,rfl,rfl,d2,d3⟩:=d23.inv;have cW:c1.length=k*ax t:=by rw[d1.len,dQ,List.length_take,Nat.min_eq_left (Nat.le_of_lt ag)]
  have ga:c2.length=ax t:=by rw[d2.len,fc]
  obtain⟨d0,AT,nK⟩:=NS (x:=x) au;have zF:enc t cU=(enc t x).take off++d::(enc t x).drop (off+1):=by rw[nw _ _ _ Y,Kc]
  have nU:d0.plain=true:=by
   have h1:=congrArg (fun l=>l[off]?) (ZJ t x cU)
   simp only[List.getElem?_map,AT,Option.map_some] at h1;have h2:(enc t cU)[off]? =some d:=by
    rw[zF,List.getElem?_append_right (by simp[fc];omega)]
    simp[fc,Nat.min_eq_left (Nat.le_of_lt au)]
   rw[h2] at h1;simp only[Option.map_some,Option.some.injEq] at h1;rw[h1];exact JV aj
  rw[nK] at d2;obtain⟨wv,akL,kw,vi,rfl,rfl,lj,akJ⟩:=d2.inv;have aoX:wv.length=off:=by rw[lj.len,List.length_take,fc];omega
  have fD:bX st.sites o:=⟨_,hb,rfl⟩;have ss:b∈bJ (B o):=by rw[h0];exact im.2 (.inl (by rw[bW];rfl))
  obtain⟨c0,ha,rfl,akH⟩:∃c0 ha,akL=c0::ha/\Deep w (an X B st.sites) ((enc t x).drop (off+1)) ha vi:=by
   cases akJ with
   |row u ys e U nV h hr k'=>cases nU
   |leaf nV h k'=>exact⟨_,_,rfl,k'⟩
  have Fk:(fun F=>if F=o then B o else B F)=B:=by funext F;by_cases e:F=o<;>simp[e]
  have G:=S.u3 (o:=o) (bI:=.deep s t (xs.set k cU)) (nv:=B o) (w':=w.setRow b (a8 cur.toList (k*ax t+off) [u]).toArray) (ks:=[]) (K:=[o]) .nil (fun F=>by simp[keys];intro e;subst e;exact fD)
   (fun a_ b9 hne=>setRow_other w b a_ _ (by rintro rfl;exact hne o (by simp) ss)) rfl rfl rfl (by rw[setRow_size];exact Nat.le_refl _) rfl (fun O M=>by rw[hb] at M;cases M;exact .inr ⟨rfl,rfl⟩)
   (fun a_ b9=>⟨by rw[setRow_size];exact S.dX fD b9,.inl ⟨o,by simp,b9⟩⟩) (fun {bo aA} dJ go=>?_)
  ·rw[Fk] at G;exact⟨b,e,cur.toList,bG,nR,by simpa using hg,by simpa using lZ,by simpa using iz,G⟩
  ·have kk:=setRow_heap w b cur (a8 cur.toList (k*ax t+off) [u]).toArray e bG hg;have hb1:∀y,y∈n1++(kw++vi++jQ)->∀a_,a6 y=some a_->a_≠b:=by
    rintro y ak a_ b9 rfl;have:=dm;rw[h0] at this;simp only[bJ,List.flatMap_cons] at this;rw[bW] at this;exact(List.nodup_append.1 this).2.2 a_ (by simp[a6]) a_ (List.mem_flatMap.2 ⟨y,ak,by rw[b9];simp⟩) rfl
   have jD:∀y,y∈n1++(kw++vi++jQ)->∀a_,a6 y=some a_->(w.setRow b (a8 cur.toList (k*ax t+off) [u]).toArray).heap[a_]? =w.heap[a_]? :=fun y ak a_ b9=>setRow_other w b a_ _ (hb1 y ak a_ b9)
   have ji:∀{d v},bi w (an X B st.sites) d v->bi _ (an X aA bo) d v:=jy go;refine⟨e,v0,n1++(kw++vi++jQ),c1++((wv++u::ha)++c3),dJ.trans h0,by rw[dJ];exact dm,⟨?_,.inr ⟨b,c,_,bG,?_,?_,kk,?_,gq,?_,?_⟩⟩,?_⟩
   ·rw[List.length_set];simp only[List.length_append,List.length_cons] at qg ⊢;omega
   ·rw[bW,List.length_set]
   ·refine⟨lZ.1,?_⟩;rcases lZ.2 with h|⟨h,ab⟩
    ·exact .inl h
    ·refine .inr ⟨h,?_⟩;rw[List.size_toArray,me _ _ _ iz];simpa using ab
   ·rw[List.length_set];exact hnc
   ·rw[List.size_toArray,me _ _ _ iz];exact ht
   ·rw[List.length_set,List.toList_toArray,BA _ _ _ _ (by simp only[List.length_singleton];omega) (by rw[ht];omega),jK]
    simp only[List.append_assoc,List.cons_append];exact V2 (by omega)
   ·rw[xc t ag,zF];exact(d1.map ji fun y ak=>jD y (List.mem_append.2 (.inl ak))).cu ((((lj.map ji fun y ak=>jD y (by simp[ak])).cu (.leaf (JV aj) (ji hu) (akH.map ji fun y ak=>jD y (by simp[ak])))):Deep _ _ _ _ (kw++vi)).cu
     (d3.map ji fun y ak=>jD y (by simp[ak])))
theorem ah.L2(S:ah L J X B st tm w){o:Nat}{t:aF}{xs:List (den t)}{us:List (Nat×Site)}{cs az rest:List Value}{T:TypeId}{cap:Nat}(dN:eP st.sites us)(hn:(keys us).Nodup)(bg:o∉keys us)
  (Y:Deep w (an X B st.sites) (flat t xs) cs az) (fL:(az.flatMap fun v=>(a6 v).toList)=cp B (keys us)) (hcap:cs.length+rest.length=cap*ax t) (hm:cap<=maxLen) (ey:t.ek=true->T=lc):
  ah L J X (fun F=>if F=o then .tuple (.slice (some ⟨w.heap.size,0,none⟩) xs.length cap::az).toArray else B F) {st with sites:=b8 (aW st.sites us) o (.deep (aY st o) t xs)} tm (w.alloc (.cells (cs++rest).toArray T (0,0))):=by
 have hcl:cs.length=xs.length*ax t:=by rw[Y.len,dQ]
 have cY:xs.length<=cap:=by
  have:xs.length*ax t<=cap*ax t:=by omega
  exact Nat.le_of_mul_le_mul_right this (iQ t)
 have old:∀F,F∈keys us->bX st.sites F:=fun F h=>by
  obtain⟨am,ab⟩:=ol h;obtain⟨O,aB,ao,_⟩:=dN F am ab;exact⟨O,aB,ao⟩
 obtain⟨K,bC⟩:∃K:List Nat,∀F,F∈K <-> F∈keys us\/F=o/\bX st.sites o:=by
  by_cases h:bX st.sites o
  ·exact⟨o::keys us,fun F=>by simp[h,or_comm]⟩
  ·exact⟨keys us,fun F=>by simp[h]⟩
 have AA:∀y,y∈az->∀a_,a6 y=some a_->∃F,F∈keys us/\a_∈bJ (B F):=fun y ak a_ b9=>by
  have:a_∈az.flatMap fun v=>(a6 v).toList:=List.mem_flatMap.2 ⟨y,ak,by rw[b9];simp⟩
  rw[fL] at this;exact List.mem_flatMap.1 this
 have zH:bJ (.tuple (.slice (some ⟨w.heap.size,0,none⟩) xs.length cap::az).toArray)=w.heap.size::cp B (keys us):=by
  simp only[bJ,List.flatMap_cons,fL];rfl
 refine S.u3 (K:=K) dN bC (fun b hb _=>RowKit.Below.heap_alloc w _ b hb) rfl rfl rfl (by simp) rfl (fun O M=>.inl (js M)) (fun b hb=>?_) (fun {bo aA} dJ go=>?_)
 ·rcases im.1 hb with hb|⟨n,e_,hb⟩
  ·have hb:w.heap.size=b:=Option.some.inj hb;subst hb;exact⟨by simp,.inr (Nat.le_refl _)⟩
  ·obtain⟨F,h1,h2⟩:=AA n e_ b hb;have:=S.dX (old F h1) h2;exact⟨by simp;omega,.inl ⟨F,(bC F).2 (.inl h1),h2⟩⟩
 ·refine⟨T,_,az,cs,dJ,?_,⟨hcl,.inr ⟨w.heap.size,cap,_,(0,0),rfl,⟨ey,.inl rfl⟩,heap_alloc_new w _,cY,hm,by simp[hcap],by rw[<-hcl];simp⟩⟩,?_⟩
  ·rw[dJ,zH,List.nodup_cons];refine⟨fun h=>?_,S.Nv old hn⟩
   obtain⟨F,h1,h2⟩:=List.mem_flatMap.1 h;have:=S.dX (old F h1) h2;omega
  ·refine Y.map (fun h=>jy go h) fun n e_ b hb=>?_
   obtain⟨F,h1,h2⟩:=AA n e_ b hb;exact RowKit.Below.heap_alloc w _ b (S.dX (old F h1) h2)
theorem Vs(S:ah L J X B st tm w){C:Ctx}(ay:CtxOk P C){T e:TypeId}{t:aF}{bytes len o:Nat}{parts:Array (Nat×Operand)}(aZ:C.tt T=.slice e t bytes)(au:D.op=.buildSlice T len parts)
  (Y:b6 st D.dst=true) (hlen:parts.toList.length=len) (lD:ow 0 parts.toList=true) (um:len*ax t<=1000) {as:List bz} {xs:List (den t)} {us:List (Nat×Site)}
  (has:mC (parts.toList.map fun p=>aP C st e p.2)=some as) (d_:mn t st as=some (xs,us)) (hn:(keys us).Nodup) (bg:o∉keys us):
  cz P L J X st tm w D (bP (.own o (aY st o))) (us++[(o,.deep (aY st o) t xs)]):=by
 obtain⟨dZ,i,z,hi,gC,nW,kj,hzs,ey⟩:=oe ay aZ;obtain⟨vX,ko⟩:=Kq has;let ws:List Value:=parts.toList.map fun p=>Act.eval ⟨tm,[]⟩ p.2
 have vw:ws.length=as.length:=by rw[<-vX];simp[ws]
 have F6:∀j (h:j<as.length) (ab:j<ws.length),fW B st.sites w (an X B st.sites) (as[j]) (ws[j]):=by
  intro j h1 h2;have hj:j<(parts.toList.map fun p=>aP C st e p.2).length:=by rw[vX];exact h1
  have:=ko j hj h1;simp only[List.getElem_map] at this;have bn:=cT S C e (parts.toList[j]'(by simpa using hj)).2
  rw[this] at bn;have aa:b_ B st.sites w (an X B st.sites) (.av (as[j])) (ws[j]):=by simpa[ws] using bn
  exact aa
 obtain⟨vt,dN,⟨az,vT,fL⟩,hcs⟩:=YX S d_ vw F6;have pM:xs.length=len:=by rw[vt,<-vw];simpa[ws] using hlen
 have hcl:(ws.flatMap fun v=>v.cells.toList).length=len*ax t:=by rw[vT.len,dQ,pM]
 have hm:len<=maxLen:=by
  have:len*1<=len*ax t:=Nat.mul_le_mul_left _ (iQ t);unfold maxLen;omega
 have bZ:=S.L2 (o:=o) (rest:=[]) (T:=e) (cap:=len) dN hn bg vT fL (by simp[hcl]) hm ey
 rw[pM,List.append_nil] at bZ;have oA:aW st.sites (us++[(o,.deep (aY st o) t xs)])=b8 (aW st.sites us) o (.deep (aY st o) t xs):=by rw[hZ];rfl
 have cI:=Jf (tm:=tm) (w:=w) ay aZ hlen lD um (ws:=ws) rfl hcs hcl;refine il (us:=us++[(o,.deep (aY st o) t xs)]) (by rw[oA];exact bZ) Y (vv:=.slice (some ⟨w.heap.size,0,none⟩) len len) ?_ ?_
 ·unfold execOp;simp only[au,Sem.run_bind];have Fl:=cI;simp only[Fl,Result.andThen_ok,Sem.run_pure]
 ·rw[oA];refine⟨rfl,Ref.mk (O:=.deep (aY st o) t xs) ?_ rfl (by simp[bY])⟩
  simp only[cn];simp
theorem Vr{av:Nat->Prop}{t:aF}{z:den t}{fN az:List Value}(h:Deep w av (enc t z) fN az)(n:Nat):Deep w av (flat t (List.replicate n z)) ((List.replicate n fN).flatten) ((List.replicate n az).flatten):=by
 induction n with
 |zero=>exact .nil
 |succ n ih=>
  have:=h.cu ih;simpa[List.replicate_succ,flat,List.flatMap_cons] using this
theorem VF(S:ah L J X B st tm w){C:Ctx}(ay:CtxOk P C){T e:TypeId}{t:aF}{bytes o:Nat}{l c:Operand}{kn km:IntKind}{n m:Int}{z:List aw}{ds:List aL}{us:List (Nat×Site)}{ea:den t}(aZ:C.tt T=.slice e t bytes)(au:D.op=.makeSlice T l c)
  (Y:b6 st D.dst=true) (hl:aP C st 0 l=.av (.ai (.d (.int kn n)))) (hc:aP C st 0 c=.av (.ai (.d (.int km m)))) (hz:(C.tt e).zero=some z) (ef:sinks st z=some (ds,us)) (dN:us.isEmpty=true) (d_:dec t ds=some ea):
  ∀r,lP bytes n m ea=some r->cz P L J X st tm w D (bP (.own o (aY st o))) [(o,.deep (aY st o) t r)]:=by
 intro r hr;obtain⟨dZ,i,fl,hi,gC,nW,kj,hzs,ey⟩:=oe ay aZ;obtain⟨v,hv,hzv⟩:=cd.xk (w:=w) (ay.tt e) hz;have Hx:v=fl:=by
  simp[zeroValue,typeInfo,hi,kj] at hv;exact hv.symm
 subst Hx;obtain⟨h1,h2,aa⟩:=qM hzv;have dN:us=[]:=List.isEmpty_iff.1 dN;subst dN;obtain⟨_,az,Tr,vJ⟩:=CH S ef ⟨h1,aa _ _ _ _⟩;rw[<-nw _ _ _ d_] at Tr;have vJ:(az.flatMap fun v=>(a6 v).toList)=[]:=vJ
 unfold lP at hr;split at hr
 ·rename_i hb;obtain⟨aU,aJ,bQ,jq⟩:=hb;cases hr;have e1:Act.eval ⟨tm,[]⟩ l=.int kn n:=by
   have:=cT S C 0 l;rw[hl] at this;have this:bi _ _ (.int kn n) _:=this;generalize Act.eval ⟨tm,[]⟩ l=u at this;cases this;rfl
  have e2:Act.eval ⟨tm,[]⟩ c=.int km m:=by
   have:=cT S C 0 c;rw[hc] at this;have this:bi _ _ (.int km m) _:=this;generalize Act.eval ⟨tm,[]⟩ c=u at this;cases this;rfl
  have uS:=Vr Tr n.toNat;have hlen:((List.replicate n.toNat v.cells.toList).flatten).length=n.toNat*ax t:=by
   rw[uS.len,dQ,List.length_replicate]
  have ul:(List.replicate m.toNat v.cells.toList).flatten=(List.replicate n.toNat v.cells.toList).flatten++(List.replicate (m.toNat-n.toNat) v.cells.toList).flatten:=by
   rw[<-List.flatten_append,List.replicate_append_replicate];congr 2;omega
  have hcap:((List.replicate n.toNat v.cells.toList).flatten).length+((List.replicate (m.toNat-n.toNat) v.cells.toList).flatten).length=m.toNat*ax t:=by
   rw[<-List.length_append,<-ul];simp[hzs]
  have uU:m.toNat<=maxLen:=by omega
  have fL:(((List.replicate n.toNat az).flatten).flatMap fun v=>(a6 v).toList)=cp B (keys ([]:List (Nat×Site))):=by
   have:∀k,(((List.replicate k az).flatten).flatMap fun v=>(a6 v).toList)=[]:=fun k=>by
    induction k with
    |zero=>rfl
    |succ k ih=>rw[List.replicate_succ,List.flatten_cons,List.flatMap_append,vJ,ih];rfl
   exact this _
  have bZ:=S.L2 (o:=o) (T:=e) (us:=[]) .nil List.nodup_nil (by simp[keys]) uS fL hcap uU ey
  rw[List.length_replicate,<-ul] at bZ;refine il (us:=[(o,.deep (aY st o) t (List.replicate n.toNat ea))]) bZ Y (vv:=.slice (some ⟨w.heap.size,0,none⟩) n.toNat m.toNat) ?_ ?_
  ·unfold execOp;simp only[au,e1,e2,Sem.run_bind];have cI:=Ji (C:=C) (w:=w) (kn:=kn) (km:=km) dZ hi gC nW kj hzs aU aJ bQ jq;simp only[cI,Result.andThen_ok,Sem.run_pure]
  ·refine⟨rfl,Ref.mk (O:=.deep (aY st o) t (List.replicate n.toNat ea)) ?_ rfl (by simp[bY])⟩
   simp only[aW,cn];simp
 ·cases hr
theorem Src.acI{u:Bool}{e:TypeId}{size n:Nat}{v:Value}{cs:List Value}(h:rowAt w u e size v n cs)(hone:∀x∈cs,x.oneCell'=true):Src w size v n cs:=by
 refine⟨h.1,hone,?_⟩;rcases h.2 with⟨h1,h2⟩|⟨g,cap,cur,bG,h1,_,hg,_,_,_,jK⟩
 ·exact .inl ⟨h1,h2⟩
 ·refine .inr (.inl ⟨⟨g,0,none⟩,cap,h1,fun j u hu=>?_⟩)
  rw[gh,Nat.zero_add,cell_of_row w g j cur e bG hg];rw[<-jK,List.getElem?_take] at hu;split at hu
  ·simpa using hu
  ·cases hu
theorem MF{v:Value}{b:Nat}(h:v.ownBlock=some b):a6 v=some b:=by
 cases v<;>first|cases h|skip
 rename_i a n c;cases a<;>first|exact h|cases h
theorem ah.Ku(S:ah L J X B st tm w){dst b1:Nat}{t:aF}{xs ys:List (den t)}{ks:List (Nat×Site)}{v0 v':Value}{A0 qs h_ gG:List Value}{w':World}{b3:TypeId}(o4:eP st.sites ks)
  (d0:Deep w (an X B st.sites) (flat t xs) A0 h_) (d1:Deep w (an X B st.sites) (flat t ys) qs gG) (hA:(bJ (.tuple (v0::(h_++gG)).toArray)).Nodup) (z6:∀b,b∈bJ (.tuple (v0::(h_++gG)).toArray)->∃F,F∈keys ks/\b∈bJ (B F))
  (h2:rowAt w' t.ek b3 (ax t) v' (xs.length+ys.length) (A0++qs)) (aa:w.grownBy w' v0.ownBlock) (aI:∀b,a6 v'=some b->b<w'.heap.size/\(a6 v0=some b\/w.heap.size<=b)) (mr:∀O,look st.sites dst=some O->O.b1<b1):
  ah L J X (fun F=>if F=dst then .tuple (v'::(h_++gG)).toArray else B F) {st with sites:=b8 (aW st.sites ks) dst (.deep b1 t (xs++ys))} tm w':=by
 have old:∀F,F∈keys ks->bX st.sites F:=fun F h=>by
  obtain⟨am,ab⟩:=ol h;obtain⟨O,aB,ao,_⟩:=o4 F am ab;exact⟨O,aB,ao⟩
 obtain⟨K,bC⟩:∃K:List Nat,∀F,F∈K <-> F∈keys ks\/F=dst/\bX st.sites dst:=by
  by_cases h:bX st.sites dst
  ·exact⟨dst::keys ks,fun F=>by simp[h,or_comm]⟩
  ·exact⟨keys ks,fun F=>by simp[h]⟩
 have Tc:∀b,a6 v0=some b->b∈bJ (.tuple (v0::(h_++gG)).toArray):=fun b h=>im.2 (.inl h)
 have vo:∀n,n∈h_++gG->∀b,a6 n=some b->b∈bJ (.tuple (v0::(h_++gG)).toArray):=fun n hn b h=>im.2 (.inr ⟨n,hn,h⟩)
 have lt:∀b,b∈bJ (.tuple (v0::(h_++gG)).toArray)->b<w.heap.size:=fun b hb=>by
  obtain⟨F,aB,ao⟩:=z6 b hb;exact S.dX (old F aB) ao
 have Bn:bJ (.tuple (v0::(h_++gG)).toArray)=(a6 v0).toList++(h_++gG).flatMap fun v=>(a6 v).toList:=by simp only[bJ,List.flatMap_cons]
 have amV:bJ (.tuple (v'::(h_++gG)).toArray)=(a6 v').toList++(h_++gG).flatMap fun v=>(a6 v).toList:=by simp only[bJ,List.flatMap_cons]
 rw[Bn] at hA;obtain⟨a1,a2,gQ⟩:=List.nodup_append.1 hA;have jD:∀n,n∈h_++gG->∀b,a6 n=some b->w'.heap[b]? =w.heap[b]? :=fun n hn b hb=>aa.block b (lt b (vo n hn b hb)) fun e=>
  gQ b (by rw[MF e.symm];simp) b (List.mem_flatMap.2 ⟨n,hn,by rw[hb];simp⟩) rfl
 refine S.u3 (K:=K) o4 bC (fun b hb hne=>aa.block b hb fun e=>?_) aa.os aa.tape aa.output aa.size rfl (fun O M=>.inl (mr O M)) (fun b hb=>?_) (fun {bo aA} dJ go=>?_)
 ·obtain⟨F,aB,ao⟩:=z6 b (Tc b (MF e.symm));exact hne F ((bC F).2 (.inl aB)) ao
 ·rcases im.1 hb with hb|⟨n,hn,hb⟩
  ·obtain⟨aB,ao⟩:=aI b hb;refine⟨aB,ao.imp (fun h=>?_) id⟩
   obtain⟨F,aB,ao⟩:=z6 b (Tc b h);exact⟨F,(bC F).2 (.inl aB),ao⟩
  ·have hm:=vo n hn b hb;obtain⟨F,aB,ao⟩:=z6 b hm;exact⟨Nat.lt_of_lt_of_le (lt b hm) aa.size,.inl ⟨F,(bC F).2 (.inl aB),ao⟩⟩
 ·refine⟨b3,v',h_++gG,A0++qs,dJ,?_,by rw[List.length_append];exact h2,?_⟩
  ·rw[dJ,amV];refine List.nodup_append.2 ⟨by cases a6 v'<;>simp,a2,fun b hb c hc e=>?_⟩
   subst e;have hb:=Option.mem_toList.1 hb;rcases(aI b hb).2 with h|h
   ·exact gQ b (by rw[h];simp) b hc rfl
   ·have:=lt b (by rw[Bn];exact List.mem_append.2 (.inr hc))
    omega
  ·have ji:∀{d:aL} {v:Value},bi w (an X B st.sites) d v->bi w' (an X aA bo) d v:=fun h=>jy go h
   rw[kI];exact(d0.map ji fun n hn=>jD n (List.mem_append.2 (.inl hn))).cu (d1.map ji fun n hn=>jD n (List.mem_append.2 (.inr hn)))
theorem Jh{o s dst:Nat}{O:Site}(h:look st.sites o=some O)(M:O.b1=s):aY (st.dn o (.dead s)) dst=aY st dst:=by
 unfold aY;rw[ad.mf];by_cases e:o=dst
 ·subst e;simp only[if_true,ad.O,h,M];rfl
 ·simp only[e,if_false]
theorem Yg(S:ah L J X B st tm w){C:Ctx}(ay:CtxOk P C){T ed:TypeId}{s x:Operand}{e ex:TypeId}{t u:aF}{bytes aJ:Nat}{dst:Nat}(aZ:C.tt T=.slice e t bytes)(ey:C.tt ed=.slice ex u aJ)
  (au:D.op=.call {callee:=.builtin .append,args:=#[s,x],argTypes:=#[T,ed]}) (da:D.dst=some dst) (Y:b6 st D.dst=true):
  Holds (rk bytes t dst st (aP C st T s) (aP C st ed x)) (cz P L J X st tm w D):=by
 have o9:=ay.tt ed;rw[ey] at o9;have uC:(∃ex,P.underlying ed=some (.slice ex))\/P.underlying ed=some .string:=.inl ⟨_,o9.1.1⟩;obtain⟨dZ,i,z,hi,o5,vP,sQ,hzs,Tx⟩:=oe ay aZ;have nJ:=cT S C T s;have oP:=cT S C ed x;have runs:∀{v':Value} {w':World},(Builtin.append_ #[T,ed] D.type #[Act.eval ⟨tm,[]⟩ s,Act.eval ⟨tm,[]⟩ x]).run P w=.ok v' w'->
   (execOp (Act.eval ⟨tm,[]⟩) D).run P w=.ok (.value v') w':=by
  intro v' w' h;unfold execOp;simp only[au,resolve,invoke,builtin,Sem.run_bind,Sem.run_pure,Result.andThen_ok,List.map_toArray,List.map_cons,List.map_nil,h]
 have one:∀{u:Bool} {b3:TypeId} {v':Value} {n m:Nat} {l:List Value} {w':World},rowAt w' u b3 n v' m l->v'.oneCell'=true:=by
  intro u b3 v' n m l w' h;rcases h.2 with⟨rfl,_⟩|⟨g,cap,cur,bG,rfl,_⟩<;>rfl
 unfold rk;split
 ·rename_i F s1 agi;rw[agi] at oP;split
  ·rename_i bj ys afW;split
   ·rename_i g7;subst g7;have sq:=to afW;obtain⟨aoE,R9,uP,Gu,OM,Qp,adB,E7⟩:=S.sites F _ sq;have AC:Act.eval ⟨tm,[]⟩ x=R9:=(Ref.at oP.2 sq rfl:_=bY (B F)).trans (by rw[OM];rfl)
    have hsrc:Src w (ax bj) (Act.eval ⟨tm,[]⟩ x) ys.length Gu:=by rw[AC];exact .acI adB E7.one
    have z9:bJ (B F)=(a6 R9).toList++uP.flatMap fun v=>(a6 v).toList:=by rw[OM];simp only[bJ,List.flatMap_cons]
    rw[z9] at Qp;obtain⟨_,OA,_⟩:=List.nodup_append.1 Qp;have z5:∀d,aY (st.dn F (.dead s1)) d=aY st d:=fun d=>Jh sq rfl
    split
    ·-- Bh nothing
     rename_i t2 bU;rw[bU] at nJ;have oM:Act.eval ⟨tm,[]⟩ s=.slice none 0 0:=nJ;refine Holds.e3 fun r hr=>?_
     have cN:dx bytes [] ys=some r:=hr;unfold dx at cN;split at cN
     ·rename_i hb;cases cN;simp only[List.length_nil,Nat.zero_add,room] at hb;obtain⟨v',w',h1,⟨b3,h2⟩,aa,aI⟩:=tk (P:=P) (u:=bj.ek) w T ed D.type e Tx i z (ax bj) bytes dZ uC hi sQ o5 vP hzs (iQ _) (.slice none 0 0) 0 [] ⟨e,tw w _ e _⟩ _ _ Gu hsrc
       (by rw[Nat.zero_add];exact hb.2) (by rw[Nat.zero_add];exact hb.1)
      have hY:bJ (.tuple (Value.slice none 0 0::([]++uP)).toArray)=uP.flatMap fun v=>(a6 v).toList:=by simp only[bJ,List.flatMap_cons,List.nil_append];rfl
      have bZ:=S.Ku (dst:=dst) (b1:=aY (st.dn F (.dead s1)) dst) (ks:=[(F,.dead s1)]) (xs:=[]) (ys:=ys) (v0:=.slice none 0 0) (h_:=[]) (A0:=[]) (fun aO am hm=>by
       simp only[List.mem_singleton,Prod.mk.injEq] at hm;obtain⟨rfl,rfl⟩:=hm;exact⟨_,sq,rfl,rfl⟩) .nil E7 (by rw[hY];exact OA) (fun b hb=>⟨F,by simp[keys],by rw[hY] at hb;rw[z9];exact List.mem_append.2 (.inr hb)⟩) h2 aa aI (fun O M=>by rw[z5];exact js M)
      refine il (us:=[(F,.dead s1),(dst,.deep (aY (st.dn F (.dead s1)) dst) bj ([]++ys))]) bZ Y (runs (by rw[oM];exact h1)) ?_
      refine⟨one h2,Ref.mk (O:=.deep (aY (st.dn F (.dead s1)) dst) bj ([]++ys)) ?_ rfl (by simp[bY])⟩
      simp only[aW,cn];simp
     ·cases cN
    ·-- Bh a deep row
     rename_i o s2 bU;rw[bU] at nJ;split
     ·rename_i t2 xs afX;split
      ·rename_i g7;subst g7;cases AV:o.beq F with
       |true=>exact .fail
       |false=>
        have hne:o≠F:=fun e=>by subst e;rw[Nat.beq_refl] at AV;cases AV
        simp only[cond_false];refine Holds.e3 fun r hr=>?_
        have cN:dx bytes xs ys=some r:=hr;unfold dx at cN;split at cN
        ·rename_i hb;cases cN;simp only[room] at hb;have uV:=to afX;obtain⟨aoF,sD,FY,agC,ON,Qq,adC,ac2⟩:=S.sites o _ uV;have HD:Act.eval ⟨tm,[]⟩ s=sD:=(Ref.at nJ.2 uV rfl:_=bY (B o)).trans (by rw[ON];rfl)
         have Gr:bJ (B o)=(a6 sD).toList++FY.flatMap fun v=>(a6 v).toList:=by rw[ON];simp only[bJ,List.flatMap_cons]
         rw[Gr] at Qq;obtain⟨v',w',h1,⟨b3,h2⟩,aa,aI⟩:=tk (P:=P) (u:=t2.ek) w T ed D.type e Tx i z (ax t2) bytes dZ uC hi sQ o5 vP hzs (iQ _) sD xs.length agC ⟨_,adC⟩ _ _ Gu hsrc hb.2 hb.1;have hY:bJ (.tuple (sD::(FY++uP)).toArray)=((a6 sD).toList++FY.flatMap fun v=>(a6 v).toList)++uP.flatMap fun v=>(a6 v).toList:=by
          simp only[bJ,List.flatMap_cons,List.flatMap_append,List.append_assoc]
         have afS:aY ((st.dn F (.dead s1)).dn o (.dead s2)) dst=aY st dst:=by
          have:(st.dn F (.dead s1)).O o=some (.deep s2 t2 xs):=by
           rw[ad.mf,if_neg (fun e=>hne e.symm)]
           exact uV
          exact(Jh (st:=st.dn F (.dead s1)) (s:=s2) this rfl).trans (z5 dst)
         have bZ:=S.Ku (dst:=dst) (b1:=aY ((st.dn F (.dead s1)).dn o (.dead s2)) dst) (ks:=[(F,.dead s1),(o,.dead s2)]) (xs:=xs) (ys:=ys) (v0:=sD) (fun aO am hm=>by
          simp only[List.mem_cons,List.not_mem_nil,or_false,Prod.mk.injEq] at hm;rcases hm with⟨rfl,rfl⟩|⟨rfl,rfl⟩
          ·exact⟨_,sq,rfl,rfl⟩
          ·exact⟨_,uV,rfl,rfl⟩) ac2 E7 (by
           rw[hY];refine List.nodup_append.2 ⟨Qq,OA,fun b hb c hc e=>?_⟩
           subst e;exact hne (S.de o F b ⟨_,uV,rfl⟩ ⟨_,sq,rfl⟩ (by rw[Gr];exact hb) (by rw[z9];exact List.mem_append.2 (.inr hc)))) (fun b hb=>by
           rw[hY] at hb;rcases List.mem_append.1 hb with hb|hb
           ·exact⟨o,by simp[keys],by rw[Gr];exact hb⟩
           ·exact⟨F,by simp[keys],by rw[z9];exact List.mem_append.2 (.inr hb)⟩) h2 aa aI (fun O M=>by rw[afS];exact js M)
         refine il (us:=[(F,.dead s1),(o,.dead s2),(dst,.deep (aY ((st.dn F (.dead s1)).dn o (.dead s2)) dst) t2 (xs++ys))]) bZ Y (runs (by rw[HD];exact h1)) ?_
         refine⟨one h2,Ref.mk (O:=.deep (aY ((st.dn F (.dead s1)).dn o (.dead s2)) dst) t2 (xs++ys)) ?_ rfl (by simp[bY])⟩
         simp only[aW,cn];simp
        ·cases cN
      ·exact .fail
     ·exact .fail
    ·exact .fail
   ·exact .fail
  ·exact .fail
 ·exact .fail
end
section
variable {P:Program}{L:World}{J:List Nat}{X:Nat->Prop}{B:Nat->Value}{st:ad}{tm:Array Value}{w:World}{D:Oper}
theorem _i(S:ah L J X B st tm w){C:Ctx}(ay:CtxOk P C){T:TypeId}{a x:Operand}{v:bz}(au:D.op=.store T a x)(Y:b6 st D.dst=true)(ag:(C.tt T).known=true)(hv:lM (aP C st T x)=some v):
  Holds (rm (C.tt T).size st (aP C st T a) v) (cz P L J X st tm w D):=by
 have hn:=CQ ag;have nX:=cT S C T a;have hex:=cT S C T x;rw[pn hv] at hex;have hex:fW B st.sites w (an X B st.sites) v (Act.eval ⟨tm,[]⟩ x):=hex;have run:∀{b p:Nat} {cur:List Value} {fA:TypeId} {u:Bool} {bG:Nat×Nat},Act.eval ⟨tm,[]⟩ a=.pointer (some ⟨b,p,none⟩)->w.heap[b]? =some (.cells cur.toArray fA bG)->k3 u fA cur.toArray bG->(Act.eval ⟨tm,[]⟩ x).cells.toList.length=(C.tt T).size->
   p+(Act.eval ⟨tm,[]⟩ x).cells.toList.length<=cur.length->(∀u∈(Act.eval ⟨tm,[]⟩ x).cells.toList,u.oneCell'=true)->
   (execOp (Act.eval ⟨tm,[]⟩) D).run P w=.ok .skip (w.setRow b (a8 cur p (Act.eval ⟨tm,[]⟩ x).cells.toList).toArray):=by
  intro b p cur fA u bG h1 h2 hz aa aI bD;unfold execOp;simp only[au,h1,Instr.storeAt,Instr.sureAddr,Sem.run_bind,Sem.run_pure,Result.andThen_ok,Jc (ay.tt T) hn h2 hz aa aI bD]
 unfold rm;cases hlen:v.cells.length.beq (C.tt T).size with
 |false=>simp only[cond_false];exact .fail
 |true=>
  have pL:=Nat.eq_of_beq_eq_true hlen;simp only[cond_true];split
  ·rename_i o s off bU;rw[bU] at nX;split
   ·rename_i cells hb;cases hc:(Nat.ble (off+(C.tt T).size) cells.length&&gf v.cells) with
    |false=>simp only[cond_false];exact .fail
    |true=>
     simp only[cond_true];simp only[Bool.and_eq_true] at hc;have cY:=Nat.le_of_ble_eq_true hc.1;have hl:=hex.cells hc.2;obtain⟨b,fA,cur,h1,h2,aa,bZ⟩:=S._k (gw hb) nX hl (by rw[pL];exact cY) (hl.h4 hc.2) hc.2
     exact Holds.e8 (qN (us:=[(o,.box s (a8 cells off v.cells))]) bZ Y (run (u:=false) h1 h2 ⟨(fun h=>by cases h),.inl rfl⟩ (by rw[hl.1];exact pL) aa (hl.h4 hc.2)))
   ·exact .fail
  ·rename_i o s u k off bU;rw[bU] at nX;split
   ·rename_i am t xs fi;have ny:look st.sites o=some (.row am t xs):=fi;cases hc:(am.beq s&&Nat.ble (off+(C.tt T).size) (ax t)&&decide (t=u)) with
    |false=>simp only[cond_false];exact .fail
    |true=>
     simp only[cond_true];simp only[Bool.and_eq_true,decide_eq_true_eq] at hc;obtain⟨⟨nY,kl⟩,rfl⟩:=hc;have:=Nat.eq_of_beq_eq_true nY;subst this;have cY:=Nat.le_of_ble_eq_true kl;split
     ·rename_i ds us ef;cases hT:(look us o).isNone with
      |false=>simp only[cond_false];exact .fail
      |true=>
       simp only[cond_true];refine Holds.e3 fun cU kc=>?_
       have iZ:((xs[k]?).bind fun x=>dec t (a8 (enc t x) off ds))=some cU:=kc
       cases lR:xs[k]? with
       |none=>rw[lR] at iZ;cases iZ
       |some pf=>
        rw[lR] at iZ;have d_:dec t (a8 (enc t pf) off ds)=some cU:=iZ;have hD:=Eh ef;have aR:kF L J X B st tm w us:=⟨S,hD⟩;have c9:gf v.cells=true:=by
         clear hlen pL kc iZ d_ hT hD aR;revert ef
         generalize v.cells=U;intro ef;induction U generalizing ds us with
         |nil=>rfl
         |cons l U ih=>
          simp only[g4] at ef;split at ef
          ·rename_i d UL f' n6 h1 h2;simp only[gf,Bool.and_eq_true];refine⟨?_,ih _ _ h2⟩;unfold jj at h1;split at h1<;>first|rfl|cases h1
          ·cases ef
        have hl:=hex.cells c9;have hr:=yE ef hl aR (fun p aj=>aj)
        have hdl:ds.length=(C.tt T).size:=by
         have:=hr.1;rw[hl.1] at this;omega
        have Gb:look (aW st.sites us) o=some (.row am t xs):=by
         rcases ll hD o with h|⟨s2,t2,aol,h,ab⟩
         ·rw[h];exact ny
         ·exfalso
          have:∀(us:List (Nat×Site)) (sites:List (Nat×Site)),look us o=none->look (aW sites us) o=look sites o:=by
           intro us;induction us with
           |nil=>intro sites _;rfl
           |cons p us ih=>
            obtain⟨F,O⟩:=p;intro sites zE;simp only[look] at zE;cases hb:F.beq o with
            |true=>simp[hb] at zE
            |false=>
             simp only[hb,cond_false] at zE;simp only[aW];rw[ih _ zE,cn,if_neg];rintro rfl;simp at hb
          have aa:=this us st.sites (by simpa using hT)
          rw[ab,ny] at aa;cases aa
        have agj:=aR.go (a:=.av (.ai (.ej o am t k off))) nX;obtain⟨b,fA,cur,bG,h1,h2,hz,aa,bZ⟩:=aR.new._j Gb agj lR (nw _ _ _ d_) hr (by rw[hdl];exact cY) (hl.h4 c9)
        refine qN (aA:=B) (us:=us++[(o,.row am t (xs.set k cU))]) ?_ Y (run h1 h2 hz (by rw[hl.1];exact pL) aa (hl.h4 c9))
        rw[hZ];exact bZ
     ·exact .fail
   ·rename_i am t xs fi;have ny:look st.sites o=some (.deep am t xs):=fi;cases hc:(am.beq s&&decide (t=u)) with
    |false=>simp only[cond_false];exact .fail
    |true=>
    simp only[cond_true];simp only[Bool.and_eq_true,decide_eq_true_eq] at hc;obtain⟨nY,rfl⟩:=hc;have:=Nat.eq_of_beq_eq_true nY;subst this;cases hc:(off.beq 0&&(C.tt T).size.beq (ax t)) with
    |false=>
     simp only[cond_false];split
     ·rename_i d ms;cases aD:(d.hR&&Nat.blt off (ax t)) with
      |false=>simp only[cond_false];exact .fail
      |true=>
       simp only[cond_true];simp only[Bool.and_eq_true] at aD;have ajK:off<ax t:=Nat.le_of_ble_eq_true aD.2;refine Holds.e3 fun cU kc=>?_
       have iZ:((xs[k]?).bind fun x=>dec t (a8 (enc t x) off [d]))=some cU:=kc
       cases lR:xs[k]? with
       |none=>rw[lR] at iZ;cases iZ
       |some pf=>
        rw[lR] at iZ;have d_:dec t (a8 (enc t pf) off [d])=some cU:=iZ;have hl:=hex.cells (by rw[ms];rfl)
        rw[ms] at hl;obtain⟨iK,r0,hu,sJ,vA⟩:=hl.inv;have iH:r0=[]:=vA.kO;subst iH;obtain⟨b,fA,cur,bG,h1,h2,hz,aa,bZ⟩:=S.Xo ny nX lR d_ aD.1 ajK sJ;have HK:(C.tt T).size=1:=by rw[<-pL,ms];rfl
        have cI:=run h1 h2 hz (by rw[hu,HK];rfl) (by rw[hu];exact aa) (by rw[hu];intro v hv;rw[List.mem_singleton.1 hv];exact bi.h4 sJ)
        rw[hu] at cI;refine qN (aA:=B) (us:=[(o,.deep am t (xs.set k cU))]) ?_ Y cI;exact bZ
     ·exact .fail
    |true=>
     simp only[cond_true];simp only[Bool.and_eq_true] at hc;obtain⟨o7,kl⟩:=hc;have:=Nat.eq_of_beq_eq_true o7;subst this;split
     ·rename_i ds us ef;cases hT:((look us o).isNone&&eJ (keys us)) with
      |false=>simp only[cond_false];exact .fail
      |true=>
       simp only[cond_true];rw[Bool.and_eq_true] at hT;refine Holds.e3 fun cU kc=>?_
       have iZ:((xs[k]?).bind fun _=>dec t ds)=some cU:=kc
       cases lR:xs[k]? with
       |none=>rw[lR] at iZ;cases iZ
       |some pf=>
        rw[lR] at iZ;have d_:dec t ds=some cU:=iZ;have hl:=hex.cells (Jd ef);obtain⟨g1,az,g2,g3⟩:=CH S ef hl;rw[<-nw _ _ _ d_] at g2;obtain⟨b,fA,cur,bG,nv,h1,h2,hz,aa,bZ⟩:=S.YQ ny nX lR g1 ((oh _).1 hT.2) (JP hT.1) g2 g3;refine qN (aA:=fun F=>if F=o then nv else B F) (us:=us++[(o,.deep am t (xs.set k cU))]) ?_ Y (run h1 h2 hz (by rw[hl.1];exact pL) aa g2.one)
        rw[hZ];exact bZ
     ·exact .fail
   ·exact .fail
  ·exact .fail
theorem Wl(S:ah L J X B st tm w){C:Ctx}(ay:CtxOk P C){T e:TypeId}{t:aF}{bytes:Nat}{x i:Operand}{k:IntKind}{n:Int}(aZ:C.tt T=.slice e t bytes)(hi:aP C st 0 i=.av (.ai (.d (.int k n))))(au:D.op=.indexAddr T x i)
  (Y:b6 st D.dst=true):
  Holds (qO t st (aP C st T x) n) (cz P L J X st tm w D):=by
 obtain⟨dZ,inf,z,j8,gC,nW,kj,hzs,_⟩:=oe ay aZ;have uY:=jx S hi;have bn:=cT S C T x;have run:∀{a:Addr} {len cap:Nat},Act.eval ⟨tm,[]⟩ x=.slice (some a) len cap->0<=n->n<len->(execOp (Act.eval ⟨tm,[]⟩) D).run P w=.ok (.value (.pointer (some (a.add (n.toNat*ax t))))) w:=by
  intro a len cap hx h0 h1;unfold execOp;simp[au,hx,uY,Instr.indexAt,asIntOf,run_underlying dZ,h0,h1,sizeOf,kG j8,gC]
 unfold qO;split
 ·rename_i u xs bU;split;case isFalse=>exact .fail
  rename_i nS;subst nS;rw[bU] at bn;have bn:bi w (an X B st.sites) (.sl u xs) (Act.eval ⟨tm,[]⟩ x):=bn;refine Holds.d' fun y ak=>?_
  have dM:bk xs n=some y:=ak;unfold bk at dM;split at dM
  ·rename_i h0;have a3:n.toNat<xs.length:=by
    rcases Nat.lt_or_ge n.toNat xs.length with h|h
    ·exact h
    ·rw[List.getElem?_eq_none h] at dM;cases dM
   generalize hx:Act.eval ⟨tm,[]⟩ x=v at bn;cases bn with
   |nil=>simp at a3
   |sl _ _ a cap cs m hm hcap hb hl hc hr=>
    subst hm;have hne:xs≠[]:=by rintro rfl;simp at a3
    have cJ:ch w (an X B st.sites) (flat u xs) cs:=⟨hl,hr⟩;have lT:a.spot=none:=by
     have nI:0<cs.length:=by rw[hl,dQ];exact Nat.mul_pos (List.length_pos_iff.mpr hne) (iQ u)
     have h1:=hc 0 cs[0] (List.getElem?_eq_getElem nI);have h2:a.add 0=a:=by unfold Addr.add;simp
     rw[h2] at h1;unfold World.cell? at h1;split at h1
     ·cases M:a.spot with
      |none=>rfl
      |some _=>simp[M] at h1
     ·cases h1
    obtain⟨oa,Bp,akO⟩:=a;simp only at lT;subst lT;have hcs:ho w oa Bp cs:=fun j v hv=>by have:=hc j v hv;rwa[gh] at this
    refine dv S Y (run hx h0 (by omega)) ?_
    rw[gh];have fZ:=ts u xs n.toNat y dM;have ad1:=(hcs.drop (n.toNat*ax u)).take (ax u);have kh:=((gV (B:=B) (sites:=st.sites) hl hr).drop (n.toNat*ax u)).take (ax u);have e2:((cC (flat u xs)).drop (n.toNat*ax u)).take (ax u)=cC (enc u y):=by
     rw[<-fZ];simp[cC,List.map_drop,List.map_take]
    rw[e2] at kh;have dF:=io kh;have i':oa<w.heap.size:=by
     have nI:0<cs.length:=by rw[hl,dQ];exact Nat.mul_pos (List.length_pos_iff.mpr hne) (iQ u)
     exact World.block_lt_of_cell? w _ (hcs 0 cs[0] (List.getElem?_eq_getElem nI))
    exact⟨oa,Bp+n.toNat*ax u,by rw[Nat.add_zero],hb hne,i',_,dF.1,ad1,dF.2⟩
  ·cases dM
 ·rename_i o s bU;rw[bU] at bn;split
  ·rename_i u xs cJ;split;case isFalse=>exact .fail
   rename_i nS;subst nS;refine Holds.d' fun y ak=>?_
   have dM:e9 xs.length n=some y:=ak;unfold e9 at dM;split at dM
   ·rename_i hb;cases dM;obtain⟨⟨O,fZ,jL⟩,iX⟩:=S.any cJ;have hv:Act.eval ⟨tm,[]⟩ x=bY (B o):=Ref.at bn.2 fZ jL;rcases iX with⟨hn,AD⟩|⟨b,c,bW⟩
    ·subst AD;simp at hb;omega
    ·refine dv S Y (run (by rw[hv];exact bW) hb.1 hb.2) ?_
     rw[gh,Nat.zero_add];exact⟨b,by rw[Nat.add_zero],Ref.mk fZ jL ⟨_,_,bW⟩⟩
   ·cases dM
  ·exact .fail
 ·exact .fail
end
section
variable {P:Program}{L:World}{J:List Nat}{X:Nat->Prop}{B:Nat->Value}{st:ad}{tm:Array Value}{w:World}{D:Oper}
theorem Mb(S:ah L J X B st tm w){C:Ctx}{cG:Option Operand}{k1 l:Int}(h:h6 k1 (cG.map (aP C st 0))=some l):
  (cG=none/\l=k1)\/∃x k,cG=some x/\Act.eval ⟨tm,[]⟩ x=.int k l:=by
 cases cG with
 |none=>simp only[Option.map_none,h6,Option.some.injEq] at h;exact .inl ⟨rfl,h.symm⟩
 |some x=>
  simp only[Option.map_some] at h;generalize hx:aP C st 0 x=v at h;unfold h6 at h;split at h
  ·rename_i bU;cases bU
  ·rename_i k n bU;cases h;cases bU;exact .inr ⟨x,k,rfl,jx S hx⟩
  ·cases h
theorem Cq(t:aF)(xs:List (den t))(n:Nat):flat t (xs.take n)=(flat t xs).take (n*ax t):=by
 rcases Nat.lt_or_ge xs.length n with h|h
 ·rw[List.take_of_length_le (Nat.le_of_lt h),List.take_of_length_le (by rw[dQ];exact Nat.mul_le_mul_right _ (Nat.le_of_lt h))]
 ·have:=kI t (xs.take n) (xs.drop n);rw[List.take_append_drop] at this;rw[this,List.take_left' (by rw[dQ,List.length_take,Nat.min_eq_left h])]
theorem Lb(t:aF)(xs:List (den t))(n:Nat):flat t (xs.drop n)=(flat t xs).drop (n*ax t):=by
 rcases Nat.lt_or_ge xs.length n with h|h
 ·rw[List.drop_eq_nil_of_le (Nat.le_of_lt h),List.drop_eq_nil_of_le (by rw[dQ];exact Nat.mul_le_mul_right _ (Nat.le_of_lt h))]
  rfl
 ·have:=kI t (xs.take n) (xs.drop n);rw[List.take_append_drop] at this;rw[this,List.drop_left' (by rw[dQ,List.length_take,Nat.min_eq_left h])]
theorem BL{P:Program}{w:World}(isSlice:Bool)(len cap:Nat)(cG hi:Option Value)(l h:Int)(fM:(cG=none/\l=0)\/∃k,cG=some (.int k l))(iI:(hi=none/\h=len)\/∃k,hi=some (.int k h))
  (h0:0<=l) (h1:l<=h) (h2:h<=len) (hc:len<=cap):(Instr.sliceBounds isSlice len cap cG hi none).run P w=.ok (l.toNat,h.toNat,cap) w:=by
 have bR:0<=h:=by omega
 have To:h<=cap:=by omega
 have ajz:((h.toNat:Nat):Int)=h:=Int.toNat_of_nonneg bR;rcases fM with⟨rfl,rfl⟩|⟨k,rfl⟩<;>rcases iI with⟨rfl,rfl⟩|⟨k',rfl⟩
 ·simp[Instr.sliceBounds]
 ·simp[Instr.sliceBounds,Instr.sliceBound,asIntOf,bR,To]
 ·simp[Instr.sliceBounds,Instr.sliceBound,asIntOf,h0,h1]
 ·simp[Instr.sliceBounds,Instr.sliceBound,asIntOf,bR,To,h0,ajz,h1]
theorem _h(s:ByteArray)(l h:Nat)(h2:h<=s.size):(s.extract l h).data.toList=(s.data.toList.take h).drop l:=by
 rw[ByteArray.data_extract,Array.toList_extract];simp[List.extract_eq_take_drop,List.drop_take]
theorem Nf{w:World}{av:Nat->Prop}{t:aF}{xs:List (den t)}{b D:Nat}{cs:List Value}(hb:xs≠[]->¬av b)(hr:ch w av (flat t xs) cs)(hc:ho w b D cs)(l h:Nat)(h1:l<=h)(h2:h<=xs.length)(a:Addr)(fp:Nat)(Tu:h-l<=fp)
  (a9:a=⟨b,D+l*ax t,none⟩\/l=h) (Tv:a.block=b):bi w av (.sl t ((xs.take h).drop l)) (.slice (some a) (h-l) fp):=by
 have hlen:((xs.take h).drop l).length=h-l:=by simp;omega
 by_cases Tj:l=h
 ·subst Tj;have:(xs.take l).drop l=[]:=List.eq_nil_of_length_eq_zero (by rw[hlen];omega)
  rw[this];exact .sl t [] a fp [] _ (by simp) Tu (fun hx=>absurd rfl hx) rfl (fun j u hu=>by simp at hu) (fun j h=>by simp[flat] at h)
 ·rcases a9 with a9|a9
  ·subst a9;have hf:flat t ((xs.take h).drop l)=((flat t xs).take (h*ax t)).drop (l*ax t):=by
    rw[Lb,Cq]
   have kh:=((gV (B:=fun _=>undef) (sites:=[]) hr.1 hr.2).take (h*ax t)).drop (l*ax t)
   have e2:((cC (flat t xs)).take (h*ax t)).drop (l*ax t)=cC (flat t ((xs.take h).drop l)):=by
    rw[hf];simp[cC,List.map_drop,List.map_take]
   rw[e2] at kh;have cN:=io kh;refine .sl t _ _ fp _ _ hlen.symm Tu (fun hx=>hb ?_) cN.1 (fun j u hu=>?_) cN.2
   ·rintro rfl;simp at hx
   ·rw[gh];exact((hc.take (h*ax t)).drop (l*ax t)) j u hu
  ·exact absurd a9 Tj
theorem DG{w:World}{av:Nat->Prop}{t:aF}{xs:List (den t)}{a:Addr}{cs:List Value}(hb:xs≠[]->¬av a.block)(hr:ch w av (flat t xs) cs)(hc:∀j u,cs[j]? =some u->w.cell? (a.add j)=some u)
  (l h cap:Nat) (h1:l<=h) (h2:h<=xs.length) (hcap:xs.length<=cap):
  bi w av (.sl t ((xs.take h).drop l)) (.slice (if cap=l then some a else(some a).map (·.add (l*ax t))) (h-l) (cap-l)):=by
 by_cases hx:xs=[]
 ·subst hx;have:h=0:=by simpa using h2
  subst this;have oZ:l=0:=by omega
  subst oZ;have:((if cap=0 then some a else(some a).map (·.add (0*ax t))):Option Addr)=some a:=by
   split
   ·rfl
   ·simp[Addr.add]
  rw[this];exact .sl t [] a (cap-0) [] 0 rfl (by omega) (fun hx=>absurd rfl hx) rfl (fun j u hu=>by simp at hu) (fun j h=>by simp[flat] at h)
 ·have lT:a.spot=none:=by
   have nI:0<cs.length:=by rw[hr.1,dQ];exact Nat.mul_pos (List.length_pos_iff.mpr hx) (iQ t)
   have h1:=hc 0 cs[0] (List.getElem?_eq_getElem nI);have h2:a.add 0=a:=by unfold Addr.add;simp
   rw[h2] at h1;unfold World.cell? at h1;split at h1
   ·cases M:a.spot with
    |none=>rfl
    |some _=>simp[M] at h1
   ·cases h1
  obtain⟨oa,Bp,akO⟩:=a;simp only at lT;subst lT;have hcs:ho w oa Bp cs:=fun j v hv=>by have:=hc j v hv;rwa[gh] at this
  split
  ·rename_i e;exact Nf hb hr hcs l h h1 h2 _ _ (by omega) (.inr (by omega)) rfl
  ·simp only[Option.map_some,gh];exact Nf hb hr hcs l h h1 h2 _ _ (by omega) (.inl rfl) rfl
theorem KM{v:aK}{us jc:List (Nat×Site)}(e:aW st.sites us=aW st.sites jc)(h:cz P L J X st tm w D v us):cz P L J X st tm w D v jc:=by
 have:st.cu D.dst v jc=st.cu D.dst v us:=by cases D.dst<;>simp only[ad.cu,ad.tO,e]
 intro K Q bC;rw[this] at bC;exact h K Q bC
theorem _o(S:ah L J X B st tm w){C:Ctx}(ay:CtxOk P C){T:TypeId}{x:Operand}{cG hi:Option Operand}(au:D.op=.slice T x cG hi none)(Y:b6 st D.dst=true):
  Holds (rr (C.tt T) st (aP C st T x) (cG.map (aP C st 0)) (hi.map (aP C st 0))) (cz P L J X st tm w D):=by
 have bn:=cT S C T x;have pW:∀{cG:Option Operand} {k1 l:Int},h6 k1 (cG.map (aP C st 0))=some l->(cG.map (Act.eval ⟨tm,[]⟩)=none/\l=k1)\/∃k,cG.map (Act.eval ⟨tm,[]⟩)=some (.int k l):=by
  intro cG k1 l h;rcases Mb S h with⟨rfl,ab⟩|⟨x,k,rfl,ab⟩
  ·exact .inl ⟨rfl,ab⟩
  ·exact .inr ⟨k,by simp[ab]⟩
 have runs:∀{vv:Value},(Instr.sliceAt T (Act.eval ⟨tm,[]⟩ x) (cG.map (Act.eval ⟨tm,[]⟩)) (hi.map (Act.eval ⟨tm,[]⟩)) none).run P w=.ok vv w->(execOp (Act.eval ⟨tm,[]⟩) D).run P w=.ok (.value vv) w:=by
  intro vv h;unfold execOp;simp only[au,Option.map_none,Sem.run_bind,h,Result.andThen_ok,Sem.run_pure]
 have uv:∀{e:TypeId} {t:aF} {bytes:Nat} {a:Option Addr} {len cap:Nat} {l h:Int},C.tt T=.slice e t bytes->Act.eval ⟨tm,[]⟩ x=.slice a len cap->h6 0 (cG.map (aP C st 0))=some l->h6 len (hi.map (aP C st 0))=some h->
   0<=l->l<=h->h<=len->len<=cap->(execOp (Act.eval ⟨tm,[]⟩) D).run P w=.ok (.value (.slice (if cap=l.toNat then a else a.map (·.add (l.toNat*ax t))) (h.toNat-l.toNat) (cap-l.toNat))) w:=by
  intro e t bytes a len cap l h aZ hx fM iI h0 h1 h2 hc;obtain⟨dZ,inf,z,j8,gC,_⟩:=oe ay aZ;refine runs ?_
  have hb:=BL (P:=P) (w:=w) true len cap (cG.map (Act.eval ⟨tm,[]⟩)) (hi.map (Act.eval ⟨tm,[]⟩)) l h (pW fM) (pW iI) h0 h1 h2 hc;simp only[Instr.sliceAt,Instr.slice,Sem.run_bind,run_underlying dZ,Result.andThen_ok,hx,hb,sizeOf,kG j8,gC,Sem.run_pure]
 unfold rr;split
 ·rename_i s bU;rw[bU] at bn;obtain⟨b,hx,M⟩:=hp bn;split
  ·rename_i l h aZ fM iI;have bM:=ay.tt T;rw[aZ] at bM;refine Holds.d' fun r hr=>?_
   have cN:dw s l h=some r:=hr;unfold dw at cN;split at cN
   ·rename_i hb;obtain⟨h0,h1,h2⟩:=hb;cases cN;have hsz:s.length=b.size:=by rw[<-M];rfl
    rw[hsz] at h2 iI;refine dv S Y (vv:=.string (b.extract l.toNat h.toNat)) (runs ?_) (.str _ _ ?_)
    ·have hb:=BL (P:=P) (w:=w) false b.size b.size (cG.map (Act.eval ⟨tm,[]⟩)) (hi.map (Act.eval ⟨tm,[]⟩)) l h (pW fM) (pW iI) h0 h1 h2 (Nat.le_refl _);simp[Instr.sliceAt,Instr.slice,run_underlying bM.1,hx,hb]
    ·rw[_h b _ _ (by omega),M]
   ·cases cN
  ·exact .fail
 ·rename_i t xs bU;rw[bU] at bn;have bn:bi w (an X B st.sites) (.sl t xs) (Act.eval ⟨tm,[]⟩ x):=bn;split
  ·rename_i e u bytes l h aZ fM iI;split;case isFalse=>exact .fail
   rename_i nS;subst nS;refine Holds.d' fun r hr=>?_
   have cN:dw xs l h=some r:=hr;unfold dw at cN;split at cN
   ·rename_i hb;obtain⟨h0,h1,h2⟩:=hb;cases cN;generalize hx:Act.eval ⟨tm,[]⟩ x=v at bn;cases bn with
    |nil=>
     have bR:h=0:=by simp at h2;omega
     have hl:l=0:=by omega
     subst bR hl;refine dv S Y (uv aZ hx fM iI h0 h1 h2 (Nat.le_refl _)) ?_
     simp only[List.take_nil,List.drop_nil];exact bi.nil t
    |sl _ _ a cap cs m hm hcap hb hl hc hr=>
     subst hm;refine dv S Y (uv aZ hx fM iI h0 h1 h2 hcap) ?_
     exact DG hb ⟨hl,hr⟩ hc l.toNat h.toNat cap (by omega) (by omega) hcap
   ·cases cN
  ·exact .fail
 ·rename_i t bU;rw[bU] at bn;have hx:Act.eval ⟨tm,[]⟩ x=.slice none 0 0:=bn;split
  ·rename_i e u bytes l h aZ fM iI;refine Holds.d' fun r hr=>?_
   have cN:dw ([]:List (den t)) l h=some r:=hr;unfold dw at cN;split at cN
   ·rename_i hb;obtain⟨h0,h1,h2⟩:=hb;cases cN;have bR:h=0:=by simp at h2;omega
    have hl:l=0:=by omega
    subst bR hl;refine dv S Y (uv aZ hx fM iI h0 h1 h2 (Nat.le_refl _)) ?_
    simp only[List.take_nil,List.drop_nil];exact bi.nil t
   ·cases cN
  ·exact .fail
 ·rename_i o s bU;rw[bU] at bn;split
  ·rename_i t xs cJ;split
   ·rename_i e u bytes l h aZ fM iI;split;case isFalse=>exact .fail
    rename_i nS;subst nS;refine Holds.e3 fun r hr=>?_
    have cN:dw xs l h=some r:=hr;unfold dw at cN;split at cN
    ·rename_i hb;obtain⟨h0,h1,h2⟩:=hb;cases cN;refine KM (us:=[(o,.cR s t xs)]) (L7 cJ).symm ?_
     have hD:dp st.sites [(o,.cR s t xs)]:=by
      intro F O hm;simp only[List.mem_singleton,Prod.mk.injEq] at hm;obtain⟨rfl,rfl⟩:=hm;exact⟨s,t,xs,rfl,(jt cJ).imp id .inl⟩
     have aR:kF L J X B st tm w [(o,.cR s t xs)]:=⟨S,hD⟩;have oX:=wC hD (List.mem_singleton.2 rfl);obtain⟨dF,OS⟩:=aR.new.sites o _ oX;have hv:Act.eval ⟨tm,[]⟩ x=bY (B o):=by
      rcases jt cJ with h1|h1<;>exact Ref.at bn.2 h1 rfl
     generalize hx:bY (B o)=v at dF OS;rw[hx] at hv;cases dF with
     |nil=>
      have bR:h=0:=by simp at h2;omega
      have hl:l=0:=by omega
      subst bR hl;refine il (us:=[(o,.cR s t [])]) aR.new Y (uv aZ hv fM iI h0 h1 h2 (Nat.le_refl _)) ?_
      simp only[List.take_nil,List.drop_nil];exact bi.nil t
     |sl _ _ a cap cs m hm hcap hb hl hc hr=>
      subst hm;refine il (us:=[(o,.cR s t xs)]) aR.new Y (uv aZ hv fM iI h0 h1 h2 hcap) ?_
      exact DG hb ⟨hl,hr⟩ hc l.toNat h.toNat cap (by omega) (by omega) hcap
    ·cases cN
   ·exact .fail
  ·exact .fail
 ·exact .fail
end
section
variable {P:Program}{L:World}{J:List Nat}{X:Nat->Prop}{B:Nat->Value}{st:ad}{tm:Array Value}{w:World}{D:Oper}
theorem abk{av:Nat->Prop}{o s:Nat}{t:aF}{xs:List (den t)}{v:Value}(h:b_ B st.sites w av (bP (.own o s)) v)(hr:rowOf st o s=some ⟨t,xs⟩):v=bY (B o):=by
 rcases jt hr with h1|h1<;>exact Ref.at h.2 h1 rfl
theorem MM(S:ah L J X B st tm w){l:aw}{v:Value}{t:aF}{es:List (al×den t)}(h:dj B st.sites w (an X B st.sites) l v)(hm:mapOf st l=some ⟨t,es⟩):
  (v=.map none/\es=[])\/∃b,v=.map (some b)/\lA w b t es:=by
 unfold mapOf at hm;split at hm
 ·cases hm;have h:bi w (an X B st.sites) (.map t es) v:=h;cases h with
  |sn=>exact .inl ⟨rfl,rfl⟩
  |map _ _ b hb hm=>exact .inr ⟨b,rfl,hm⟩
 ·rename_i o s;split at hm
  ·rename_i am u sW hl;cases hb:am.beq s with
   |false=>rw[hb] at hm;cases hm
   |true=>
    rw[hb] at hm;have M:=Nat.eq_of_beq_eq_true hb;subst M;cases hm;have hl:look st.sites o=some (.map am _ es):=hl;have hv:v=bY (B o):=Ref.at h.2 hl rfl;obtain⟨b,h1,h2⟩:=S.sites o _ hl;exact .inr ⟨b,by rw[hv,h1];rfl,h2⟩
  ·cases hm
 ·cases hm
theorem lA.size{b:Nat}{t:aF}{es:List (al×den t)}{arr:Array MapEntry}(h:mu arr=jz t es):arr.size=es.length:=by
 have:=congrArg List.length h;simpa[mu,jz] using this
theorem acL(S:ah L J X B st tm w){C:Ctx}(ay:CtxOk P C){T:TypeId}{x:Operand}(au:D.op=.call {callee:=.builtin .len,args:=#[x],argTypes:=#[T]})(Y:b6 st D.dst=true):
  Holds (so (C.tt T) st (aP C st T x)) (cz P L J X st tm w D):=by
 have bn:=cT S C T x;have bM:=ay.tt T;have run:∀{vv:Value},(Builtin.len_ #[T] D.type #[Act.eval ⟨tm,[]⟩ x]).run P w=.ok vv w->(execOp (Act.eval ⟨tm,[]⟩) D).run P w=.ok (.value vv) w:=by
  intro vv h;unfold execOp;simp only[au,resolve,invoke,builtin,Sem.run_bind,Sem.run_pure,Result.andThen_ok,List.map_toArray,List.map_cons,List.map_nil,h]
 unfold so;split
 ·rename_i s aZ bU;rw[bU] at bn;rw[aZ] at bM;obtain⟨b,hx,M⟩:=hp bn;refine Holds.ok (dv S Y (run (vv:=.int .i64 s.length) ?_) (.int _ _));have:s.length=b.size:=by rw[<-M];rfl
  simp[Builtin.len_,hx,run_underlying bM.1,goInt,this]
 ·rename_i e t b u xs aZ bU;rw[bU] at bn;rw[aZ] at bM;have bn:bi w (an X B st.sites) (.sl u xs) (Act.eval ⟨tm,[]⟩ x):=bn;refine Holds.ok (dv S Y (run (vv:=.int .i64 xs.length) ?_) (.int _ _));generalize Act.eval ⟨tm,[]⟩ x=v at bn;cases bn with
  |nil=>simp[Builtin.len_,run_underlying bM.1.1,goInt]
  |sl _ _ a cap cs n hn hcap hb hl hc hr=>simp[Builtin.len_,run_underlying bM.1.1,goInt,hn]
 ·rename_i e t b u aZ bU;rw[bU] at bn;rw[aZ] at bM;have hx:Act.eval ⟨tm,[]⟩ x=.slice none 0 0:=bn;exact Holds.ok (dv S Y (run (vv:=.int .i64 0) (by simp[Builtin.len_,hx,run_underlying bM.1.1,goInt])) (.int _ _))
 ·rename_i e t b o s aZ bU;rw[bU] at bn;rw[aZ] at bM;split
  ·rename_i u xs cJ;obtain⟨⟨O,fZ,jL⟩,hc⟩:=S.any cJ;have hv:Act.eval ⟨tm,[]⟩ x=bY (B o):=Ref.at bn.2 fZ jL;refine Holds.ok (dv S Y (run (vv:=.int .i64 xs.length) ?_) (.int _ _));rcases hc with⟨h1,h2⟩|⟨a_,c,h1⟩
   ·subst h2;simp[Builtin.len_,hv,h1,run_underlying bM.1.1,goInt]
   ·simp[Builtin.len_,hv,h1,run_underlying bM.1.1,goInt]
  ·exact .fail
 ·rename_i g' kz u l aZ bU;rw[bU] at bn;rw[aZ] at bM;split
  ·rename_i bF es hm;refine Holds.ok (dv S Y (run (vv:=.int .i64 es.length) ?_) (.int _ _));rcases MM S bn hm with⟨h1,rfl⟩|⟨b,h1,arr,c,h2,aa⟩
   ·simp[Builtin.len_,h1,run_underlying bM.1.1,goInt]
   ·have hsz:=lA.size (b:=b) aa;simp[Builtin.len_,h1,run_underlying bM.1.1,goInt,MapKept.run_getObj_map h2,hsz,Result.andThen]
  ·exact .fail
 ·exact .fail
theorem _5(S:ah L J X B st tm w){C:Ctx}(ay:CtxOk P C){T:TypeId}{x i:Operand}{s:al}{k:IntKind}{n:Int}(au:D.op=.index T x i)(Y:b6 st D.dst=true)(aZ:C.tt T=.str)
  (hx:aP C st T x=.av (.ai (.d (.str s)))) (hi:aP C st 0 i=.av (.ai (.d (.int k n)))):Holds (.d' (bk s n) fun b=>one (.int .u8 b.toNat)) (cz P L J X st tm w D):=by
 have bM:=ay.tt T;rw[aZ] at bM;obtain⟨b,hb,M⟩:=acZ S hx;have hn:=jx S hi;refine Holds.d' fun y ak=>?_
 have dM:bk s n=some y:=ak;unfold bk at dM;split at dM
 ·rename_i h0;refine dv S Y (vv:=.int .u8 y.toNat) ?_ (.int _ _);have oO:b[n.toNat]? =some y:=by
   have:n.toNat<s.length:=by
    rcases Nat.lt_or_ge n.toNat s.length with h|h
    ·exact h
    ·rw[List.getElem?_eq_none h] at dM;cases dM
   rw[<-M] at dM this;have hsz:n.toNat<b.size:=this;rw[getElem?_pos b n.toNat hsz];rw[List.getElem?_eq_getElem this] at dM;have aa:b.data[n.toNat]=y:=by simpa using dM
   rw[<-aa];rfl
  unfold execOp;simp[au,hb,hn,Instr.index,asIntOf,run_underlying bM.1,h0,oO]
 ·cases dM
theorem bytes_beq(x y:ByteArray):(x==y)=(x.data.toList==y.data.toList):=by
 obtain⟨a⟩:=x;obtain⟨b⟩:=y;have h:((⟨a⟩:ByteArray)==⟨b⟩)=(a==b):=rfl;rw[h,Bool.eq_iff_iff];simp
theorem _9:∀{z U:List aw} {vs:List Value},pX z U=true->ck B st.sites w (an X B st.sites) U vs->oR z vs=true:=by
 intro z;induction z with
 |nil=>
  intro U vs h h1;cases U with
  |nil=>rw[h1.kO];rfl
  |cons l U=>cases h
 |cons c z ih=>
  intro U vs h h1;unfold pX at h;split at h
  ·rename_i hz;cases hz
  ·rename_i bU;cases bU;obtain⟨v,cq,rfl,a1,a2⟩:=h1.inv;rw[hq a1];exact ih h a2
  ·rename_i bU;cases bU;obtain⟨v,cq,rfl,a1,a2⟩:=h1.inv;rw[iR a1];exact ih h a2
  ·rename_i bU;cases bU;obtain⟨v,cq,rfl,a1,a2⟩:=h1.inv;obtain⟨x,rfl,hx⟩:=hp a1;exact ih h a2
  ·cases h
theorem Xa:∀{U ii:List aw} {vs us:List Value} {b:Bool},ud U ii=some b->ck B st.sites w (an X B st.sites) U vs->ck B st.sites w (an X B st.sites) ii us->iO vs us=some b:=by
 have leaf:∀{d e:aL} {v u:Value} {b:Bool} {av:Nat->Prop},y2 d e=some b->bi w av d v->bi w av e u->nr v u=some b:=by
  intro d e v u b av h h1 h2;unfold y2 at h;split at h
  ·rw[hq h1,hq h2];exact h
  ·rw[iR h1,iR h2];exact h
  ·obtain⟨x,rfl,hx⟩:=hp h1;obtain⟨y,rfl,ak⟩:=hp h2;subst hx ak;cases h;show some (x==y)=some (x.data.toList==y.data.toList);rw[bytes_beq]
  ·cases h
 intro U;induction U with
 |nil=>intro ii vs us b h _ _;cases ii<;>simp[ud] at h
 |cons l U ih=>
  intro ii vs us b h h1 h2;obtain⟨v,cq,rfl,a1,a2⟩:=h1.inv;unfold ud at h;split at h
  ·rename_i d e bU;cases bU;obtain⟨u,jc,rfl,aU,aJ⟩:=h2.inv;rw[a2.kO,aJ.kO];exact leaf h a1 aU
  ·rename_i d ds e es hne bU;cases bU;obtain⟨u,jc,rfl,aU,aJ⟩:=h2.inv;split at h
   ·rename_i x y hx ak;cases h;have e1:=leaf hx a1 aU;have e2:=ih ak a2 aJ;match cq,jc,e2 with
    |[],[],e2=>simp[iO] at e2
    |[],_::_,e2=>simp[iO] at e2
    |_::_,[],e2=>simp[iO] at e2
    |v2::aom,u2::aoo,e2=>rw[iO,e1,e2];simp
   ·cases h
  ·cases h
theorem run_equal_bool{T:TypeId}(h:P.underlying T=some .bool)(a b:Bool):(Op.equal T (.bool a) (.bool b)).run P w=.ok (a==b) w:=by
 have e:Op.maxDepth=9999+1:=rfl;unfold Op.equal;rw[e];unfold Op.equalIn;simp only[Sem.run_bind,run_underlying h,Result.andThen_ok,Sem.run_pure]
theorem run_eql_bool{T:TypeId}(h:P.underlying T=some .bool)(a b:Bool):(binOp .eql T (.bool a) (.bool b)).run P w=.ok (.bool (a==b)) w:=by
 show((do pure (.bool (<-Op.equal T (.bool a) (.bool b)))):Sem Value).run P w=_
 simp only[Sem.run_bind,run_equal_bool h,Result.andThen_ok,Sem.run_pure]
theorem run_neq_bool{T:TypeId}(h:P.underlying T=some .bool)(a b:Bool):(binOp .neq T (.bool a) (.bool b)).run P w=.ok (.bool (!(a==b))) w:=by
 show((do pure (.bool (!(<-Op.equal T (.bool a) (.bool b))))):Sem Value).run P w=_
 simp only[Sem.run_bind,run_equal_bool h,Result.andThen_ok,Sem.run_pure]
theorem abO(S:ah L J X B st tm w){C:Ctx}(ay:CtxOk P C){op:BinOp}{T mW:TypeId}{x y:Operand}(au:D.op=.binOp op T x y mW)(Y:b6 st D.dst=true):
  Holds (Gw op (C.tt T) (aP C st T x) (aP C st T y)) (cz P L J X st tm w D):=by
 have hx:=cT S C T x;have ak:=cT S C T y;have bM:=ay.tt T;have run:∀{vv:Value},(eqGuard op T x y (Act.eval ⟨tm,[]⟩ x) (Act.eval ⟨tm,[]⟩ y)).run P w=.ok () w->(binOp op T (Act.eval ⟨tm,[]⟩ x) (Act.eval ⟨tm,[]⟩ y)).run P w=.ok vv w->
   (execOp (Act.eval ⟨tm,[]⟩) D).run P w=.ok (.value vv) w:=by
  intro vv h1 h2;unfold execOp;simp only[au,Sem.run_bind,h1,h2,Result.andThen_ok,Sem.run_pure]
 have plain:∀{r:c5},(eqGuard op T x y (Act.eval ⟨tm,[]⟩ x) (Act.eval ⟨tm,[]⟩ y)).run P w=.ok () w->Holds r (Plain P w (binOp op T (Act.eval ⟨tm,[]⟩ x) (Act.eval ⟨tm,[]⟩ y)))->Holds r (cz P L J X st tm w D):=by
  intro r h1 h2 z hz hc;obtain⟨vv,d,g1,g2,g3,eH⟩:=h2 z hz hc;rw[g2,g3];exact dv S Y (run h1 g1) (eH _)
 unfold Gw;split
 ·rename_i k a k' b kb mO;rw[kb] at hx;rw[mO] at ak;refine plain (by rw[hq hx,hq ak];exact Vm _ _ _ _ _ _ _ _) ?_
  rw[hq hx,hq ak];unfold NA;split
  ·refine Holds.d' fun n hn=>?_
   have e_:FI k a b=some n:=hn;unfold FI at e_;split at e_
   ·cases e_
   ·rename_i hb;cases e_;exact .mk (by simp[binOp,Op.shift,hb]) fun av=>.int _ _
  ·refine Holds.d' fun n hn=>?_
   have e_:nD k a b=some n:=hn;unfold nD at e_;split at e_
   ·cases e_
   ·rename_i hb;cases e_;exact .mk (by simp[binOp,Op.shift,hb]) fun av=>.int _ _
  ·rename_i h1 h2;split
   ·rename_i ag;subst ag;exact Y0 _ T k a b h1 h2
   ·exact .fail
 ·rename_i s t kb mO;rw[kb] at hx;rw[mO] at ak;obtain⟨a,a9,M⟩:=hp hx;obtain⟨b,hb,aC⟩:=hp ak;subst M aC;refine plain (by rw[a9,hb];exact Ve _ _ _ _ _ _) ?_
  rw[a9,hb];exact YY op T a b
 ·rename_i a b kb mO;rw[kb] at hx;rw[mO] at ak;unfold NW;split
  ·rename_i aZ;rw[aZ] at bM;split
   ·refine plain (by rw[iR hx,iR ak];exact Jb _ _ _ _ _ _) (Holds.ok ?_)
    rw[iR hx,iR ak];exact .mk (run_eql_bool bM.1 _ _) fun av=>.bool _
   ·refine plain (by rw[iR hx,iR ak];exact Jb _ _ _ _ _ _) (Holds.ok ?_)
    rw[iR hx,iR ak];exact .mk (run_neq_bool bM.1 _ _) fun av=>.bool _
   ·exact .fail
  ·exact .fail
 ·rename_i xs ys kb mO;rw[kb] at hx;rw[mO] at ak;unfold OW;split
  ·rename_i bN n z aZ;rw[aZ] at bM;cases hl:xs.length.beq n&&pX z xs with
   |false=>exact .fail
   |true=>
    simp only[cond_true];simp only[Bool.and_eq_true] at hl;have fv:=Nat.eq_of_beq_eq_true hl.1;split
    ·rename_i b hb;obtain⟨vs,hv,jf,jJ⟩:=hx;obtain⟨us,hu,sJ,vA⟩:=ak;have AU:=Xa hb ⟨jf,jJ⟩ ⟨sJ,vA⟩;obtain⟨fields,dZ,_,⟨fl,hz,_,_⟩,bU⟩:=bM;obtain⟨hg,Gd⟩:=bU rfl;have:=Gd vs us b w AU (_9 hl.2 ⟨jf,jJ⟩);split
     ·refine plain ?_ (Holds.ok ?_)
      ·rw[hv,hu];simp[eqGuard,hg]
      ·rw[hv,hu];refine .mk (vv:=.bool b) ?_ fun av=>.bool _
       show((do pure (.bool (<-Op.equal T (.agg vs.toArray) (.agg us.toArray)))):Sem Value).run P w=_
       simp only[Sem.run_bind,this,Result.andThen_ok,Sem.run_pure]
     ·refine plain ?_ (Holds.ok ?_)
      ·rw[hv,hu];simp[eqGuard,hg]
      ·rw[hv,hu];refine .mk (vv:=.bool (!b)) ?_ fun av=>.bool _
       show((do pure (.bool (!(<-Op.equal T (.agg vs.toArray) (.agg us.toArray))))):Sem Value).run P w=_
       simp only[Sem.run_bind,this,Result.andThen_ok,Sem.run_pure]
     ·exact .fail
    ·exact .fail
  ·exact .fail
 ·exact .fail
theorem V6{T:TypeId}{ii:Array (String×TypeId)}(aC:P.underlying T=some (.interface ii))(fA:TypeId)(cZ:Option Int)(v:Value)(hv:v=match cZ with|none=>.nilIface|some n=>.iface fA (.agg #[.int .i64 n])):
  (Op.equal T v .nilIface).run P w=.ok cZ.isNone w:=by
 have h:∀d:Nat,(Op.equalIn (d+1) T v .nilIface).run P w=.ok cZ.isNone w:=fun d=>by
  subst hv;cases cZ<;>simp[Op.equalIn,run_underlying aC]
 exact h 9999
theorem ZG(S:ah L J X B st tm w){C:Ctx}(ay:CtxOk P C){op:BinOp}{T mW:TypeId}{x y:Operand}(au:D.op=.binOp op T x y mW)(Y:b6 st D.dst=true)(hn:y4 y=true):
  Holds (E4 op (C.tt T) (aP C st T x)) (cz P L J X st tm w D):=by
 have ak:y=.const .nilIface:=by
  unfold y4 at hn;split at hn
  ·rfl
  ·cases hn
 subst ak;have hx:=cT S C T x;have bM:=ay.tt T;have key:∀(fA:TypeId) (cZ:Option Int),(Act.eval ⟨tm,[]⟩ x=match cZ with|none=>.nilIface|some n=>.iface fA (.agg #[.int .i64 n]))->Holds (zK op (C.tt T) cZ) (cz P L J X st tm w D):=by
  intro fA cZ hv;unfold zK;split
  ·rename_i aZ;rw[aZ] at bM;obtain⟨ii,bM⟩:=bM;have he:=V6 (P:=P) (w:=w) bM.1 fA cZ _ hv;have hg:(eqGuard op T x (.const .nilIface) (Act.eval ⟨tm,[]⟩ x) .nilIface).run P w=.ok () w:=by
    rw[hv];cases cZ<;>cases op<;>simp[eqGuard]
   split
   ·refine Holds.ok (dv S Y (vv:=.bool cZ.isNone) ?_ (.bool _));unfold execOp;simp only[au,Act.eval,Sem.run_bind,Result.andThen_ok,Sem.run_pure] at hg ⊢;rw[hg];simp only[Result.andThen_ok];have:(binOp .eql T (Act.eval ⟨tm,[]⟩ x) .nilIface).run P w=.ok (.bool cZ.isNone) w:=by
     have e:binOp .eql T (Act.eval ⟨tm,[]⟩ x) .nilIface=(do pure (.bool (<-Op.equal T (Act.eval ⟨tm,[]⟩ x) .nilIface))):=by rw[hv];cases cZ<;>rfl
     rw[e];simp only[Sem.run_bind,he,Result.andThen_ok,Sem.run_pure]
    simp only[Act.eval] at this;rw[this];rfl
   ·refine Holds.ok (dv S Y (vv:=.bool cZ.isSome) ?_ (.bool _));unfold execOp;simp only[au,Act.eval,Sem.run_bind,Result.andThen_ok,Sem.run_pure] at hg ⊢;rw[hg];simp only[Result.andThen_ok];have:(binOp .neq T (Act.eval ⟨tm,[]⟩ x) .nilIface).run P w=.ok (.bool cZ.isSome) w:=by
     have e:binOp .neq T (Act.eval ⟨tm,[]⟩ x) .nilIface=(do pure (.bool (!(<-Op.equal T (Act.eval ⟨tm,[]⟩ x) .nilIface)))):=by rw[hv];cases cZ<;>rfl
     rw[e];simp only[Sem.run_bind,he,Result.andThen_ok,Sem.run_pure];cases cZ<;>rfl
    simp only[Act.eval] at this;rw[this];rfl
   ·exact .fail
  ·exact .fail
 unfold E4;split
 ·rename_i fA cZ kb;rw[kb] at hx;have hx:bi w (an X B st.sites) (.err fA cZ) (Act.eval ⟨tm,[]⟩ x):=hx;exact key fA cZ (by revert hx;generalize Act.eval ⟨tm,[]⟩ x=vv;intro hx;cases hx<;>rfl)
 ·rename_i kb;rw[kb] at hx;exact key 0 none hx
 ·exact .fail
theorem Vh(S:ah L J X B st tm w){C:Ctx}(ay:CtxOk P C){T:TypeId}{x:Operand}{n:Int}{bN z q e}(au:D.op=.makeInterface T x)(Y:b6 st D.dst=true)(aZ:C.tt T=.struct bN q z e)
  (hx:aP C st T x=.av (.agg [.d (.int .i64 n)])):cz P L J X st tm w D (one (.err T (some n))) []:=by
 have bM:=ay.tt T;rw[aZ] at bM;obtain⟨fields,hu,_⟩:=bM;have bn:=cT S C T x;rw[hx] at bn;obtain⟨vs,h1,h2,aa⟩:=bn;match vs,h2,h1,aa with
 |[v],_,h1,aa=>
  have hv:=hq (aa 0 (by simp) (by simp))
  simp only[List.getElem_cons_zero] at hv;subst hv;refine dv S Y (vv:=.iface T (.agg #[.int .i64 n])) ?_ (.err _ _);unfold execOp;simp[au,Instr.makeInterface,run_underlying hu,h1]
end
section
variable {P:Program}{L:World}{J:List Nat}{X:Nat->Prop}{B:Nat->Value}{st:ad}{tm:Array Value}{w:World}{D:Oper}
theorem re(xs:List Int):flat .u8 xs=xs.map (aL.int .u8):=by
 unfold flat;induction xs with
 |nil=>rfl
 |cons x xs ih=>simp only[List.flatMap_cons,List.map_cons,ih];rfl
theorem Nd{w:World}{av:Nat->Prop}{xs:List Int}{cs:List Value}(h:ch w av (flat .u8 xs) cs):cs=xs.map (Value.int .u8):=by
 obtain⟨h1,h2⟩:=h;rw[re] at h1;apply List.ext_getElem
 ·rw[h1];simp
 ·intro j g1 g2;have g3:j<xs.length:=by simpa using g2
  have:=h2 j (by rw[re];simpa using g3) g1
  have e:(flat .u8 xs)[j]'(by rw[re];simpa using g3)=aL.int .u8 xs[j]:=by simp[re]
  rw[e] at this;rw[hq this];simp
theorem Jt{src dst e:TypeId}{a:Addr}{len cap:Nat}{xs:List Int}(M:P.underlying src=some (.slice e))(he:P.underlying e=some (.int .u8))(Y:P.underlying dst=some .string)
  (hlen:xs.length=len) (hc:∀j u,(xs.map (Value.int .u8))[j]? =some u->w.cell? (a.add j)=some u):
  ∃b:ByteArray,(convert src dst (.slice (some a) len cap)).run P w=.ok (.string b) w/\b.data.toList=strOf xs:=by
 have hl:(loadCells a len).run P w=.ok (xs.map (Value.int .u8)).toArray w:=by
  have:=run_loadCells_list (P:=P) w a (xs.map (Value.int .u8)) hc;simpa[hlen] using this
 rw[run_convert_bytes_string w src dst e _ len cap M he Y,run_bytesToString w a len cap xs hl,foldl_push_bytes];exact⟨_,rfl,by simp[strOf]⟩
theorem wL{ti:cd}(h:isByte ti=true):ti=.int .u8:=by
 unfold isByte at h;split at h
 ·rfl
 ·cases h
theorem ZM(s:al):(bytesOf s).length=s.length:=by simp[bytesOf]
theorem aak(S:ah L J X B st tm w){C:Ctx}(ay:CtxOk P C){src dst:TypeId}{x:Operand}{o:Nat}(au:D.op=.convert src dst x)(da:D.dst=some o)(Y:b6 st D.dst=true):
  Holds (r_ C src dst o st (aP C st src x)) (cz P L J X st tm w D):=by
 have bn:=cT S C src x;have M:=ay.tt src;have aC:=ay.tt dst;have run:∀{vv:Value} {w':World},(convert src dst (Act.eval ⟨tm,[]⟩ x)).run P w=.ok vv w'->(execOp (Act.eval ⟨tm,[]⟩) D).run P w=.ok (.value vv) w':=by
  intro vv w' h;unfold execOp;simp only[au,Sem.run_bind,h,Result.andThen_ok,Sem.run_pure]
 have p0:∀{ti:cd},ti.ok P src->ti≠.none->∃d,P.underlying src=some d:=by
  intro ti h hn;cases ti with
  |none=>exact absurd rfl hn
  |int k=>exact⟨_,h.1⟩
  |bool=>exact⟨_,h.1⟩
  |str=>exact⟨_,h.1⟩
  |ptr=>obtain⟨_,h⟩:=h;exact⟨_,h.1⟩
  |func=>obtain⟨_,_,_,h⟩:=h;exact⟨_,h.1⟩
  |iface=>obtain⟨_,h⟩:=h;exact⟨_,h.1⟩
  |slice e t b=>exact⟨_,h.1.1⟩
  |map k e t=>exact⟨_,h.1.1⟩
  |struct bN n z eq=>obtain⟨f,h,_⟩:=h;exact⟨_,h⟩
  |arr e t n=>exact⟨_,h.1⟩
 unfold r_;split
 ·exact .fail
 ·rename_i k k' n ag hx hn;rw[hx] at bn;rw[ag] at aC;obtain⟨d,l2⟩:=p0 M (by rintro h;exact absurd h (by simpa using hn))
  refine Holds.ok (dv S Y (run (vv:=.int k (k.wrap n)) ?_) (.int _ _));rw[hq bn];simp[convert,run_underlying l2,run_underlying aC.1,Conv.intToInt]
 ·rename_i s ag hx hn;rw[hx] at bn;rw[ag] at aC;obtain⟨b,hb,df⟩:=hp bn;obtain⟨d,l2⟩:=p0 M (by rintro h;exact absurd h (by simpa using hn))
  refine Holds.ok (dv S Y (run (vv:=.string b) ?_) (.str _ _ df));rw[hb];simp[convert,run_underlying l2,run_underlying aC.1]
 ·rename_i e b xs hsrc pN hx;cases l3:isByte (C.tt e) with
  |false=>exact .fail
  |true=>
   rw[hx] at bn;rw[pN] at aC;rw[hsrc] at M;have he:=ay.tt e;rw[wL l3] at he;have bn:bi w (an X B st.sites) (.sl .u8 xs) (Act.eval ⟨tm,[]⟩ x):=bn;have:∃b:ByteArray,(convert src dst (Act.eval ⟨tm,[]⟩ x)).run P w=.ok (.string b) w/\b.data.toList=strOf xs:=by
    generalize Act.eval ⟨tm,[]⟩ x=v at bn;cases bn with
    |nil=>exact⟨_,run_convert_bytes_nil w src e M.1.1 he.1 _ _ dst aC.1,rfl⟩
    |sl _ _ a cap cs n hn hcap hb hl hc hr=>
     have:=Nd (xs:=xs) ⟨hl,hr⟩;subst this;exact Jt M.1.1 he.1 aC.1 hn.symm hc
   obtain⟨b,h1,h2⟩:=this;exact Holds.ok (dv S Y (run h1) (.str _ _ h2))
 ·rename_i e b u hsrc pN hx;cases l3:isByte (C.tt e) with
  |false=>exact .fail
  |true=>
   rw[hx] at bn;rw[pN] at aC;rw[hsrc] at M;have he:=ay.tt e;rw[wL l3] at he;have bn:Act.eval ⟨tm,[]⟩ x=.slice none 0 0:=bn;refine Holds.ok (dv S Y (run (vv:=.string ByteArray.empty) ?_) (.str _ _ rfl));rw[bn];exact run_convert_bytes_nil w src e M.1.1 he.1 _ _ dst aC.1
 ·rename_i e b F s hsrc pN hx;split
  ·rename_i xs cJ;cases l3:isByte (C.tt e) with
   |false=>exact .fail
   |true=>
    rw[hx] at bn;rw[pN] at aC;rw[hsrc] at M;have he:=ay.tt e;rw[wL l3] at he;have hv:=abk bn cJ;have:∃b:ByteArray,(convert src dst (Act.eval ⟨tm,[]⟩ x)).run P w=.ok (.string b) w/\b.data.toList=strOf xs:=by
     rw[hv];obtain⟨cs,h1,hc⟩:=S.row cJ;rcases hc with⟨h2,aa⟩|⟨a_,c,h2,aa,aI⟩
     ·subst aa;rw[h2];exact⟨_,run_convert_bytes_nil w src e M.1.1 he.1 _ _ dst aC.1,rfl⟩
     ·have:=Nd (xs:=xs) (io h1);subst this;rw[h2];exact Jt M.1.1 he.1 aC.1 rfl (fun j u hu=>by rw[gh];exact aa j u hu)
    obtain⟨b,h1,h2⟩:=this;exact Holds.ok (dv S Y (run h1) (.str _ _ h2))
  ·exact .fail
 ·rename_i e b s hsrc pN hx;cases l3:isByte (C.tt e) with
  |false=>exact .fail
  |true=>
   rw[hx] at bn;rw[pN] at aC;rw[hsrc] at M;have he:=ay.tt e;rw[wL l3] at he;obtain⟨gu,hb,df⟩:=hp bn;have cI:(convert src dst (Act.eval ⟨tm,[]⟩ x)).run P w=.ok (.slice (some ⟨w.heap.size,0,none⟩) gu.size (grownCap w gu.size 0 e)) (Go.Lib.bytesWorld w e gu):=by
    rw[hb];exact Go.Lib.run_convert_string_bytes w src dst e gu M.1 aC.1.1 he.1
   have hcap:gu.size<=grownCap w gu.size 0 e:=grownCap_ge w gu.size 0 e;refine Holds.e3 fun r hr=>?_
   have uU:gu.size<=maxLen:=by
    have hr:(if s.length<=maxLen then some () else none)=some r:=hr
    split at hr
    ·rename_i h;rw[<-df] at h;simpa using h
    ·cases hr
   have hsz:(Go.Lib.bytesCells w e gu).size=grownCap w gu.size 0 e:=by
    simp only[Go.Lib.bytesCells,Array.size_append,Array.size_map,Array.size_replicate];have:gu.data.size=gu.size:=rfl;omega
   have hlen:gu.size=(bytesOf s).length:=by rw[ZM,<-df];rfl
   have gP:ah L J X (fun F=>if F=o then .slice (some ⟨w.heap.size,0,none⟩) gu.size (grownCap w gu.size 0 e) else B F) {st with sites:=b8 st.sites o (.row (aY st o) .u8 (bytesOf s))} tm (Go.Lib.bytesWorld w e gu):=by
    refine S.make (fun b hb=>Go.Lib.bytesWorld_at_old w e gu b hb) rfl rfl rfl (by rw[Go.Lib.bytesWorld_size];omega) (fun O M=>js M)
     (fun b hb=>by have hb:=List.mem_singleton.1 hb;subst hb;exact⟨Nat.le_refl _,by rw[Go.Lib.bytesWorld_size];exact Nat.lt_succ_self _⟩) ?_
    intro bo aA eT dJ go anF anN;refine⟨e,gu.data.toList.map fun b=>Value.int .u8 b.toNat,⟨?_,.inr ⟨_,_,Go.Lib.bytesCells w e gu,_,dJ.trans (by rw[hlen]),⟨(fun h=>by obtain⟨_,z,_,_,ey⟩:=aC;exact ey h),.inr ⟨rfl,Nat.le_refl _⟩⟩,Go.Lib.bytesWorld_at_new w e gu,by rw[<-hlen];exact hcap,grownCap_le_maxLen w gu.size 0 e uU,?_,?_⟩⟩,fun j g1 g2=>?_⟩
    ·rw[List.length_map,<-hlen];exact(Nat.mul_one _).symm
    ·rw[hsz];exact(Nat.mul_one _).symm
    ·have h1:(bytesOf s).length*ax .u8=(gu.data.toList.map fun b=>Value.int .u8 b.toNat).length:=by rw[List.length_map,<-hlen];exact Nat.mul_one _
     rw[h1];simp only[Go.Lib.bytesCells,Array.toList_append,Array.toList_map];exact List.take_left
    ·subst df;simp only[re,bytesOf,List.getElem_map];exact .int _ _
   refine il (us:=[(o,.row (aY st o) .u8 (bytesOf s))]) gP Y (run cI) ?_
   refine⟨rfl,Ref.mk (O:=.row (aY st o) .u8 (bytesOf s)) ?_ rfl (by simp[bY])⟩
   simp only[aW,cn];simp
 ·exact .fail
end
section
variable {P:Program}{L:World}{J:List Nat}{X:Nat->Prop}{B:Nat->Value}{st:ad}{tm:Array Value}{w:World}{D:Oper}
theorem MK(S:ah L J X B st tm w){C:Ctx}{x:Operand}(au:D.op=.move x\/D.op=.assign x)(Y:b6 st D.dst=true)(T:TypeId):cz P L J X st tm w D (aP C st T x) []:=by
 refine dv S Y (vv:=Act.eval ⟨tm,[]⟩ x) ?_ (cT S C T x);unfold execOp;rcases au with h|h<;>simp only[h,Sem.run_pure]
theorem MC(S:ah L J X B st tm w){C:Ctx}{c a b:Operand}{t:Bool}{T:TypeId}(au:D.op=.pick c a b)(Y:b6 st D.dst=true)(hc:aP C st T c=.av (.ai (.d (.bool t)))):
  cz P L J X st tm w D (aP C st T (if t then a else b)) []:=by
 refine dv S Y (vv:=Act.eval ⟨tm,[]⟩ (if t then a else b)) ?_ (cT S C T _)
 unfold execOp;have:=Ef S hc;cases t<;>simp[au,this,asBool]
theorem WC(S:ah L J X B st tm w){C:Ctx}{x:Operand}{t:Bool}{T ed:TypeId}(au:D.op=.unOp .not ed x)(Y:b6 st D.dst=true)(hc:aP C st T x=.av (.ai (.d (.bool t)))):
  cz P L J X st tm w D (one (.bool (!t))) []:=by
 refine dv S Y (vv:=.bool (!t)) ?_ (.bool _);unfold execOp;simp[au,Ef S hc,Op.unary]
theorem WD(S:ah L J X B st tm w){C:Ctx}{x:Operand}{k:IntKind}{n:Int}{T ed:TypeId}(au:D.op=.unOp .neg ed x)(Y:b6 st D.dst=true)(hc:aP C st T x=.av (.ai (.d (.int k n)))):
  cz P L J X st tm w D (one (.int k (k.wrap (0-n)))) []:=by
 refine dv S Y (vv:=.int k (k.wrap (0-n))) ?_ (.int _ _);unfold execOp;simp[au,jx S hc,Op.unary,Op.intArith]
theorem BF(S:ah L J X B st tm w){C:Ctx}{x:Operand}{v:aK}{T:TypeId}(au:D.op=.nilCheck x)(Y:b6 st D.dst=true)(hc:aP C st T x=v)
  (hv:∀vv,b_ B st.sites w (an X B st.sites) v vv->∃a,vv=.pointer (some a)):cz P L J X st tm w D v []:=by
 have:=cT S C T x;rw[hc] at this;obtain⟨a,a9⟩:=hv _ this;refine dv S Y (vv:=Act.eval ⟨tm,[]⟩ x) ?_ this;unfold execOp;simp[au,a9]
theorem X0(S:ah L J X B st tm w){C:Ctx}{x:Operand}{i:Nat}{as:List bz}{a:bz}{T:TypeId}(au:D.op=.extract x i)(Y:b6 st D.dst=true)(hc:aP C st T x=.jd as)(a9:as[i]? =some a):
  cz P L J X st tm w D (.av a) []:=by
 have bn:=cT S C T x;rw[hc] at bn;obtain⟨vs,h1,h2,aa⟩:=bn;obtain⟨hi,ajY⟩:=List.getElem?_eq_some_iff.1 a9;have hV:i<vs.length:=by omega
 refine dv S Y (vv:=vs[i]) ?_ (by rw[<-ajY];exact aa i hi hV)
 unfold execOp;simp[au,h1,Instr.extract,hV]
theorem K1(S:ah L J X B st tm w){C:Ctx}{x y:Operand}{k k':IntKind}{a b:Int}{T:TypeId}{rX:Bool}{cK:Array TypeId}(au:D.op=.call {callee:=.builtin (if rX then .max else .min),args:=#[x,y],argTypes:=cK})(Y:b6 st D.dst=true)
  (hx:aP C st T x=.av (.ai (.d (.int k a)))) (ak:aP C st T y=.av (.ai (.d (.int k' b)))):cz P L J X st tm w D (one (.int k (if rX then gB a b else zY a b))) []:=by
 refine dv S Y (vv:=.int k (if rX then gB a b else zY a b)) ?_ (.int _ _)
 unfold execOp;cases rX<;>simp[au,resolve,invoke,builtin,jx S hx,jx S ak,Builtin.max_,Builtin.min_,Builtin.max2,Builtin.min2,gB,zY]
theorem abp(S:ah L J X B st tm w){C:Ctx}{x y z u v:Operand}{k aB ao bu b':IntKind}{a b c d e:Int}{T:TypeId}{cK:Array TypeId}(au:D.op=.call {callee:=.builtin .max,args:=#[x,y,z,u,v],argTypes:=cK})(Y:b6 st D.dst=true)
  (hx:aP C st T x=.av (.ai (.d (.int k a)))) (ak:aP C st T y=.av (.ai (.d (.int aB b)))) (hz:aP C st T z=.av (.ai (.d (.int ao c)))) (hu:aP C st T u=.av (.ai (.d (.int bu d)))) (hv:aP C st T v=.av (.ai (.d (.int b' e)))):
  cz P L J X st tm w D (one (.int k (gB (gB (gB (gB a b) c) d) e))) []:=by
 refine dv S Y (vv:=.int k (gB (gB (gB (gB a b) c) d) e)) ?_ (.int _ _);unfold execOp;simp[au,resolve,invoke,builtin,jx S hx,jx S ak,jx S hz,jx S hu,jx S hv,Builtin.max_,Builtin.max2,gB]
theorem aal(S:ah L J X B st tm w){C:Ctx}:∀{xs:List Operand} {bE:List (Nat×Nat)},step.nB C st xs=some bE->xs.length=bE.length/\
  ∀i (h:i<bE.length) (ab:i<xs.length),Ref st.sites (bE[i]).1 (bE[i]).2 (Act.eval ⟨tm,[]⟩ (xs[i])=bY (B (bE[i]).1)):=by
 intro xs;induction xs with
 |nil=>intro bE h;simp only[step.nB] at h;cases h;exact⟨rfl,fun i h=>by simp at h⟩
 |cons x xs ih=>
  intro bE h;simp only[step.nB] at h;split at h
  ·rename_i o s l hx hl;cases h;obtain⟨h1,h2⟩:=ih hl;refine⟨by simp[h1],fun i g1 g2=>?_⟩
   cases i with
   |zero=>
    have:=cT S C 0 x;rw[hx] at this;obtain⟨b,hb,O,r1,r2,g9⟩:=this;exact⟨O,r1,r2,fun e=>by simp only[List.getElem_cons_zero];rw[g9 e];exact hb⟩
   |succ i=>simpa using h2 i (by simpa using g1) (by simpa using g2)
  ·cases h
theorem WW(S:ah L J X B st tm w){C:Ctx}{g:FuncId}{first captured:Array Operand}{bE:List (Nat×Nat)}(au:D.op=.makeFunc (.func g) first captured)(Y:b6 st D.dst=true)(hf:first.toList.isEmpty=true)
  (hc:step.nB C st captured.toList=some bE):cz P L J X st tm w D (bP (.clo g bE)) []:=by
 obtain⟨h1,h2⟩:=aal S hc;refine dv S Y (vv:=.func (.func g) #[] (captured.toList.map (Act.eval ⟨tm,[]⟩)).toArray) ?_ ⟨captured.toList.map (Act.eval ⟨tm,[]⟩),rfl,by simpa using h1,fun i g1 g2=>?_⟩
 ·have:first=#[]:=by simpa using hf
  unfold execOp;simp only[au,Instr.makeFunc,Sem.run_bind,Sem.run_pure,Result.andThen_ok,this];simp;apply Array.ext';simp
 ·have:=h2 i g1 (by simpa using g2)
  simpa using this
theorem Lj(S:ah L J X B st tm w){C:Ctx}{bN:List (Nat×Nat)}:∀(parts:List (Nat×Operand)) (z:List aw) (cells:Array Value),ck B st.sites w (an X B st.sites) z cells.toList->
  Holds (step.mw C st bN z parts) (fun v us=>us=[]/\∃iT,Instr.fill (bN.toArray[·]?) cells (parts.map fun p=>(p.1,Act.eval ⟨tm,[]⟩ p.2))=some iT/\b_ B st.sites w (an X B st.sites) v (.agg iT)):=by
 intro parts;induction parts with
 |nil=>intro z cells h;exact Holds.ok ⟨rfl,cells,rfl,cells.toList,by simp,h.1,h.2⟩
 |cons p parts ih=>
  obtain⟨i,x⟩:=p;intro z cells h;simp only[step.mw];split
  ·rename_i off n a hf a9;cases hb:(a.cells.length.beq n&&gf a.cells&&Nat.ble (off+n) z.length) with
   |false=>exact .fail
   |true=>
    simp only[cond_true];simp only[Bool.and_eq_true] at hb;obtain⟨⟨aU,aJ⟩,bQ⟩:=hb;have aU:=Nat.eq_of_beq_eq_true aU;have bQ:=Nat.le_of_ble_eq_true bQ;have bn:=cT S C 0 x;rw[pn a9] at bn;have ms:=fW.cells (bn:fW B st.sites w _ a _) aJ;have hsz:(Act.eval ⟨tm,[]⟩ x).cells.size=n:=by rw[<-aU,<-ms.1];simp
    have cY:off+(Act.eval ⟨tm,[]⟩ x).cells.size<=cells.size:=by
     have:=h.1;simp at this;omega
    have:=ih (Jk.a8 z off a.cells) (Jk.a8 cells.toList off (Act.eval ⟨tm,[]⟩ x).cells.toList).toArray (by simpa using ck.a8 off h ms)
    intro y ak hc;obtain⟨g1,iT,g2,g3⟩:=this y ak hc;refine⟨g1,iT,?_,g3⟩;simp only[List.map_cons,Instr.fill];have HR:bN.toArray[i]? =some (off,n):=by simpa using hf
    simp only[HR];have c1:¬((Act.eval ⟨tm,[]⟩ x).cells.size≠n\/off+(Act.eval ⟨tm,[]⟩ x).cells.size>cells.size):=by omega
    have c2:(decide ((Act.eval ⟨tm,[]⟩ x).cells.size≠n)||decide (off+(Act.eval ⟨tm,[]⟩ x).cells.size>cells.size))=false:=by
     simp;omega
    have iz:off+n<=cells.size:=by omega
    rw[JU _ _ _ cY];simp only[Bool.decide_or,hsz] at*;simpa[c2,iz] using g2
  ·exact .fail
theorem aan(S:ah L J X B st tm w){C:Ctx}(ay:CtxOk P C){T:TypeId}{parts:Array (Nat×Operand)}{bN:List (Nat×Nat)}{n:Nat}{z:List aw}{eq:Bool}(aZ:C.tt T=.struct bN n z eq)(au:D.op=.build T parts)
  (Y:b6 st D.dst=true):Holds (step.mw C st bN z parts.toList) (cz P L J X st tm w D):=by
 have bM:=ay.tt T;rw[aZ] at bM;obtain⟨fields,dZ,⟨hf,_⟩,⟨fl,hz,hzz,hzl⟩,_⟩:=bM;obtain⟨aB,ao,bu⟩:=qM hzz;intro y ak hc;obtain⟨g1,iT,g2,g3⟩:=Lj S parts.toList z fl ⟨aB,fun j h ab=>bu _ _ _ _ j h ab⟩ y ak hc
 rw[g1];refine dv S Y (vv:=.agg iT) ?_ g3;cases hi:P.info? T with
 |none=>simp[hi] at hz
 |some UT=>
  simp only[hi,Option.map_some,Option.some.injEq,Prod.mk.injEq] at hz;have hb:P.built T (parts.toList.map fun p=>(p.1,Act.eval ⟨tm,[]⟩ p.2))=some iT:=by
   unfold Program.built;simp only[hi,dZ,hz.2,hf];exact g2
  have b9:P.built T (parts.map fun p=>(p.1,Act.eval ⟨tm,[]⟩ p.2)).toList=some iT:=by simpa using hb
  unfold execOp;simp only[au,Sem.run_bind,run_build w T _ iT b9,Result.andThen_ok,Sem.run_pure]
end
def mo(w:World)(b:Nat)(D:Obj):World:={w with heap:=w.heap.setIfInBounds b D}
theorem Mr{b:ByteArray}{l:al}(h:b.data.toList=l):Value.string b=gA l:=by
 subst h;rfl
def kU{aH:Type}:List (al×aH)->al->Nat->Option (Nat×aH)
 |[],_,_=>none
 |(k,v)::r,n,i=>bif k==n then some (i,v) else kU r n (i+1)
theorem Zs{aH:Type}(n:al):∀(es:List (al×aH)) (i:Nat),(kU es n i).map (·.2)=jZ es n:=by
 intro es;induction es with
 |nil=>intro i;rfl
 |cons p es ih=>
  intro i;simp only[kU,jZ];cases p.1==n with
  |true=>rfl
  |false=>exact ih (i+1)
theorem WV{aH:Type}(n:al)(v:aH):∀(es:List (al×aH)) (i:Nat),kU es n i=none->oz es n v=es++[(n,v)]:=by
 intro es;induction es with
 |nil=>intro i _;rfl
 |cons p es ih=>
  intro i h;simp only[kU] at h;simp only[oz];cases aj:(p.1==n) with
  |true=>rw[aj] at h;cases h
  |false=>rw[aj] at h;simp only[cond_false,ih (i+1) h,List.cons_append]
theorem XQ{aH:Type}(n:al)(v:aH):∀(es:List (al×aH)) (i j:Nat) (v0:aH),kU es n i=some (j,v0)->i<=j/\(∃p,es[j-i]? =some p/\p.1=n)/\oz es n v=es.modify (j-i) fun p=>(p.1,v):=by
 intro es;induction es with
 |nil=>intro i j v0 h;cases h
 |cons p es ih=>
  intro i j v0 h;simp only[kU] at h;simp only[oz];cases aj:(p.1==n) with
  |true=>
   rw[aj] at h;cases h;refine⟨Nat.le_refl _,⟨p,by simp,eq_of_beq aj⟩,?_⟩
   simp
  |false=>
   rw[aj] at h;obtain⟨h1,⟨q,h2,aa⟩,aI⟩:=ih (i+1) j v0 h;have e:j-i=(j-(i+1))+1:=by omega
   refine⟨by omega,⟨q,by rw[e];simpa using h2,aa⟩,?_⟩
   rw[e,cond_false,aI,List.modify_succ_cons]
theorem JW{t:aF}(n:al):∀(es:List (al×den t)) (ii:List MapEntry) (i:Nat),ii.map (fun e=>(e.key,e.val))=jz t es->
  Instr.findNow .string (gA n) ii i=some ((kU es n i).map fun p=>(p.1,m7 t p.2))
 |[],ii,i,h=>by
  have:ii=[]:=by simpa[jz] using h
  subst this;rfl
 |(k,v)::es,[],i,h=>by simp[jz] at h
 |(k,v)::es,m::ii,i,h=>by
  simp only[jz,List.map_cons,List.cons.injEq,Prod.mk.injEq] at h;obtain⟨⟨h1,h2⟩,aa⟩:=h;have ih:=JW n es ii (i+1) aa;have M:Instr.sameNow .string (gA n) m.key=some (k==n):=by
   rw[h1];show some ((⟨n.toArray⟩:ByteArray)==⟨k.toArray⟩)=_;rw[bytes_beq];congr 1
   rw[Bool.eq_iff_iff];simp only[beq_iff_eq];exact eq_comm
  unfold Instr.findNow kU;rw[M];cases k==n with
  |true=>simp only[cond_true,Option.map_some,h2]
  |false=>simp only[cond_false];exact ih
section
variable {P:Program}{w:World}{g' kz T:TypeId}{t:aF}
theorem Xw{g':TypeId}(ag:P.underlying g'=some .string)(c:Bool)(s:al)(n:Nat):(Instr.checkKey c (n+1) g' (gA s)).run P w=.ok () w:=by
 simp[Instr.checkKey,run_underlying ag,gA,Result.andThen]
theorem tv{g':TypeId}(ag:P.underlying g'=some .string)(c:Bool)(s:al):(Instr.checkKey c 10000 g' (gA s)).run P w=.ok () w:=Xw ag c s 9999
theorem xl{g':TypeId}(ag:P.underlying g'=some .string){es:List (al×den t)}{arr:Array MapEntry}(h:mu arr=jz t es)(n:al):
  (Instr.findKey g' (gA n) arr.toList).run P w=.ok ((kU es n 0).map fun p=>(p.1,m7 t p.2)) w:=by
 simp[Instr.findKey,run_underlying ag,JW n es arr.toList 0 h,Result.andThen]
theorem YZ(s:al):(Instr.keyThatStays (gA s) (gA s)).run P w=.ok (gA s) w:=by
 have:Instr.sameBits 10000 (gA s) (gA s)=true:=by
  show((⟨s.toArray⟩:ByteArray)==⟨s.toArray⟩)=true;rw[bytes_beq];simp
 simp[Instr.keyThatStays,this]
theorem adM{t:aF}{d:aL}{x:den t}{v:Value}{av:Nat->Prop}(h:FG t d=some x)(hr:bi w av d v):v=m7 t x:=by
 unfold FG at h;split at h
 ·cases h;cases hr;rfl
 ·cases h;cases hr;rfl
 ·cases h
theorem Xu(aZ:P.underlying T=some (.map g' kz))(ag:P.underlying g'=some .string){b:Nat}{arr:Array MapEntry}{clock:Nat}{es:List (al×den t)}(hb:w.heap[b]? =some (.map arr clock))(he:mu arr=jz t es)(n:al)(x:den t):
  ∃oT oB,(Instr.mapUpdate T (.map (some b)) (gA n) (m7 t x)).run P w=.ok () (mo w b (.map oT oB))/\mu oT=jz t (oz es n x):=by
 cases hm:kU es n 0 with
 |none=>
  refine⟨arr.push ⟨gA n,m7 t x,clock⟩,clock+1,?_,?_⟩
  ·have hf:=xl (w:=w) ag he n;rw[hm] at hf;simp[Instr.mapUpdate,run_underlying aZ,MapKept.run_getObj_map hb,tv ag,hf,MapKept.run_setObj_map _ hb,Result.andThen,mo]
  ·rw[WV n x es 0 hm];unfold mu jz at he ⊢;simp[he]
 |some p=>
  obtain⟨j,v0⟩:=p;obtain⟨_,⟨q,h2,aa⟩,aI⟩:=XQ n x es 0 j v0 hm;rw[Nat.sub_zero] at h2 aI;have hlen:arr.size=es.length:=lA.size (b:=b) he;have hj:j<arr.size:=by rw[hlen];exact(List.getElem?_eq_some_iff.1 h2).1
  have agb:((arr[j]?).map (·.key)).getD (gA n)=gA n:=by
   have bD:=congrArg (fun l=>l[j]?) he
   simp only[mu,jz,List.getElem?_map,h2,Option.map_some,Array.getElem?_toList] at bD;cases a9:arr[j]? with
   |none=>rfl
   |some e=>
    rw[a9] at bD;simp only[Option.map_some,Option.some.injEq,Prod.mk.injEq] at bD;simp[bD.1,aa]
  refine⟨arr.modify j fun e=>{e with key:=gA n,val:=m7 t x},clock,?_,?_⟩
  ·have hf:=xl (w:=w) ag he n;rw[hm] at hf;simp[Instr.mapUpdate,run_underlying aZ,MapKept.run_getObj_map hb,tv ag,hf,MapKept.run_setObj_map _ hb,Result.andThen,mo,agb,YZ]
  ·rw[aI];unfold mu jz at he ⊢;apply List.ext_getElem?;intro i;have bD:=congrArg (fun l=>l[i]?) he
   simp only[List.getElem?_map,Array.getElem?_toList] at bD;simp only[List.getElem?_map,Array.getElem?_toList,Array.getElem?_modify,List.getElem?_modify];by_cases hij:j=i
   ·subst hij;simp only[if_true,h2,Option.map_some,<-aa];cases a9:arr[j]? with
    |none=>rw[a9,h2] at bD;cases bD
    |some e=>rfl
   ·simp only[hij,if_false];cases a9:arr[i]? <;>cases b9:es[i]? <;>rw[a9,b9] at bD<;>simp_all
end
section
variable {P:Program}{L:World}{J:List Nat}{X:Nat->Prop}{B:Nat->Value}{st:ad}{tm:Array Value}{w:World}{D:Oper}
theorem BN(w:World)(b a_:Nat)(D:Obj)(h:a_≠b):(mo w b D).heap[a_]? =w.heap[a_]? :=by
 simp only[mo,Array.getElem?_setIfInBounds];rw[if_neg (fun e=>h e.symm)]
theorem Vn(w:World)(b:Nat)(D cZ:Obj)(h:w.heap[b]? =some cZ):(mo w b D).heap[b]? =some D:=by
 have:=(Array.getElem?_eq_some_iff.1 h).1;simp[mo,Array.getElem?_setIfInBounds,this]
theorem ah.acC(S:ah L J X B st tm w){o s b:Nat}{t:aF}{es sW:List (al×den t)}{D:Obj}{oT:Array MapEntry}{oB:Nat}(hl:look st.sites o=some (.map s t es))(bW:B o=.map (some b))(hg:w.heap[b]? =some D)
  (he:mu oT=jz t sW):ah L J X B {st with sites:=b8 st.sites o (.map s t sW)} tm (mo w b (.map oT oB)):=by
 have vW:b∈bJ (B o):=fS (by rw[bW];rfl)
 have cr:bX st.sites o:=⟨_,hl,rfl⟩;have lF:∀F,bX (b8 st.sites o (.map s t sW)) F <-> bX st.sites F:=Kk hl rfl;have b0:∀a_,an X B (b8 st.sites o (.map s t sW)) a_ <-> an X B st.sites a_:=by
  intro a_;unfold an;simp only[lF]
 have hne:∀a_,¬an X B st.sites a_->a_≠b:=by
  rintro a_ h rfl;exact h (.inr ⟨o,cr,vW⟩)
 have hsz:(mo w b (.map oT oB)).heap.size=w.heap.size:=by simp[mo]
 refine S.oJ (fun F am bB=>?_) (fun a_ h _=>BN w b a_ _ (hne a_ h)) (fun a_ h _=>by rw[b0];exact h) (fun go F am bB=>?_) (fun F aO a_ h1 h2=>S.de F aO a_ ((lF F).1 h1) ((lF aO).1 h2))
  (fun F a_ h=>S.b7 F a_ ((lF F).1 h)) (fun F a_ h hb=>by rw[hsz];exact S.dX ((lF F).1 h) hb) ?_ (by rw[hsz];exact Nat.le_refl _)
 ·rw[cn];by_cases e:o=F
  ·subst e;rw[hl] at bB;cases bB;exact⟨.map s t sW,by simp,Nat.le_refl _,fun _=>rfl⟩
  ·exact⟨am,by simp[e,bB],Nat.le_refl _,fun _=>rfl⟩
 ·rw[cn] at bB;by_cases e:o=F
  ·subst e;simp only[if_true,Option.some.injEq] at bB;subst bB;exact .inr ⟨b,bW,oT,oB,Vn w b _ _ hg,he⟩
  ·simp only[e,if_false] at bB;refine .inl ⟨bB,rfl,fun sr a_ b9=>BN w b a_ _ ?_⟩
   rintro rfl;exact e (S.de o F _ cr ⟨am,bB,sr⟩ vW b9)
 ·have aR:=S.frame;refine⟨aR.os,aR.tape,aR.output,by rw[hsz];exact aR.size,fun a_ h1 h2=>?_⟩
  rw[BN w b a_ _ ?_]
  ·exact aR.block a_ h1 h2
  ·rintro rfl;rcases(S.b7 o _ cr vW).2 with h|h
   ·exact h2 h
   ·omega
theorem ah.makeMap(S:ah L J X B st tm w){o:Nat}{t:aF}:
  ah L J X (fun F=>if F=o then .map (some w.heap.size) else B F) {st with sites:=b8 st.sites o (.map (aY st o) t [])} tm (w.alloc (.map #[] 0)):=
 S.make (fun b hb=>RowKit.Below.heap_alloc w _ b hb) rfl rfl rfl (by simp) (fun O M=>js M) (fun b hb=>by have hb:=List.mem_singleton.1 hb;subst hb;exact⟨Nat.le_refl _,by simp⟩)
  (fun M bW go _ _=>⟨w.heap.size,bW,#[],0,heap_alloc_new w _,rfl⟩)
end
end Go.Jk
