/- FnExactRootOut: the program's RootOut returns what the reference's returns, for all arguments. (part 1 of 6: JnCore, JnGlob, JnState, JnExec, JnFoot, JnCode, JnTurn, JnOps1, JnOps2, JnOps3, JnOps4, JnOps5, JnOps6, JnOps7, JnOps8, JnOps9, JnOps10, JnOpsD, JnOps11, JnOps12, JnOps13, JnOps14, JnOps15, JnOps16) Conditions: none beyond the statement. -/
import Derived.Calls
import Derived.Below
import Derived.WalkKit
import Derived.Laws.AppendOwn
import Derived.Great.BuildSlice
import Derived.IntWalk
import Derived.Laws.Tables
import Derived.MapKept
import Derived.Laws.BytesArg
import Derived.Lib.ConvBytes
set_option linter.unusedSimpArgs false
set_option linter.unusedVariables false
namespace Go.Jk
abbrev ak:=List UInt8
structure aZ where
 path:ak
 kind:Int
 mode:Int
 text:ak
structure dr where
 name:ak
 kind:Int
 bH:ak
structure aU where
 name:ak
 bH:ak
 bL:List dr
 b4:List aZ
structure agj where
 name:ak
 text:ak
structure TO where
 name:ak
 text:ak
structure Source where
 name:ak
 sum:ak
structure Piece where
 name:ak
 eQ:ak
structure abz where
 name:ak
 bH:ak
 lets:List TO
 builds:List dr
 runs:List dr
 sources:List Source
 pieces:List Piece
 steps:List ak
structure afW where
 at_:Int
 lines:List ak
inductive aG where
 |i64|u8|u32|bool|str|entry|need|pack|file|lt|source|piece|recipe|hunk|rR
 deriving DecidableEq
@[reducible] def den:aG->Type
 |.i64|.u8|.u32=>Int
 |.bool=>Bool
 |.str=>ak
 |.entry=>aZ
 |.need=>dr
 |.pack=>aU
 |.file=>agj
 |.lt=>TO
 |.source=>Source
 |.piece=>Piece
 |.recipe=>abz
 |.hunk=>afW
 |.rR=>List Bool
inductive aL:Type where
 |int (k:IntKind) (n:Int)
 |bool (b:Bool)
 |str (s:ak)
 |sl (t:aG) (xs:List (den t))
 |fn (g:FuncId) (bq:List (List aL))
 |map (t:aG) (es:List (ak×den t))
 |err (T:Nat) (D:Option Int)
def enc:(t:aG)->den t->List aL
 |.i64,n=>[.int .i64 n]
 |.u8,n=>[.int .u8 n]
 |.u32,n=>[.int .u32 n]
 |.bool,b=>[.bool b]
 |.str,s=>[.str s]
 |.entry,e=>[.str e.path,.int .i64 e.kind,.int .i64 e.mode,.str e.text]
 |.need,n=>[.str n.name,.int .i64 n.kind,.str n.bH]
 |.pack,p=>[.str p.name,.str p.bH,.sl .need p.bL,.sl .entry p.b4]
 |.file,f=>[.str f.name,.str f.text]
 |.lt,f=>[.str f.name,.str f.text]
 |.source,f=>[.str f.name,.str f.sum]
 |.piece,f=>[.str f.name,.str f.eQ]
 |.recipe,r=>[.str r.name,.str r.bH,.sl .lt r.lets,.sl .need r.builds,.sl .need r.runs,.sl .source r.sources,.sl .piece r.pieces,.sl .str r.steps]
 |.hunk,h=>[.int .i64 h.at_,.sl .str h.lines]
 |.rR,b=>[.sl .bool b]
def ar:aG->Nat
 |.i64|.u8|.u32|.bool|.str|.rR=>1
 |.entry=>4
 |.need=>3
 |.pack=>4
 |.file|.lt|.source|.piece|.hunk=>2
 |.recipe=>8
def dec:(t:aG)->List aL->Option (den t)
 |.i64,[.int .i64 n]=>some n
 |.u8,[.int .u8 n]=>some n
 |.u32,[.int .u32 n]=>some n
 |.bool,[.bool b]=>some b
 |.str,[.str s]=>some s
 |.entry,[.str a,.int .i64 k,.int .i64 m,.str b]=>some ⟨a,k,m,b⟩
 |.need,[.str a,.int .i64 k,.str b]=>some ⟨a,k,b⟩
 |.pack,[.str a,.str b,.sl .need aA,.sl .entry es]=>some ⟨a,b,aA,es⟩
 |.file,[.str a,.str b]=>some ⟨a,b⟩
 |.lt,[.str a,.str b]=>some ⟨a,b⟩
 |.source,[.str a,.str b]=>some ⟨a,b⟩
 |.piece,[.str a,.str b]=>some ⟨a,b⟩
 |.recipe,[.str a,.str b,.sl .lt U,.sl .need bs,.sl .need kr,.sl .source aP,.sl .piece ps,.sl .str cU]=>some ⟨a,b,U,bs,kr,aP,ps,cU⟩
 |.hunk,[.int .i64 n,.sl .str U]=>some ⟨n,U⟩
 |.rR,[.sl .bool b]=>some b
 |_,_=>none
theorem e8:∀(t:aG) (x:den t),(enc t x).length=ar t:=by
 intro t x;cases t<;>rfl
theorem iK(t:aG):0<ar t:=by cases t<;>decide
theorem nl:∀(t:aG) (ds:List aL) (x:den t),dec t ds=some x->enc t x=ds:=by
 intro t ds x h;unfold dec at h;split at h<;>first|(cases h;rfl)|cases h
def flat(t:aG)(xs:List (den t)):List aL:=xs.flatMap (enc t)
theorem dP(t:aG)(xs:List (den t)):(flat t xs).length=xs.length*ar t:=by
 unfold flat;induction xs with
 |nil=>simp
 |cons x xs ih=>simp[List.flatMap_cons,e8,ih,Nat.add_mul,Nat.add_comm]
theorem l7(t:aG)(xs ys:List (den t)):flat t (xs++ys)=flat t xs++flat t ys:=by
 simp[flat,List.flatMap_append]
theorem flat_get(t:aG)(xs:List (den t))(i j:Nat)(x:den t)(hx:xs[i]? =some x)(hj:j<ar t):
  (flat t xs)[i*ar t+j]? =(enc t x)[j]? :=by
 induction xs generalizing i with
 |nil=>simp at hx
 |cons y ys ih=>
  cases i with
  |zero=>
   simp only[List.getElem?_cons_zero,Option.some.injEq] at hx;subst hx;simp only[Nat.zero_mul,Nat.zero_add,flat,List.flatMap_cons];rw[List.getElem?_append_left (by rw[e8];exact hj)]
  |succ i=>
   simp only[List.getElem?_cons_succ] at hx;have:=ih i hx;simp only[flat,List.flatMap_cons] at this ⊢;rw[List.getElem?_append_right (by rw[e8,Nat.add_mul];omega),e8]
   rw[<-this];congr 1
   rw[Nat.add_mul];omega
theorem ZI(t:aG)(xs:List (den t))(i:Nat)(x:den t):
  flat t (xs.set i x)=(flat t xs).take (i*ar t)++(if i<xs.length then enc t x else [])++(flat t xs).drop ((i+1)*ar t):=by
 induction xs generalizing i with
 |nil=>simp[flat]
 |cons y ys ih=>
  cases i with
  |zero=>
   simp only[List.set_cons_zero,flat,List.flatMap_cons,Nat.zero_mul,List.take_zero,List.nil_append,List.length_cons,Nat.zero_lt_succ,if_true,Nat.zero_add,Nat.one_mul];rw[List.drop_append_of_le_length (by rw[e8];omega)]
   rw[show List.drop (ar t) (enc t y)=[] from List.drop_eq_nil_of_le (by rw[e8];exact Nat.le_refl _)]
   rfl
  |succ i=>
   have h:=ih i;simp only[flat] at h;simp only[List.set_cons_succ,flat,List.flatMap_cons,List.length_cons];rw[h];have e1:List.take ((i+1)*ar t) (enc t y++ys.flatMap (enc t))=enc t y++(ys.flatMap (enc t)).take (i*ar t):=by
    rw[List.take_append,List.take_of_length_le (by rw[e8,Nat.add_mul];omega),e8]
    congr 2
    rw[Nat.add_mul];omega
   have e2:List.drop ((i+1+1)*ar t) (enc t y++ys.flatMap (enc t))=(ys.flatMap (enc t)).drop ((i+1)*ar t):=by
    rw[List.drop_append,List.drop_eq_nil_of_le (by rw[e8,Nat.add_mul,Nat.add_mul];omega),e8,List.nil_append]
    congr 1
    rw[Nat.add_mul (i+1) 1];omega
   rw[e1,e2];simp only[Nat.add_lt_add_iff_right,List.append_assoc]
def qd:TypeId:=999999
def k6:TypeId:=5
def nP:List Nat:=[]
def oV(w:World):Prop:=True
theorem acG{w w':World}(h:∀b,b∈nP->w'.heap[b]? =w.heap[b]?)(k:oV w):oV w':=trivial
theorem ajb{w:World}(k:oV w)(b:Nat)(h:b∈nP):b<w.heap.size:=by
 unfold nP at h;cases h
inductive au:Type where
 |d (v:aL)
 |nil (t:aG) -- mG nil slice
 |own (o s:Nat) -- mG whole of a row of rF own
 |ptr (o s off:Nat) -- a pointer amu a box of rF own
 |ee (cells:List aL) (off:Nat) -- a pointer AL cells uv Hb only read
 |ej (o s:Nat) (t:aG) (k off:Nat) -- a pointer AL alY k of a row of rF own,Gm cell 'oz
 |clo (g:FuncId) (bq:List (Nat×Nat)) -- a closure over boxes of rF own
 |cx (v:Value) -- ams this value
 |fresh (t:aG) (xs:List (den t)) -- a row uv al4 else holds (aal caller and callee alone)
 |fS (t:aG) (xs:List (den t)) -- mG same,with mG rows in Gm elements
 |eu -- in a acK first cell:nil,or mG acK own address (strings.al0)
 |any
inductive br:Type where
 |ai (l:au)
 |agg (U:List au)
inductive aK:Type where
 |av (a:br)
 |iY (as:List br)
inductive Site:Type where
 |box (s:Nat) (cells:List au)
 |row (s:Nat) (t:aG) (xs:List (den t))
 |cQ (s:Nat) (t:aG) (xs:List (den t))
 |map (s:Nat) (t:aG) (es:List (ak×den t))
 |deep (s:Nat) (t:aG) (xs:List (den t)) -- a row of rF own with mG rows in Gm elements
 |dead (s:Nat)
def Site.bX:Site->Nat
 |.box s _|.row s _ _|.cQ s _ _|.map s _ _|.deep s _ _|.dead s=>s
def Site.live:Site->Bool
 |.box _ _|.row _ _ _|.map _ _ _|.deep _ _ _=>true
 |_=>false
def look{aE:Type}:List (Nat×aE)->Nat->Option aE
 |[],_=>none
 |(k,v)::r,n=>bif k.beq n then some v else look r n
def b3{aE:Type}:List (Nat×aE)->Nat->aE->List (Nat×aE)
 |[],n,v=>[(n,v)]
 |(k,w)::r,n,v=>bif k.beq n then(k,v)::r else(k,w)::b3 r n v
theorem iW{a b:Nat}(h:¬a=b):a.beq b=false:=by
 cases e:a.beq b
 ·rfl
 ·exact absurd (Nat.eq_of_beq_eq_true e) h
theorem ck{aE:Type}(l:List (Nat×aE))(n m:Nat)(v:aE):look (b3 l n v) m=if n=m then some v else look l m:=by
 induction l with
 |nil=>
  simp only[b3,look];by_cases h:n=m
  ·subst h;simp
  ·have:n.beq m=false:=iW h;simp[this,h]
 |cons p l ih=>
  obtain⟨k,w⟩:=p;simp only[b3];by_cases h:k=n
  ·subst h;simp only[Nat.beq_refl,cond_true,look];by_cases hm:k=m
   ·subst hm;simp
   ·have:k.beq m=false:=iW hm;simp[this,hm]
  ·have hb:k.beq n=false:=iW h;simp only[hb,cond_false,look];by_cases hm:k=m
   ·subst hm;have:¬n=k:=fun e=>h e.symm
    simp[this]
   ·have:k.beq m=false:=iW hm;simp[this,ih]
structure ad where
 cC:List (Nat×aK)
 sites:List (Nat×Site)
 nt:Nat
def ad.get(st:ad)(t:Nat):aK:=match look st.cC t with|some v=>v|none=>.av (.ai .any)
def ad.O(st:ad)(o:Nat):Option Site:=look st.sites o
def ad.set(st:ad)(t:Nat)(v:aK):ad:={st with cC:=b3 st.cC t v}
def ad.dh(st:ad)(o:Nat)(s:Site):ad:={st with sites:=b3 st.sites o s}
@[simp] theorem ad.Ds(st:ad)(t u:Nat)(v:aK):(st.set t v).get u=if t=u then v else st.get u:=by
 unfold ad.set ad.get;rw[ck];by_cases h:t=u<;>simp[h]
@[simp] theorem ad.Y2(st:ad)(t o:Nat)(v:aK):(st.set t v).O o=st.O o:=rfl
@[simp] theorem ad.abe(st:ad)(t:Nat)(v:aK):(st.set t v).nt=st.nt:=rfl
@[simp] theorem ad.VF(st:ad)(o u:Nat)(s:Site):(st.dh o s).get u=st.get u:=rfl
@[simp] theorem ad.l6(st:ad)(o F:Nat)(s:Site):(st.dh o s).O F=if o=F then some s else st.O F:=by
 unfold ad.dh ad.O;simp only[ck]
@[simp] theorem ad.Wm(st:ad)(o:Nat)(s:Site):(st.dh o s).nt=st.nt:=rfl
def mR:(t:aG)->den t->Value
 |.i64,n=>.int .i64 n
 |.bool,b=>.bool b
 |_,_=>undef
def gy(l:ak):Value:=.string ⟨l.toArray⟩
def mj(arr:Array MapEntry):List (Value×Value):=arr.toList.map fun e=>(e.key,e.val)
def jt(t:aG)(es:List (ak×den t)):List (Value×Value):=es.map fun p=>(gy p.1,mR t p.2)
def lq(w:World)(b:Nat)(t:aG)(es:List (ak×den t)):Prop:=∃arr clock,w.heap[b]? =some (.map arr clock)/\mj arr=jt t es
theorem lq.of{w w':World}{b:Nat}{t:aG}{es:List (ak×den t)}(h:w'.heap[b]? =w.heap[b]?)(m:lq w b t es):lq w' b t es:=by
 obtain⟨arr,c,h1,h2⟩:=m;exact⟨arr,c,h.trans h1,h2⟩
theorem lq.lt{w:World}{b:Nat}{t:aG}{es:List (ak×den t)}(m:lq w b t es):b<w.heap.size:=by
 obtain⟨arr,c,h1,h2⟩:=m;rcases Nat.lt_or_ge b w.heap.size with h|h
 ·exact h
 ·rw[Array.getElem?_eq_none h] at h1;cases h1
inductive ba(w:World)(av:Nat->Prop):aL->Value->Prop where
 |int (k:IntKind) (n:Int):ba w av (.int k n) (.int k n)
 |bool (b:Bool):ba w av (.bool b) (.bool b)
 |str (l:ak) (s:ByteArray) (h:s.data.toList=l):ba w av (.str l) (.string s)
 |nil (t:aG):ba w av (.sl t []) (.slice none 0 0)
 |sl (t:aG) (xs:List (den t)) (a:Addr) (cap:Nat) (cs:List Value) (n:Nat) (hn:n=xs.length) (hcap:n<=cap) (hb:xs≠[]->¬av a.block)
   (hl:cs.length=(flat t xs).length)
   (hc:∀j u,cs[j]? =some u->w.cell? (a.add j)=some u)
   (hr:∀j (h:j<(flat t xs).length) (ab:j<cs.length),ba w av ((flat t xs)[j]) (cs[j])):ba w av (.sl t xs) (.slice (some a) n cap)
 |fn (g:FuncId) (bq:List (List aL)) (bs:List Nat) (ie:Nat->List Value) (lb:Array Value) (Am:lb=(bs.map fun b=>Value.pointer (some ⟨b,0,none⟩)).toArray) (oS:bs.length=bq.length)
   (hb:∀b,b∈bs->¬av b) (aW:∀b,b∈bs->b<w.heap.size)
   (hl:∀i (h:i<bq.length),(ie i).length=(bq[i]).length)
   (hc:∀i (h:i<bs.length) j u,(ie i)[j]? =some u->w.cell? ⟨bs[i],j,none⟩=some u)
   (hr:∀i (h:i<bq.length) j (h1:j<(bq[i]).length) (h2:j<(ie i).length),ba w av ((bq[i])[j]) ((ie i)[j])):
   ba w av (.fn g bq) (.func (.func g) #[] lb)
 |r_ (t:aG):ba w av (.map t []) (.map none)
 |map (t:aG) (es:List (ak×den t)) (b:Nat) (hb:¬av b) (hm:lq w b t es):ba w av (.map t es) (.map (some b))
 |pN (T:TypeId):ba w av (.err T none) .nilIface
 |err (T:TypeId) (n:Int):ba w av (.err T (some n)) (.iface T (.agg #[.int .i64 n]))
theorem ba.hY{w:World}{av:Nat->Prop}{d:aL}{v:Value}(r:ba w av d v):v.oneCell'=true:=by
 cases r<;>rfl
def uO(v:Value):Prop:=v=.slice none 0 0\/∃b n c,v=.slice (some ⟨b,0,none⟩) n c
def a8:Value->Option Nat
 |.slice (some a) _ _=>some a.block
 |.pointer (some a)=>some a.block
 |.map (some b)=>some b
 |_=>none
def bT:Value->Value
 |.tuple vs=>vs.toList.headD undef
 |v=>v
def bA:Value->List Nat
 |.tuple vs=>vs.toList.flatMap fun v=>(a8 v).toList
 |v=>(a8 v).toList
theorem fR{v:Value}{b:Nat}(h:a8 v=some b):b∈bA v:=by
 cases v<;>first|(show b∈(a8 _).toList;rw[h];simp)|cases h
section
variable (B:Nat->Value)(sites:List (Nat×Site))(w:World)(av:Nat->Prop)
def Ref(o s:Nat)(p:Prop):Prop:=∃O,look sites o=some O/\s<=O.bX/\(O.bX=s->p)
def dd:au->Value->Prop
 |.d x,v=>ba w av x v
 |.nil _,v=>v=.slice none 0 0
 |.own o s,v=>v.oneCell'=true/\Ref sites o s (v=bT (B o))
 |.ptr o s off,v=>∃b,v=.pointer (some ⟨b,off,none⟩)/\Ref sites o s (bT (B o)=.pointer (some ⟨b,0,none⟩))
 |.ee cells off,v=>∃b D,v=.pointer (some ⟨b,D+off,none⟩)/\¬av b/\b<w.heap.size/\∃cs:List Value,cs.length=cells.length/\(∀j u,cs[j]? =some u->w.cell? ⟨b,D+j,none⟩=some u)/\
   ∀j (h:j<cells.length) (ab:j<cs.length),ba w av (cells[j]) (cs[j])
 |.ej o s t k off,v=>∃b,v=.pointer (some ⟨b,k*ar t+off,none⟩)/\Ref sites o s (∃n c,bT (B o)=.slice (some ⟨b,0,none⟩) n c)
 |.clo g bq,v=>∃vs:List Value,v=.func (.func g) #[] vs.toArray/\vs.length=bq.length/\∀i (h:i<bq.length) (ab:i<vs.length),Ref sites (bq[i]).1 (bq[i]).2 (vs[i]=bT (B (bq[i]).1))
 |.cx u,v=>v=u
 |.fresh _ _,_=>False
 |.fS _ _,_=>False
 |.eu,_=>True
 |.any,_=>True
def aG.ek:aG->Bool
 |.u8=>true
 |_=>false
def kX(u:Bool)(e:TypeId)(cur:Array Value)(bv:Nat×Nat):Prop:=(u=true->e=k6)/\(bv=(0,0)\/u=true/\cur.size<=bv.1)
def rowAt(w:World)(u:Bool)(e:TypeId)(size:Nat)(v:Value)(n:Nat)(xs:List Value):Prop:=
 xs.length=n*size/\((v=.slice none 0 0/\n=0)\/
  ∃g cap cur bv,v=.slice (some ⟨g,0,none⟩) n cap/\kX u e cur bv/\w.heap[g]? =some (.cells cur e bv)/\n<=cap/\cap<=maxLen/\cur.size=cap*size/\cur.toList.take (n*size)=xs)
theorem tc(w:World)(u:Bool)(e:TypeId)(size:Nat):rowAt w u e size (.slice none 0 0) 0 []:=⟨by simp,.inl ⟨rfl,rfl⟩⟩
theorem iq{w:World}{u:Bool}{e:TypeId}{size:Nat}{v:Value}{n:Nat}{xs:List Value}(h:rowAt w u e size v n xs):bT v=v/\bA v=(a8 v).toList:=by
 rcases h.2 with⟨rfl,_⟩|⟨g,cap,cur,bv,rfl,_⟩<;>exact⟨rfl,rfl⟩
theorem tB{w:World}{u:Bool}{e:TypeId}{size:Nat}{v:Value}{n:Nat}{xs:List Value}{b:Nat}(h:rowAt w u e size v n xs)(hb:b∈bA v):a8 v=some b:=by
 rw[(iq h).2] at hb;simpa using hb
theorem pb{w w':World}{u:Bool}{e:TypeId}{size:Nat}{v:Value}{n:Nat}{xs:List Value}(h:rowAt w u e size v n xs)(hb:∀b,a8 v=some b->w'.heap[b]? =w.heap[b]?):rowAt w' u e size v n xs:=by
 refine⟨h.1,?_⟩;rcases h.2 with hn|⟨g,cap,cur,bv,hv,r1,r2,ib⟩
 ·exact .inl hn
 ·refine .inr ⟨g,cap,cur,bv,hv,r1,?_,ib⟩;rw[hb g (by rw[hv];rfl)];exact r2
def cf(w:World)(av:Nat->Prop)(ds:List aL)(vs:List Value):Prop:=vs.length=ds.length/\∀j (h:j<ds.length) (ab:j<vs.length),ba w av (ds[j]) (vs[j])
def aL.plain:aL->Bool
 |.sl _ _|.fn _ _|.map _ _=>false
 |_=>true
inductive Deep(w:World)(av:Nat->Prop):List aL->List Value->List Value->Prop where
 |nil:Deep w av [] [] []
 |row (u:aG) (ys:List (den u)) (e:TypeId) (U:List Value) (al:∀d,d∈flat u ys->d.plain=true) {c:Value} {ds:List aL} {cs aA:List Value} (h:rowAt w u.ek e (ar u) c ys.length U) (hr:cf w av (flat u ys) U) (k:Deep w av ds cs aA):Deep w av (.sl u ys::ds) (c::cs) (c::aA)
 |leaf {d:aL} {c:Value} {ds:List aL} {cs aA:List Value} (al:d.plain=true) (h:ba w av d c) (k:Deep w av ds cs aA):Deep w av (d::ds) (c::cs) aA
def mv(cells:List au)(T:TypeId)(cur:List Value)(b:Nat):Prop:=cells.head?=some .eu->T=qd/\(cur.head?=some (.pointer none)\/cur.head?=some (.pointer (some ⟨b,0,none⟩)))
def fW:br->Value->Prop
 |.ai l,v=>dd B sites w av l v
 |.agg U,v=>∃vs:List Value,v=.agg vs.toArray/\vs.length=U.length/\∀j (h:j<U.length) (ab:j<vs.length),dd B sites w av (U[j]) (vs[j])
def b9:aK->Value->Prop
 |.av a,v=>fW B sites w av a v
 |.iY as,v=>∃vs:List Value,v=.tuple vs.toArray/\vs.length=as.length/\∀j (h:j<as.length) (ab:j<vs.length),fW B sites w av (as[j]) (vs[j])
def ir(o:Nat):Site->Prop
 |.box _ cells=>∃b T,∃cur:List Value,B o=.pointer (some ⟨b,0,none⟩)/\w.heap[b]? =some (.cells cur.toArray T (0,0))/\cur.length=cells.length/\
   (∀u∈cur,u.oneCell'=true)/\mv cells T cur b/\∀j (h:j<cells.length) (ab:j<cur.length),dd B sites w av (cells[j]) (cur[j])
 |.row _ t xs=>∃e,∃cs:List Value,rowAt w t.ek e (ar t) (B o) xs.length cs/\∀j (h:j<(flat t xs).length) (ab:j<cs.length),ba w av ((flat t xs)[j]) (cs[j])
 |.cQ _ t xs=>ba w av (.sl t xs) (bT (B o))/\uO (bT (B o))
 |.map _ t es=>∃b,B o=.map (some b)/\lq w b t es
 |.deep _ t xs=>∃e v,∃aA cs:List Value,B o=.tuple (v::aA).toArray/\(bA (B o)).Nodup/\rowAt w t.ek e (ar t) v xs.length cs/\Deep w av (flat t xs) cs aA
 |.dead _=>True
end
theorem ij{v:Value}{aA:List Value}{b:Nat}:b∈bA (.tuple (v::aA).toArray) <-> a8 v=some b\/∃n,n∈aA/\a8 n=some b:=by
 simp[bA]
def bS(sites:List (Nat×Site))(o:Nat):Prop:=∃O,look sites o=some O/\O.live=true
def an(X:Nat->Prop)(B:Nat->Value)(sites:List (Nat×Site))(b:Nat):Prop:=X b\/∃o,bS sites o/\b∈bA (B o)
structure Fr(J:List Nat)(L w:World):Prop where
 os:w.os=L.os
 tape:w.tape=L.tape
 output:w.output=L.output
 size:L.heap.size<=w.heap.size
 block:∀b,b<L.heap.size->b∉J->w.heap[b]? =L.heap[b]?
theorem Fr.refl(J:List Nat)(w:World):Fr J w w:=⟨rfl,rfl,rfl,Nat.le_refl _,fun _ _ _=>rfl⟩
structure hK(w:World)(J:List Nat)(X:Nat->Prop):Prop where
 ok:oV w
 J:∀b,b∈nP->b∉J
 X:∀b,b∈nP->¬X b
 lt:∀b,b∈nP->b<w.heap.size
theorem hK.less{w:World}{J:List Nat}{X X':Nat->Prop}(G:hK w J X)(h:∀b,b∈nP->X' b->X b):hK w J X':=⟨G.ok,G.J,fun b hb hx=>G.X b hb (h b hb hx),G.lt⟩
theorem hK.acj{w:World}{J:List Nat}{X X':Nat->Prop}(G:hK w J X)(h:∀b,X' b->X b\/b∈J):hK w J X':=⟨G.ok,G.J,fun b hb hx=>(h b hx).elim (G.X b hb) (G.J b hb),G.lt⟩
structure af(L:World)(J:List Nat)(X:Nat->Prop)(B:Nat->Value)(st:ad)(tm:Array Value)(w:World):Prop where
 nt:tm.size=st.nt
 cC:∀t,b9 B st.sites w (an X B st.sites) (st.get t) (tm.getD t undef)
 sites:∀o O,look st.sites o=some O->ir B st.sites w (an X B st.sites) o O
 c':∀o F b,bS st.sites o->bS st.sites F->b∈bA (B o)->b∈bA (B F)->o=F
 b2:∀o b,bS st.sites o->b∈bA (B o)->¬X b/\(b∈J\/L.heap.size<=b)
 frame:Fr J L w
 old:∀b,X b->b<w.heap.size
 eQ:hK L J X
inductive cd:Type where
 |none
 |int (k:IntKind)
 |bool
 |str
 |ptr
 |func
 |slice (e:TypeId) (t:aG) (bytes:Nat)
 |struct (bF:List (Nat×Nat)) (n:Nat) (z:List au) (eq:Bool)
 |map (k e:TypeId) (t:aG)
 |arr (e:TypeId) (t:aG) (n:Nat)
 |iface
def vS:(t:aG)->Option (den t)
 |.i64|.u8|.u32=>some (0:Int)
 |.bool=>some false
 |.str=>some ([]:ak)
 |_=>none
def sp:aG->Option au
 |.i64=>some (.d (.int .i64 0))
 |.u8=>some (.d (.int .u8 0))
 |.u32=>some (.d (.int .u32 0))
 |.bool=>some (.d (.bool false))
 |.str=>some (.d (.str []))
 |_=>none
def cd.agg:cd->Bool
 |.struct _ _ _ _|.arr _ _ _=>true
 |_=>false
def cd.known:cd->Bool
 |.none=>false
 |_=>true
def cd.size:cd->Nat
 |.struct _ n _ _=>n
 |.arr _ _ n=>n
 |_=>1
def cd.zero:cd->Option (List au)
 |.none=>Option.none
 |.int k=>some [.d (.int k 0)]
 |.bool=>some [.d (.bool false)]
 |.str=>some [.d (.str [])]
 |.ptr=>some [.cx (.pointer Option.none)]
 |.func=>some [.cx .nilFunc]
 |.slice _ t _=>some [.nil t]
 |.struct _ _ z _=>some z
 |.map _ _ _=>some [.cx (.map Option.none)]
 |.arr _ t n=>(sp t).map (List.replicate n)
 |.iface=>some [.cx .nilIface]
inductive Arg:Type where
 |av (a:br)
 |dH (cells:List au)
structure uM:Type 1 where
 H:Type
 comp:Option H
 dH:H->List (List au)
 eN:H->List br
 ew:H->List au -- rows uv amj acE,as amk amH back
abbrev a0:=List Arg->uM
def uM.fail:uM:=⟨Unit,Option.none,fun _=>[],fun _=>[],fun _=>[]⟩
structure Ctx:Type 1 where
 tt:TypeId->cd
 bF:FuncId->Option a0
 kp:FuncId->Option FuncId:=fun _=>none
 mU:FuncId->Bool:=fun _=>false
 op:FuncId->Bool:=fun _=>false
 g8:FuncId->Bool:=fun _=>false -- a Ys copy check
 bs:FuncId->Bool:=fun _=>false -- a Ys String
 gt:Nat->Option ((t:aG)×List (den t)):=fun _=>none -- mG alV tables
 dO:Bool:=false -- rows of rows Hb made as rF own,whole
structure c4:Type 1 where
 H:Type
 comp:Option H
 val:H->aK
 us:H->List (Nat×Site)
 qg:H->Bool
def c4.fail:c4:=⟨Unit,Option.none,fun _=>.av (.ai .any),fun _=>[],fun _=>false⟩
def c4.ok(v:aK):c4:=⟨Unit,some (),fun _=>v,fun _=>[],fun _=>true⟩
def c4.e3(v:aK)(us:List (Nat×Site)):c4:=⟨Unit,some (),fun _=>v,fun _=>us,fun _=>true⟩
def c4.d'{H:Type}(c:Option H)(f:H->aK):c4:=⟨H,c,f,fun _=>[],fun _=>true⟩
def c4.eY{H:Type}(c:Option H)(f:H->aK)(us:H->List (Nat×Site)):c4:=⟨H,c,f,us,fun _=>true⟩
def bg{aE:Type}(xs:List aE)(i:Int):Option aE:=if 0<=i then xs[i.toNat]? else none
def fa(n:Nat)(i:Int):Option Nat:=if 0<=i/\i<n then some i.toNat else none
def dA{aE:Type}(xs:List aE)(cE hi:Int):Option (List aE):=if 0<=cE/\cE<=hi/\hi<=xs.length then some ((xs.take hi.toNat).drop cE.toNat) else none
def room:Nat:=140737488355328
def dB{aE:Type}(bytes:Nat)(xs ys:List aE):Option (List aE):=if(xs.length+ys.length)*bytes<=room/\xs.length+ys.length<=maxLen then some (xs++ys) else none
def nQ(s t:ak):Option ak:=if((s.length+t.length:Nat):Int)>IntKind.i64.max then none else some (s++t)
def r3(k:IntKind)(x y:Int):Option Int:=if y=0 then none else some (k.wrap (x.tdiv y))
def rY(x y:Int):Option Int:=if y=0 then none else some (x.tmod y)
def EY(k:IntKind)(x y:Int):Option Int:=if y<0 then none else some (k.wrap (x*2^(min y.toNat k.bits)))
def ns(k:IntKind)(x y:Int):Option Int:=if y<0 then none else some (x.fdiv (2^(min y.toNat k.bits)))
def lF{aE:Type}(bytes:Nat)(n c:Int)(z:aE):Option (List aE):=if 0<=n/\n<=c/\c*bytes<=room/\c<=maxLen then some (List.replicate n.toNat z) else none
def gz(x y:Int):Int:=if y>x then y else x
def zF(x y:Int):Int:=if y<x then y else x
def Pz(k:IntKind)(x y:Int):Int:=k.wrap (BitVec.ofInt k.bits x &&& BitVec.ofInt k.bits y).toNat
def QZ(k:IntKind)(x y:Int):Int:=k.wrap (BitVec.ofInt k.bits x ||| BitVec.ofInt k.bits y).toNat
def rV(k:IntKind)(x y:Int):Int:=k.wrap (BitVec.ofInt k.bits x ^^^ BitVec.ofInt k.bits y).toNat
def bytesOf(s:ak):List Int:=s.map fun b=>(b.toNat:Int)
def strOf(xs:List Int):ak:=xs.map fun n=>UInt8.ofNat n.toNat
abbrev one(d:aL):aK:=.av (.ai (.d d))
abbrev bJ(l:au):aK:=.av (.ai l)
def tN(ti:cd):Value->aK
 |.int k n=>one (.int k n)
 |.bool b=>one (.bool b)
 |.string s=>one (.str s.data.toList)
 |.slice none 0 0=>match ti with|.slice _ t _=>bJ (.nil t)|_=>bJ (.cx (.slice none 0 0))
 |.map none=>match ti with|.map _ _ t=>one (.map t [])|_=>bJ (.cx (.map none))
 |.agg _|.tuple _=>bJ .any
 |v=>bJ (.cx v)
def aO(C:Ctx)(st:ad)(T:TypeId):Operand->aK
 |.tmp t=>st.get t
 |.const v=>tN (C.tt T) v
 |.global g=>bJ (.cx (.pointer (some ⟨g,0,none⟩)))
 |.func f=>bJ (.clo f [])
def rowOf(st:ad)(o s:Nat):Option ((t:aG)×List (den t)):=
 match st.O o with
 |some (.row am t xs)=>bif am.beq s then some ⟨t,xs⟩ else none
 |some (.cQ am t xs)=>bif am.beq s then some ⟨t,xs⟩ else none
 |_=>none
def lj(st:ad)(o s:Nat):Option ((t:aG)×List (den t)):=
 match st.O o with
 |some (.deep am t xs)=>bif am.beq s then some ⟨t,xs⟩ else none
 |_=>none
def ow(st:ad)(o s:Nat):Option ((t:aG)×List (den t)):=match rowOf st o s with
 |some x=>some x
 |none=>lj st o s
def fq(st:ad)(o s:Nat):Option (List au):=
 match st.O o with
 |some (.box am cells)=>bif am.beq s then some cells else none
 |_=>none
def mapOf(st:ad):au->Option ((t:aG)×List (ak×den t))
 |.d (.map t es)=>some ⟨t,es⟩
 |.own o s=>match st.O o with
  |some (.map am t es)=>bif am.beq s then some ⟨t,es⟩ else none
  |_=>none
 |_=>none
def jY{aE:Type}:List (ak×aE)->ak->Option aE
 |[],_=>none
 |(k,v)::r,n=>bif k==n then some v else jY r n
def oh{aE:Type}:List (ak×aE)->ak->aE->List (ak×aE)
 |[],n,v=>[(n,v)]
 |(k,w)::r,n,v=>bif k==n then(k,v)::r else(k,w)::oh r n v
def EW:(t:aG)->aL->Option (den t)
 |.i64,.int .i64 n=>some n
 |.bool,.bool b=>some b
 |_,_=>none
def uo:(t:aG)->Option (den t)->Option aL
 |.i64,D=>some (.int .i64 (D.getD 0))
 |.bool,D=>some (.bool (D.getD false))
 |_,_=>none
def aV(st:ad)(o:Nat):Nat:=match st.O o with|some x=>x.bX+1|none=>0
def lz(st:ad)(o s:Nat)(t:aG)(xs:List (den t)):List (Nat×Site):=match st.O o with
 |some (.cQ _ _ _)=>[]
 |_=>[(o,.cQ s t xs)]
def jc(st:ad):au->Option (aL×List (Nat×Site))
 |.d v=>some (v,[])
 |.nil t=>some (.sl t [],[])
 |.own o s=>match rowOf st o s with
  |some ⟨t,xs⟩=>some (.sl t xs,lz st o s t xs)
  |none=>match lj st o s with
   |some ⟨t,xs⟩=>some (.sl t xs,[(o,.cQ s t xs)])
   |none=>none
 |.clo g []=>some (.fn g [],[])
 |_=>none
def gX(st:ad):List au->Option (List aL×List (Nat×Site))
 |[]=>some ([],[])
 |l::U=>match jc st l,gX st U with
  |some (d,us),some (ds,vs)=>some (d::ds,us++vs)
  |_,_=>none
def aG.gS:aG->Bool
 |.pack|.recipe|.hunk|.rR=>true
 |_=>false
def sink(st:ad):au->Option (aL×List (Nat×Site))
 |.d (.int k n)=>some (.int k n,[])
 |.d (.bool b)=>some (.bool b,[])
 |.d (.str s)=>some (.str s,[])
 |.nil t=>some (.sl t [],[])
 |.own o s=>match st.O o with
  |some (.row am t xs)=>bif am.beq s&&!t.gS then some (.sl t xs,[(o,.dead s)]) else none
  |_=>none
 |_=>none
def sinks(st:ad):List au->Option (List aL×List (Nat×Site))
 |[]=>some ([],[])
 |l::U=>match sink st l,sinks st U with
  |some (d,us),some (ds,vs)=>some (d::ds,us++vs)
  |_,_=>none
def br.cells:br->List au
 |.ai l=>[l]
 |.agg U=>U
def au.storable:au->Bool
 |.any|.eu|.fresh _ _|.fS _ _|.ee _ _|.ej _ _ _ _ _=>false
 |.cx (.agg _)|.cx (.tuple _)=>false
 |_=>true
def gf:List au->Bool
 |[]=>true
 |l::U=>l.storable&&gf U
def cut(agg:Bool)(off n:Nat)(U:List au):Option aK:=
 bif agg then(bif Nat.ble (off+n) U.length then some (.av (.agg ((U.drop off).take n))) else none)
 else match U.drop off with|l::_=>some (bJ l)|[]=>none
def cy(ds:List aL):List au:=ds.map .d
def bd{aE:Type}(old:List aE)(off:Nat)(new:List aE):List aE:=old.take off++new++old.drop (off+new.length)
def yJ:aL->aL->Option Bool
 |.int k a,.int k' b=>if k=k' then some (a==b) else none
 |.bool a,.bool b=>some (a==b)
 |.str a,.str b=>some (a==b)
 |_,_=>none
def tO:List au->List au->Option Bool
 |[.d a],[.d b]=>yJ a b
 |.d a::as,.d b::bs=>match yJ a b,tO as bs with
  |some x,some y=>some (x&&y)
  |_,_=>none
 |_,_=>none
def Ni(op:BinOp)(k:IntKind)(x y:Int):c4:=
 match op with
 |.add=>.ok (one (.int k (k.wrap (x+y))))
 |.sub=>.ok (one (.int k (k.wrap (x-y))))
 |.mul=>.ok (one (.int k (k.wrap (x*y))))
 |.quo=>.d' (r3 k x y) fun n=>one (.int k n)
 |.rem=>.d' (rY x y) fun n=>one (.int k n)
 |.and=>.ok (one (.int k (Pz k x y)))
 |.or=>.ok (one (.int k (QZ k x y)))
 |.xor=>.ok (one (.int k (rV k x y)))
 |.eql=>.ok (one (.bool (x==y)))
 |.neq=>.ok (one (.bool (x !=y)))
 |.lss=>.ok (one (.bool (decide (x<y))))
 |.leq=>.ok (one (.bool (decide (x<=y))))
 |.gtr=>.ok (one (.bool (decide (x>y))))
 |.geq=>.ok (one (.bool (decide (x>=y))))
 |_=>.fail
def M2(op:BinOp)(s t:ak):c4:=
 match op with
 |.add=>.d' (nQ s t) fun r=>one (.str r)
 |.eql=>.ok (one (.bool (s==t)))
 |.neq=>.ok (one (.bool (!(s==t))))
 |.lss=>.ok (one (.bool (Op.bytesLess s t)))
 |.leq=>.ok (one (.bool (Op.bytesLess s t||s==t)))
 |.gtr=>.ok (one (.bool (!(Op.bytesLess s t||s==t))))
 |.geq=>.ok (one (.bool (!(Op.bytesLess s t))))
 |_=>.fail
def Mj(op:BinOp)(k:IntKind)(a:Int)(k':IntKind)(b:Int):c4:=
 match op with
 |.shl=>.d' (EY k a b) fun n=>one (.int k n)
 |.shr=>.d' (ns k a b) fun n=>one (.int k n)
 |op=>if k=k' then Ni op k a b else .fail
def MF(op:BinOp)(ti:cd)(a b:Bool):c4:=
 match ti with
 |.bool=>match op with
  |.eql=>.ok (one (.bool (a==b)))
  |.neq=>.ok (one (.bool (!(a==b))))
  |_=>.fail
 |_=>.fail
def pM:List au->List au->Bool
 |[],[]=>true
 |.d (.int _ _)::z,.d (.int _ _)::l=>pM z l
 |.d (.bool _)::z,.d (.bool _)::l=>pM z l
 |.d (.str _)::z,.d (.str _)::l=>pM z l
 |_,_=>false
def Nz(op:BinOp)(ti:cd)(xs ys:List au):c4:=
 match ti with
 |.struct _ n z true=>bif xs.length.beq n&&pM z xs then
   match tO xs ys with
   |some b=>match op with
    |.eql=>.ok (one (.bool b))
    |.neq=>.ok (one (.bool (!b)))
    |_=>.fail
   |none=>.fail
  else .fail
 |_=>.fail
def zu(op:BinOp)(ti:cd)(D:Option Int):c4:=
 match ti with
 |.iface=>match op with
  |.eql=>.ok (one (.bool D.isNone))
  |.neq=>.ok (one (.bool D.isSome))
  |_=>.fail
 |_=>.fail
def yL:Operand->Bool
 |.const .nilIface=>true
 |_=>false
def Er(op:BinOp)(ti:cd):aK->c4
 |.av (.ai (.d (.err _ D)))=>zu op ti D
 |.av (.ai (.cx .nilIface))=>zu op ti none
 |_=>.fail
def FO(op:BinOp)(ti:cd)(x y:aK):c4:=
 match x,y with
 |.av (.ai (.d (.int k a))),.av (.ai (.d (.int k' b)))=>Mj op k a k' b
 |.av (.ai (.d (.str s))),.av (.ai (.d (.str t)))=>M2 op s t
 |.av (.ai (.d (.bool a))),.av (.ai (.d (.bool b)))=>MF op ti a b
 |.av (.agg xs),.av (.agg ys)=>Nz op ti xs ys
 |_,_=>.fail
def rJ(agg:Bool)(n:Nat)(st:ad)(a:aK):c4:=
 match a with
 |.av (.ai (.ptr o s off))=>match fq st o s with
  |some cells=>match cut agg off n cells with|some v=>.ok v|none=>.fail
  |none=>.fail
 |.av (.ai (.ee cells off))=>match cut agg off n (cy cells) with|some v=>.ok v|none=>.fail
 |.av (.ai (.ej o s u k off))=>match rowOf st o s with
  |some ⟨t,xs⟩=>if t=u/\off+n<=ar t then .d' (xs[k]?) fun x=>match cut agg off n (cy (enc t x)) with|some v=>v|none=>bJ .any else .fail
  |none=>.fail
 |_=>.fail
def keys{aE:Type}:List (Nat×aE)->List Nat
 |[]=>[]
 |p::r=>p.1::keys r
def fE(n:Nat):List Nat->Bool
 |[]=>false
 |m::r=>n.beq m||fE n r
def eH:List Nat->Bool
 |[]=>true
 |n::r=>!fE n r&&eH r
def aL.hN:aL->Bool
 |.int _ _|.bool _|.str _=>true
 |_=>false
def q'(n:Nat)(st:ad)(a:aK)(v:br):c4:=
 bif v.cells.length.beq n then
 match a with
 |.av (.ai (.ptr o s off))=>match fq st o s with
  |some cells=>bif Nat.ble (off+n) cells.length&&gf v.cells then .e3 (bJ (.cx undef)) [(o,.box s (bd cells off v.cells))] else .fail
  |none=>.fail
 |.av (.ai (.ej o s u k off))=>match st.O o with
  |some (.row am t xs)=>bif am.beq s&&Nat.ble (off+n) (ar t)&&decide (t=u) then
    match gX st v.cells with
    |some (ds,us)=>bif(look us o).isNone then .eY ((xs[k]?).bind fun x=>dec t (bd (enc t x) off ds)) (fun _=>bJ (.cx undef)) fun x=>us++[(o,.row s t (xs.set k x))] else .fail
    |none=>.fail
   else .fail
  |some (.deep am t xs)=>bif am.beq s&&decide (t=u) then(bif off.beq 0&&n.beq (ar t) then
    match sinks st v.cells with
    |some (ds,us)=>bif(look us o).isNone&&eH (keys us) then .eY ((xs[k]?).bind fun _=>dec t ds) (fun _=>bJ (.cx undef)) fun x=>us++[(o,.deep s t (xs.set k x))] else .fail
    |none=>.fail
   else match v.cells with
    |[.d d]=>bif d.hN&&Nat.blt off (ar t) then .eY ((xs[k]?).bind fun x=>dec t (bd (enc t x) off [d])) (fun _=>bJ (.cx undef)) fun x=>[(o,.deep s t (xs.set k x))] else .fail
    |_=>.fail)
   else .fail
  |_=>.fail
 |_=>.fail
 else .fail
def qD(u:aG)(st:ad)(x:aK)(i:Int):c4:=
 match x with
 |.av (.ai (.d (.sl t xs)))=>if t=u then .d' (bg xs i) fun x=>bJ (.ee (enc t x) 0) else .fail
 |.av (.ai (.own o s))=>match ow st o s with
  |some ⟨t,xs⟩=>if t=u then .d' (fa xs.length i) fun k=>bJ (.ej o s t k 0) else .fail
  |none=>.fail
 |_=>.fail
def Bk(off:Nat):aK->c4
 |.av (.ai (.ptr o s D))=>.ok (bJ (.ptr o s (D+off)))
 |.av (.ai (.ee cells D))=>.ok (bJ (.ee cells (D+off)))
 |.av (.ai (.ej o s t k D))=>.ok (bJ (.ej o s t k (D+off)))
 |_=>.fail
def h3(kV:Int):Option aK->Option Int
 |none=>some kV
 |some (.av (.ai (.d (.int _ n))))=>some n
 |some _=>none
def rc(ti:cd)(st:ad)(x:aK)(cE hi:Option aK):c4:=
 match x with
 |.av (.ai (.d (.str s)))=>match ti,h3 0 cE,h3 s.length hi with
  |.str,some l,some h=>.d' (dA s l h) fun r=>one (.str r)
  |_,_,_=>.fail
 |.av (.ai (.d (.sl t xs)))=>match ti,h3 0 cE,h3 xs.length hi with
  |.slice _ u _,some l,some h=>if t=u then .d' (dA xs l h) fun r=>one (.sl t r) else .fail
  |_,_,_=>.fail
 |.av (.ai (.nil t))=>match ti,h3 0 cE,h3 0 hi with
  |.slice _ _ _,some l,some h=>.d' (dA ([]:List (den t)) l h) fun r=>one (.sl t r)
  |_,_,_=>.fail
 |.av (.ai (.own o s))=>match rowOf st o s with
  |some ⟨t,xs⟩=>match ti,h3 0 cE,h3 xs.length hi with
   |.slice _ u _,some l,some h=>if t=u then .eY (dA xs l h) (fun r=>one (.sl t r)) fun _=>lz st o s t xs else .fail
   |_,_,_=>.fail
  |none=>.fail
 |_=>.fail
def r'(ti:cd)(st:ad)(x:aK):c4:=
 match ti,x with
 |.str,.av (.ai (.d (.str s)))=>.ok (one (.int .i64 s.length))
 |.slice _ _ _,.av (.ai (.d (.sl _ xs)))=>.ok (one (.int .i64 xs.length))
 |.slice _ _ _,.av (.ai (.nil _))=>.ok (one (.int .i64 0))
 |.slice _ _ _,.av (.ai (.own o s))=>match ow st o s with
  |some ⟨_,xs⟩=>.ok (one (.int .i64 xs.length))
  |none=>.fail
 |.map _ _ _,.av (.ai l)=>match mapOf st l with
  |some ⟨_,es⟩=>.ok (one (.int .i64 es.length))
  |none=>.fail
 |_,_=>.fail
def rA(st:ad):aK->Option aL
 |.av (.ai (.d (.sl t xs)))=>some (.sl t xs)
 |.av (.ai (.d (.str s)))=>some (.str s)
 |.av (.ai (.nil t))=>some (.sl t [])
 |.av (.ai (.own o s))=>match rowOf st o s with|some ⟨t,xs⟩=>some (.sl t xs)|none=>none
 |_=>none
def pj(bytes:Nat)(t:aG)(dst:Nat)(st:ad)(s:aK)(ys:List (den t)):c4:=
 match s with
 |.av (.ai (.nil _))=>.eY (dB bytes [] ys) (fun _=>bJ (.own dst (aV st dst))) fun r=>[(dst,.row (aV st dst) t r)]
 |.av (.ai (.own o s))=>match st.O o with
  |some (.row am bc xs)=>bif am.beq s then
    if ab:bc=t then .eY (dB bytes (ab▸xs:List (den t)) ys) (fun _=>bJ (.own dst (aV (st.dh o (.dead s)) dst)))
     fun r=>[(o,.dead s),(dst,.row (aV (st.dh o (.dead s)) dst) t r)]
    else .fail
   else .fail
  |_=>.fail
 |_=>.fail
def q7(bytes:Nat)(t:aG)(dst:Nat)(st:ad)(s x:aK):c4:=
 match rA st x with
 |none=>.fail
 |some d=>match d with
  |.sl u ys=>if h:u=t then pj bytes t dst st s (h▸ys:List (den t)) else .fail
  |_=>.fail
def q9(bytes:Nat)(t:aG)(dst:Nat)(st:ad)(s x:aK):c4:=
 match x with
 |.av (.ai (.own F u))=>match lj st F u with
  |some ⟨bc,ys⟩=>if h:bc=t then(match s with
   |.av (.ai (.nil _))=>.eY (dB bytes [] (h▸ys:List (den t))) (fun _=>bJ (.own dst (aV (st.dh F (.dead u)) dst))) fun r=>[(F,.dead u),(dst,.deep (aV (st.dh F (.dead u)) dst) t r)]
   |.av (.ai (.own o s))=>match lj st o s with
    |some ⟨t2,xs⟩=>if h2:t2=t then(bif o.beq F then .fail else
      .eY (dB bytes (h2▸xs:List (den t)) (h▸ys)) (fun _=>bJ (.own dst (aV ((st.dh F (.dead u)).dh o (.dead s)) dst)))
       fun r=>[(F,.dead u),(o,.dead s),(dst,.deep (aV ((st.dh F (.dead u)).dh o (.dead s)) dst) t r)]) else .fail
    |none=>.fail
   |_=>.fail) else .fail
  |none=>.fail
 |_=>.fail
def tW(st:ad):aK->Bool
 |.av (.ai (.own o s))=>(lj st o s).isSome
 |_=>false
def q8(bytes:Nat)(t:aG)(dst:Nat)(st:ad)(s x:aK):c4:=
 match x with
 |.av (.ai (.d (.str y)))=>if h:t=.u8 then pj bytes t dst st s (h▸(bytesOf y:List (den .u8))) else .fail
 |_=>.fail
def pI(dO:Bool)(bytes o:Nat)(st:ad)(ty:aG)(n m:Int)(z:List au):c4:=match bif dO&&ty.gS then sinks st z else none with
 |some (ds,us)=>match dec ty ds with
  |some ea=>bif us.isEmpty then .eY (lF bytes n m ea) (fun _=>bJ (.own o (aV st o))) fun r=>[(o,.deep (aV st o) ty r)] else .fail
  |none=>.fail
 |none=>match gX st z with
  |some (ds,_)=>match dec ty ds with
   |some ea=>.eY (lF bytes n m ea) (fun _=>bJ (.own o (aV st o))) fun r=>[(o,.row (aV st o) ty r)]
   |none=>.fail
  |none=>.fail
def kW(t:aG)(st:ad):List br->Option (List (den t)×List (Nat×Site))
 |[]=>some ([],[])
 |a::as=>match gX st a.cells with
  |some (ds,us)=>match dec t ds,kW t st as with
   |some x,some (xs,vs)=>some (x::xs,us++vs)
   |_,_=>none
  |none=>none
def me(t:aG)(st:ad):List br->Option (List (den t)×List (Nat×Site))
 |[]=>some ([],[])
 |a::as=>match sinks st a.cells with
  |some (ds,us)=>match dec t ds,me t st as with
   |some x,some (xs,vs)=>some (x::xs,us++vs)
   |_,_=>none
  |none=>none
def lC:aK->Option br
 |.av a=>some a
 |.iY _=>none
def mu:List aK->Option (List br)
 |[]=>some []
 |v::vs=>match lC v,mu vs with|some a,some as=>some (a::as)|_,_=>none
def od:Nat->List (Nat×Operand)->Bool
 |_,[]=>true
 |n,(i,_)::r=>i.beq n&&od (n+1) r
def isByte:cd->Bool
 |.int .u8=>true
 |_=>false
def rQ(C:Ctx)(src dst:TypeId)(o:Nat)(st:ad)(x:aK):c4:=
 match C.tt src,C.tt dst,x with
 |.none,_,_=>.fail
 |_,.int k,.av (.ai (.d (.int _ n)))=>.ok (one (.int k (k.wrap n)))
 |_,.str,.av (.ai (.d (.str s)))=>.ok (one (.str s))
 |.slice e .u8 _,.str,.av (.ai (.d (.sl .u8 xs)))=>bif isByte (C.tt e) then .ok (one (.str (strOf xs))) else .fail
 |.slice e .u8 _,.str,.av (.ai (.nil _))=>bif isByte (C.tt e) then .ok (one (.str [])) else .fail
 |.slice e .u8 _,.str,.av (.ai (.own F s))=>match rowOf st F s with
  |some ⟨.u8,xs⟩=>bif isByte (C.tt e) then .ok (one (.str (strOf xs))) else .fail
  |_=>.fail
 |.str,.slice e .u8 _,.av (.ai (.d (.str s)))=>bif isByte (C.tt e) then .eY (if s.length<=maxLen then some () else none) (fun _=>bJ (.own o (aV st o))) fun _=>[(o,.row (aV st o) .u8 (bytesOf s))] else .fail
 |_,_,_=>.fail
def kN(st:ad):List (Nat×Nat)->Option (List (List aL)×List (Nat×Site)×List Nat)
 |[]=>some ([],[],[])
 |(o,s)::r=>match fq st o s with
  |some cells=>match gX st cells,kN st r with
   |some (ds,us),some (rest,vs,bs)=>some (ds::rest,us++vs,o::bs)
   |_,_=>none
  |none=>none
def my(st:ad):au->Option (au×List (Nat×Site)×List Nat)
 |.ee cells 0=>some (.ee cells 0,[],[])
 |.clo g (c::cs)=>match kN st (c::cs) with|some (ds,us,bs)=>some (.d (.fn g ds),us,bs)|none=>none
 |l=>match jc st l with|some (d,us)=>some (.d d,us,[])|none=>none
def lm(st:ad):List au->Option (List au×List (Nat×Site)×List Nat)
 |[]=>some ([],[],[])
 |l::U=>match my st l,lm st U with
  |some (a,us,bs),some (as,vs,cs)=>some (a::as,us++vs,bs++cs)
  |_,_=>none
def ms(st:ad):au->Option (au×List (Nat×Site))
 |.d v=>some (.d v,[])
 |.nil t=>some (.fresh t [],[])
 |.own o s=>match st.O o with
  |some (.row am t xs)=>bif am.beq s then some (.fresh t xs,[(o,.dead s)]) else none
  |some (.cQ am t xs)=>bif am.beq s then some (.d (.sl t xs),[]) else none
  |some (.deep am t xs)=>bif am.beq s then some (.fS t xs,[(o,.dead s)]) else none
  |_=>none
 |.eu=>some (.eu,[])
 |.cx v=>some (.cx v,[])
 |_=>none
def uc:List au->List au
 |.cx (.pointer none)::r=>.eu::r
 |l=>l
def jy(st:ad):List au->Option (List au×List (Nat×Site))
 |[]=>some ([],[])
 |l::U=>match ms st l,jy st U with
  |some (a,us),some (as,vs)=>some (a::as,us++vs)
  |_,_=>none
structure jB where
 as:List Arg
 er:List (Nat×Site) -- rows uv Hb er,as al2 anv frozen
 fp:List Nat -- boxes uv Hb er
 gone:List (Nat×Site) -- boxes uv go over,and rows in aml
 boxes:List (Nat×Nat) -- mG boxes:O,bX
 rows:List (Option (Nat×Nat)) -- mG cells of ami holds acE rows:a ama O,bX
def io(st:ad):List aK->Option jB
 |[]=>some ⟨[],[],[],[],[],[]⟩
 |.av (.ai (.ptr o s 0))::vs=>match fq st o s,io st vs with
  |some cells,some r=>match jy st cells with
   |some (cs,gone)=>some ⟨.dH cs::r.as,r.er,r.fp,((o,.dead s)::gone)++r.gone,(o,s)::r.boxes,r.rows⟩
   |none=>none
  |_,_=>none
 |.av (.ai l)::vs=>match my st l,io st vs with
  |some (a,us,bs),some r=>some ⟨.av (.ai a)::r.as,us++r.er,bs++r.fp,r.gone,r.boxes,[]⟩
  |_,_=>none
 |.av (.agg U)::vs=>match lm st U,io st vs with
  |some (as,us,bs),some r=>some ⟨.av (.agg as)::r.as,us++r.er,bs++r.fp,r.gone,r.boxes,[]⟩
  |_,_=>none
 |_::_=>none
def li(st:ad):au->Option (au×List (Nat×Site)×List (Nat×Site)×List Nat)
 |.own o s=>match ms st (.own o s) with|some (a,us)=>some (a,us,[],[])|none=>none
 |.nil t=>some (.fresh t [],[],[],[])
 |l=>match my st l with|some (a,us,bs)=>some (a,[],us,bs)|none=>none
def lg(st:ad):List au->Option (List au×List (Nat×Site)×List (Nat×Site)×List Nat)
 |[]=>some ([],[],[],[])
 |l::U=>match li st l,lg st U with
  |some (a,us,bF,bs),some (as,vs,gs,cs)=>some (a::as,us++vs,bF++gs,bs++cs)
  |_,_=>none
def au.qV:au->Bool
 |.fresh _ _|.fS _ _=>false
 |_=>true
def fQ:List au->Bool
 |[]=>true
 |l::U=>l.qV&&fQ U
def kS(st:ad):au->Option (Nat×Nat)
 |.own o s=>match st.O o with
  |some (.row _ _ _)|some (.deep _ _ _)=>some (o,s)
  |_=>none
 |_=>none
def np(st:ad)(U df:List au):List (Option (Nat×Nat)):=bif fQ df then [] else U.map (kS st)
def jU(st:ad):List aK->Option jB
 |[]=>some ⟨[],[],[],[],[],[]⟩
 |.av (.ai l)::vs=>match li st l,jU st vs with
  |some (a,us,U,bs),some r=>some ⟨.av (.ai a)::r.as,U++r.er,bs++r.fp,us++r.gone,r.boxes,np st [l] [a]++r.rows⟩
  |_,_=>none
 |.av (.agg as)::vs=>match lg st as,jU st vs with
  |some (je,us,U,bs),some r=>some ⟨.av (.agg je)::r.as,U++r.er,bs++r.fp,us++r.gone,r.boxes,np st as je++r.rows⟩
  |_,_=>none
 |_::_=>none
def qX(b:Bool)(st:ad)(vs:List aK):Option jB:=bif b then jU st vs else io st vs
def au.gS:au->Bool
 |.d (.sl _ _)|.d (.fn _ _)|.d (.map _ _)=>true
 |.d _=>false
 |.fresh t _=>t.gS
 |.eu|.cx _|.fS _ _=>false
 |_=>true
def na:List au->Bool
 |[]=>false
 |l::U=>l.gS||na U
def qG:List br->Bool
 |[]=>false
 |a::as=>na a.cells||qG as
def qF:List (List au)->Bool
 |[]=>false
 |a::as=>na a||qF as
def take(st:ad)(n:Nat):List au->List au×List (Nat×Site)
 |[]=>([],[])
 |.fresh t xs::U=>let r:=take st (n+1) U;(.own n (aV st n)::r.1,(n,.row (aV st n) t xs)::r.2)
 |.fS t xs::U=>let r:=take st (n+1) U;(.own n (aV st n)::r.1,(n,.deep (aV st n) t xs)::r.2)
 |l::U=>let r:=take st (n+1) U;(l::r.1,r.2)
def dC(st:ad)(n:Nat):List br->List br×List (Nat×Site)
 |[]=>([],[])
 |.ai l::as=>let x:=take st n [l];let r:=dC st (n+100) as;((match x.1 with|[fk]=>.ai fk|U=>.agg U)::r.1,x.2++r.2)
 |.agg U::as=>let x:=take st n U;let r:=dC st (n+100) as;(.agg x.1::r.1,x.2++r.2)
def eV(st:ad):List (Nat×Nat)->List (List au)->List (Nat×Site)
 |(o,s)::bs,cs::cp=>let x:=take st (1000000+o*100) cs;x.2++(o,.box s x.1)::eV st bs cp
 |_,_=>[]
def n':List (Option (Nat×Nat))->List Nat
 |[]=>[]
 |none::r=>n' r
 |some p::r=>p.1::n' r
def eI:List (Option (Nat×Nat))->List au->List (Nat×Site)
 |some (o,s)::r,.fresh t xs::U=>(o,.row s t xs)::eI r U
 |some (o,s)::r,.fS t xs::U=>(o,.deep s t xs)::eI r U
 |_::r,_::U=>eI r U
 |_,_=>[]
def M4:List br->aK
 |[a]=>.av a
 |as=>.iY as
def eL:List Nat->List Nat->Bool
 |[],_=>true
 |n::r,l=>!fE n l&&eL r l
def ov(dst:Nat)(st:ad)(S:a0)(a:jB):c4:=
 let r:=S a.as
 {H:=r.H,comp:=r.comp
  val:=fun y=>M4 (dC st (2000000+dst*10000) (r.eN y)).1
  us:=fun y=>(bif qG (r.eN y)||qF (r.dH y)||na (r.ew y) then a.er else [])++a.gone++(eV st a.boxes (r.dH y)++eI a.rows (r.ew y))++(dC st (2000000+dst*10000) (r.eN y)).2
  qg:=fun y=>eH (keys a.gone)&&eL (keys a.er++a.fp) (keys a.gone)&&eH (keys ((eV st a.boxes (r.dH y)++eI a.rows (r.ew y))++(dC st (2000000+dst*10000) (r.eN y)).2))&&
   eL (keys a.er++a.fp) (keys ((eV st a.boxes (r.dH y)++eI a.rows (r.ew y))++(dC st (2000000+dst*10000) (r.eN y)).2))&&(!(qG (r.eN y)||qF (r.dH y)||na (r.ew y))||a.fp.isEmpty)&&(eH (n' a.rows)&&eL (n' a.rows) (keys (eV st a.boxes (r.dH y))))}
def callee(v:aK):Option (FuncId×List (Nat×Nat)):=
 match v with
 |.av (.ai (.clo g bq))=>some (g,bq)
 |_=>none
def f_(C:Ctx)(st:ad):List Operand->List TypeId->List aK
 |[],_=>[]
 |x::xs,[]=>aO C st 0 x::f_ C st xs []
 |x::xs,T::cI=>aO C st T x::f_ C st xs cI
def kK:List (List aL)->List Arg
 |[]=>[]
 |c::cs=>.av (.ai (.ee c 0))::kK cs
def rb(g:FuncId)(n:Nat)(st:ad):List aK->c4
 |[.av (.ai (.d (.str s))),.av (.ai (.d (.str p)))]=>.e3 (bJ (.clo g [(n,aV st n),(n+1,aV st (n+1)),(n+2,aV st (n+2))]))
   [(n,.box (aV st n) [.d (.str p)]),(n+1,.box (aV st (n+1)) [.d (.str s)]),(n+2,.box (aV st (n+2)) [.d (.int .i64 0)])]
 |_=>.fail
def copyV(st:ad):List aK->c4
 |[.av (.ai (.ptr o s 0))]=>match st.O o with
  |some (.box am [.eu,l])=>bif am.beq s then .e3 (.iY []) [(o,.box s [.eu,l])] else .fail
  |_=>.fail
 |_=>.fail
def qT(st:ad):List aK->c4
 |[.av (.ai (.ptr o s 0))]=>match fq st o s with
  |some [_,.nil .u8]=>.ok (one (.str []))
  |some [_,.own F u]=>match st.O F with
   |some (.row bx .u8 xs)=>bif bx.beq u then .e3 (one (.str (strOf xs))) [(F,.cQ u .u8 xs)] else .fail
   |_=>.fail
  |_=>.fail
 |_=>.fail
def rD(n:Nat)(st:ad):List aK->c4
 |[.av (.ai (.d (.sl .u8 xs)))]=>.e3 (bJ (.ptr n (aV st n) 0)) [(n,.box (aV st n) [.d (.sl .u8 (xs.take 2000)),.d (.int .i64 0)])]
 |_=>.fail
def lf(C:Ctx)(dst:Nat)(st:ad)(f:aK)(vs:List aK):c4:=
  match f with
  |.av (.ai (.clo g bq))=>match C.kp g with
   |some cr=>match bq with
    |[]=>rb cr (3000000+dst*10) st vs
    |_=>.fail
   |none=>bif C.op g then(match bq with
    |[]=>rD (4000000+dst) st vs
    |_=>.fail) else bif C.g8 g then(match bq with
    |[]=>copyV st vs
    |_=>.fail) else bif C.bs g then(match bq with
    |[]=>qT st vs
    |_=>.fail) else match C.bF g,qX (C.mU g) st vs,kN st bq with
    |some S,some a,some (cs,us,bs)=>ov dst st S {a with as:=a.as++kK cs,er:=a.er++us,fp:=a.fp++bs}
    |_,_,_=>.fail
  |.av (.ai (.d (.fn g bq)))=>match C.bF g,io st vs with
    |some S,some a=>ov dst st S {a with as:=a.as++kK bq}
    |_,_=>.fail
  |_=>.fail
def zU(t:aG)(xs:List (den t))(n:Nat):List au:=match vS t with
 |some z=>(List.range n).flatMap fun j=>cy (enc t (xs.getD j z))
 |none=>[]
def sj(t:aG):List au->Option (List (den t))
 |[]=>some []
 |.d d::U=>match dec t [d],sj t U with
  |some x,some xs=>some (x::xs)
  |_,_=>none
 |_=>none
def long{aE:Type}(n:Nat)(xs:List aE):Option (List aE):=if xs.length=n then some xs else none
def pH(o:Nat)(st:ad)(t:aG)(n:Nat)(xs:List (den t)):c4:=bif xs.length.beq n&&Nat.ble n 1000 then .e3 (bJ (.ej o (aV st o) t 0 0)) [(o,.row (aV st o) t xs)] else .fail
def ru(o:Nat)(st:ad)(t:aG)(n:Nat):c4:=match vS t with
 |some z=>pH o st t n (List.replicate n z)
 |none=>.fail
def sn(o:Nat)(st:ad)(t:aG)(n:Nat)(v:aK):c4:=match v with
 |.av (.agg U)=>match sj t U with
  |some xs=>pH o st t n xs
  |none=>.fail
 |_=>.fail
def rK(st:ad)(t:aG)(n:Nat)(a:aK):c4:=match a with
 |.av (.ai (.ej o s u 0 0))=>match rowOf st o s with
  |some ⟨bc,xs⟩=>if bc=t/\bc=u then .d' (long n xs) fun xs=>.av (.agg (zU bc xs n)) else .fail
  |none=>.fail
 |_=>.fail
def ra(st:ad)(t:aG)(n:Nat)(a:aK)(v:br):c4:=match a,v with
 |.av (.ai (.ej o s u 0 0)),.agg U=>match st.O o with
  |some (.row am bc xs)=>if bc=t/\bc=u/\am=s then(match sj bc U with
   |some ys=>bif ys.length.beq n then .eY (long n xs) (fun _=>bJ (.cx undef)) fun _=>[(o,.row s bc ys)] else .fail
   |none=>.fail) else .fail
  |_=>.fail
 |_,_=>.fail
def qE(C:Ctx)(st:ad)(t:aG)(n:Nat)(x:aK)(i:Int):c4:=match x with
 |.av (.ai (.ej o s u 0 0))=>match rowOf st o s with
  |some ⟨bc,xs⟩=>if bc=t/\bc=u then .d' ((long n xs).bind fun xs=>fa xs.length i) fun k=>bJ (.ej o s bc k 0) else .fail
  |none=>.fail
 |.av (.ai (.cx (.pointer (some ⟨g,0,none⟩))))=>match C.gt g with
  |some ⟨bc,xs⟩=>bif decide (bc=t)&&xs.length.beq n then .d' (bg xs i) fun x=>bJ (.ee (enc bc x) 0) else .fail
  |none=>.fail
 |_=>.fail
def Ej(t:aG)(n:Nat)(x:aK)(i:Int):c4:=match x with
 |.av (.agg U)=>match sj t U with
  |some xs=>bif xs.length.beq n then .d' (bg xs i) fun x=>(match enc t x with|[d]=>bJ (.d d)|_=>bJ .any) else .fail
  |none=>.fail
 |_=>.fail
def re(st:ad)(t:aG)(n:Nat)(x:aK)(cE hi:Option aK):c4:=match x with
 |.av (.ai (.ej o s u 0 0))=>match rowOf st o s,h3 0 cE,h3 n hi with
  |some ⟨bc,xs⟩,some l,some h=>if bc=t/\bc=u then .eY ((long n xs).bind fun xs=>dA xs l h) (fun r=>bJ (.d (.sl bc r))) fun _=>lz st o s bc xs else .fail
  |_,_,_=>.fail
 |_=>.fail
def kI(C:Ctx)(st:ad)(D:Oper):c4:=
 match D.op with
 |.makeMap t r=>match D.dst,C.tt t with
  |some o,.map _ _ ty=>match r with
   |none=>.e3 (bJ (.own o (aV st o))) [(o,.map (aV st o) ty [])]
   |some x=>match aO C st 0 x with
    |.av (.ai (.d (.int _ _)))=>.e3 (bJ (.own o (aV st o))) [(o,.map (aV st o) ty [])]
    |_=>.fail
  |_,_=>.fail
 |.mapUpdate t m k x=>rj C st t m k x
 |.insert t m k x=>rj C st t m k x
 |.lookup t m k c=>match C.tt t,aO C st t m,aO C st 0 k with
  |.map _ _ ty,.av (.ai l),.av (.ai (.d (.str n)))=>match mapOf st l with
   |some ⟨u,es⟩=>bif decide (u=ty) then(match uo u (jY es n) with
    |some d=>.ok (bif c then .iY [.ai (.d d),.ai (.d (.bool (jY es n).isSome))] else one d)
    |none=>.fail) else .fail
   |none=>.fail
  |_,_,_=>.fail
 |.makeInterface t x=>match C.tt t,aO C st t x with
  |.struct _ _ _ _,.av (.agg [.d (.int .i64 n)])=>.ok (one (.err t (some n)))
  |_,_=>.fail
 |_=>.fail
where
 rj (C:Ctx) (st:ad) (t:TypeId) (m k x:Operand):c4:=match C.tt t,aO C st t m,aO C st 0 k,aO C st 0 x with
  |.map _ _ ty,.av (.ai (.own o s)),.av (.ai (.d (.str n))),.av (.ai (.d d))=>match st.O o with
   |some (.map am u es)=>bif am.beq s&&decide (u=ty) then(match EW u d with
    |some v=>.e3 (bJ (.cx undef)) [(o,.map s u (oh es n v))]
    |none=>.fail) else .fail
   |_=>.fail
  |_,_,_,_=>.fail
def step(C:Ctx)(st:ad)(D:Oper):c4:=
 match D.op with
 |.move x|.assign x=>.ok (aO C st D.type x)
 |.pick c a b=>match aO C st D.type c with
  |.av (.ai (.d (.bool true)))=>.ok (aO C st D.type a)
  |.av (.ai (.d (.bool false)))=>.ok (aO C st D.type b)
  |_=>.fail
 |.alloc elem=>match D.dst,C.tt elem with
  |some o,.arr _ t n=>ru o st t n
  |some o,ti=>match ti.zero with
   |some z=>.e3 (bJ (.ptr o (aV st o) 0)) [(o,.box (aV st o) (bif elem.beq qd then uc z else z))]
   |none=>.fail
  |_,_=>.fail
 |.box elem x=>match D.dst,C.tt elem with
  |some o,.arr _ t n=>sn o st t n (aO C st elem x)
  |some o,_=>match lC (aO C st elem x) with
   |some a=>bif gf a.cells then .e3 (bJ (.ptr o (aV st o) 0)) [(o,.box (aV st o) a.cells)] else .fail
   |none=>.fail
  |_,_=>.fail
 |.build t parts=>match C.tt t with
  |.struct bF _ z _=>mm C st bF z parts.toList
  |.arr _ ty n=>match sp ty with
   |some z=>mm C st ((List.range n).map fun j=>(j,1)) (List.replicate n z) parts.toList
   |none=>.fail
  |_=>.fail
 |.buildSlice t len parts=>match D.dst,C.tt t with
  |some o,.slice e ty _=>bif parts.toList.length.beq len&&od 0 parts.toList&&Nat.ble (len*ar ty) 1000 then
    match mu (parts.toList.map fun p=>aO C st e p.2) with
    |some as=>match bif C.dO&&ty.gS then me ty st as else none with
     |some (xs,us)=>bif eH (keys us)&&(look us o).isNone then .e3 (bJ (.own o (aV st o))) (us++[(o,.deep (aV st o) ty xs)]) else .fail
     |none=>match kW ty st as with
      |some (xs,us)=>.e3 (bJ (.own o (aV st o))) (us++[(o,.row (aV st o) ty xs)])
      |none=>.fail
    |none=>.fail
   else .fail
  |_,_=>.fail
 |.load t a=>match C.tt t with
  |.arr _ ty n=>rK st ty n (aO C st t a)
  |ti=>bif ti.known then rJ ti.agg ti.size st (aO C st t a) else .fail
 |.store t a x=>match lC (aO C st t x) with
  |some v=>match C.tt t with
   |.arr _ ty n=>ra st ty n (aO C st t a) v
   |ti=>bif ti.known then q' ti.size st (aO C st t a) v else .fail
  |none=>.fail
 |.nilCheck x=>match aO C st D.type x with
  |.av (.ai (.ptr o s f))=>.ok (bJ (.ptr o s f))
  |.av (.ai (.ee cs f))=>.ok (bJ (.ee cs f))
  |.av (.ai (.ej o s t k f))=>.ok (bJ (.ej o s t k f))
  |_=>.fail
 |.binOp op t x y _=>bif yL y then Er op (C.tt t) (aO C st t x) else FO op (C.tt t) (aO C st t x) (aO C st t y)
 |.unOp op _ x=>match op,aO C st D.type x with
  |.not,.av (.ai (.d (.bool b)))=>.ok (one (.bool (!b)))
  |.neg,.av (.ai (.d (.int k n)))=>.ok (one (.int k (k.wrap (0-n))))
  |.xor,.av (.ai (.d (.int k n)))=>.ok (one (.int k (rV k (if k.signed then-1 else k.max) n)))
  |_,_=>.fail
 |.convert src dst x=>(match D.dst with|some o=>rQ C src dst o st (aO C st src x)|none=>.fail)
 |.makeFunc fn first captured=>match fn with
  |.func g=>bif first.toList.isEmpty then(match nq C st captured.toList with|some bq=>.ok (bJ (.clo g bq))|none=>.fail) else .fail
  |_=>.fail
 |.makeSlice t l c=>match D.dst,C.tt t,aO C st 0 l,aO C st 0 c with
  |some o,.slice e ty bytes,.av (.ai (.d (.int _ n))),.av (.ai (.d (.int _ m)))=>match(C.tt e).zero with
   |some z=>pI C.dO bytes o st ty n m z
   |none=>.fail
  |_,_,_,_=>.fail
 |.slice t x cE hi AN=>match AN with
  |none=>match C.tt t with
   |.arr _ ty n=>re st ty n (aO C st t x) (cE.map (aO C st 0)) (hi.map (aO C st 0))
   |ti=>rc ti st (aO C st t x) (cE.map (aO C st 0)) (hi.map (aO C st 0))
  |some _=>.fail
 |.fieldAddr s x f=>match C.tt s with
  |.struct bF _ _ _=>match bF[f]? with
   |some (off,_)=>Bk off (aO C st 0 x)
   |none=>.fail
  |_=>.fail
 |.indexAddr t x i=>match C.tt t,aO C st 0 i with
  |.slice _ ty _,.av (.ai (.d (.int _ n)))=>qD ty st (aO C st t x) n
  |.arr _ ty m,.av (.ai (.d (.int _ n)))=>qE C st ty m (aO C st t x) n
  |_,_=>.fail
 |.index t x i=>match C.tt t,aO C st t x,aO C st 0 i with
  |.str,.av (.ai (.d (.str s))),.av (.ai (.d (.int _ n)))=>.d' (bg s n) fun b=>one (.int .u8 b.toNat)
  |.arr _ ty m,v,.av (.ai (.d (.int _ n)))=>Ej ty m v n
  |_,_,_=>.fail
 |.extract t i=>match aO C st 0 t with
  |.iY as=>match as[i]? with
   |some a=>.ok (.av a)
   |none=>.fail
  |_=>.fail
 |.call c=>match c.callee with
  |.value f=>match D.dst with
   |some d=>lf C d st (aO C st 0 f) (f_ C st c.args.toList c.argTypes.toList)
   |none=>lf C 0 st (aO C st 0 f) (f_ C st c.args.toList c.argTypes.toList)
  |.builtin b=>match b,D.dst,c.args.toList,c.argTypes.toList with
   |.len,_,[x],[t]=>r' (C.tt t) st (aO C st t x)
   |.append,some o,[s,x],[t,u]=>match C.tt t,C.tt u with
    |.slice _ ty bytes,.slice _ _ _=>bif tW st (aO C st u x) then q9 bytes ty o st (aO C st t s) (aO C st u x) else q7 bytes ty o st (aO C st t s) (aO C st u x)
    |.slice _ ty bytes,.str=>q8 bytes ty o st (aO C st t s) (aO C st u x)
    |_,_=>.fail
   |.max,_,[x,y],_=>match aO C st D.type x,aO C st D.type y with
    |.av (.ai (.d (.int k a))),.av (.ai (.d (.int _ b)))=>.ok (one (.int k (gz a b)))
    |_,_=>.fail
   |.max,_,[x,y,z,u,v],_=>match aO C st D.type x,aO C st D.type y,aO C st D.type z,aO C st D.type u,aO C st D.type v with
    |.av (.ai (.d (.int k a))),.av (.ai (.d (.int _ b))),.av (.ai (.d (.int _ c))),.av (.ai (.d (.int _ d))),.av (.ai (.d (.int _ e)))=>.ok (one (.int k (gz (gz (gz (gz a b) c) d) e)))
    |_,_,_,_,_=>.fail
   |.min,_,[x,y],_=>match aO C st D.type x,aO C st D.type y with
    |.av (.ai (.d (.int k a))),.av (.ai (.d (.int _ b)))=>.ok (one (.int k (zF a b)))
    |_,_=>.fail
   |_,_,_,_=>.fail
  |_=>.fail
 |_=>kI C st D
where
 mm (C:Ctx) (st:ad) (bF:List (Nat×Nat)):List au->List (Nat×Operand)->c4
  |z,[]=>.ok (.av (.agg z))
  |z,(i,x)::r=>match bF[i]?,lC (aO C st 0 x) with
   |some (off,n),some a=>bif a.cells.length.beq n&&gf a.cells&&Nat.ble (off+n) z.length then mm C st bF (bd z off a.cells) r else .fail
   |_,_=>.fail
 nq (C:Ctx) (st:ad):List Operand->Option (List (Nat×Nat))
  |[]=>some []
  |x::r=>match aO C st 0 x,nq C st r with
   |.av (.ai (.ptr o s 0)),some l=>some ((o,s)::l)
   |_,_=>none
def D2(C:Ctx)(st:ad)(D:Oper):Option (((t:aG)×List (den t))×Bool):=
 match D.op with
 |.binOp op T x (.const (.slice none 0 0)) _=>match C.tt T with
  |.slice _ _ _=>match op with
   |.eql=>match aO C st T x with
    |.av (.ai (.d (.sl t xs)))=>some (⟨t,xs⟩,false)
    |_=>none
   |.neq=>match aO C st T x with
    |.av (.ai (.d (.sl t xs)))=>some (⟨t,xs⟩,true)
    |_=>none
   |_=>none
  |_=>none
 |_=>none
def au.names:au->List Nat
 |.own o _|.ptr o _ _|.ej o _ _ _ _=>[o]
 |.clo _ bq=>keys bq
 |_=>[]
def cN:List au->List Nat
 |[]=>[]
 |l::U=>l.names++cN U
def n_:List br->List Nat
 |[]=>[]
 |a::as=>cN a.cells++n_ as
def aK.names:aK->List Nat
 |.av a=>cN a.cells
 |.iY as=>n_ as
def wB(st:ad)(o:Nat):List Nat:=match st.O o with
 |some (.box _ cells)=>cN cells
 |_=>[]
def ep(st:ad):List Nat->List Nat
 |[]=>[]
 |o::r=>o::(wB st o++ep st r)
def kO:Op->List Operand
 |.move x|.assign x|.makeInterface _ x|.box _ x|.load _ x|.nilCheck x|.unOp _ _ x|.convert _ _ x|.fieldAddr _ x _|.extract x _=>[x]
 |.pick c a b=>[c,a,b]
 |.build _ ps|.buildSlice _ _ ps=>ps.toList.map (·.2)
 |.store _ a v|.binOp _ _ a v _|.makeSlice _ a v|.indexAddr _ a v|.index _ a v=>[a,v]
 |.makeFunc _ _ captured=>captured.toList
 |.slice _ x l h _=>x::(l.toList++h.toList)
 |.call c=>(match c.callee with|.value f=>[f]|_=>[])++c.args.toList
 |.lookup _ m k _=>[m,k]
 |.mapUpdate _ m k x|.insert _ m k x=>[m,k,x]
 |.makeMap _ r=>r.toList
 |_=>[]
def nh(st:ad):List Operand->List Nat
 |[]=>[]
 |.tmp t::r=>(st.get t).names++nh st r
 |_::r=>nh st r
def oa:List Operand->List Nat
 |[]=>[]
 |.tmp t::r=>t::oa r
 |_::r=>oa r
def yM:Op->Bool
 |.call c=>match c.callee with
  |.value _=>true
  |_=>false
 |_=>false
def Ex(C:Ctx):Op->List Nat
 |.makeSlice t _ _=>match C.tt t with
  |.slice e _ _=>match(C.tt e).zero with
   |some z=>cN z
   |none=>[]
  |_=>[]
 |_=>[]
def looks:Op->Bool
 |.load _ _|.store _ _ _|.slice _ _ _ _ _|.indexAddr _ _ _|.convert _ _ _|.buildSlice _ _ _|.call _|.lookup _ _ _ _|.mapUpdate _ _ _ _|.insert _ _ _ _=>true
 |_=>false
def EM(C:Ctx)(st:ad)(D:Oper):List Nat:=(bif looks D.op then ep st (nh st (kO D.op)) else [])++D.dst.toList++Ex C D.op
def KO(u:Nat):List Oper->List Nat
 |[]=>[]
 |D::r=>(match D.op,D.dst with
  |.move (.tmp t),some d=>bif Nat.beq d u then [t] else []
  |_,_=>[])++KO u r
def B5(all:List Oper):List Oper->List Nat
 |[]=>[]
 |D::r=>(match D.op with
  |.slice _ (.tmp u) _ _ _=>u::KO u all
  |_=>[])++B5 all r
def Nx(st:ad)(t:Nat):List (Nat×Site):=match st.get t with
 |.av (.ai (.own o s))=>match st.O o with
  |some (.row am t xs)=>bif am.beq s then [(o,.cQ am t xs)] else []
  |_=>[]
 |_=>[]
def y2(st:ad):List Nat->List (Nat×Site)
 |[]=>[]
 |t::r=>Nx st t++y2 st r
def ad.ha(st:ad):List (Nat×Site)->ad
 |[]=>st
 |(o,s)::r=>(st.dh o s).ha r
def ad.cz(st:ad)(dst:Option Nat)(v:aK)(us:List (Nat×Site)):ad:=
 match dst with
 |some t=>(st.ha us).set t v
 |none=>st.ha us
def b1(st:ad):Option Nat->Bool
 |some t=>Nat.blt t st.nt
 |none=>true
abbrev yo:aK:=bJ (.cx undef)
section
variable {R:Type}
open Classical in
noncomputable def nb{t:aG}(xs:List (den t))(a b:Option R):Option R:=if xs=[]->a=b then b else none
def jX(C:Ctx)(st:ad)(D:Oper)(K:ad->Option R):Option R:=
 bif b1 st D.dst then(step C st D).comp.bind fun y=>bif(step C st D).qg y then K (st.cz D.dst ((step C st D).val y) ((step C st D).us y)) else none else none
noncomputable def ue(C:Ctx)(st:ad)(D:Oper)(K:ad->Option R):Option R:=
 match D2 C st D with
 |some (⟨t,xs⟩,neg)=>bif b1 st D.dst then nb xs (K (st.cz D.dst (one (.bool (!neg))) [])) (K (st.cz D.dst (one (.bool neg)) [])) else none
 |none=>jX C st D K
def rf(st:ad)(D:Oper)(K:ad->Option R):Option R:=
 bif b1 st D.dst then K (st.cz D.dst yo []) else none
noncomputable def tJ(C:Ctx)(ops:Array Oper)(st:ad)(D:Oper)(K:ad->Option R):Option R:=
 match D.guard with
 |none=>ue C st D K
 |some (j,want)=>match(ops[j]?).bind (·.dst) with
  |some t=>match st.get t with
   |.av (.ai (.d (.bool b)))=>bif(bif want then b else !b) then ue C (st.set t (one (.bool want))) D K else rf (st.set t (one (.bool (!want)))) D K
   |.av (.ai (.cx (.tuple _)))=>rf st D K
   |_=>none
  |none=>none
structure pF:Type 1 where
 o:Nat
 s:Nat
 t:aG
 xs:List (den t)
 k:Nat
 off:Nat
 S:a0
 i:IntKind
 n:Int
 d1:Nat
 dO:Nat
 v:aK
def ad.nu(st:ad)(q:pF):ad:=(st.set q.d1 (bJ .any)).set q.dO q.v
def tV(C:Ctx)(st:ad)(D:Oper):Option (Nat×aK):=match D.op,D.dst,D.guard with
 |.move x,some dO,none=>bif Nat.blt dO st.nt then some (dO,aO C st D.type x) else none
 |_,_,_=>none
def rG(C:Ctx)(st:ad)(o1 fc o2:Oper):Option pF:=
 match o1.op,o1.dst,o1.guard,o2.op,o2.guard with
 |.load T a,some d1,none,.call c,none=>match aO C st T a with
  |.av (.ai (.ej o s u k off))=>match st.O o,c.callee,c.args.toList with
   |some (.deep am t xs),.value (.func g),[.tmp d2,x]=>match tV C (st.set d1 (bJ .any)) fc with
    |some (dO,v)=>match C.tt T,aO C ((st.set d1 (bJ .any)).set dO v) 0 x,C.bF g with
     |.slice _ _ _,.av (.ai (.d (.int i n))),some S=>bif d2.beq d1&&am.beq s&&decide (t=u)&&Nat.blt d1 st.nt&&!dO.beq d1 then some ⟨o,am,t,xs,k,off,S,i,n,d1,dO,v⟩ else none
     |_,_,_=>none
    |none=>none
   |_,_,_=>none
  |_=>none
 |_,_,_,_,_=>none
def Nb(st:ad)(o2:Oper)(q:pF)(x:den q.t)(K:ad->Option R):List br->List (List au)->List au->Option R
 |[.ai (.d d)],[],[.fresh bx mE]=>match dec q.t (bd (enc q.t x) q.off [.sl bx mE]) with
  |some cT=>bif d.hN&&!bx.gS&&b1 st o2.dst then K ((st.nu q).cz o2.dst (one d) [(q.o,.deep q.s q.t (q.xs.set q.k cT))]) else none
  |none=>none
 |_,_,_=>none
def Lt(st:ad)(o2:Oper)(q:pF)(K:ad->Option R):Option R:=
 (q.xs[q.k]?).bind fun x=>match(enc q.t x)[q.off]? with
  |some (.sl u ys)=>(q.S [.av (.ai (.fresh u ys)),.av (.ai (.d (.int q.i q.n)))]).comp.bind fun y=>
    Nb st o2 q x K ((q.S [.av (.ai (.fresh u ys)),.av (.ai (.d (.int q.i q.n)))]).eN y) ((q.S [.av (.ai (.fresh u ys)),.av (.ai (.d (.int q.i q.n)))]).dH y) ((q.S [.av (.ai (.fresh u ys)),.av (.ai (.d (.int q.i q.n)))]).ew y)
  |_=>none
noncomputable def mg(C:Ctx)(ops:Array Oper):List Oper->ad->(ad->Option R)->Option R
 |[],st,K=>K st
 |[D],st,K=>tJ C ops st D K
 |[D,o2],st,K=>tJ C ops st D fun ae=>mg C ops [o2] ae K
 |D::fc::o2::r,st,K=>match rG C st D fc o2 with
  |some q=>Lt st o2 q fun ae=>mg C ops r ae K
  |none=>tJ C ops st D fun ae=>mg C ops (fc::o2::r) ae K
structure Rec where
 D:Oper
 go:Bool
 v:aK
 us:List (Nat×Site)
 kr:List Nat
 rn:List Nat
 AE:Bool
def tZ:List Nat->Bool
 |[]=>false
 |n::r=>Nat.ble 1000000 n||tZ r
def r6(d:Option Nat)(l:List Nat):Bool:=match d with|some d=>fE d l|none=>false
def lv(a b:Rec):Bool:=
 r6 a.D.dst b.kr||r6 a.D.dst b.D.dst.toList||r6 b.D.dst a.kr||
 !eL (keys a.us) (b.rn++keys b.us)||!eL (keys b.us) a.rn||(a.AE&&tZ (keys b.us))||(b.AE&&tZ (keys a.us))
def lo(a7:List (Nat×Rec×List Nat)):List Edge->List Nat
 |[]=>[]
 |e::r=>bif Region.binds .any e then(match look a7 e.on with|some x=>e.on::(x.2++lo a7 r)|none=>lo a7 r) else lo a7 r
def q6(i:Nat):List Edge->Bool
 |[]=>true
 |e::r=>(!Region.binds .any e||Nat.blt e.on i)&&q6 i r
def ri(vN:List Nat)(x:Rec):List (Nat×Rec×List Nat)->Bool
 |[]=>true
 |(j,y,_)::r=>(fE j vN||!lv y x)&&ri vN x r
def LA(i:Nat):List Oper->Bool
 |[]=>false
 |D::r=>(match D.guard with|some (j,_)=>Nat.beq i j|none=>false)||LA i r
def Ff(g:Bool)(v:aK)(K:aK->Option R):Option R:=
 bif g then(match v with
  |.av (.ai (.d (.bool b)))=>bif b then K (one (.bool true)) else K (one (.bool false))
  |v=>K v) else K v
def yj(C:Ctx)(g:Bool)(st:ad)(D:Oper)(gs:List Nat)(K:Rec->Option R):Option R:=
 (step C st D).comp.bind fun y=>bif(step C st D).qg y then Ff g ((step C st D).val y) fun v=>
  K ⟨D,true,v,(step C st D).us y,gs++oa (kO D.op),EM C st D,yM D.op⟩ else none
def Ct(D:Oper)(gs:List Nat)(K:Rec->Option R):Option R:=K ⟨D,false,yo,[],gs,[],false⟩
def Et(C:Ctx)(ops:Array Oper)(g:Bool)(st:ad)(D:Oper)(K:Rec->Option R):Option R:=
 match D.guard with
 |none=>yj C g st D [] K
 |some (j,want)=>match(ops[j]?).bind (·.dst) with
  |some t=>match st.get t with
   |.av (.ai (.d (.bool b)))=>bif(bif want then b else !b) then yj C g st D [t] K else Ct D [t] K
   |.av (.ai (.cx (.tuple _)))=>Ct D [t] K
   |_=>none
  |none=>none
def za(C:Ctx)(ops:Array Oper):List Oper->Nat->List (Nat×Rec×List Nat)->ad->(ad->Option R)->Option R
 |[],_,_,st,K=>K st
 |D::r,i,a7,st,K=>bif b1 st D.dst&&q6 i D.after.toList then Et C ops (LA i r) st D fun x=>
   bif ri (lo a7 D.after.toList) x a7 then za C ops r (i+1) ((i,x,lo a7 D.after.toList)::a7) (st.cz D.dst x.v x.us) K else none
  else none
def LG(C:Ctx)(ops:Array Oper)(st:ad)(K:ad->Option R):Option R:=za C ops ops.toList 0 [] (st.ha (y2 st (B5 ops.toList ops.toList))) K
inductive Out:Type where
 |norm (st:ad)
 |exit (id:Nat) (st:ad)
 |ret (st:ad)
structure aff:Type 1 where
 H:Type
 comp:Option H
 out:H->Out
 run:(R:Type)->H->(Out->Option R)->Option R
 run_eq:∀(R:Type) (y:H) (K:Out->Option R),run R y K=K (out y)
abbrev gG:=ad->aff
structure gY:Type 1 extends Ctx where
 nF:Nat->Option gG
def wrap(C:gY)(p:Nat)(st:ad)(K:Out->Option R)(x:Option R):Option R:=
 match C.nF p with
 |some f=>(f st).comp.bind fun y=>(f st).run R y K
 |none=>x
noncomputable def exec(C:gY):Code->Nat->ad->(Out->Option R)->Option R
 |.skip,_,st,K=>K (.norm st)
 |.region _ ops false,p,st,K=>wrap C p st K (mg C.toCtx ops ops.toList st fun ae=>K (.norm ae))
 |.region _ ops true,p,st,K=>wrap C p st K (LG C.toCtx ops st fun ae=>K (.norm ae))
 |.seq a b,p,st,K=>wrap C p st K (exec C a (2*p) st fun
  |.norm ae=>exec C b (2*p+1) ae K
  |D=>K D)
 |.cond c a b,p,st,K=>wrap C p st K (match aO C.toCtx st 0 c with
  |.av (.ai (.d (.bool t)))=>bif t then exec C a (2*p) st K else exec C b (2*p+1) st K
  |_=>none)
 |.block id c,p,st,K=>wrap C p st K (exec C c (2*p) st fun
  |.exit h9 ae=>bif h9.beq id then K (.norm ae) else K (.exit h9 ae)
  |D=>K D)
 |.loop _,p,st,K=>wrap C p st K none
 |.rangeFunc _ _ _ _,p,st,K=>wrap C p st K none
 |.exit id,_,st,K=>K (.exit id st)
 |.ret,_,st,K=>K (.ret st)
 |_,_,_,_=>none
end
section
variable {B ax:Nat->Value}{sites bi:List (Nat×Site)}{w w':World}{av bN:Nat->Prop}
structure gB(B ax:Nat->Value)(sites bi:List (Nat×Site))(w w':World)(av bN:Nat->Prop):Prop where
 ref:∀o O,look sites o=some O->∃bw,look bi o=some bw/\O.bX<=bw.bX/\(bw.bX=O.bX->bT (ax o)=bT (B o))
 a8:∀b,¬av b->b<w.heap.size->w'.heap[b]? =w.heap[b]?
 av:∀b,¬av b->b<w.heap.size->¬bN b
theorem ba.goes{d:aL}{v:Value}(G:gB B ax sites bi w w' av bN)(M:w.heap.size<=w'.heap.size)(amI:∀b,bN b->b<w'.heap.size)(r:ba w av d v):ba w' bN d v:=by
 induction r with
 |int k n=>exact .int k n
 |bool b=>exact .bool b
 |str l s h=>exact .str l s h
 |nil t=>exact .nil t
 |sl t xs a cap cs n hn hcap hb hl hc _ ih=>
  have key:xs≠[]->a.block<w.heap.size:=by
   intro hne;have nz:0<cs.length:=by
    rw[hl,dP];exact Nat.mul_pos (List.length_pos_iff.mpr hne) (iK t)
   have:=hc 0 (cs[0]) (List.getElem?_eq_getElem nz);have h2:=World.block_lt_of_cell? w _ this;have gl:(a.add 0).block=a.block:=by unfold Addr.add;split<;>rfl
   rwa[gl] at h2
  refine .sl t xs a cap cs n hn hcap (fun hx=>G.av _ (hb hx) (key hx)) hl (fun j u hu=>?_) ih
  have iQ:=hc j u hu;have hne:xs≠[]:=by
   rintro rfl;have:cs=[]:=List.eq_nil_of_length_eq_zero (by simpa[flat] using hl)
   subst this;simp at hu
  have gl:(a.add j).block=a.block:=by unfold Addr.add;split<;>rfl
  rw[World.cell?_of_block (w:=w) (a:=a.add j) (by rw[gl];exact G.a8 _ (hb hne) (key hne))]
  exact iQ
 |fn g bq bs ie lb Am oS hb aW hl hc _ ih=>
  refine .fn g bq bs ie lb Am oS (fun b hm=>G.av b (hb b hm) (aW b hm)) (fun b hm=>Nat.lt_of_lt_of_le (aW b hm) M) hl (fun i hi j u hu=>?_) ih
  have iQ:=hc i hi j u hu;have hm:bs[i]∈bs:=List.getElem_mem hi;rw[World.cell?_of_block (w:=w) (a:=⟨bs[i],j,none⟩) (G.a8 _ (hb _ hm) (aW _ hm))];exact iQ
 |r_ t=>exact .r_ t
 |pN T=>exact .pN T
 |err T n=>exact .err T n
 |map t es b hb hm=>exact .map t es b (G.av b hb hm.lt) (hm.of (G.a8 b hb hm.lt))
theorem Ref.goes{o s:Nat}{p qs:Prop}(G:gB B ax sites bi w w' av bN)(h:Ref sites o s p)(al:bT (ax o)=bT (B o)->p->qs):Ref bi o s qs:=by
 obtain⟨O,h1,h2,Z⟩:=h;obtain⟨bw,g1,g2,g3⟩:=G.ref o O h1;refine⟨bw,g1,Nat.le_trans h2 g2,fun e=>?_⟩
 have:bw.bX=O.bX:=by omega
 exact al (g3 this) (Z (by omega))
theorem dd.goes{l:au}{v:Value}(G:gB B ax sites bi w w' av bN)(M:w.heap.size<=w'.heap.size)(bW:∀b,bN b->b<w'.heap.size)(h:dd B sites w av l v):dd ax bi w' bN l v:=by
 cases l with
 |d x=>exact ba.goes G M bW h
 |nil t=>exact h
 |own o s=>exact⟨h.1,Ref.goes G h.2 (fun e p=>by rw[e];exact p)⟩
 |ptr o s off=>obtain⟨b,h1,h2⟩:=h;exact⟨b,h1,Ref.goes G h2 (fun e p=>by rw[e];exact p)⟩
 |ee cells off=>
  obtain⟨b,D,hv,hb,aW,cs,hl,hc,hr⟩:=h;refine⟨b,D,hv,G.av b hb aW,Nat.lt_of_lt_of_le aW M,cs,hl,fun j u hu=>?_,fun j h1 h2=>(hr j h1 h2).goes G M bW⟩
  have iQ:=hc j u hu;rw[World.cell?_of_block (w:=w) (a:=⟨b,D+j,none⟩) (G.a8 b hb aW)];exact iQ
 |ej o s t k off=>obtain⟨b,h1,h2⟩:=h;exact⟨b,h1,Ref.goes G h2 (fun e p=>by rw[e];exact p)⟩
 |clo g bq=>
  obtain⟨vs,hv,hl,hr⟩:=h;exact⟨vs,hv,hl,fun i h1 h2=>Ref.goes G (hr i h1 h2) (fun e p=>p.trans e.symm)⟩
 |cx u=>exact h
 |fresh t xs=>exact h
 |fS t xs=>exact h
 |eu=>trivial
 |any=>trivial
theorem fW.goes{a:br}{v:Value}(G:gB B ax sites bi w w' av bN)(M:w.heap.size<=w'.heap.size)(bW:∀b,bN b->b<w'.heap.size)(h:fW B sites w av a v):fW ax bi w' bN a v:=by
 cases a with
 |ai l=>exact dd.goes G M bW h
 |agg U=>
  obtain⟨vs,hv,hl,hr⟩:=h;exact⟨vs,hv,hl,fun j h1 h2=>(hr j h1 h2).goes G M bW⟩
theorem b9.goes{a:aK}{v:Value}(G:gB B ax sites bi w w' av bN)(M:w.heap.size<=w'.heap.size)(bW:∀b,bN b->b<w'.heap.size)(h:b9 B sites w av a v):b9 ax bi w' bN a v:=by
 cases a with
 |av a=>exact fW.goes G M bW h
 |iY as=>
  obtain⟨vs,hv,hl,hr⟩:=h;exact⟨vs,hv,hl,fun j h1 h2=>(hr j h1 h2).goes G M bW⟩
theorem cf.goes{ds:List aL}{vs:List Value}(G:gB B ax sites bi w w' av bN)(M:w.heap.size<=w'.heap.size)(bW:∀b,bN b->b<w'.heap.size)(h:cf w av ds vs):cf w' bN ds vs:=
 ⟨h.1,fun j h1 h2=>(h.2 j h1 h2).goes G M bW⟩
theorem Deep.goes{ds:List aL}{cs aA:List Value}(G:gB B ax sites bi w w' av bN)(M:w.heap.size<=w'.heap.size)(bW:∀b,bN b->b<w'.heap.size)(h:Deep w av ds cs aA):
  (∀n,n∈aA->∀b,Jk.a8 n=some b->w'.heap[b]? =w.heap[b]?)->Deep w' bN ds cs aA:=by
 induction h with
 |nil=>intro _;exact .nil
 |row u ys e U al h hr _ ih=>intro ag;exact .row u ys e U al (pb h (ag _ List.mem_cons_self)) (hr.goes G M bW) (ih fun n hn=>ag n (List.mem_cons_of_mem _ hn))
 |leaf al h _ ih=>intro ag;exact .leaf al (h.goes G M bW) (ih ag)
theorem ir.goes{o:Nat}{O:Site}(G:gB B ax sites bi w w' av bN)(M:w.heap.size<=w'.heap.size)(bW:∀b,bN b->b<w'.heap.size)(bR:ax o=B o)
  (hb:O.live=true->∀b,b∈Jk.bA (B o)->w'.heap[b]? =w.heap[b]?) (h:ir B sites w av o O):ir ax bi w' bN o O:=by
 cases O with
 |box s cells=>
  obtain⟨b,T,cur,h1,h2,Z,aI,G5,bp⟩:=h;have:=hb rfl b (fR (by rw[h1];rfl))
  exact⟨b,T,cur,bR.trans h1,this.trans h2,Z,aI,G5,fun j g1 g2=>(bp j g1 g2).goes G M bW⟩
 |row s t xs=>
  obtain⟨e,cs,h1,h2⟩:=h;refine⟨e,cs,?_,fun j g1 g2=>(h2 j g1 g2).goes G M bW⟩
  rw[bR];exact pb h1 fun b b5=>hb rfl b (fR b5)
 |cQ s t xs=>exact⟨by rw[bR];exact ba.goes G M bW h.1,by rw[bR];exact h.2⟩
 |map s t es=>
  obtain⟨b,h1,h2⟩:=h;exact⟨b,bR.trans h1,h2.of (hb rfl b (fR (by rw[h1];rfl)))⟩
 |deep s t xs=>
  obtain⟨e,v,aA,cs,h1,h2,Z,aI⟩:=h;have ag:∀b,a8 v=some b\/(∃n,n∈aA/\a8 n=some b)->w'.heap[b]? =w.heap[b]? :=fun b h=>hb rfl b (by rw[h1];exact ij.2 h)
  exact⟨e,v,aA,cs,bR.trans h1,by rw[bR];exact h2,pb Z fun b h=>ag b (.inl h),aI.goes G M bW fun n hn b h=>ag b (.inr ⟨n,hn,h⟩)⟩
 |dead s=>trivial
end
theorem af.ox{L:World}{J:List Nat}{X:Nat->Prop}{B ax:Nat->Value}{st:ad}{bi:List (Nat×Site)}{tm:Array Value}{w w':World}
  (S:af L J X B st tm w)
  (pK:∀o O,look st.sites o=some O->∃bw,look bi o=some bw/\O.bX<=bw.bX/\(bw.bX=O.bX->bT (ax o)=bT (B o)))
  (gl:∀b,¬an X B st.sites b->b<w.heap.size->w'.heap[b]? =w.heap[b]?)
  (bW:∀b,¬an X B st.sites b->b<w.heap.size->¬an X ax bi b)
  (aeA:(∀{a v},b9 B st.sites w (an X B st.sites) a v->b9 ax bi w' (an X ax bi) a v)->∀o bw,look bi o=some bw->
   (look st.sites o=some bw/\ax o=B o/\(bw.live=true->∀b,b∈bA (B o)->w'.heap[b]? =w.heap[b]?))\/ir ax bi w' (an X ax bi) o bw)
  (acB:∀o F b,bS bi o->bS bi F->b∈bA (ax o)->b∈bA (ax F)->o=F)
  (acy:∀o b,bS bi o->b∈bA (ax o)->¬X b/\(b∈J\/L.heap.size<=b))
  (aW:∀o b,bS bi o->b∈bA (ax o)->b<w'.heap.size)
  (abl:Fr J L w') (M:w.heap.size<=w'.heap.size):
  af L J X ax {st with sites:=bi} tm w':=by
 have G:gB B ax st.sites bi w w' (an X B st.sites) (an X ax bi):=⟨pK,gl,bW⟩;have uI:∀b,an X ax bi b->b<w'.heap.size:=by
  rintro b (hx|⟨o,h1,h2⟩)
  ·exact Nat.lt_of_lt_of_le (S.old b hx) M
  ·exact aW o b h1 h2
 refine⟨S.nt,fun t=>(S.cC t).goes G M uI,fun o bw a_=>?_,acB,acy,abl,fun b h=>Nat.lt_of_lt_of_le (S.old b h) M,S.eQ⟩
 rcases aeA (fun h=>h.goes G M uI) o bw a_ with⟨h1,h2,Z⟩|h
 ·exact(S.sites o bw h1).goes G M uI h2 Z
 ·exact h
def ci(tm:Array Value)(dst:Option Nat)(v:Value):Array Value:=
 match dst with
 |some d=>tm.setIfInBounds d v
 |none=>tm
section
variable {P:Program}{K:Act->World->Prop}{Q:Exit->Act->World->Prop}{D:Oper}{tm:Array Value}{w w':World}{vv:Value}
theorem mc(h:(execOp (Act.eval ⟨tm,[]⟩) D).run P w=.ok (.value vv) w')(ag:K ⟨ci tm D.dst vv,[]⟩ w'):D.wp P ⟨tm,[]⟩ w K Q:=by
 unfold Oper.wp;rw[h,Oper.upon_value];cases Y:D.dst with
 |none=>simp only[Y,ci] at ag;simpa[Act.put] using ag
 |some d=>simp only[Y,ci] at ag;simpa[Act.put] using ag
theorem aaF(h:(execOp (Act.eval ⟨tm,[]⟩) D).run P w=.ok .skip w')(ag:K ⟨ci tm D.dst undef,[]⟩ w'):D.wp P ⟨tm,[]⟩ w K Q:=by
 unfold Oper.wp;rw[h,Oper.upon_skip];cases Y:D.dst with
 |none=>simp only[Y,ci] at ag;simpa[Act.put] using ag
 |some d=>simp only[Y,ci] at ag;simpa[Act.put] using ag
end
def aT(sites:List (Nat×Site)):List (Nat×Site)->List (Nat×Site)
 |[]=>sites
 |(o,s)::r=>aT (b3 sites o s) r
theorem ad.tx(st:ad)(us:List (Nat×Site)):st.ha us={st with sites:=aT st.sites us}:=by
 induction us generalizing st with
 |nil=>rfl
 |cons p us ih=>obtain⟨o,s⟩:=p;simp only[ad.ha,aT];rw[ih];rfl
theorem hV(sites:List (Nat×Site))(us vs:List (Nat×Site)):aT sites (us++vs)=aT (aT sites us) vs:=by
 induction us generalizing sites with
 |nil=>rfl
 |cons p us ih=>obtain⟨o,s⟩:=p;simp only[List.cons_append,aT];exact ih _
section
variable {L:World}{J:List Nat}{X:Nat->Prop}{B:Nat->Value}{st:ad}{tm:Array Value}{w:World}
theorem af.put(S:af L J X B st tm w){t:Nat}{v:aK}{vv:Value}(aC:t<st.nt)(hv:b9 B st.sites w (an X B st.sites) v vv):
  af L J X B (st.set t v) (tm.setIfInBounds t vv) w:=by
 refine⟨by simpa using S.nt,fun u=>?_,S.sites,S.c',S.b2,S.frame,S.old,S.eQ⟩
 rw[ad.Ds];by_cases h:t=u
 ·subst h;simp only[if_true];have:(tm.setIfInBounds t vv).getD t undef=vv:=by
   have h1:t<tm.size:=by rw[S.nt];exact aC
   simp[Array.getD,h1]
  rw[this];exact hv
 ·simp only[h,if_false];have:(tm.setIfInBounds t vv).getD u undef=tm.getD u undef:=by
   simp only[Array.getD_eq_getD_getElem?,Array.getElem?_setIfInBounds,h,if_false]
  rw[this];exact S.cC u
theorem af.cz{dst:Option Nat}{v:aK}{vv:Value}{us:List (Nat×Site)}(S:af L J X B {st with sites:=aT st.sites us} tm w)
  (Y:b1 st dst=true) (hv:b9 B (aT st.sites us) w (an X B (aT st.sites us)) v vv):af L J X B (st.cz dst v us) (ci tm dst vv) w:=by
 cases dst with
 |none=>simp only[ad.cz,ad.tx,ci];exact S
 |some t=>
  simp only[ad.cz,ad.tx,ci];have aC:t<st.nt:=by simpa[b1] using Y
  exact af.put (st:={st with sites:=aT st.sites us}) S aC hv
theorem cS(S:af L J X B st tm w)(C:Ctx)(T:TypeId)(x:Operand):b9 B st.sites w (an X B st.sites) (aO C st T x) (Act.eval ⟨tm,[]⟩ x):=by
 cases x with
 |tmp t=>exact S.cC t
 |const v=>
  show b9 _ _ _ _ (tN (C.tt T) v) v;unfold tN;split
  ·exact .int _ _
  ·exact .bool _
  ·exact .str _ _ rfl
  ·split<;>exact rfl
  ·split
   ·exact .r_ _
   ·exact rfl
  ·trivial
  ·trivial
  ·exact rfl
 |global g=>exact rfl
 |func f=>
  refine⟨[],rfl,rfl,fun i h=>?_⟩
  simp at h
variable {P:Program}{C:Ctx}{D:Oper}{K:Act->World->Prop}{Q:Exit->Act->World->Prop}
def cv(P:Program)(L:World)(J:List Nat)(X:Nat->Prop)(st:ad)(tm:Array Value)(w:World)(D:Oper)(v:aK)(us:List (Nat×Site)):Prop:=
 ∀(K:Act->World->Prop) (Q:Exit->Act->World->Prop),(∀ax bO w',af L J X ax (st.cz D.dst v us) bO w'->K ⟨bO,[]⟩ w')->D.wp P ⟨tm,[]⟩ w K Q
theorem dq(S:af L J X B st tm w)(Y:b1 st D.dst=true){v:aK}{vv:Value}
  (h:(execOp (Act.eval ⟨tm,[]⟩) D).run P w=.ok (.value vv) w) (hv:b9 B st.sites w (an X B st.sites) v vv):cv P L J X st tm w D v []:=
 fun _ _ bn=>mc h (bn _ _ _ (af.cz (us:=[]) S Y hv))
end
section
variable {P:Program}{w:World}
theorem T7(op:BinOp)(t:TypeId)(x y:Operand)(k k':IntKind)(a b:Int):(eqGuard op t x y (.int k a) (.int k' b)).run P w=.ok () w:=by
 unfold eqGuard;cases op<;>rfl
theorem TZ(op:BinOp)(t:TypeId)(x y:Operand)(a b:ByteArray):(eqGuard op t x y (.string a) (.string b)).run P w=.ok () w:=by
 unfold eqGuard;cases op<;>rfl
theorem Ie(op:BinOp)(t:TypeId)(x y:Operand)(a b:Bool):(eqGuard op t x y (.bool a) (.bool b)).run P w=.ok () w:=by
 unfold eqGuard;cases op<;>rfl
def Holds(r:c4)(dF:aK->List (Nat×Site)->Prop):Prop:=∀y,r.comp=some y->r.qg y=true->dF (r.val y) (r.us y)
theorem Holds.fail{dF:aK->List (Nat×Site)->Prop}:Holds .fail dF:=fun _ h _=>by cases h
theorem Holds.ok{v:aK}{dF:aK->List (Nat×Site)->Prop}(h:dF v []):Holds (.ok v) dF:=fun _ _ _=>h
theorem Holds.e3{v:aK}{us:List (Nat×Site)}{dF:aK->List (Nat×Site)->Prop}(h:dF v us):Holds (.e3 v us) dF:=fun _ _ _=>h
theorem Holds.d'{H:Type}{c:Option H}{f:H->aK}{dF:aK->List (Nat×Site)->Prop}(h:∀y,c=some y->dF (f y) []):Holds (.d' c f) dF:=fun y aj _=>h y aj
theorem Holds.eY{H:Type}{c:Option H}{f:H->aK}{us:H->List (Nat×Site)}{dF:aK->List (Nat×Site)->Prop}(h:∀y,c=some y->dF (f y) (us y)):Holds (.eY c f us) dF:=fun y aj _=>h y aj
def Plain(P:Program)(w:World)(s:Sem Value)(v:aK)(us:List (Nat×Site)):Prop:=
 ∃vv d,s.run P w=.ok vv w/\us=[]/\v=one d/\∀av,ba w av d vv
theorem Plain.mk{s:Sem Value}{vv:Value}{d:aL}(h:s.run P w=.ok vv w)(hr:∀av,ba w av d vv):Plain P w s (one d) []:=⟨vv,d,h,rfl,rfl,hr⟩
theorem XC(op:BinOp)(T:TypeId)(k:IntKind)(a b:Int)(M:op≠.shl)(eR:op≠.shr):
  Holds (Ni op k a b) (Plain P w (binOp op T (.int k a) (.int k b))):=by
 cases op with
 |shl=>exact absurd rfl M
 |shr=>exact absurd rfl eR
 |andNot=>exact .fail
 |quo=>
  refine Holds.d' fun y aj=>?_
  unfold r3 at aj;split at aj
  ·cases aj
  ·rename_i hb;cases aj;exact .mk (by simp[binOp,Op.intDiv,hb]) fun av=>.int _ _
 |rem=>
  refine Holds.d' fun y aj=>?_
  unfold rY at aj;split at aj
  ·cases aj
  ·rename_i hb;cases aj;exact .mk (by simp[binOp,Op.intDiv,hb]) fun av=>.int _ _
 |add=>exact Holds.ok (.mk (by simp[binOp,Op.intArith]) fun av=>.int _ _)
 |sub=>exact Holds.ok (.mk (by simp[binOp,Op.intArith]) fun av=>.int _ _)
 |mul=>exact Holds.ok (.mk (by simp[binOp,Op.intArith]) fun av=>.int _ _)
 |and=>exact Holds.ok (.mk (by simp[binOp,Op.intBits,Pz]) fun av=>.int _ _)
 |or=>exact Holds.ok (.mk (by simp[binOp,Op.intBits,QZ]) fun av=>.int _ _)
 |xor=>exact Holds.ok (.mk (by simp[binOp,Op.intBits,rV]) fun av=>.int _ _)
 |eql=>exact Holds.ok (.mk (by simp[binOp,Op.intCmp]) fun av=>.bool _)
 |neq=>exact Holds.ok (.mk (by simp[binOp,Op.intCmp]) fun av=>.bool _)
 |lss=>exact Holds.ok (.mk (by simp[binOp,Op.intCmp]) fun av=>.bool _)
 |leq=>exact Holds.ok (.mk (by simp[binOp,Op.intCmp]) fun av=>.bool _)
 |gtr=>exact Holds.ok (.mk (by simp[binOp,Op.intCmp]) fun av=>.bool _)
 |geq=>exact Holds.ok (.mk (by simp[binOp,Op.intCmp]) fun av=>.bool _)
theorem XA(op:BinOp)(T:TypeId)(a b:ByteArray):
  Holds (M2 op a.data.toList b.data.toList) (Plain P w (binOp op T (.string a) (.string b))):=by
 have e1:a.toList=a.data.toList:=ByteArray.toList_eq a;have e2:b.toList=b.data.toList:=ByteArray.toList_eq b;have cV:a.data.toList.length=a.size:=rfl;have ga:b.data.toList.length=b.size:=rfl;cases op with
 |add=>
  refine Holds.d' fun y aj=>?_
  simp only[nQ,cV,ga] at aj;split at aj
  ·cases aj
  ·rename_i hc;cases aj;refine .mk (vv:=.string (a++b)) ?_ fun av=>.str _ _ (by simp[ByteArray.data_append])
   simp only[binOp,Op.stringOp,hc,if_false,Sem.run_pure]
 |eql=>exact Holds.ok (.mk (by rw[<-e1,<-e2];rfl) fun av=>.bool _)
 |neq=>exact Holds.ok (.mk (by rw[<-e1,<-e2];rfl) fun av=>.bool _)
 |lss=>exact Holds.ok (.mk (by rw[<-e1,<-e2];rfl) fun av=>.bool _)
 |leq=>exact Holds.ok (.mk (by rw[<-e1,<-e2];rfl) fun av=>.bool _)
 |gtr=>exact Holds.ok (.mk (by rw[<-e1,<-e2];rfl) fun av=>.bool _)
 |geq=>exact Holds.ok (.mk (by rw[<-e1,<-e2];rfl) fun av=>.bool _)
 |_=>exact .fail
end
def pg:au->Option Value
 |.d (.int k n)=>some (.int k n)
 |.d (.bool b)=>some (.bool b)
 |.d (.str [])=>some (.string ⟨#[]⟩)
 |.nil _=>some (.slice none 0 0)
 |.cx (.pointer none)=>some (.pointer none)
 |.cx .nilFunc=>some .nilFunc
 |.cx (.map none)=>some (.map none)
 |.cx .nilIface=>some .nilIface
 |_=>none
def kH:List au->Option (List Value)
 |[]=>some []
 |l::U=>match pg l,kH U with
  |some v,some vs=>some (v::vs)
  |_,_=>none
theorem I1{l:au}{v:Value}(h:pg l=some v)(B:Nat->Value)(sites:List (Nat×Site))(w:World)(av:Nat->Prop):dd B sites w av l v/\v.oneCell'=true:=by
 unfold pg at h;split at h<;>first|cases h|skip
 ·exact⟨.int _ _,rfl⟩
 ·exact⟨.bool _,rfl⟩
 ·exact⟨.str _ _ rfl,rfl⟩
 ·exact⟨rfl,rfl⟩
 ·exact⟨rfl,rfl⟩
 ·exact⟨rfl,rfl⟩
 ·exact⟨rfl,rfl⟩
 ·exact⟨rfl,rfl⟩
theorem qB:∀{U:List au} {vs:List Value},kH U=some vs->vs.length=U.length/\(∀u∈vs,u.oneCell'=true)/\
  ∀(B:Nat->Value) (sites:List (Nat×Site)) (w:World) (av:Nat->Prop) j (h:j<U.length) (ab:j<vs.length),dd B sites w av (U[j]) (vs[j]):=by
 intro U;induction U with
 |nil=>intro vs h;simp[kH] at h;subst h;exact⟨rfl,fun u hu=>by simp at hu,fun _ _ _ _ j h=>by simp at h⟩
 |cons l U ih=>
  intro vs h;simp only[kH] at h;split at h
  ·rename_i v cm h1 h2;cases h;obtain⟨g1,g2,g3⟩:=ih h2;refine⟨by simp[g1],fun u hu=>?_,fun B sites w av j hj i'=>?_⟩
   ·rcases List.mem_cons.1 hu with rfl|hu
    ·exact(I1 h1 (fun _=>undef) [] default (fun _=>False)).2
    ·exact g2 u hu
   ·cases j with
    |zero=>exact(I1 h1 _ _ _ _).1
    |succ j=>exact g3 B sites w av j (by simpa using hj) (by simpa using i')
  ·cases h
def ni:Value->Value->Option Bool
 |.int k a,.int k' b=>if k=k' then some (a==b) else none
 |.bool a,.bool b=>some (a==b)
 |.string a,.string b=>some (a==b)
 |_,_=>none
def iI:List Value->List Value->Option Bool
 |[a],[b]=>ni a b
 |a::as,b::bs=>match ni a b,iI as bs with
  |some x,some y=>some (x&&y)
  |_,_=>none
 |_,_=>none
def oF:List au->List Value->Bool
 |[],[]=>true
 |.d (.int _ _)::z,.int _ _::l=>oF z l
 |.d (.bool _)::z,.bool _::l=>oF z l
 |.d (.str _)::z,.string _::l=>oF z l
 |_,_=>false
def iy(P:Program)(T:TypeId)(d:TypeDesc)(z:Value):Prop:=
 P.underlying T=some d/\(∀bF,d≠.struct bF)/\(∀n e,d≠.array n e)/\(P.info? T).map (fun i=>(i.size,i.zero))=some (1,some z)
def mapElem(P:Program)(e:TypeId):aG->Prop
 |.i64=>iy P e (.int .i64) (.int .i64 0)
 |.bool=>iy P e .bool (.bool false)
 |_=>False
def DH(P:Program)(e:TypeId):aG->Prop
 |.i64=>iy P e (.int .i64) (.int .i64 0)
 |.u32=>iy P e (.int .u32) (.int .u32 0)
 |.bool=>iy P e .bool (.bool false)
 |.str=>iy P e .string (.string ⟨#[]⟩)
 |_=>False
def cd.ok(P:Program)(T:TypeId):cd->Prop
 |.none=>True
 |.int k=>iy P T (.int k) (.int k 0)
 |.bool=>iy P T .bool (.bool false)
 |.str=>iy P T .string (.string ⟨#[]⟩)
 |.ptr=>∃e,iy P T (.pointer e) (.pointer Option.none)
 |.func=>∃ps kr v,iy P T (.func ps kr v) .nilFunc
 |.slice e t bytes=>iy P T (.slice e) (.slice Option.none 0 0)/\∃z,(P.info? e).map (fun i=>(i.size,i.bytes,i.zero))=some (ar t,bytes,some z)/\z.cells.size=ar t/\(t.ek=true->e=k6)
 |.struct bF n z eq=>∃fields:Array Field,P.underlying T=some (.struct fields)/\
   (fields.toList.mapM (fun f=>(P.info? f.type).map fun i=>(f.offset,i.size))=some bF/\∀p∈bF,p.2≠0)/\
   (∃fj,(P.info? T).map (fun i=>(i.size,i.zero))=some (n,some (.agg fj))/\kH z=some fj.toList/\z.length=n)/\
   (eq=true->P.eqGuardType P.depth T=false/\∀(vs us:List Value) (b:Bool) (w:World),iI vs us=some b->oF z vs=true->(Op.equal T (.agg vs.toArray) (.agg us.toArray)).run P w=.ok b w)
 |.map k e t=>iy P T (.map k e) (.map Option.none)/\P.underlying k=some .string/\mapElem P e t
 |.iface=>∃ic,iy P T (.interface ic) .nilIface
 |.arr e t n=>P.underlying T=some (.array n e)/\(∃fj z,(P.info? T).map (fun i=>(i.size,i.zero))=some (n,some (.agg fj))/\sp t=some z/\kH (List.replicate n z)=some fj.toList)/\DH P e t
section
variable {P:Program}{T:TypeId}{w:World}
theorem kC{i:TypeInfo}(h:P.info? T=some i):(typeInfo T).run P w=.ok i w:=by
 simp[typeInfo,h]
theorem cd.KL{ti:cd}(h:ti.ok P T)(hn:ti≠.none):(sizeOf T).run P w=.ok ti.size w:=by
 have key:∀{z:Option Value} {n:Nat},(P.info? T).map (fun i=>(i.size,i.zero))=some (n,z)->(sizeOf T).run P w=.ok n w:=by
  intro z n h;cases hi:P.info? T with
  |none=>simp[hi] at h
  |some i=>
   simp only[hi,Option.map_some,Option.some.injEq,Prod.mk.injEq] at h;simp[sizeOf,kC hi,h.1]
 cases ti with
 |none=>exact absurd rfl hn
 |int k=>exact key h.2.2.2
 |bool=>exact key h.2.2.2
 |str=>exact key h.2.2.2
 |ptr=>obtain⟨e,h⟩:=h;exact key h.2.2.2
 |func=>obtain⟨_,_,_,h⟩:=h;exact key h.2.2.2
 |iface=>obtain⟨_,h⟩:=h;exact key h.2.2.2
 |slice e t b=>exact key h.1.2.2.2
 |map k e t=>exact key h.1.2.2.2
 |struct bF n z eq=>obtain⟨fields,_,_,⟨fj,h,_⟩,_⟩:=h;exact key h
 |arr e t n=>obtain⟨_,⟨fj,z,h,_⟩,_⟩:=h;exact key h
theorem cd.w4{ti:cd}(h:ti.ok P T){z:List au}(hz:ti.zero=some z):∃v,(zeroValue T).run P w=.ok v w/\kH z=some v.cells.toList:=by
 have key:∀{z:Value} {n:Nat},(P.info? T).map (fun i=>(i.size,i.zero))=some (n,some z)->(zeroValue T).run P w=.ok z w:=by
  intro z n h;cases hi:P.info? T with
  |none=>simp[hi] at h
  |some i=>
   simp only[hi,Option.map_some,Option.some.injEq,Prod.mk.injEq] at h;simp[zeroValue,kC hi,h.2]
 cases ti with
 |none=>cases hz
 |int k=>cases hz;exact⟨_,key h.2.2.2,rfl⟩
 |bool=>cases hz;exact⟨_,key h.2.2.2,rfl⟩
 |str=>cases hz;exact⟨_,key h.2.2.2,rfl⟩
 |ptr=>cases hz;obtain⟨e,h⟩:=h;exact⟨_,key h.2.2.2,rfl⟩
 |func=>cases hz;obtain⟨_,_,_,h⟩:=h;exact⟨_,key h.2.2.2,rfl⟩
 |iface=>cases hz;obtain⟨_,h⟩:=h;exact⟨_,key h.2.2.2,rfl⟩
 |slice e t b=>cases hz;exact⟨_,key h.1.2.2.2,rfl⟩
 |map k e t=>cases hz;exact⟨_,key h.1.2.2.2,rfl⟩
 |struct bF n ea eq=>cases hz;obtain⟨fields,_,_,⟨fj,h,h2,_⟩,_⟩:=h;exact⟨_,key h,h2⟩
 |arr e t n=>
  obtain⟨_,⟨fj,AJ,h,h1,h2⟩,_⟩:=h;simp only[cd.zero,h1,Option.map_some,Option.some.injEq] at hz;subst hz;exact⟨_,key h,h2⟩
theorem cd.JO{ti:cd}(h:ti.ok P T)(hn:ti≠.none):(isAgg T).run P w=.ok ti.agg w:=by
 have key:∀{d:TypeDesc},P.underlying T=some d->(∀bF,d≠.struct bF)->(∀n e,d≠.array n e)->(isAgg T).run P w=.ok false w:=by
  intro d h h1 h2;simp only[isAgg,Sem.run_bind,run_underlying h,Result.andThen_ok];cases d<;>first|rfl|exact absurd rfl (h1 _)|exact absurd rfl (h2 _ _)
 cases ti with
 |none=>exact absurd rfl hn
 |int k=>exact key h.1 h.2.1 h.2.2.1
 |bool=>exact key h.1 h.2.1 h.2.2.1
 |str=>exact key h.1 h.2.1 h.2.2.1
 |ptr=>obtain⟨e,h⟩:=h;exact key h.1 h.2.1 h.2.2.1
 |func=>obtain⟨_,_,_,h⟩:=h;exact key h.1 h.2.1 h.2.2.1
 |iface=>obtain⟨_,h⟩:=h;exact key h.1 h.2.1 h.2.2.1
 |slice e t b=>exact key h.1.1 h.1.2.1 h.1.2.2.1
 |map k e t=>exact key h.1.1 h.1.2.1 h.1.2.2.1
 |struct bF n z eq=>
  obtain⟨fields,h,_⟩:=h;simp only[isAgg,Sem.run_bind,run_underlying h,Result.andThen_ok];rfl
 |arr e t n=>
  obtain⟨h,_⟩:=h;simp only[isAgg,Sem.run_bind,run_underlying h,Result.andThen_ok];rfl
def rC(agg:Bool)(cs:List Value):Value:=bif agg then .agg cs.toArray else cs.headD undef
theorem qA{ti:cd}(h:ti.ok P T)(hn:ti≠.none)(a:Addr)(cs:List Value)(hl:cs.length=ti.size)(hc:∀j u,cs[j]? =some u->w.cell? (a.add j)=some u):
  (loadVar T a).run P w=.ok (rC ti.agg cs) w:=by
 simp only[loadVar,Sem.run_bind,cd.JO h hn,Result.andThen_ok];cases FE:ti.agg with
 |true=>
  simp only[if_true,Sem.run_bind,cd.KL h hn,Result.andThen_ok,rC,cond_true];rw[<-hl,run_loadCells_list w a cs hc];rfl
 |false=>
  have h1:ti.size=1:=by cases ti<;>first|rfl|cases FE
  rw[h1] at hl;match cs,hl with
  |[c],_=>
   have h0:=hc 0 c rfl;have a5:a.add 0=a:=by unfold Addr.add;simp
   rw[a5] at h0;simp[rC,h0]
end
section
variable {B:Nat->Value}{sites:List (Nat×Site)}{w:World}{av:Nat->Prop}
def ch(B:Nat->Value)(sites:List (Nat×Site))(w:World)(av:Nat->Prop)(U:List au)(vs:List Value):Prop:=
 vs.length=U.length/\∀j (h:j<U.length) (ab:j<vs.length),dd B sites w av (U[j]) (vs[j])
theorem ch.nil:ch B sites w av [] []:=⟨rfl,fun j h=>by simp at h⟩
theorem ch.cons{l:au}{U:List au}{v:Value}{vs:List Value}(h:dd B sites w av l v)(M:ch B sites w av U vs):ch B sites w av (l::U) (v::vs):=
 ⟨by simp[M.1],fun j h1 h2=>by
  cases j with
  |zero=>exact h
  |succ j=>exact M.2 j (by simpa using h1) (by simpa using h2)⟩
theorem ch.inv{l:au}{U:List au}{vs:List Value}(h:ch B sites w av (l::U) vs):∃v cm,vs=v::cm/\dd B sites w av l v/\ch B sites w av U cm:=by
 obtain⟨h1,h2⟩:=h;match vs,h1 with
 |v::cm,h1=>
  exact⟨v,cm,rfl,h2 0 (by simp) (by simp),by simpa using h1,fun j g1 g2=>h2 (j+1) (by simpa using g1) (by simpa using g2)⟩
theorem ch.kJ{vs:List Value}(h:ch B sites w av [] vs):vs=[]:=List.eq_nil_of_length_eq_zero h.1
theorem ch.drop{U:List au}{vs:List Value}(n:Nat)(h:ch B sites w av U vs):ch B sites w av (U.drop n) (vs.drop n):=
 ⟨by simp[h.1],fun j h1 h2=>by simp only[List.getElem_drop];exact h.2 _ (by simp at h1;omega) (by simp at h2;omega)⟩
theorem ch.take{U:List au}{vs:List Value}(n:Nat)(h:ch B sites w av U vs):ch B sites w av (U.take n) (vs.take n):=
 ⟨by simp[h.1],fun j h1 h2=>by simp only[List.getElem_take];exact h.2 _ (by simp at h1;omega) (by simp at h2;omega)⟩
theorem ch.append{U df:List au}{vs cm:List Value}(h:ch B sites w av U vs)(ab:ch B sites w av df cm):ch B sites w av (U++df) (vs++cm):=by
 induction U generalizing vs with
 |nil=>rw[h.kJ];exact ab
 |cons l U ih=>
  obtain⟨v,amN,rfl,h1,h2⟩:=h.inv;exact .cons h1 (ih h2)
theorem ch.bd{U df:List au}{vs cm:List Value}(off:Nat)(h:ch B sites w av U vs)(ab:ch B sites w av df cm):ch B sites w av (Jk.bd U off df) (Jk.bd vs off cm):=by
 unfold Jk.bd;rw[ab.1];exact((h.take off).append ab).append (h.drop _)
theorem dd.hY{l:au}{u:Value}(h:dd B sites w av l u)(c9:l.storable=true):u.oneCell'=true:=by
 cases l with
 |d x=>exact ba.hY h
 |nil t=>rw[show u=_ from h];rfl
 |own o s=>exact h.1
 |ptr o s off=>obtain⟨b,rfl,_⟩:=h;rfl
 |ee c D=>cases c9
 |ej _ _ _ _ _=>cases c9
 |clo g bq=>obtain⟨vs,rfl,_⟩:=h;rfl
 |cx x=>rw[show u=x from h];cases x<;>first|rfl|cases c9
 |fresh t xs=>cases c9
 |fS t xs=>cases c9
 |eu=>cases c9
 |any=>cases c9
theorem ch.hY{U:List au}{vs:List Value}(h:ch B sites w av U vs)(c9:gf U=true):∀u∈vs,u.oneCell'=true:=by
 induction U generalizing vs with
 |nil=>rw[h.kJ];intro u hu;simp at hu
 |cons l U ih=>
  obtain⟨v,cm,rfl,h1,h2⟩:=h.inv;simp only[gf,Bool.and_eq_true] at c9;intro u hu;rcases List.mem_cons.1 hu with rfl|hu
  ·exact h1.hY c9.1
  ·exact ih h2 c9.2 u hu
theorem fW.cells{a:br}{v:Value}(h:fW B sites w av a v)(c9:gf a.cells=true):ch B sites w av a.cells v.cells.toList:=by
 cases a with
 |ai l=>
  have h1:v.oneCell'=true:=dd.hY h (by simpa[br.cells,gf] using c9)
  have:v.cells=#[v]:=by cases v<;>first|rfl|cases h1
  rw[this];exact .cons h .nil
 |agg U=>
  obtain⟨vs,rfl,h1,h2⟩:=h;exact⟨h1,h2⟩
theorem ME{agg:Bool}{off n:Nat}{U:List au}{vs:List Value}{v:aK}(hc:cut agg off n U=some v)(h1:agg=false->n=1)(h:ch B sites w av U vs):
  off+n<=vs.length/\b9 B sites w av v (rC agg ((vs.drop off).take n)):=by
 unfold cut at hc;cases agg with
 |true=>
  simp only[cond_true] at hc;cases hb:Nat.ble (off+n) U.length with
  |false=>simp[hb] at hc
  |true=>
   simp only[hb,cond_true,Option.some.injEq] at hc;subst hc;have c8:off+n<=U.length:=Nat.le_of_ble_eq_true hb;have:=(h.drop off).take n;exact⟨by rw[h.1];exact c8,_,rfl,this.1,this.2⟩
 |false=>
  simp only[cond_false] at hc;have hn:=h1 rfl;subst hn;cases Y:U.drop off with
  |nil=>simp[Y] at hc
  |cons l r=>
   simp only[Y,Option.some.injEq] at hc;subst hc;have R5:=h.drop off;rw[Y] at R5;obtain⟨u,us,hu,hl,_⟩:=R5.inv;have hlen:off<U.length:=by
    rcases Nat.lt_or_ge off U.length with h|h
    ·exact h
    ·rw[List.drop_eq_nil_of_le h] at Y;cases Y
   refine⟨by rw[h.1];omega,?_⟩
   rw[hu];exact hl
theorem gT{ds:List aL}{vs:List Value}(hl:vs.length=ds.length)(h:∀j (h:j<ds.length) (ab:j<vs.length),ba w av (ds[j]) (vs[j])):ch B sites w av (cy ds) vs:=
 ⟨by simp[cy,hl],fun j h1 h2=>by simp only[cy,List.getElem_map];exact h j (by simpa[cy] using h1) h2⟩
end
theorem gh(b D j:Nat):(⟨b,D,none⟩:Addr).add j=⟨b,D+j,none⟩:=by
 unfold Addr.add;split<;>simp_all
def g_(w:World)(b D:Nat)(cs:List Value):Prop:=∀j u,cs[j]? =some u->w.cell? ⟨b,D+j,none⟩=some u
theorem g_.drop{w:World}{b D:Nat}{cs:List Value}(h:g_ w b D cs)(m:Nat):g_ w b (D+m) (cs.drop m):=by
 intro j u hu;rw[List.getElem?_drop] at hu;have:=h _ _ hu;rwa[Nat.add_assoc]
theorem g_.take{w:World}{b D:Nat}{cs:List Value}(h:g_ w b D cs)(m:Nat):g_ w b D (cs.take m):=by
 intro j u hu;rw[List.getElem?_take] at hu;split at hu
 ·exact h _ _ hu
 ·cases hu
theorem g_.row{w:World}{b:Nat}{cur:List Value}{T:TypeId}{ct:Nat×Nat}(h:w.heap[b]? =some (.cells cur.toArray T ct)):g_ w b 0 cur:=by
 intro j u hu;rw[Nat.zero_add,cell_of_row w b j _ T ct h];simpa using hu
theorem s'(t:aG)(xs:List (den t))(k:Nat)(x:den t)(hx:xs[k]? =some x):((flat t xs).drop (k*ar t)).take (ar t)=enc t x:=by
 apply List.ext_getElem?;intro j;rw[List.getElem?_take,List.getElem?_drop];split
 ·rename_i hj;exact flat_get t xs k j x hx hj
 ·rename_i hj;rw[List.getElem?_eq_none (by rw[e8];omega)]
section
variable {P:Program}{C:gY}{L:World}{J:List Nat}{X:Nat->Prop}{B:Nat->Value}{st:ad}{tm:Array Value}{w:World}
theorem gu{o s:Nat}{cells:List au}(h:fq st o s=some cells):look st.sites o=some (.box s cells):=by
 unfold fq ad.O at h;split at h
 ·rename_i am iM hl;cases hb:am.beq s with
  |false=>simp[hb] at h
  |true=>
   simp only[hb,cond_true,Option.some.injEq] at h;have:=Nat.eq_of_beq_eq_true hb;subst this h;exact hl
 ·cases h
theorem jn{o s:Nat}{t:aG}{xs:List (den t)}(h:rowOf st o s=some ⟨t,xs⟩):look st.sites o=some (.row s t xs)\/look st.sites o=some (.cQ s t xs):=by
 unfold rowOf ad.O at h;split at h
 ·rename_i am bc hk hl;cases hb:am.beq s with
  |false=>simp[hb] at h
  |true=>
   simp only[hb,cond_true,Option.some.injEq] at h;have:=Nat.eq_of_beq_eq_true hb;subst this;cases h;exact .inl hl
 ·rename_i am bc hk hl;cases hb:am.beq s with
  |false=>simp[hb] at h
  |true=>
   simp only[hb,cond_true,Option.some.injEq] at h;have:=Nat.eq_of_beq_eq_true hb;subst this;cases h;exact .inr hl
 ·cases h
theorem Ref.at{sites:List (Nat×Site)}{o s:Nat}{p:Prop}{O:Site}(h:Ref sites o s p)(hl:look sites o=some O)(M:O.bX=s):p:=by
 obtain⟨bw,h1,_,Z⟩:=h;rw[hl] at h1;cases h1;exact Z M
theorem Ref.mk{sites:List (Nat×Site)}{o s:Nat}{p:Prop}{O:Site}(hl:look sites o=some O)(M:O.bX=s)(al:p):Ref sites o s p:=
 ⟨O,hl,by omega,fun _=>al⟩
theorem af.box(S:af L J X B st tm w){o s off:Nat}{cells:List au}(h:look st.sites o=some (.box s cells)){v:Value}(hv:dd B st.sites w (an X B st.sites) (.ptr o s off) v):
  ∃b T cur,B o=.pointer (some ⟨b,0,none⟩)/\v=.pointer (some ⟨b,off,none⟩)/\w.heap[b]? =some (.cells (List.toArray cur) T (0,0))/\(∀u∈cur,u.oneCell'=true)/\ch B st.sites w (an X B st.sites) cells cur:=by
 obtain⟨b,T,cur,h1,h2,Z,aI,_,bp⟩:=S.sites o _ h;obtain⟨a6,g2,g3⟩:=hv;have g1:=Ref.at g3 h rfl;rw[h1] at g1;cases g1;exact⟨b,T,cur,h1,g2,h2,aI,Z,bp⟩
theorem af.row(S:af L J X B st tm w){o s:Nat}{t:aG}{xs:List (den t)}(h:rowOf st o s=some ⟨t,xs⟩):
  ∃cs:List Value,ch B st.sites w (an X B st.sites) (cy (flat t xs)) cs/\
   ((bT (B o)=.slice none 0 0/\xs=[])\/∃b c,bT (B o)=.slice (some ⟨b,0,none⟩) xs.length c/\g_ w b 0 cs/\xs.length<=c):=by
 rcases jn h with h|h
 ·obtain⟨e,cs,h1,h2⟩:=S.sites o _ h;have hl:cs.length=(flat t xs).length:=by rw[dP];exact h1.1
  refine⟨cs,gT hl h2,?_⟩;rw[(iq h1).1];rcases h1.2 with⟨hn,h0⟩|⟨g,cap,cur,bv,hv,_,hg,hnc,_,_,jG⟩
  ·exact .inl ⟨hn,List.eq_nil_of_length_eq_zero h0⟩
  ·refine .inr ⟨_,_,hv,fun j u hu=>?_,hnc⟩
   rw[Nat.zero_add,cell_of_row w g j cur e bv hg];rw[<-jG,List.getElem?_take] at hu;split at hu
   ·simpa using hu
   ·cases hu
 ·obtain⟨h1,bU⟩:ba w (an X B st.sites) (.sl t xs) (bT (B o))/\uO (bT (B o)):=S.sites o _ h;generalize hv:bT (B o)=v at h1 bU;cases h1 with
  |nil t=>exact⟨[],⟨rfl,fun j h=>by simp[cy,flat] at h⟩,.inl ⟨rfl,rfl⟩⟩
  |sl t xs a cap cs n hn hcap hb hl hc hr=>
   subst hn;rcases bU with bU|⟨b,n,c,bU⟩
   ·cases bU
   ·cases bU;exact⟨cs,gT hl hr,.inr ⟨b,cap,rfl,fun j u hu=>by have:=hc j u hu;rwa[gh] at this,hcap⟩⟩
def Qt(g:Nat)(t:aG)(xs:List (den t)):Prop:=g∈nP/\∀w (av:Nat->Prop),oV w->∃T bv,∃cs:List Value,w.heap[g]? =some (.cells cs.toArray T bv)/\cs.length=(flat t xs).length/\∀j (h:j<(flat t xs).length) (ab:j<cs.length),ba w av ((flat t xs)[j]) (cs[j])
structure CtxOk(P:Program)(C:Ctx):Prop where
 tt:∀T,(C.tt T).ok P T
 gt:∀g t xs,C.gt g=some ⟨t,xs⟩->Qt g t xs
theorem Cd{ti:cd}(h:ti.known=true):ti≠.none:=by rintro rfl;cases h
theorem Cy{ti:cd}(h:ti.agg=false):ti.size=1:=by cases ti<;>first|rfl|cases h
theorem ZT{agg:Bool}{off n:Nat}{U:List au}(h:off+n<=U.length)(h1:agg=false->n=1):cut agg off n U≠none:=by
 unfold cut;cases agg with
 |true=>
  have:Nat.ble (off+n) U.length=true:=Nat.ble_eq_true_of_le h;simp[this]
 |false=>
  have:=h1 rfl;simp only[cond_false];cases Y:U.drop off with
  |nil=>have:=congrArg List.length Y;simp at this;omega
  |cons l r=>simp
theorem _0(S:af L J X B st tm w){C:Ctx}(ay:CtxOk P C){D:Oper}{T:TypeId}{x:Operand}(aq:D.op=.load T x)(Y:b1 st D.dst=true)(ag:(C.tt T).known=true):
  Holds (rJ (C.tt T).agg (C.tt T).size st (aO C st T x)) (cv P L J X st tm w D):=by
 have hn:=Cd ag;have bh:=cS S C T x;have fin:∀{b p:Nat} {U:List au} {vs:List Value} {off:Nat} {v:aK},Act.eval ⟨tm,[]⟩ x=.pointer (some ⟨b,p+off,none⟩)->g_ w b p vs->ch B st.sites w (an X B st.sites) U vs->
   cut (C.tt T).agg off (C.tt T).size U=some v->cv P L J X st tm w D v []:=by
  intro b p U vs off v hx hc hl iV;obtain⟨c8,GF⟩:=ME iV Cy hl;refine dq S Y (vv:=rC (C.tt T).agg ((vs.drop off).take (C.tt T).size)) ?_ GF;have cG:=qA (P:=P) (w:=w) (ay.tt T) hn ⟨b,p+off,none⟩ ((vs.drop off).take (C.tt T).size) (by simp;omega) (fun j u hu=>by rw[gh];exact(hc.drop off).take _ j u hu)
  unfold execOp;simp only[aq,Instr.loadAt,Instr.sureAddr,hx,Sem.run_bind,Sem.run_pure,Result.andThen_ok,cG]
 unfold rJ;split
 ·rename_i o s off bP;rw[bP] at bh;split
  ·rename_i cells hb;split
   ·rename_i v iV;obtain⟨b,fy,cur,_,hv,hg,_,hl⟩:=S.box (gu hb) bh;exact Holds.ok (fin (p:=0) (by rw[Nat.zero_add];exact hv) (g_.row hg) hl iV)
   ·exact .fail
  ·exact .fail
 ·rename_i cells off bP;rw[bP] at bh;split
  ·rename_i v iV;obtain⟨b,p,hv,_,_,cs,hl,hc,hr⟩:=bh;exact Holds.ok (fin hv hc (gT hl hr) iV)
  ·exact .fail
 ·rename_i o s u k off bP;rw[bP] at bh;split
  ·rename_i t xs cO;split
   ·rename_i nI;obtain⟨rfl,c8⟩:=nI;refine Holds.d' fun y aj=>?_
    have dL:xs[k]? =some y:=aj;obtain⟨cs,hl,iQ⟩:=S.row cO;have c9:∃O,look st.sites o=some O/\O.bX=s:=by
     rcases jn cO with h|h<;>exact⟨_,h,rfl⟩
    obtain⟨O,fZ,jH⟩:=c9;obtain⟨b,hv,uH⟩:=bh;obtain⟨n,c,bR⟩:=Ref.at uH fZ jH;cases iV:cut (C.tt T).agg off (C.tt T).size (cy (enc t y)) with
    |none=>exact absurd iV (ZT (by simpa[cy,e8] using c8) Cy)
    |some v=>
     rcases iQ with⟨oA,_⟩|⟨a6,fm,dI,hcs,_⟩
     ·rw[bR] at oA;cases oA
     ·rw[bR] at dI;cases dI;have e1:cy (enc t y)=((cy (flat t xs)).drop (k*ar t)).take (ar t):=by
       rw[<-s' t xs k y dL];simp[cy,List.map_drop,List.map_take]
      rw[e1] at iV;refine fin (p:=k*ar t) hv ?_ ((hl.drop (k*ar t)).take (ar t)) iV;have:=(hcs.drop (k*ar t)).take (ar t);rwa[Nat.zero_add] at this
   ·exact .fail
  ·exact .fail
 ·exact .fail
end
section
variable {P:Program}{L:World}{J:List Nat}{X:Nat->Prop}{B:Nat->Value}{st:ad}{tm:Array Value}{w:World}
theorem to{u:Bool}{e:TypeId}{size:Nat}{v:Value}{n:Nat}{xs:List Value}{b:Nat}(h:rowAt w u e size v n xs)(hb:a8 v=some b):b<w.heap.size:=by
 rcases h.2 with⟨hn,_⟩|⟨g,cap,cur,bv,hv,_,hg,_⟩
 ·rw[hn] at hb;cases hb
 ·rw[hv] at hb;cases hb;exact(Array.getElem?_eq_some_iff.1 hg).1
theorem Deep.lt{av:Nat->Prop}{ds:List aL}{cs aA:List Value}(h:Deep w av ds cs aA):∀n,n∈aA->∀b,a8 n=some b->b<w.heap.size:=by
 induction h with
 |nil=>intro n hn;cases hn
 |row u ys e U _ h _ _ ih=>
  intro n hn b hb;rcases List.mem_cons.1 hn with rfl|hn
  ·exact to h hb
  ·exact ih n hn b hb
 |leaf _ _ _ ih=>exact ih
theorem af.dW(S:af L J X B st tm w){o b:Nat}(hl:bS st.sites o)(hb:b∈bA (B o)):b<w.heap.size:=by
 obtain⟨O,h1,h2⟩:=hl;have:=S.sites o O h1;cases O with
 |box s cells=>
  obtain⟨a6,T,cur,g1,g2,_⟩:=this;rw[g1] at hb;have hb:b∈[a6]:=hb;rw[List.mem_singleton.1 hb];exact(Array.getElem?_eq_some_iff.1 g2).1
 |row s t xs=>
  obtain⟨e,cs,g1,_⟩:=this;exact to g1 (tB g1 hb)
 |map s t es=>
  obtain⟨a6,g1,g2⟩:=this;rw[g1] at hb;have hb:b∈[a6]:=hb;rw[List.mem_singleton.1 hb];exact g2.lt
 |deep s t xs=>
  obtain⟨e,v,aA,cs,g1,_,g2,g3⟩:=this;rw[g1] at hb;rcases ij.1 hb with hb|⟨n,hn,hb⟩
  ·exact to g2 hb
  ·exact g3.lt n hn b hb
 |cQ=>cases h2
 |dead=>cases h2
theorem yI{B ax:Nat->Value}{sites bi:List (Nat×Site)}{w w':World}{av bN:Nat->Prop}(go:∀{a:aK} {v:Value},b9 B sites w av a v->b9 ax bi w' bN a v){U:List au}{vs:List Value}
  (h:ch B sites w av U vs):ch ax bi w' bN U vs:=by
 obtain⟨cm,h1,h2,Z⟩:=go (a:=.av (.agg U)) (v:=.agg vs.toArray) ⟨vs,rfl,h.1,h.2⟩;have:vs=cm:=by simpa using h1
 subst this;exact⟨h2,Z⟩
theorem js{B ax:Nat->Value}{sites bi:List (Nat×Site)}{w w':World}{av bN:Nat->Prop}(go:∀{a:aK} {v:Value},b9 B sites w av a v->b9 ax bi w' bN a v){d:aL}{v:Value}
  (h:ba w av d v):ba w' bN d v:=go (a:=one d) (v:=v) h
theorem Jh{sites:List (Nat×Site)}{o:Nat}{O bw:Site}(hl:look sites o=some O)(h:bw.live=O.live)(F:Nat):bS (b3 sites o bw) F <-> bS sites F:=by
 unfold bS;rw[ck];by_cases e:o=F
 ·subst e;simp only[if_true,hl,Option.some.injEq];constructor
  ·rintro⟨s,rfl,h2⟩;exact⟨O,rfl,h▸h2⟩
  ·rintro⟨s,rfl,h2⟩;exact⟨bw,rfl,h▸h2⟩
 ·simp only[e,if_false]
theorem af.write(S:af L J X B st tm w){o b:Nat}{O bw:Site}{cur sk:Array Value}{T:TypeId}{ct:Nat×Nat}(hl:look st.sites o=some O)(fB:O.live=true)(abk:bw.live=true)(M:bw.bX=O.bX)
  (bR:b∈bA (B o)) (hg:w.heap[b]? =some (.cells cur T ct))
  (fb:∀{bi:List (Nat×Site)} {w':World},bi=b3 st.sites o bw->w'=w.setRow b sk->w'.heap[b]? =some (.cells sk T ct)->
   (∀{a v},b9 B st.sites w (an X B st.sites) a v->b9 B bi w' (an X B bi) a v)->ir B bi w' (an X B bi) o bw):
  af L J X B {st with sites:=b3 st.sites o bw} tm (w.setRow b sk):=by
 have cn:bS st.sites o:=⟨O,hl,fB⟩;have lw:∀F,bS (b3 st.sites o bw) F <-> bS st.sites F:=Jh hl (abk.trans fB.symm);have bW:∀a6,an X B (b3 st.sites o bw) a6 <-> an X B st.sites a6:=by
  intro a6;unfold an;simp only[lw]
 have hne:∀a6,¬an X B st.sites a6->a6≠b:=by
  rintro a6 h rfl;exact h (.inr ⟨o,cn,bR⟩)
 refine S.ox (fun F s bm=>?_) (fun a6 h _=>setRow_other w b a6 _ (hne a6 h)) (fun a6 h _=>by rw[bW];exact h) (fun go F s bm=>?_) (fun F aN a6 h1 h2=>S.c' F aN a6 ((lw F).1 h1) ((lw aN).1 h2))
  (fun F a6 h=>S.b2 F a6 ((lw F).1 h)) (fun F a6 h hb=>by rw[setRow_size];exact S.dW ((lw F).1 h) hb) ?_ (by rw[setRow_size];exact Nat.le_refl _)
 ·rw[ck];by_cases e:o=F
  ·subst e;rw[hl] at bm;cases bm;exact⟨bw,by simp,by omega,fun _=>rfl⟩
  ·exact⟨s,by simp[e,bm],Nat.le_refl _,fun _=>rfl⟩
 ·rw[ck] at bm;by_cases e:o=F
  ·subst e;simp only[if_true,Option.some.injEq] at bm;subst bm;exact .inr (fb rfl rfl (setRow_heap w b cur sk T ct hg) go)
  ·simp only[e,if_false] at bm;refine .inl ⟨bm,rfl,fun se a6 b5=>setRow_other w b a6 _ ?_⟩
   rintro rfl;exact e (S.c' o F _ cn ⟨s,bm,se⟩ bR b5)
 ·have aQ:=S.frame;refine⟨aQ.os,aQ.tape,aQ.output,by rw[setRow_size];exact aQ.size,fun a6 h1 h2=>?_⟩
  rw[setRow_other w b a6 _ ?_]
  ·exact aQ.block a6 h1 h2
  ·rintro rfl;rcases(S.b2 o _ cn bR).2 with h|h
   ·exact h2 h
   ·omega
theorem Bx{av:Nat->Prop}{t:aG}{xs:List (den t)}{e:TypeId}{v:Value}{cs:List Value}(h1:rowAt w t.ek e (ar t) v xs.length cs)(h2:cf w av (flat t xs) cs)(hb:∀b,a8 v=some b->¬av b):ba w av (.sl t xs) v/\uO v:=by
 rcases h1.2 with⟨hn,h0⟩|⟨g,cap,cur,bv,hv,_,hg,hnc,_,_,jG⟩
 ·have:xs=[]:=List.eq_nil_of_length_eq_zero h0;subst this;rw[hn];exact⟨.nil t,.inl rfl⟩
 ·rw[hv];refine⟨?_,.inr ⟨_,_,_,rfl⟩⟩;refine .sl t xs _ cap cs xs.length rfl hnc (fun _=>hb g (by rw[hv];rfl)) h2.1 (fun j u hu=>?_) h2.2
  rw[gh,Nat.zero_add,cell_of_row w g j cur e bv hg];rw[<-jG,List.getElem?_take] at hu;split at hu
  ·simpa using hu
  ·cases hu
theorem cf.cons{av:Nat->Prop}{d:aL}{ds:List aL}{v:Value}{vs:List Value}(h:ba w av d v)(k:cf w av ds vs):cf w av (d::ds) (v::vs):=by
 refine⟨by simp[k.1],fun j g1 g2=>?_⟩
 cases j with
 |zero=>exact h
 |succ j=>exact k.2 j (by simpa using g1) (by simpa using g2)
theorem Deep.ahv{w':World}{av bN:Nat->Prop}{ds:List aL}{cs aA:List Value}(h:Deep w av ds cs aA)(go:∀{d v},ba w av d v->ba w' bN d v):
  (∀n,n∈aA->∀b,a8 n=some b->¬bN b/\w'.heap[b]? =w.heap[b]?)->cf w' bN ds cs:=by
 induction h with
 |nil=>intro _;exact⟨rfl,fun j h=>by simp at h⟩
 |row u ys e U _ h hr _ ih=>
  intro ag;refine .cons (Bx (pb h fun b hb=>(ag _ List.mem_cons_self b hb).2) ⟨hr.1,fun j g1 g2=>go (hr.2 j g1 g2)⟩ fun b hb=>(ag _ List.mem_cons_self b hb).1).1 (ih fun n hn=>ag n (List.mem_cons_of_mem _ hn))
 |leaf _ h _ ih=>intro ag;exact .cons (go h) (ih ag)
theorem af.freeze(S:af L J X B st tm w){o s:Nat}{t:aG}{xs:List (den t)}(hl:look st.sites o=some (.row s t xs)\/look st.sites o=some (.deep s t xs)):
  af L J X B {st with sites:=b3 st.sites o (.cQ s t xs)} tm w:=by
 have cn:bS st.sites o:=by rcases hl with hl|hl<;>exact⟨_,hl,rfl⟩
 have dw:∀F,bS (b3 st.sites o (.cQ s t xs)) F->bS st.sites F/\F≠o:=by
  rintro F ⟨O,h1,h2⟩;rw[ck] at h1;by_cases e:o=F
  ·subst e;simp at h1;subst h1;cases h2
  ·simp only[e,if_false] at h1;exact⟨⟨O,h1,h2⟩,fun h=>e h.symm⟩
 have bW:∀a6,an X B (b3 st.sites o (.cQ s t xs)) a6->an X B st.sites a6:=by
  rintro a6 (h|⟨F,h1,h2⟩)
  ·exact .inl h
  ·exact .inr ⟨F,(dw F h1).1,h2⟩
 have lL:∀b,b∈bA (B o)->¬an X B (b3 st.sites o (.cQ s t xs)) b:=by
  rintro b hb (hx|⟨F,g1,g2⟩)
  ·exact(S.b2 o b cn hb).1 hx
  ·obtain⟨g3,eF⟩:=dw F g1;exact eF (S.c' F o b g3 cn g2 hb)
 refine S.ox (fun F O bm=>?_) (fun _ _ _=>rfl) (fun a6 h _ ab=>h (bW a6 ab)) (fun go F O bm=>?_) (fun F aN a6 h1 h2=>S.c' F aN a6 (dw F h1).1 (dw aN h2).1)
  (fun F a6 h=>S.b2 F a6 (dw F h).1) (fun F a6 h hb=>S.dW (dw F h).1 hb) S.frame (Nat.le_refl _)
 ·rw[ck];by_cases e:o=F
  ·subst e;refine⟨.cQ s t xs,by simp,?_,fun _=>rfl⟩
   rcases hl with hl|hl<;>rw[hl] at bm<;>cases bm<;>exact Nat.le_refl _
  ·exact⟨O,by simp[e,bm],Nat.le_refl _,fun _=>rfl⟩
 ·rw[ck] at bm;by_cases e:o=F
  ·subst e;simp only[if_true,Option.some.injEq] at bm;subst bm;refine .inr ?_
   show ba _ _ (.sl t xs) (bT (B o))/\uO (bT (B o));rcases hl with hl|hl
   ·obtain⟨bY,cs,h1,h2⟩:=S.sites o _ hl;rw[(iq h1).1];exact Bx h1 ⟨by rw[dP];exact h1.1,fun j g1 g2=>js go (h2 j g1 g2)⟩ fun b hb=>lL b (fR hb)
   ·obtain⟨bY,v,aA,cs,h0,_,h1,h2⟩:=S.sites o _ hl;have bU:bT (B o)=v:=by rw[h0];rfl
    rw[bU];exact Bx h1 (h2.ahv (js go) fun n hn b hb=>⟨lL b (by rw[h0];exact ij.2 (.inr ⟨n,hn,hb⟩)),rfl⟩) fun b hb=>lL b (by rw[h0];exact ij.2 (.inl hb))
  ·simp only[e,if_false] at bm;exact .inl ⟨bm,rfl,fun _ _ _=>rfl⟩
theorem Km{aE:Type}(l:List (Nat×aE))(n:Nat)(v:aE)(h:look l n=some v):b3 l n v=l:=by
 induction l with
 |nil=>simp[look] at h
 |cons p l ih=>
  obtain⟨k,u⟩:=p;simp only[look] at h;simp only[b3];cases hb:k.beq n with
  |true=>simp only[hb,cond_true,Option.some.injEq] at h;subst h;simp
  |false=>simp only[hb,cond_false] at h;simp[ih h]
def di(sites:List (Nat×Site))(us:List (Nat×Site)):Prop:=
 ∀o O,(o,O)∈us->∃s t,∃xs:List (den t),O=.cQ s t xs/\(look sites o=some (.row s t xs)\/look sites o=some (.cQ s t xs)\/look sites o=some (.deep s t xs))
theorem di.nil{sites:List (Nat×Site)}:di sites []:=fun _ _ h=>by simp at h
theorem di.append{sites us vs:List (Nat×Site)}(h:di sites us)(ab:di sites vs):di sites (us++vs):=by
 intro o O hm;rcases List.mem_append.1 hm with hm|hm
 ·exact h o O hm
 ·exact ab o O hm
theorem di.step{sites us:List (Nat×Site)}{o:Nat}{O:Site}(h:di sites ((o,O)::us)):di (b3 sites o O) us:=by
 obtain⟨s,t,xs,rfl,hl⟩:=h o O (by simp)
 intro F bw hm;obtain⟨am,bc,hk,rfl,ft⟩:=h F bw (by simp[hm])
 refine⟨am,bc,hk,rfl,?_⟩;rw[ck];by_cases e:o=F
 ·subst e;simp only[if_true];right;left;rcases hl with hl|hl|hl<;>rcases ft with ft|ft|ft<;>rw[hl] at ft<;>cases ft<;>rfl
 ·simp only[e,if_false];exact ft
theorem af.yg{us:List (Nat×Site)}:∀{st:ad},af L J X B st tm w->di st.sites us->af L J X B {st with sites:=aT st.sites us} tm w:=by
 induction us with
 |nil=>intro st S _;exact S
 |cons p us ih=>
  obtain⟨o,O⟩:=p;intro st S h;have ab:=h.step;obtain⟨s,t,xs,rfl,hl⟩:=h o O (by simp)
  simp only[aT];rcases hl with hl|hl|hl
  ·exact ih (S.freeze (.inl hl)) ab
  ·rw[Km _ _ _ hl] at ab ⊢;exact ih S ab
  ·exact ih (S.freeze (.inr hl)) ab
theorem lc{us:List (Nat×Site)}:∀{sites:List (Nat×Site)},di sites us->∀o,(look (aT sites us) o=look sites o)\/(∃s t,∃xs:List (den t),(look sites o=some (.row s t xs)\/look sites o=some (.cQ s t xs)\/look sites o=some (.deep s t xs))/\look (aT sites us) o=some (.cQ s t xs)):=by
 induction us with
 |nil=>intro sites _ o;exact .inl rfl
 |cons p us ih=>
  obtain⟨F,O⟩:=p;intro sites h o;obtain⟨s,t,xs,rfl,hl⟩:=h F O (by simp)
  simp only[aT];have hc:=ck sites F o (.cQ s t xs);rcases ih h.step o with h1|⟨am,bc,hk,h1,h2⟩
  ·by_cases e:F=o
   ·subst e;simp only[if_true] at hc;exact .inr ⟨s,t,xs,hl,h1.trans hc⟩
   ·simp only[e,if_false] at hc;exact .inl (h1.trans hc)
  ·by_cases e:F=o
   ·subst e;simp only[if_true] at hc;rw[hc] at h1;rcases h1 with h1|h1|h1
    ·cases h1
    ·cases h1;exact .inr ⟨s,t,xs,hl,h2⟩
    ·cases h1
   ·simp only[e,if_false] at hc;rw[hc] at h1;exact .inr ⟨am,bc,hk,h1,h2⟩
theorem wh{us:List (Nat×Site)}:∀{sites:List (Nat×Site)},di sites us->∀{o s:Nat} {t:aG} {xs:List (den t)},(o,Site.cQ s t xs)∈us->look (aT sites us) o=some (.cQ s t xs):=by
 intro sites h o s t xs hm;obtain⟨jh,t0,z0,he,hl⟩:=h o _ hm;cases he;rcases lc h o with h1|⟨am,bc,hk,h1,h2⟩
 ·-- named,and anh al1
  induction us generalizing sites with
  |nil=>simp at hm
  |cons p us ih=>
   obtain⟨F,O⟩:=p;simp only[aT] at h1 ⊢;rcases List.mem_cons.1 hm with hm|hm
   ·cases hm;rcases lc h.step o with h2|⟨am,bc,hk,h2,Z⟩
    ·rw[h2,ck];simp
    ·rw[ck] at h2;simp at h2;obtain⟨rfl,rfl,h2⟩:=h2;rw[Z];cases h2;rfl
   ·have hc:=ck sites F o O;by_cases e:F=o
    ·subst e;obtain⟨s1,t1,ag0,rfl,hl1⟩:=h F O (by simp)
     have:Site.cQ s1 t1 ag0=Site.cQ s t xs:=by
      rcases hl with hl|hl|hl<;>rcases hl1 with hl1|hl1|hl1<;>rw[hl] at hl1<;>cases hl1<;>rfl
     cases this;simp only[if_true] at hc;rcases lc h.step F with h2|⟨am,bc,hk,h2,Z⟩
     ·rw[h2,hc]
     ·rw[hc] at h2;rcases h2 with h2|h2|h2
      ·cases h2
      ·cases h2;exact Z
      ·cases h2
    ·simp only[e,if_false] at hc;refine ih h.step hm (by rw[hc];exact hl) ?_
     rw[h1,hc]
 ·rcases hl with hl|hl|hl<;>rcases h1 with h1|h1|h1<;>rw[hl] at h1<;>cases h1<;>exact h2
end
section
variable {P:Program}{L:World}{J:List Nat}{X:Nat->Prop}{B:Nat->Value}{st:ad}{tm:Array Value}{w:World}
structure kB(L:World)(J:List Nat)(X:Nat->Prop)(B:Nat->Value)(st:ad)(tm:Array Value)(w:World)(vs:List (Nat×Site)):Prop where
 old:af L J X B st tm w
 bv:di st.sites vs
theorem kB.new{vs:List (Nat×Site)}(aQ:kB L J X B st tm w vs):af L J X B {st with sites:=aT st.sites vs} tm w:=aQ.old.yg aQ.bv
theorem kB.go{vs:List (Nat×Site)}(aQ:kB L J X B st tm w vs){a:aK}{v:Value}(h:b9 B st.sites w (an X B st.sites) a v):b9 B (aT st.sites vs) w (an X B (aT st.sites vs)) a v:=by
 have dw:∀F,bS (aT st.sites vs) F->bS st.sites F:=by
  rintro F ⟨O,h1,h2⟩;rcases lc aQ.bv F with h|⟨s,t,xs,_,h⟩
  ·exact⟨O,h▸h1,h2⟩
  ·rw[h] at h1;cases h1;cases h2
 refine h.goes ⟨fun o O a_=>?_,fun _ _ _=>rfl,fun b hb _ b5=>hb ?_⟩ (Nat.le_refl _) ?_
 ·rcases lc aQ.bv o with h|⟨s,t,xs,h1,h2⟩
  ·exact⟨O,h.trans a_,Nat.le_refl _,fun _=>rfl⟩
  ·refine⟨_,h2,?_,fun _=>rfl⟩
   rw[a_] at h1;rcases h1 with h1|h1|h1<;>cases h1<;>exact Nat.le_refl _
 ·rcases b5 with h|⟨F,h1,h2⟩
  ·exact .inl h
  ·exact .inr ⟨F,dw F h1,h2⟩
 ·rintro b (h|⟨F,h1,h2⟩)
  ·exact aQ.old.old b h
  ·exact aQ.old.dW (dw F h1) h2
theorem _9{o s:Nat}{t:aG}{xs:List (den t)}(hr:rowOf st o s=some ⟨t,xs⟩):di st.sites (lz st o s t xs):=by
 unfold lz;split
 ·exact .nil
 ·intro F O hm;simp only[List.mem_singleton,Prod.mk.injEq] at hm;obtain⟨rfl,rfl⟩:=hm;exact⟨s,t,xs,rfl,(jn hr).imp id .inl⟩
theorem KU{o s:Nat}{t:aG}{xs:List (den t)}(hr:rowOf st o s=some ⟨t,xs⟩):aT st.sites (lz st o s t xs)=aT st.sites [(o,.cQ s t xs)]:=by
 unfold lz;split
 ·rename_i jh t0 z0 h0;have h0:look st.sites o=some (.cQ jh t0 z0):=h0;simp only[aT];rcases jn hr with h|h
  ·rw[h0] at h;cases h
  ·exact(Km _ _ _ h).symm
 ·rfl
theorem Ye{sites us:List (Nat×Site)}(h:di sites us){o s:Nat}{t:aG}{xs:List (den t)}(hl:look sites o=some (.cQ s t xs)):look (aT sites us) o=some (.cQ s t xs):=by
 rcases lc h o with h1|⟨am,bc,hk,h1,h2⟩
 ·rw[h1];exact hl
 ·rw[hl] at h1;rcases h1 with h1|h1|h1
  ·cases h1
  ·cases h1;exact h2
  ·cases h1
theorem s6{o s:Nat}{t:aG}{xs:List (den t)}(h:lj st o s=some ⟨t,xs⟩):look st.sites o=some (.deep s t xs):=by
 unfold lj at h;split at h
 ·rename_i am bc hk M;cases hb:am.beq s with
  |false=>rw[hb] at h;cases h
  |true=>
   rw[hb] at h;have:=Nat.eq_of_beq_eq_true hb;subst this;cases h;exact M
 ·cases h
theorem MD{l:au}{d:aL}{us:List (Nat×Site)}(h:jc st l=some (d,us)):di st.sites us:=by
 unfold jc at h;split at h
 ·cases h;exact .nil
 ·cases h;exact .nil
 ·rename_i o s;split at h
  ·rename_i t xs hr;cases h;exact _9 hr
  ·split at h
   ·rename_i t xs hr;cases h;intro F O hm;simp only[List.mem_singleton,Prod.mk.injEq] at hm;obtain⟨rfl,rfl⟩:=hm;exact⟨s,t,xs,rfl,.inr (.inr (s6 hr))⟩
   ·cases h
 ·cases h;exact .nil
 ·cases h
theorem MC{l:au}{d:aL}{us vs:List (Nat×Site)}{v:Value}(h:jc st l=some (d,us))(hv:dd B st.sites w (an X B st.sites) l v)
  (aQ:kB L J X B st tm w vs) (dw:∀p,p∈us->p∈vs):ba w (an X B (aT st.sites vs)) d v:=by
 unfold jc at h;split at h
 ·cases h;exact js aQ.go hv
 ·cases h;rw[show v=_ from hv];exact .nil _
 ·rename_i o s;split at h
  ·rename_i t xs hr;cases h;have hl:look (aT st.sites vs) o=some (.cQ s t xs):=by
    unfold lz at dw;split at dw
    ·rename_i jh t0 z0 h0;have h0:look st.sites o=some (.cQ jh t0 z0):=h0;rcases jn hr with h|h
     ·rw[h0] at h;cases h
     ·exact Ye aQ.bv h
    ·exact wh aQ.bv (dw _ (List.mem_singleton.2 rfl))
   have:=aQ.new.sites o _ hl;have iC:v=bT (B o):=by
    rcases jn hr with h1|h1<;>exact Ref.at hv.2 h1 rfl
   rw[iC];exact this.1
  ·split at h
   ·rename_i t xs hr;cases h;have:=aQ.new.sites o _ (wh aQ.bv (dw _ (List.mem_singleton.2 rfl)));have iC:v=bT (B o):=Ref.at hv.2 (s6 hr) rfl;rw[iC];exact this.1
   ·cases h
 ·rename_i g;cases h;obtain⟨U,rfl,hl,_⟩:=hv;have:U=[]:=List.eq_nil_of_length_eq_zero (by simpa using hl)
  subst this;exact .fn g [] [] (fun _=>[]) _ rfl rfl (fun b hb=>by simp at hb) (fun b hb=>by simp at hb) (fun i hi=>by simp at hi) (fun i hi=>by simp at hi) (fun i hi=>by simp at hi)
 ·cases h
theorem DF:∀{U:List au} {ds:List aL} {us:List (Nat×Site)},gX st U=some (ds,us)->di st.sites us:=by
 intro U;induction U with
 |nil=>intro ds us h;simp only[gX] at h;cases h;exact .nil
 |cons l U ih=>
  intro ds us h;simp only[gX] at h;split at h
  ·rename_i d u1 f' u2 h1 h2;cases h;exact(MD h1).append (ih h2)
  ·cases h
theorem yk:∀{U:List au} {ds:List aL} {us vs:List (Nat×Site)} {cs:List Value},gX st U=some (ds,us)->ch B st.sites w (an X B st.sites) U cs->
  kB L J X B st tm w vs->(∀p,p∈us->p∈vs)->cf w (an X B (aT st.sites vs)) ds cs:=by
 intro U;induction U with
 |nil=>intro ds us vs cs h hl _ _;simp only[gX] at h;cases h;rw[hl.kJ];exact⟨rfl,fun j h=>by simp at h⟩
 |cons l U ih=>
  intro ds us vs cs h hl aQ dw;simp only[gX] at h;split at h
  ·rename_i d u1 f' u2 h1 h2;cases h;obtain⟨c,jd,rfl,hc,hcs⟩:=hl.inv;have r1:=MC h1 hc aQ (fun p al=>dw p (List.mem_append.2 (.inl al)))
   obtain⟨r2,ib⟩:=ih h2 hcs aQ (fun p al=>dw p (List.mem_append.2 (.inr al)))
   refine⟨by simp[r2],fun j g1 g2=>?_⟩
   cases j with
   |zero=>exact r1
   |succ j=>exact ib j (by simpa using g1) (by simpa using g2)
  ·cases h
theorem kX.run{P:Program}{u:Bool}(g D:Nat)(t:TypeId)(bv:Nat×Nat):∀(vs:List Value) (i:Nat) (cur:Array Value) (w:World),w.heap[g]? =some (.cells cur t bv)->kX u t cur bv->D+i+vs.length<=cur.size->(∀v∈vs,v.oneCell'=true)->
  (storeCells ⟨g,D,none⟩ vs i).run P w=.ok () (w.setRow g (cur.toList.take (D+i)++vs++cur.toList.drop (D+i+vs.length)).toArray)
 |[],i,cur,w,hg,_,_,_=>by
  simp only[storeCells,List.append_nil,List.length_nil,Nat.add_zero,List.take_append_drop,Array.toArray_toList];rw[setRow_self w g cur t bv hg];rfl
 |v::rest,i,cur,w,hg,hz,hl,h1=>by
  have hi:D+i<cur.size:=by simp at hl;omega
  have aeX:(⟨g,D,none⟩:Addr).add i=⟨g,D+i,none⟩:=by unfold Addr.add;split<;>simp_all
  have iQ:w.cell? ⟨g,D+i,none⟩=some cur[D+i]:=by simp[World.cell?,hg,hi]
  have aeO:w.frozen? ⟨g,D+i,none⟩=false:=by
   rcases hz.2 with rfl|⟨_,hz⟩
   ·simp[World.frozen?,hg]
   ·simp only[World.frozen?,hg];have:¬bv.1<=D+i:=by omega
    simp[this]
  have c9:(store ((⟨g,D,none⟩:Addr).add i) v).run P w=.ok () (w.setRow g (cur.setIfInBounds (D+i) v)):=by
   rw[aeX,run_store P w _ v _ (h1 v (by simp)),iQ]
   simp[aeO,setCell_eq_setRow w g (D+i) cur t bv v hg]
  have ih:=kX.run (P:=P) (u:=u) g D t bv rest (i+1) (cur.setIfInBounds (D+i) v) (w.setRow g (cur.setIfInBounds (D+i) v)) (setRow_heap w g cur _ t _ hg)
   ⟨hz.1,hz.2.imp id fun h=>⟨h.1,by simpa using h.2⟩⟩ (by simp at hl ⊢;omega) (fun x hx=>h1 x (by simp[hx]))
  simp only[storeCells,Sem.run_bind,c9,Result.andThen_ok,ih,setRow_setRow];congr 3
  have e:=list_seg_step cur.toList (D+i) v rest (by simp at hl ⊢;omega)
  simpa[Array.toList_setIfInBounds,Nat.add_assoc] using e
theorem If{u:Bool}{bv:Nat×Nat}{T:TypeId}{ti:cd}(h:ti.ok P T)(hn:ti≠.none){b off:Nat}{vv:Value}{cur:List Value}{fy:TypeId}(hg:w.heap[b]? =some (.cells cur.toArray fy bv))(hz:kX u fy cur.toArray bv)
  (hsz:vv.cells.toList.length=ti.size) (c8:off+vv.cells.toList.length<=cur.length) (h1:∀u∈vv.cells.toList,u.oneCell'=true):
  (storeVar T ⟨b,off,none⟩ vv).run P w=.ok () (w.setRow b (bd cur off vv.cells.toList).toArray):=by
 have M:vv.cells.size=ti.size:=by simpa using hsz
 have:=kX.run (P:=P) b off fy bv vv.cells.toList 0 cur.toArray w hg hz (by simpa using c8) h1
 simp only[storeVar,Sem.run_bind,cd.KL h hn,Result.andThen_ok,M,ne_eq,not_true_eq_false,if_false];rw[this];simp[bd]
variable {D:Oper}
theorem qC{ax:Nat->Value}{w':World}{us:List (Nat×Site)}(S:af L J X ax {st with sites:=aT st.sites us} tm w')(Y:b1 st D.dst=true)
  (h:(execOp (Act.eval ⟨tm,[]⟩) D).run P w=.ok .skip w'):cv P L J X st tm w D (bJ (.cx undef)) us:=
 fun _ _ bn=>aaF h (bn _ _ _ (af.cz S Y rfl))
theorem ii{ax:Nat->Value}{w':World}{us:List (Nat×Site)}{v:aK}{vv:Value}(S:af L J X ax {st with sites:=aT st.sites us} tm w')(Y:b1 st D.dst=true)
  (h:(execOp (Act.eval ⟨tm,[]⟩) D).run P w=.ok (.value vv) w') (hv:b9 ax (aT st.sites us) w' (an X ax (aT st.sites us)) v vv):cv P L J X st tm w D v us:=
 fun _ _ bn=>mc h (bn _ _ _ (af.cz S Y hv))
theorem l5{aE:Type}(a:List aE)(off:Nat)(b:List aE)(h:off+b.length<=a.length):(bd a off b).length=a.length:=by
 unfold bd;simp only[List.length_append,List.length_take,List.length_drop];omega
theorem A3{aE:Type}(a:List aE)(off n:Nat)(b:List aE)(h:off+b.length<=n)(hn:n<=a.length):(bd a off b).take n=bd (a.take n) off b:=by
 unfold bd;apply List.ext_getElem?;intro j;simp only[List.getElem?_take,List.getElem?_append,List.length_append,List.length_take,List.getElem?_drop];have m1:min off a.length=off:=by omega
 have m2:min off (min n a.length)=off:=by omega
 simp only[m1,m2];by_cases c1:j<off
 ·have c2:j<n:=by omega
  have c3:j<off+b.length:=by omega
  simp[c1,c2,c3]
 ·by_cases c3:j<off+b.length
  ·have c2:j<n:=by omega
   simp[c1,c2,c3]
  ·have e:off+b.length+(j-(off+b.length))=j:=by omega
   simp[c1,c3,e]
theorem V7{cells U:List au}{T:TypeId}{cur vs:List Value}{b off:Nat}(h:mv cells T cur b)(hl:vs.length=U.length)(fK:gf U=true):mv (bd cells off U) T (bd cur off vs) b:=by
 intro bU;unfold bd at bU ⊢;cases off with
 |zero=>
  cases U with
  |nil=>
   cases vs with
   |nil=>simpa using h (by simpa using bU)
   |cons=>cases hl
  |cons l U=>
   simp only[List.take_zero,List.nil_append,List.cons_append,List.head?_cons,Option.some.injEq] at bU;subst bU;cases fK
 |succ n=>
  cases cells with
  |nil=>
   cases U with
   |nil=>simp at bU
   |cons l U=>
    simp only[List.take_nil,List.nil_append,List.cons_append,List.head?_cons,Option.some.injEq] at bU;subst bU;cases fK
  |cons c cells=>
   simp only[List.take_succ_cons,List.cons_append,List.head?_cons,Option.some.injEq] at bU;subst bU;have:=h rfl;cases cur with
   |nil=>simp at this
   |cons v cur=>simpa using this
theorem af.YX(S:af L J X B st tm w){o s off:Nat}{cells U:List au}{v:Value}{vs:List Value}(hb:look st.sites o=some (.box s cells))(hv:dd B st.sites w (an X B st.sites) (.ptr o s off) v)
  (hl:ch B st.sites w (an X B st.sites) U vs) (c8:off+U.length<=cells.length) (h1:∀u∈vs,u.oneCell'=true) (fK:gf U=true):
  ∃b T cur,v=.pointer (some ⟨b,off,none⟩)/\w.heap[b]? =some (.cells (List.toArray cur) T (0,0))/\off+vs.length<=cur.length/\
   af L J X B {st with sites:=b3 st.sites o (.box s (bd cells off U))} tm (w.setRow b (bd cur off vs).toArray):=by
 obtain⟨b,T,cur,bR,nH,hg,hd,ke⟩:=S.box hb hv;have iw:off+vs.length<=cur.length:=by rw[hl.1,ke.1];exact c8
 refine⟨b,T,cur,nH,hg,iw,?_⟩;have fZ:mv cells T cur b:=by
  obtain⟨aJ,du,Px,aB,ao,_,_,bj,_⟩:=S.sites o _ hb;rw[bR] at aB;cases aB;rw[hg] at ao;cases ao;exact bj
 refine S.write hb rfl rfl rfl (fR (by rw[bR];rfl)) hg (fun M hw kh go=>?_)
 have Pk:=yI go (ke.bd off hl);refine⟨b,T,_,bR,kh,Pk.1,fun u hu=>?_,V7 fZ hl.1 fK,Pk.2⟩
 unfold bd at hu;simp only[List.mem_append] at hu;rcases hu with(hu|hu)|hu
 ·exact hd u (List.mem_of_mem_take hu)
 ·exact h1 u hu
 ·exact hd u (List.mem_of_mem_drop hu)
theorem ik{B:Nat->Value}{sites:List (Nat×Site)}{w:World}{av:Nat->Prop}{ds:List aL}{vs:List Value}(h:ch B sites w av (cy ds) vs):cf w av ds vs:=
 ⟨by simpa[cy] using h.1,fun j g1 g2=>by
  have:=h.2 j (by simpa[cy] using g1) g2
  simp only[cy,List.getElem_map] at this;exact this⟩
theorem UR{w:World}{av:Nat->Prop}{t:aG}{xs:List (den t)}{k:Nat}{cT:den t}{cs aA:List Value}(ag:k<xs.length)(h:cf w av (flat t xs) cs)(ab:cf w av (enc t cT) aA):
  cf w av (flat t (xs.set k cT)) (bd cs (k*ar t) aA):=by
 have e:flat t (xs.set k cT)=bd (flat t xs) (k*ar t) (enc t cT):=by
  rw[ZI,if_pos ag];unfold bd;rw[e8,Nat.add_mul,Nat.one_mul]
 rw[e];have a:=gT (B:=fun _=>undef) (sites:=[]) h.1 h.2
 have b:=gT (B:=fun _=>undef) (sites:=[]) ab.1 ab.2
 have c:=a.bd (k*ar t) b;have e2:bd (cy (flat t xs)) (k*ar t) (cy (enc t cT))=cy (bd (flat t xs) (k*ar t) (enc t cT)):=by
  simp[bd,cy,List.map_append,List.map_take,List.map_drop]
 rw[e2] at c;exact ik c
theorem af.YW(S:af L J X B st tm w){o s k off:Nat}{t:aG}{xs:List (den t)}{x cT:den t}{v:Value}{ds:List aL}{vs:List Value}(hb:look st.sites o=some (.row s t xs))
  (hv:dd B st.sites w (an X B st.sites) (.ej o s t k off) v) (hx:xs[k]? =some x) (ka:enc t cT=bd (enc t x) off ds)
  (hl:cf w (an X B st.sites) ds vs) (c8:off+ds.length<=ar t) (h1:∀u∈vs,u.oneCell'=true):
  ∃b T cur bv,v=.pointer (some ⟨b,k*ar t+off,none⟩)/\w.heap[b]? =some (.cells (List.toArray cur) T bv)/\kX t.ek T cur.toArray bv/\k*ar t+off+vs.length<=cur.length/\
   af L J X B {st with sites:=b3 st.sites o (.row s t (xs.set k cT))} tm (w.setRow b (bd cur (k*ar t+off) vs).toArray):=by
 obtain⟨b,nH,jF⟩:=hv;obtain⟨n,c,bR⟩:=Ref.at jF hb rfl;obtain⟨e,cs,iv,dE⟩:=S.sites o _ hb;rw[(iq iv).1] at bR;have ag:k<xs.length:=by
  rcases Nat.lt_or_ge k xs.length with h|h
  ·exact h
  ·rw[List.getElem?_eq_none h] at hx;cases hx
 obtain⟨p1,h⟩:=iv;rcases h with⟨hn,_⟩|⟨g,cap,cur,bv,gn,lP,hg,hnc,gp,hcs,jG⟩
 ·rw[bR] at hn;cases hn
 ·rw[bR] at gn;cases gn;have lN:(k+1)*ar t<=xs.length*ar t:=Nat.mul_le_mul_right _ ag;have hR:xs.length*ar t<=c*ar t:=Nat.mul_le_mul_right _ hnc;rw[Nat.add_mul,Nat.one_mul] at lN;have kb:vs.length=ds.length:=hl.1;have hd:cur.toList.length=c*ar t:=by simpa using hcs
  have iw:k*ar t+off+vs.length<=cur.toList.length:=by omega
  refine⟨b,e,cur.toList,bv,nH,by simpa using hg,by simpa using lP,iw,?_⟩
  refine S.write hb rfl rfl rfl (fR (by rw[bR];rfl)) hg (fun M hw kh go=>?_)
  have amC:cs.length=xs.length*ar t:=p1;refine⟨e,bd cs (k*ar t+off) vs,⟨?_,.inr ⟨b,c,_,bv,?_,?_,kh,?_,gp,?_,?_⟩⟩,?_⟩
  ·rw[l5 _ _ _ (by omega),List.length_set];exact p1
  ·rw[bR,List.length_set]
  ·refine⟨lP.1,?_⟩;rcases lP.2 with h|⟨h,ab⟩
   ·exact .inl h
   ·refine .inr ⟨h,?_⟩;rw[List.size_toArray,l5 _ _ _ iw];simpa using ab
  ·rw[List.length_set];exact hnc
  ·rw[List.size_toArray,l5 _ _ _ iw];exact hd
  ·rw[<-jG,List.length_set,List.toList_toArray];exact A3 _ _ _ _ (by omega) (by rw[hd];omega)
  ·have r0:cf w (an X B st.sites) (flat t xs) cs:=⟨by rw[dP];exact p1,dE⟩
   have fZ:=s' t xs k x hx;have r1:cf w (an X B st.sites) (enc t x) ((cs.drop (k*ar t)).take (ar t)):=by
    have a:=gT (B:=fun _=>undef) (sites:=[]) r0.1 r0.2
    have a6:=(a.drop (k*ar t)).take (ar t);have e2:((cy (flat t xs)).drop (k*ar t)).take (ar t)=cy (enc t x):=by
     rw[<-fZ];simp[cy,List.map_drop,List.map_take]
    rw[e2] at a6;exact ik a6
   have r2:cf w (an X B st.sites) (enc t cT) (bd ((cs.drop (k*ar t)).take (ar t)) off vs):=by
    rw[ka];have a:=gT (B:=fun _=>undef) (sites:=[]) r1.1 r1.2
    have a6:=gT (B:=fun _=>undef) (sites:=[]) hl.1 hl.2
    have fm:=a.bd off a6;have e2:bd (cy (enc t x)) off (cy ds)=cy (bd (enc t x) off ds):=by
     simp[bd,cy,List.map_append,List.map_take,List.map_drop]
    rw[e2] at fm;exact ik fm
   have ib:=UR ag r0 r2;have bI:bd cs (k*ar t) (bd ((cs.drop (k*ar t)).take (ar t)) off vs)=bd cs (k*ar t+off) vs:=by
    unfold bd;apply List.ext_getElem?;intro j;simp only[List.getElem?_append,List.length_append,List.length_take,List.length_drop,List.getElem?_take,List.getElem?_drop];have m1:min (k*ar t) cs.length=k*ar t:=by omega
    have m2:min (k*ar t+off) cs.length=k*ar t+off:=by omega
    have m3:min (ar t) (cs.length-k*ar t)=ar t:=by omega
    have m4:min off (ar t)=off:=by omega
    simp only[m1,m2,m3,m4];by_cases c1:j<k*ar t
    ·have c2:j<k*ar t+off:=by omega
     have c3:j<k*ar t+off+vs.length:=by omega
     have dU:j<k*ar t+(off+vs.length+(ar t-(off+vs.length))):=by omega
     simp[c1,c2,c3,dU]
    ·by_cases c2:j<k*ar t+off
     ·have d1:j-k*ar t<off:=by omega
      have d2:j-k*ar t<off+vs.length:=by omega
      have d3:j-k*ar t<ar t:=by omega
      have c3:j<k*ar t+off+vs.length:=by omega
      have dU:j<k*ar t+(off+vs.length+(ar t-(off+vs.length))):=by omega
      have fw:k*ar t+(j-k*ar t)=j:=by omega
      simp[c1,c2,c3,dU,d1,d2,d3,fw]
     ·by_cases c3:j<k*ar t+off+vs.length
      ·have d1:¬j-k*ar t<off:=by omega
       have d2:j-k*ar t<off+vs.length:=by omega
       have dU:j<k*ar t+(off+vs.length+(ar t-(off+vs.length))):=by omega
       have fw:j-k*ar t-off=j-(k*ar t+off):=by omega
       simp[c1,c2,c3,dU,d1,d2,fw]
      ·by_cases dU:j<k*ar t+(off+vs.length+(ar t-(off+vs.length)))
       ·have d2:¬j-k*ar t<off+vs.length:=by omega
        have d1:¬j-k*ar t<off:=by omega
        have d5:off+vs.length+(j-k*ar t-(off+vs.length))<ar t:=by omega
        have fw:k*ar t+(off+vs.length+(j-k*ar t-(off+vs.length)))=k*ar t+off+vs.length+(j-(k*ar t+off+vs.length)):=by omega
        simp[c1,c2,c3,dU,d1,d2,d5,fw]
       ·have fw:k*ar t+(off+vs.length+(ar t-(off+vs.length)))+(j-(k*ar t+(off+vs.length+(ar t-(off+vs.length)))))=k*ar t+off+vs.length+(j-(k*ar t+off+vs.length)):=by omega
        simp[c1,c2,c3,dU,fw]
   rw[bI] at ib;exact fun j g1 g2=>js go (ib.2 j g1 g2)
end
section
variable {P:Program}{L:World}{J:List Nat}{X:Nat->Prop}{B:Nat->Value}{st:ad}{tm:Array Value}{w:World}
theorem jm{o:Nat}{O:Site}(h:look st.sites o=some O):O.bX<aV st o:=by
 unfold aV ad.O;rw[h];exact Nat.lt_succ_self _
theorem af.make(S:af L J X B st tm w){o:Nat}{bw:Site}{nv:Value}{w':World}
  (hw:∀b,b<w.heap.size->w'.heap[b]? =w.heap[b]?) (hos:w'.os=w.os) (EF:w'.tape=w.tape) (uB:w'.output=w.output) (kQ:w.heap.size<=w'.heap.size)
  (mh:∀O,look st.sites o=some O->O.bX<bw.bX) (gl:∀b,b∈bA nv->w.heap.size<=b/\b<w'.heap.size)
  (fb:∀{bi:List (Nat×Site)} {ax:Nat->Value},bi=b3 st.sites o bw->ax o=nv->(∀{a v},b9 B st.sites w (an X B st.sites) a v->b9 ax bi w' (an X ax bi) a v)->
   (∀b,w.heap.size<=b->b∉bA nv->¬an X ax bi b)->(bw.live=false->∀b,b∈bA nv->¬an X ax bi b)->ir ax bi w' (an X ax bi) o bw):
  af L J X (fun F=>if F=o then nv else B F) {st with sites:=b3 st.sites o bw} tm w':=by
 have cn:∀F,bS (b3 st.sites o bw) F->(F=o/\bw.live=true)\/(F≠o/\bS st.sites F):=by
  rintro F ⟨O,h1,h2⟩;rw[ck] at h1;by_cases e:o=F
  ·subst e;simp at h1;subst h1;exact .inl ⟨rfl,h2⟩
  ·simp only[e,if_false] at h1;exact .inr ⟨fun h=>e h.symm,O,h1,h2⟩
 have bW:∀b,an X (fun F=>if F=o then nv else B F) (b3 st.sites o bw) b->an X B st.sites b\/(b∈bA nv/\bw.live=true):=by
  rintro b (h|⟨F,h1,h2⟩)
  ·exact .inl (.inl h)
  ·rcases cn F h1 with⟨rfl,Z⟩|⟨Z,aI⟩
   ·simp at h2;exact .inr ⟨h2,Z⟩
   ·simp only[Z,if_false] at h2;exact .inl (.inr ⟨F,aI,h2⟩)
 have aW:∀b,an X B st.sites b->b<w.heap.size:=by
  rintro b (h|⟨F,h1,h2⟩)
  ·exact S.old b h
  ·exact S.dW h1 h2
 refine S.ox (fun F O bm=>?_) (fun b _ hb=>hw b hb) (fun b h hb ab=>?_) (fun go F O bm=>?_) (fun F aN b h1 h2 g1 g2=>?_) (fun F b h1 g1=>?_) (fun F b h1 g1=>?_) ?_ kQ
 ·rw[ck];by_cases e:o=F
  ·subst e;exact⟨bw,by simp,Nat.le_of_lt (mh O bm),fun h=>by have:=mh O bm;omega⟩
  ·have bY:¬F=o:=fun h=>e h.symm
   exact⟨O,by simp[e,bm],Nat.le_refl _,fun _=>by simp[bY]⟩
 ·rcases bW b ab with ab|⟨ab,_⟩
  ·exact h ab
  ·have:=(gl b ab).1;omega
 ·rw[ck] at bm;by_cases e:o=F
  ·subst e;simp only[if_true,Option.some.injEq] at bm;subst bm;refine .inr (fb rfl (by simp) go (fun b hb hne ab=>?_) (fun hl b hb ab=>?_))
   ·rcases bW b ab with ab|⟨ab,_⟩
    ·have:=aW b ab;omega
    ·exact hne ab
   ·rcases bW b ab with ab|⟨_,ab⟩
    ·have:=aW b ab;have:=(gl b hb).1;omega
    ·rw[hl] at ab;cases ab
  ·have bY:¬F=o:=fun h=>e h.symm
   simp only[e,if_false] at bm;exact .inl ⟨bm,by simp[bY],fun hl b hb=>hw b (S.dW ⟨O,bm,hl⟩ hb)⟩
 ·rcases cn F h1 with⟨rfl,_⟩|⟨n1,cV⟩<;>rcases cn aN h2 with⟨rfl,_⟩|⟨n2,ga⟩
  ·rfl
  ·simp only[if_true] at g1;simp only[n2,if_false] at g2;have:=S.dW ga g2;have:=(gl b g1).1;omega
  ·simp only[if_true] at g2;simp only[n1,if_false] at g1;have:=S.dW cV g1;have:=(gl b g2).1;omega
  ·simp only[n1,if_false] at g1;simp only[n2,if_false] at g2;exact S.c' F aN b cV ga g1 g2
 ·rcases cn F h1 with⟨rfl,_⟩|⟨n1,cV⟩
  ·simp only[if_true] at g1;have hb:=(gl b g1).1;exact⟨fun hx=>by have:=S.old b hx;have:=S.frame.size;omega,.inr (Nat.le_trans S.frame.size hb)⟩
  ·simp only[n1,if_false] at g1;exact S.b2 F b cV g1
 ·rcases cn F h1 with⟨rfl,_⟩|⟨n1,cV⟩
  ·simp only[if_true] at g1;exact(gl b g1).2
  ·simp only[n1,if_false] at g1;exact Nat.lt_of_lt_of_le (S.dW cV g1) kQ
 ·have aQ:=S.frame;exact⟨hos.trans aQ.os,EF.trans aQ.tape,uB.trans aQ.output,Nat.le_trans aQ.size kQ,fun b h1 h2=>(hw b (Nat.lt_of_lt_of_le h1 aQ.size)).trans (aQ.block b h1 h2)⟩
theorem af.append(S:af L J X B st tm w){o dst s:Nat}{t:aG}{xs r:List (den t)}(hl:look st.sites o=some (.row s t xs)){nv:Value}{w':World}
  (hg:w.grownBy w' (B o).ownBlock) (gl:∀b,b∈bA nv->b<w'.heap.size/\(b∈bA (B o)\/w.heap.size<=b))
  (fb:∀{bi:List (Nat×Site)} {ax:Nat->Value},ax dst=nv->(∀{a v},b9 B st.sites w (an X B st.sites) a v->b9 ax bi w' (an X ax bi) a v)->
   ir ax bi w' (an X ax bi) dst (.row (aV (st.dh o (.dead s)) dst) t r)):
  af L J X (fun F=>if F=dst then nv else B F) {st with sites:=aT st.sites [(o,.dead s),(dst,.row (aV (st.dh o (.dead s)) dst) t r)]} tm w':=by
 have a_:bS st.sites o:=⟨_,hl,rfl⟩;have iP:∀F,look (aT st.sites [(o,.dead s),(dst,.row (aV (st.dh o (.dead s)) dst) t r)]) F=
   if dst=F then some (.row (aV (st.dh o (.dead s)) dst) t r) else if o=F then some (.dead s) else look st.sites F:=by
  intro F;simp only[aT,ck]
 have mh:∀O,look st.sites dst=some O->O.bX<aV (st.dh o (.dead s)) dst:=by
  intro O h;unfold aV;rw[ad.l6];by_cases e:o=dst
  ·subst e;rw[hl] at h;cases h;simp[Site.bX]
  ·simp only[e,if_false,ad.O,h];exact Nat.lt_succ_self _
 have cn:∀F,bS (aT st.sites [(o,.dead s),(dst,.row (aV (st.dh o (.dead s)) dst) t r)]) F->F=dst\/(F≠dst/\F≠o/\bS st.sites F):=by
  rintro F ⟨O,h1,h2⟩;rw[iP] at h1;by_cases e:dst=F
  ·exact .inl e.symm
  ·simp only[e,if_false] at h1;by_cases e2:o=F
   ·simp only[e2,if_true,Option.some.injEq] at h1;subst h1;cases h2
   ·simp only[e2,if_false] at h1;exact .inr ⟨fun h=>e h.symm,fun h=>e2 h.symm,O,h1,h2⟩
 have aey:∀b,(B o).ownBlock=some b->b∈bA (B o):=by
  intro b hb;refine fR ?_
  cases hv:B o<;>rw[hv] at hb<;>first|cases hb|skip
  rename_i a n c;cases a<;>first|exact hb|cases hb
 have um:∀b,b<w.heap.size->b∉bA (B o)->w'.heap[b]? =w.heap[b]? :=fun b hb hne=>hg.block b hb (fun e=>hne (aey b e.symm))
 refine S.ox (fun F O bm=>?_) (fun b h hb=>um b hb (fun e=>h (.inr ⟨o,a_,e⟩))) (fun b h hb ab=>?_) (fun go F O bm=>?_) (fun F aN b h1 h2 g1 g2=>?_) (fun F b h1 g1=>?_) (fun F b h1 g1=>?_) ?_ hg.size
 ·rw[iP];by_cases e:dst=F
  ·subst e;refine⟨.row (aV (st.dh o (.dead s)) dst) t r,by simp,?_,fun h=>?_⟩
   ·exact Nat.le_of_lt (mh O bm)
   ·have:=mh O bm;simp only[Site.bX] at h this;omega
  ·have bY:¬F=dst:=fun h=>e h.symm
   by_cases e2:o=F
   ·subst e2;rw[hl] at bm;cases bm;exact⟨.dead s,by simp[e],Nat.le_refl _,fun _=>by simp[bY]⟩
   ·exact⟨O,by simp[e,e2,bm],Nat.le_refl _,fun _=>by simp[bY]⟩
 ·rcases ab with ab|⟨F,h1,h2⟩
  ·exact h (.inl ab)
  ·rcases cn F h1 with rfl|⟨n1,_,cV⟩
   ·simp only[if_true] at h2;rcases(gl b h2).2 with Z|Z
    ·exact h (.inr ⟨o,a_,Z⟩)
    ·omega
   ·simp only[n1,if_false] at h2;exact h (.inr ⟨F,cV,h2⟩)
 ·rw[iP] at bm;by_cases e:dst=F
  ·subst e;simp only[if_true,Option.some.injEq] at bm;subst bm;exact .inr (fb (by simp) go)
  ·have bY:¬F=dst:=fun h=>e h.symm
   simp only[e,if_false] at bm;by_cases e2:o=F
   ·simp only[e2,if_true,Option.some.injEq] at bm;subst bm;exact .inr trivial
   ·simp only[e2,if_false] at bm;refine .inl ⟨bm,by simp[bY],fun ft b hb=>?_⟩
    have RK:bS st.sites F:=⟨O,bm,ft⟩;exact um b (S.dW RK hb) (fun h=>e2 (S.c' o F b a_ RK h hb))
 ·have key:∀F b,F≠dst->F≠o->bS st.sites F->b∈bA (B F)->b∉bA nv:=by
   intro F b n1 n2 cV hb hn;rcases(gl b hn).2 with Z|Z
   ·exact n2 (S.c' F o b cV a_ hb Z)
   ·have:=S.dW cV hb;omega
  rcases cn F h1 with rfl|⟨n1,m1,cV⟩<;>rcases cn aN h2 with rfl|⟨n2,m2,ga⟩
  ·rfl
  ·simp only[if_true] at g1;simp only[n2,if_false] at g2;exact absurd g1 (key aN b n2 m2 ga g2)
  ·simp only[if_true] at g2;simp only[n1,if_false] at g1;exact absurd g2 (key F b n1 m1 cV g1)
  ·simp only[n1,if_false] at g1;simp only[n2,if_false] at g2;exact S.c' F aN b cV ga g1 g2
 ·rcases cn F h1 with rfl|⟨n1,_,cV⟩
  ·simp only[if_true] at g1;rcases(gl b g1).2 with Z|Z
   ·exact S.b2 o b a_ Z
   ·exact⟨fun hx=>by have:=S.old b hx;have:=S.frame.size;omega,.inr (Nat.le_trans S.frame.size Z)⟩
  ·simp only[n1,if_false] at g1;exact S.b2 F b cV g1
 ·rcases cn F h1 with rfl|⟨n1,_,cV⟩
  ·simp only[if_true] at g1;exact(gl b g1).1
  ·simp only[n1,if_false] at g1;exact Nat.lt_of_lt_of_le (S.dW cV g1) hg.size
 ·have aQ:=S.frame;refine⟨hg.os.trans aQ.os,hg.tape.trans aQ.tape,hg.output.trans aQ.output,Nat.le_trans aQ.size hg.size,fun b h1 h2=>?_⟩
  rw[um b (Nat.lt_of_lt_of_le h1 aQ.size) (fun e=>?_)]
  ·exact aQ.block b h1 h2
  ·rcases(S.b2 o b a_ e).2 with h|h
   ·exact h2 h
   ·omega
end
def Src(w:World)(size:Nat)(x:Value)(m:Nat)(news:List Value):Prop:=
 news.length=m*size/\(∀u∈news,u.oneCell'=true)/\((x=.slice none 0 0/\m=0)\/(∃a c,x=.slice (some a) m c/\∀j u,news[j]? =some u->w.cell? (a.add j)=some u)\/∃s:ByteArray,x=.string s/\m=s.size/\size=1/\news=s.data.toList.map fun b=>Value.int .u8 b.toNat)
theorem Src.run{P:Program}{w w2:World}{size m:Nat}{x:Value}{news:List Value}(h:Src w size x m news)(hw:w2.heap=w.heap):(Builtin.firstCells size m x).run P w2=.ok news.toArray w2:=by
 obtain⟨h1,_,h2⟩:=h;rcases h2 with⟨rfl,rfl⟩|⟨a,c,rfl,Z⟩|⟨s,rfl,rfl,rfl,rfl⟩
 ·have:news=[]:=List.eq_nil_of_length_eq_zero (by simpa using h1)
  subst this;exact run_firstCells_none w2 size 0 0 0
 ·refine run_firstCells_some w2 size m a m c news h1 (fun j u hu=>?_)
  have:=Z j u hu;unfold World.cell? at this ⊢;rw[hw];exact this
 ·have e:s.extract 0 s.size=s:=by simp
  show Result.ok ((s.extract 0 s.size).data.map fun b=>Value.int .u8 b.toNat) w2=_
  rw[e];congr 1
  apply Array.ext';simp
theorem Src.len{P:Program}{w w2:World}{size m:Nat}{x:Value}{news:List Value}(h:Src w size x m news):(Builtin.lenOf x).run P w2=.ok m w2:=by
 obtain⟨_,_,h2⟩:=h;rcases h2 with⟨rfl,rfl⟩|⟨a,c,rfl,_⟩|⟨s,rfl,rfl,_⟩<;>rfl
theorem s3{P:Program}{u:Bool}(w:World)(T HC ty e:TypeId)(ey:u=true->e=k6)(i:TypeInfo)(z:Value)(size bytes:Nat)(aC:P.underlying T=some (.slice e))(iD:(∃ex,P.underlying HC=some (.slice ex))\/P.underlying HC=some .string)(hi:P.info? e=some i)
  (hz:i.zero=some z) (kQ:i.size=size) (lU:i.bytes=bytes) (hzs:z.cells.size=size) (hsz:0<size)
  (v:Value) (n:Nat) (xs:List Value) (iv:∃bY,rowAt w u bY size v n xs) (x:Value) (m:Nat) (news:List Value) (hsrc:Src w size x m news)
  (G4:n+m<=maxLen) (Mx:(n+m)*bytes<=140737488355328):
  ∃v' w',(Builtin.append_ #[T,HC] ty #[v,x]).run P w=.ok v' w'/\(∃bY,rowAt w' u bY size v' (n+m) (xs++news))/\w.grownBy w' v.ownBlock/\
   ∀b,a8 v'=some b->b<w'.heap.size/\(a8 v=some b\/w.heap.size<=b):=by
 subst kQ lU;obtain⟨bY,oM,iv⟩:=iv;have tX:n+m<=9223372036854775807:=by simp only[maxLen] at G4;omega
 have hlen:(xs++news).length=(n+m)*i.size:=by rw[List.length_append,oM,hsrc.1,Nat.add_mul]
 have grown:∀(old:Nat),old<n+m->∀(row:Option Nat),
   rowAt (w.drew.alloc (.cells (xs.toArray++news.toArray++Builtin.zeroCells z.cells (grownCap w (n+m) old e-(n+m))) e)) u e i.size
    (.slice (some ⟨w.heap.size,0,none⟩) (n+m) (grownCap w (n+m) old e)) (n+m) (xs++news)/\
   w.grownBy (w.drew.alloc (.cells (xs.toArray++news.toArray++Builtin.zeroCells z.cells (grownCap w (n+m) old e-(n+m))) e)) row:=by
  intro old aq row;have oP:=grownCap_ge w (n+m) old e;have gp:grownCap w (n+m) old e<=maxLen:=grownCap_le_maxLen w (n+m) old e G4;refine⟨⟨hlen,.inr ⟨w.heap.size,_,_,(0,0),rfl,⟨ey,.inl rfl⟩,heap_alloc_new w.drew _,oP,gp,?_,?_⟩⟩,⟨rfl,rfl,rfl,by simp,fun k ag _=>RowKit.Below.heap_alloc w.drew _ k ag⟩⟩
  ·simp only[Array.size_append,List.size_toArray,size_zeroCells,hzs,oM,hsrc.1,<-Nat.add_mul];congr 1
   omega
  ·simp only[Array.toList_append,List.append_assoc];rw[<-List.append_assoc,<-hlen];exact List.take_left
 have Mg:∀{c:Nat} {D:Obj} {v:Value} b,a8 (.slice (some ⟨w.heap.size,0,none⟩) (n+m) c)=some b->b<(w.drew.alloc D).heap.size/\(a8 v=some b\/w.heap.size<=b):=by
  intro c D v b hb;cases hb;exact⟨by simp,.inr (Nat.le_refl _)⟩
 rcases iv with⟨rfl,rfl⟩|⟨g,cap,cur,bv,rfl,ho,hg,hnc,gp,hcs,ln⟩
 ·have hx:xs=[]:=List.eq_nil_of_length_eq_zero (by simpa using oM)
  subst hx;by_cases hm:m=0
  ·subst hm;have hn:news=[]:=List.eq_nil_of_length_eq_zero (by simpa using hsrc.1)
   subst hn;refine⟨.slice none 0 0,w,?_,⟨e,tc w u e i.size⟩,⟨rfl,rfl,rfl,Nat.le_refl _,fun _ _ _=>rfl⟩,fun b hb=>by cases hb⟩
   rcases iD with⟨ex,iD⟩|iD<;>simp[Builtin.append_,run_underlying aC,run_underlying iD,sizeOf,typeInfo,hi,hsrc.len,hsrc.run (w2:=w) rfl]
  ·have vy:=grown 0 (by omega) (Value.ownBlock (.slice none 0 0))
   refine⟨_,_,?_,⟨e,vy.1⟩,vy.2,Mg⟩;have FF:¬(9223372036854775807<(m:Int)):=by omega
   have hb:=Mx;simp only[Nat.zero_add] at hb;have FG:¬(281474976710656<Builtin.nextslicecap m 0*i.bytes):=by rw[nextslicecap_zero (by omega)];omega
   rcases iD with⟨ex,iD⟩|iD<;>simp[Builtin.append_,run_underlying aC,run_underlying iD,sizeOf,typeInfo,zeroValue,hi,hz,hsrc.len,hm,FF,FG,Question.forced,run_firstCells_none,hsrc.run (w2:=w.drew) rfl,newRow,grownCap]
 ·by_cases hroom:n+m<=cap
  ·have ix:n*i.size+news.length<=cur.size:=by rw[hsrc.1,hcs,<-Nat.add_mul];exact Nat.mul_le_mul_right _ hroom
   have c9:=kX.run (P:=P) g (n*i.size) bY bv news 0 cur w hg ho (by simpa using ix) hsrc.2.1
   simp only[Nat.add_zero] at c9;refine⟨.slice (some ⟨g,0,none⟩) (n+m) cap,w.setRow g (cur.toList.take (n*i.size)++news++cur.toList.drop (n*i.size+news.length)).toArray,?_,
    ⟨bY,hlen,.inr ⟨g,cap,_,bv,rfl,⟨ho.1,ho.2.imp id (fun h=>⟨h.1,?_⟩)⟩,setRow_heap w g cur _ bY _ hg,hroom,gp,?_,?_⟩⟩,⟨rfl,rfl,rfl,by simp,fun k _ ag=>setRow_other w g k _ (fun e=>ag (by simp[Value.ownBlock,e]))⟩,fun b hb=>?_⟩
   ·rcases iD with⟨ex,iD⟩|iD<;>simp[Builtin.append_,run_underlying aC,run_underlying iD,sizeOf,typeInfo,hi,hsrc.len,hroom,hsrc.run (w2:=w) rfl,Addr.add_lit,c9]
   ·have:=h.2;simp only[List.size_toArray,List.length_append,List.length_take,List.length_drop,Array.length_toList];omega
   ·simp only[List.size_toArray,List.length_append,List.length_take,List.length_drop,Array.length_toList];omega
   ·rw[ln,<-hlen];exact List.take_left
   ·cases hb;exact⟨by rw[setRow_size];exact(Array.getElem?_eq_some_iff.1 hg).1,.inl rfl⟩
  ·have vy:=grown cap (by omega) (Value.ownBlock (.slice (some ⟨g,0,none⟩) n cap))
   refine⟨_,_,?_,⟨e,vy.1⟩,vy.2,Mg⟩;have holds:∀j u,xs[j]? =some u->w.drew.cell? ((⟨g,0,none⟩:Addr).add j)=some u:=by
    intro j u hu;rw[gh,Nat.zero_add,World.cell?_drew,cell_of_row w g j cur bY bv hg];rw[<-ln,List.getElem?_take] at hu;split at hu
    ·simpa using hu
    ·cases hu
   have FF:¬(9223372036854775807<((n:Int)+(m:Int))):=by omega
   have ix:=growslice_fits (need:=n+m) (old:=cap) (bytes:=i.bytes) (by omega) Mx
   have FG:¬(281474976710656<Builtin.nextslicecap (n+m) cap*i.bytes):=by omega
   have At:=run_firstCells_some (P:=P) w.drew i.size n ⟨g,0,none⟩ n cap xs oM holds;rcases iD with⟨ex,iD⟩|iD<;>simp[Builtin.append_,run_underlying aC,run_underlying iD,sizeOf,typeInfo,zeroValue,hi,hz,hsrc.len,hroom,FF,FG,Question.forced,hsrc.run (w2:=w.drew) rfl,At,newRow,grownCap]
   all_goals
    congr 2
    apply Array.ext';simp[List.append_assoc]
section
variable {P:Program}{L:World}{J:List Nat}{X:Nat->Prop}{B:Nat->Value}{st:ad}{tm:Array Value}{w:World}{D:Oper}
theorem YZ(S:af L J X B st tm w){x:aK}{v:Value}{t:aG}{ys:List (den t)}(hx:b9 B st.sites w (an X B st.sites) x v)(h:rA st x=some (.sl t ys)):
  ∃news,Src w (ar t) v ys.length news/\cf w (an X B st.sites) (flat t ys) news:=by
 have one:∀{news:List Value},ch B st.sites w (an X B st.sites) (cy (flat t ys)) news->(∀u∈news,u.oneCell'=true):=by
  intro news h;refine h.hY ?_
  unfold cy;generalize flat t ys=l;induction l with
  |nil=>rfl
  |cons d l ih=>simpa[gf,au.storable] using ih
 unfold rA at h;split at h
 ·rename_i bc hk;cases h;have hx:ba w (an X B st.sites) (.sl t ys) v:=hx;cases hx with
  |nil t=>exact⟨[],⟨by simp,fun u hu=>by simp at hu,.inl ⟨rfl,rfl⟩⟩,rfl,fun j h=>by simp[flat] at h⟩
  |sl t xs a cap cs n hn hcap hb hl hc hr=>
   subst hn;have ke:=gT (B:=B) (sites:=st.sites) hl hr;exact⟨cs,⟨by rw[hl,dP],one ke,.inr (.inl ⟨a,cap,rfl,hc⟩)⟩,hl,hr⟩
 ·cases h
 ·rename_i bc;cases h;rw[show v=_ from hx]
  exact⟨[],⟨by simp,fun u hu=>by simp at hu,.inl ⟨rfl,rfl⟩⟩,rfl,fun j h=>by simp[flat] at h⟩
 ·rename_i o s;split at h
  ·rename_i bc hk hr;cases h;obtain⟨cs,hl,hc⟩:=S.row hr;have hv:v=bT (B o):=by
    rcases jn hr with h1|h1<;>exact Ref.at hx.2 h1 rfl
   have cL:=ik hl;refine⟨cs,⟨by rw[cL.1,dP],one hl,?_⟩,cL⟩
   rw[hv];rcases hc with⟨h1,h2⟩|⟨b,c,h1,h2,_⟩
   ·subst h2;exact .inl ⟨h1,rfl⟩
   ·exact .inr (.inl ⟨⟨b,0,none⟩,c,h1,fun j u hu=>by rw[gh];exact h2 j u hu⟩)
  ·cases h
 ·cases h
theorem Jq(S:af L J X B st tm w){C:Ctx}(ay:CtxOk P C){T ed:TypeId}{s x:Operand}{e:TypeId}{t:aG}{bytes:Nat}{dst:Nat}(aY:C.tt T=.slice e t bytes)(uk:(∃ex,P.underlying ed=some (.slice ex))\/P.underlying ed=some .string)
  (aq:D.op=.call {callee:=.builtin .append,args:=#[s,x],argTypes:=#[T,ed]}) (c_:D.dst=some dst) (Y:b1 st D.dst=true) {ys:List (den t)} {news:List Value} (hsrc:Src w (ar t) (Act.eval ⟨tm,[]⟩ x) ys.length news)
  (dE:cf w (an X B st.sites) (flat t ys) news):Holds (pj bytes t dst st (aO C st T s) ys) (cv P L J X st tm w D):=by
 have bE:=ay.tt T;rw[aY] at bE;obtain⟨⟨dZ,_⟩,z,hinfo,hzs,ey⟩:=bE;obtain⟨i,hi,oO⟩:∃i,P.info? e=some i/\(i.size,i.bytes,i.zero)=(ar t,bytes,some z):=by
  cases aF:P.info? e with
  |none=>simp[aF] at hinfo
  |some i=>exact⟨i,rfl,by simpa[aF] using hinfo⟩
 simp only[Prod.mk.injEq] at oO;obtain⟨oO,vx,sG⟩:=oO;have nA:=cS S C T s;have runs:∀{v':Value} {w':World},(Builtin.append_ #[T,ed] D.type #[Act.eval ⟨tm,[]⟩ s,Act.eval ⟨tm,[]⟩ x]).run P w=.ok v' w'->
   (execOp (Act.eval ⟨tm,[]⟩) D).run P w=.ok (.value v') w':=by
  intro v' w' h;unfold execOp;simp only[aq,resolve,invoke,builtin,Sem.run_bind,Sem.run_pure,Result.andThen_ok,List.map_toArray,List.map_cons,List.map_nil,h]
 have one:∀{u:Bool} {bY:TypeId} {v':Value} {n m:Nat} {l:List Value} {w':World},rowAt w' u bY n v' m l->v'.oneCell'=true:=by
  intro u bY v' n m l w' h;rcases h.2 with⟨rfl,_⟩|⟨g,cap,cur,bv,rfl,_⟩<;>rfl
 unfold pj;split
 ·-- a nil slice
  rename_i t2 bP;rw[bP] at nA;have oA:Act.eval ⟨tm,[]⟩ s=.slice none 0 0:=nA;refine Holds.eY fun r hr=>?_
  have cL:dB bytes [] ys=some r:=hr;unfold dB at cL;split at cL
  ·rename_i hb;cases cL;simp only[List.length_nil,Nat.zero_add,room] at hb;obtain⟨v',w',h1,⟨bY,h2⟩,Z,aI⟩:=s3 (P:=P) (u:=t.ek) w T ed D.type e ey i z (ar t) bytes dZ uk hi sG oO vx hzs (iK _) (.slice none 0 0) 0 [] ⟨e,tc w _ e _⟩ _ _ news hsrc
    (by rw[Nat.zero_add];exact hb.2) (by rw[Nat.zero_add];exact hb.1)
   rw[Nat.zero_add,List.nil_append] at h2;have bV:=S.make (o:=dst) (bw:=.row (aV st dst) t ([]++ys)) (nv:=v') (w':=w') (fun b hb=>Z.block b hb (by simp[Value.ownBlock])) Z.os Z.tape Z.output Z.size
    (fun O M=>jm M) (fun b hb=>by
     obtain⟨g1,g2⟩:=aI b (tB h2 hb);rcases g2 with g2|g2
     ·cases g2
     ·exact⟨g2,g1⟩) (fun M bR go _ _=>by
     refine⟨bY,news,by rw[bR];simpa using h2,?_⟩
     intro j g1 g2;have ajc:j<(flat t ys).length:=by simpa using g1
     simpa using js go (dE.2 j ajc g2))
   refine ii (us:=[(dst,.row (aV st dst) t ([]++ys))]) bV Y (runs (by rw[oA];exact h1)) ?_
   refine⟨one h2,Ref.mk (O:=.row (aV st dst) t ([]++ys)) ?_ rfl (by simp[(iq h2).1])⟩
   simp only[aT,ck];simp
  ·cases cL
 ·-- a row of rF own
  rename_i o s2 bP;rw[bP] at nA;split
  ·rename_i ht t2 xs ff;have nn:look st.sites o=some (.row ht t2 xs):=ff;cases Ay:ht.beq s2 with
   |false=>simp only[cond_false];exact .fail
   |true=>
    have jH:=Nat.eq_of_beq_eq_true Ay;subst jH;simp only[cond_true];split
    ·rename_i g5;subst g5;refine Holds.eY fun r hr=>?_
     have cL:dB bytes xs ys=some r:=hr;unfold dB at cL;split at cL
     ·rename_i hb;cases cL;simp only[room] at hb;have hv:Act.eval ⟨tm,[]⟩ s=bT (B o):=Ref.at nA.2 nn rfl;obtain⟨l2,cs,iv,hcs⟩:=S.sites o _ nn;rw[(iq iv).1] at hv;obtain⟨v',w',h1,⟨bY,h2⟩,Z,aI⟩:=s3 (P:=P) w T ed D.type e ey i z (ar t2) bytes dZ uk hi sG oO vx hzs (iK _) (B o) xs.length cs ⟨l2,iv⟩ _ _ news hsrc hb.2 hb.1;have bV:=S.append (dst:=dst) (r:=xs++ys) nn (nv:=v') (w':=w') Z (fun b hb=>by
       obtain⟨aB,ao⟩:=aI b (tB h2 hb);exact⟨aB,ao.imp fR id⟩) (fun bR go=>by
       refine⟨bY,cs++news,by rw[bR,List.length_append];exact h2,?_⟩
       have nG:cf w (an X B st.sites) (flat t2 xs) cs:=⟨by rw[dP];exact iv.1,hcs⟩
       have mC:=ik ((gT (B:=B) (sites:=st.sites) nG.1 nG.2).append (gT (B:=B) (sites:=st.sites) dE.1 dE.2)|>fun h=>by
        rw[show cy (flat t2 xs)++cy (flat t2 ys)=cy (flat t2 (xs++ys)) from by simp[cy,l7]] at h
        exact h)
       intro j g1 g2;exact js go (mC.2 j g1 g2))
      refine ii (us:=[(o,.dead ht),(dst,.row (aV (st.dh o (.dead ht)) dst) t2 (xs++ys))]) bV Y (runs (by rw[hv];exact h1)) ?_
      refine⟨one h2,Ref.mk (O:=.row (aV (st.dh o (.dead ht)) dst) t2 (xs++ys)) ?_ rfl (by simp[(iq h2).1])⟩
      simp only[aT,ck];simp
     ·cases cL
    ·exact .fail
  ·exact .fail
 ·exact .fail
theorem Yq(S:af L J X B st tm w){C:Ctx}(ay:CtxOk P C){T ed:TypeId}{s x:Operand}{e ex:TypeId}{t u:aG}{bytes aJ:Nat}{dst:Nat}(aY:C.tt T=.slice e t bytes)(ey:C.tt ed=.slice ex u aJ)
  (aq:D.op=.call {callee:=.builtin .append,args:=#[s,x],argTypes:=#[T,ed]}) (c_:D.dst=some dst) (Y:b1 st D.dst=true):
  Holds (q7 bytes t dst st (aO C st T s) (aO C st ed x)) (cv P L J X st tm w D):=by
 have oT:=ay.tt ed;rw[ey] at oT;unfold q7;split
 ·exact .fail
 ·rename_i d lS;split
  ·rename_i bc ys;split
   ·rename_i g5;subst g5;obtain⟨news,hsrc,dE⟩:=YZ S (cS S C ed x) lS;exact Jq S ay aY (.inl ⟨_,oT.1.1⟩) aq c_ Y hsrc dE
   ·exact .fail
  ·exact .fail
theorem WT(S:af L J X B st tm w){C:Ctx}(ay:CtxOk P C){T ed:TypeId}{s x:Operand}{e:TypeId}{t:aG}{bytes:Nat}{dst:Nat}(aY:C.tt T=.slice e t bytes)(ey:C.tt ed=.str)
  (aq:D.op=.call {callee:=.builtin .append,args:=#[s,x],argTypes:=#[T,ed]}) (c_:D.dst=some dst) (Y:b1 st D.dst=true):
  Holds (q8 bytes t dst st (aO C st T s) (aO C st ed x)) (cv P L J X st tm w D):=by
 have oT:=ay.tt ed;rw[ey] at oT;have bh:=cS S C ed x;unfold q8;split
 ·rename_i y hx;rw[hx] at bh;split
  ·rename_i g5;subst g5;have bh:ba w (an X B st.sites) (.str y) (Act.eval ⟨tm,[]⟩ x):=bh;generalize hv:Act.eval ⟨tm,[]⟩ x=v at bh;cases bh with
   |str _ b hb=>
    subst hb;refine Jq S ay aY (.inr oT.1) aq c_ Y (news:=b.data.toList.map fun b=>Value.int .u8 b.toNat) ?_ ?_
    ·rw[hv];refine⟨by simp[bytesOf,ar],fun u hu=>?_,.inr (.inr ⟨b,rfl,?_,rfl,rfl⟩)⟩
     ·obtain⟨c,_,rfl⟩:=List.mem_map.1 hu;rfl
     ·simp only[bytesOf,List.length_map,Array.length_toList];rfl
    ·have e1:flat .u8 (bytesOf b.data.toList)=(b.data.toList.map fun b=>aL.int .u8 b.toNat):=by
      unfold flat bytesOf;rw[List.flatMap_map];generalize b.data.toList=l;induction l with
      |nil=>rfl
      |cons a l ih=>simp only[List.flatMap_cons,List.map_cons,ih];rfl
     rw[e1];refine⟨by simp,fun j g1 g2=>?_⟩
     simp only[List.getElem_map];exact .int _ _
  ·exact .fail
 ·exact .fail
end
theorem foldl_set:∀(vs:List Value) (off k:Nat) (arr:Array Value),off+k+vs.length<=arr.size->
  (vs.zipIdx k).foldl (fun cs (x:Value×Nat)=>cs.setIfInBounds (off+x.2) x.1) arr=(bd arr.toList (off+k) vs).toArray:=by
 intro vs;induction vs with
 |nil=>intro off k arr h;simp[bd]
 |cons v vs ih=>
  intro off k arr h;simp only[List.zipIdx_cons,List.foldl_cons];rw[ih off (k+1) _ (by simp at h ⊢;omega)]
  congr 1
  simp only[List.length_cons] at h;unfold bd;rw[Array.toList_setIfInBounds];apply List.ext_getElem?;intro j;simp only[List.getElem?_append,List.length_append,List.length_take,List.length_set,List.getElem?_take,List.getElem?_drop,List.getElem?_set,List.length_cons,Array.length_toList];have m1:min (off+k) arr.size=off+k:=by omega
  have m2:min (off+(k+1)) arr.size=off+(k+1):=by omega
  simp only[m1,m2];by_cases c1:j<off+k
  ·have c2:j<off+(k+1):=by omega
   have c3:j<off+(k+1)+vs.length:=by omega
   have dU:j<off+k+(vs.length+1):=by omega
   have ji:¬off+k=j:=by omega
   simp[c1,c2,c3,dU,ji]
  ·by_cases c0:j=off+k
   ·subst c0;have c2:off+k<off+(k+1):=by omega
    have c3:off+k<off+(k+1)+vs.length:=by omega
    have dU:off+k<off+k+(vs.length+1):=by omega
    have ji:off+k<arr.size:=by omega
    simp[c2,c3,dU,ji]
   ·by_cases dU:j<off+k+(vs.length+1)
    ·have c2:¬j<off+(k+1):=by omega
     have c3:j<off+(k+1)+vs.length:=by omega
     have e:j-(off+k)=(j-(off+(k+1)))+1:=by omega
     simp[c1,c2,c3,dU,e]
    ·have c3:¬j<off+(k+1)+vs.length:=by omega
     have ji:¬off+k=off+(k+1)+vs.length+(j-(off+(k+1)+vs.length)):=by omega
     have e:off+(k+1)+vs.length+(j-(off+(k+1)+vs.length))=off+k+(vs.length+1)+(j-(off+k+(vs.length+1))):=by omega
     simp[c3,dU,ji,e];try(intro bp;exfalso;omega)
theorem IS(v:Value)(off:Nat)(arr:Array Value)(h:off+v.cells.size<=arr.size):
  v.cells.zipIdx.foldl (fun cs (x:Value×Nat)=>cs.setIfInBounds (off+x.2) x.1) arr=(bd arr.toList off v.cells.toList).toArray:=by
 rw[<-Array.foldl_toList,Array.toList_zipIdx];exact foldl_set v.cells.toList off 0 arr (by simpa using h)
theorem Jl(s:Nat):∀(vs:List (Nat×Value)) (n:Nat) (cells:Array Value),(∀j (h:j<vs.length),(vs[j]).1=n+j)->(∀p,p∈vs->p.2.cells.size=s)->(n+vs.length)*s<=cells.size->
  Instr.fill (fun i=>some (i*s,s)) cells vs=some (bd cells.toList (n*s) (vs.flatMap fun p=>p.2.cells.toList)).toArray:=by
 intro vs;induction vs with
 |nil=>intro n cells _ _ _;simp[Instr.fill,bd]
 |cons p vs ih=>
  obtain⟨i,v⟩:=p;intro n cells hi M c8;have h0:i=n:=hi 0 (Nat.zero_lt_succ _);subst h0;have hv:v.cells.size=s:=M (i,v) (by simp)
  have iw:i*s+s<=cells.size:=by
   have:(i+1)*s<=(i+(vs.length+1))*s:=Nat.mul_le_mul_right _ (by omega)
   simp only[List.length_cons] at c8;rw[Nat.add_mul,Nat.one_mul] at this;omega
  simp only[Instr.fill,hv];rw[if_neg (by simp;omega)]
  have ot:=IS v (i*s) cells (by omega)
  rw[ot];have hlen:v.cells.toList.length=s:=by simpa using hv
  have aes:(bd cells.toList (i*s) v.cells.toList).length=cells.toList.length:=l5 _ _ _ (by simp;omega)
  rw[ih (i+1) _ (fun j h=>by have:=hi (j+1) (by simpa using h);simp at this;omega) (fun p al=>M p (by simp[al])) (by
   simp only[List.length_cons] at c8;simp only[List.size_toArray,aes,Array.length_toList];have e:i+1+vs.length=i+(vs.length+1):=by omega
   rw[e];exact c8)]
  congr 2
  simp only[List.flatMap_cons,List.toList_toArray];have mL:(vs.flatMap fun p=>p.2.cells.toList).length=vs.length*s:=by
   clear ih hi c8;induction vs with
   |nil=>simp
   |cons q vs Gn=>
    have:q.2.cells.toList.length=s:=by simpa using M q (by simp)
    rw[List.flatMap_cons,List.length_append,this,Gn (fun p al=>M p (by rcases List.mem_cons.1 al with h|h<;>simp[h])),List.length_cons,Nat.add_mul];omega
  have aeH:(i+(vs.length+1))*s<=cells.size:=by simpa using c8
  rw[Nat.add_mul,Nat.add_mul] at aeH;unfold bd;apply List.ext_getElem?;intro j;have e1:(i+1)*s=i*s+s:=by rw[Nat.add_mul,Nat.one_mul]
  simp only[List.getElem?_append,List.length_append,List.length_take,List.getElem?_take,List.getElem?_drop,List.length_drop,Array.length_toList,hlen,mL,e1];have m1:min (i*s) cells.size=i*s:=by omega
  have m2:min (i*s+s) (i*s+s+(cells.size-(i*s+s)))=i*s+s:=by omega
  simp only[m1,m2];by_cases c1:j<i*s
  ·have c2:j<i*s+s:=by omega
   have c3:j<i*s+s+vs.length*s:=by omega
   have dU:j<i*s+(s+vs.length*s):=by omega
   simp[c1,c2,c3,dU]
  ·by_cases c2:j<i*s+s
   ·have c3:j<i*s+s+vs.length*s:=by omega
    have dU:j<i*s+(s+vs.length*s):=by omega
    have ji:j-i*s<s:=by omega
    simp[c1,c2,c3,dU,ji]
   ·by_cases c3:j<i*s+s+vs.length*s
    ·have dU:j<i*s+(s+vs.length*s):=by omega
     have ji:¬j-i*s<s:=by omega
     have e:j-i*s-s=j-(i*s+s):=by omega
     simp[c1,c2,c3,dU,ji,e]
    ·have dU:¬j<i*s+(s+vs.length*s):=by omega
     have ji:¬i*s+s+vs.length*s+(j-(i*s+s+vs.length*s))<i*s:=by omega
     have c6:¬i*s+s+vs.length*s+(j-(i*s+s+vs.length*s))<i*s+s:=by omega
     have e:i*s+s+(i*s+s+vs.length*s+(j-(i*s+s+vs.length*s))-(i*s+s))=i*s+(s+vs.length*s)+(j-(i*s+(s+vs.length*s))):=by omega
     simp[c3,dU,ji,c6,e]
theorem Wy:∀(l:List (Nat×Operand)) (n:Nat),od n l=true->∀j (h:j<l.length),(l[j]).1=n+j:=by
 intro l;induction l with
 |nil=>intro n _ j h;simp at h
 |cons p l ih=>
  obtain⟨i,x⟩:=p;intro n h j hj;simp only[od,Bool.and_eq_true] at h;cases j with
  |zero=>simpa using Nat.eq_of_beq_eq_true h.1
  |succ j=>have:=ih (n+1) h.2 j (by simpa using hj);simp;omega
section
variable {P:Program}{L:World}{J:List Nat}{X:Nat->Prop}{B:Nat->Value}{st:ad}{tm:Array Value}{w:World}{D:Oper}
theorem Ui{U:List au}(h:gf U=true):U.head?≠some .eu:=by
 intro bU;cases U with
 |nil=>cases bU
 |cons l r=>
  simp only[List.head?_cons,Option.some.injEq] at bU;subst bU;cases h
theorem af.Lx(S:af L J X B st tm w){o:Nat}{cells:List au}{vs:List Value}{T:TypeId}(hl:ch B st.sites w (an X B st.sites) cells vs)(h1:∀u∈vs,u.oneCell'=true)(fK:mv cells T vs w.heap.size):
  af L J X (fun F=>if F=o then .pointer (some ⟨w.heap.size,0,none⟩) else B F) {st with sites:=b3 st.sites o (.box (aV st o) cells)} tm (w.alloc (.cells vs.toArray T (0,0))):=
 S.make (fun b hb=>RowKit.Below.heap_alloc w _ b hb) rfl rfl rfl (by simp) (fun O M=>jm M) (fun b hb=>by have hb:=List.mem_singleton.1 hb;subst hb;exact⟨Nat.le_refl _,by simp⟩)
  (fun M bR go _ _=>⟨w.heap.size,T,vs,bR,heap_alloc_new w _,hl.1,h1,fK,fun j g1 g2=>(yI go hl).2 j g1 g2⟩)
theorem Y3{B:Nat->Value}{sites:List (Nat×Site)}{av:Nat->Prop}{cells:List au}{T:TypeId}{cur:List Value}{b:Nat}(aY:T=qd)(h:ch B sites w av cells cur)(M:cells.head?≠some .eu):ch B sites w av (uc cells) cur/\mv (uc cells) T cur b:=by
 unfold uc;split
 ·obtain⟨v,vs,rfl,h1,h2⟩:=h.inv;exact⟨.cons (show dd B sites w av .eu v from trivial) h2,fun _=>⟨aY,.inl (by rw[show v=_ from h1];rfl)⟩⟩
 ·exact⟨h,fun ab=>absurd ab M⟩
theorem Z3(S:af L J X B st tm w){C:Ctx}(ay:CtxOk P C){elem:TypeId}{z:List au}{o:Nat}(aq:D.op=.alloc elem)(c_:D.dst=some o)(hz:(C.tt elem).zero=some z)(Y:b1 st D.dst=true):
  cv P L J X st tm w D (bJ (.ptr o (aV st o) 0)) [(o,.box (aV st o) (bif elem.beq qd then uc z else z))]:=by
 obtain⟨v,hv,hzv⟩:=cd.w4 (w:=w) (ay.tt elem) hz;obtain⟨h1,h2,Z⟩:=qB hzv;have fK:z.head?≠some .eu:=by
  intro bU;cases z with
  |nil=>cases bU
  |cons l r=>
   simp only[List.head?_cons,Option.some.injEq] at bU;subst bU;simp[kH,pg] at hzv
 have cG:(execOp (Act.eval ⟨tm,[]⟩) D).run P w=.ok (.value (.pointer (some ⟨w.heap.size,0,none⟩))) (w.alloc (.cells v.cells.toList.toArray elem (0,0))):=by
  unfold execOp;simp[aq,Instr.alloc,hv,newVar,newRow]
 have key:∀cells,ch B st.sites w (an X B st.sites) cells v.cells.toList->mv cells elem v.cells.toList w.heap.size->
   cv P L J X st tm w D (bJ (.ptr o (aV st o) 0)) [(o,.box (aV st o) cells)]:=by
  intro cells hl M;have bV:=S.Lx (o:=o) (T:=elem) hl h2 M;refine ii (us:=[(o,.box (aV st o) cells)]) bV Y (vv:=.pointer (some ⟨w.heap.size,0,none⟩)) cG ?_
  refine⟨_,rfl,Ref.mk (O:=.box (aV st o) cells) ?_ rfl (by simp[bT])⟩
  simp only[aT,ck];simp
 cases aY:elem.beq qd with
 |false=>exact key z ⟨h1,Z _ _ _ _⟩ fun h=>absurd h fK
 |true=>
  obtain⟨aB,ao⟩:=Y3 (b:=w.heap.size) (Nat.eq_of_beq_eq_true aY) (⟨h1,Z B st.sites w (an X B st.sites)⟩:ch B st.sites w (an X B st.sites) z v.cells.toList) fK;exact key _ aB ao
theorem abw(S:af L J X B st tm w){elem:TypeId}{x:Operand}{a:br}{o:Nat}(aq:D.op=.box elem x)(c_:D.dst=some o)(a5:fW B st.sites w (an X B st.sites) a (Act.eval ⟨tm,[]⟩ x))
  (c9:gf a.cells=true) (Y:b1 st D.dst=true):cv P L J X st tm w D (bJ (.ptr o (aV st o) 0)) [(o,.box (aV st o) a.cells)]:=by
 have hl:=a5.cells c9;have bV:=S.Lx (o:=o) (T:=elem) hl (hl.hY c9) (fun h=>absurd h (Ui c9))
 refine ii (us:=[(o,.box (aV st o) a.cells)]) bV Y (vv:=.pointer (some ⟨w.heap.size,0,none⟩)) ?_ ?_
 ·unfold execOp;simp[aq,Instr.box,newVar,newRow]
 ·refine⟨_,rfl,Ref.mk (O:=.box (aV st o) a.cells) ?_ rfl (by simp[bT])⟩
  simp only[aT,ck];simp
theorem af.C4(S:af L J X B st tm w){o:Nat}{t:aG}{xs:List (den t)}{cs rest:List Value}{T:TypeId}{cap:Nat}(hl:cf w (an X B st.sites) (flat t xs) cs)(hcap:cs.length+rest.length=cap*ar t)(hm:cap<=maxLen)(ey:t.ek=true->T=k6):
  af L J X (fun F=>if F=o then .slice (some ⟨w.heap.size,0,none⟩) xs.length cap else B F) {st with sites:=b3 st.sites o (.row (aV st o) t xs)} tm (w.alloc (.cells (cs++rest).toArray T (0,0))):=by
 have hcl:cs.length=xs.length*ar t:=by rw[hl.1,dP]
 have c8:xs.length<=cap:=by
  have:xs.length*ar t<=cap*ar t:=by omega
  exact Nat.le_of_mul_le_mul_right this (iK t)
 refine S.make (fun b hb=>RowKit.Below.heap_alloc w _ b hb) rfl rfl rfl (by simp) (fun O M=>jm M) (fun b hb=>by have hb:=List.mem_singleton.1 hb;subst hb;exact⟨Nat.le_refl _,by simp⟩)
  (fun M bR go _ _=>⟨T,cs,⟨hcl,.inr ⟨w.heap.size,cap,_,(0,0),bR,⟨ey,.inl rfl⟩,heap_alloc_new w _,c8,hm,?_,?_⟩⟩,fun j g1 g2=>js go (hl.2 j g1 g2)⟩)
 ·simp[hcap]
 ·rw[<-hcl];simp
theorem aae:∀{as:List br} {t:aG} {xs:List (den t)} {us vs:List (Nat×Site)} {ws:List Value},kW t st as=some (xs,us)->ws.length=as.length->
  (∀j (h:j<as.length) (ab:j<ws.length),fW B st.sites w (an X B st.sites) (as[j]) (ws[j]))->kB L J X B st tm w vs->(∀p,p∈us->p∈vs)->
  xs.length=as.length/\cf w (an X B (aT st.sites vs)) (flat t xs) (ws.flatMap fun v=>v.cells.toList)/\∀v,v∈ws->v.cells.size=ar t:=by
 intro as;induction as with
 |nil=>
  intro t xs us vs ws h hl _ _ _;simp only[kW] at h;cases h;have:ws=[]:=List.eq_nil_of_length_eq_zero hl;subst this;exact⟨rfl,⟨rfl,fun j h=>by simp[flat] at h⟩,fun v hv=>by simp at hv⟩
 |cons a as ih=>
  intro t xs us vs ws h hl fb aQ dw;match ws,hl with
  |v::ws,hl=>
  simp only[kW] at h;split at h
  ·rename_i ds u1 lx;split at h
   ·rename_i x hk u2 d_ mr;cases h;have bW:=fb 0 (by simp) (by simp)
    simp only[List.getElem_cons_zero] at bW;have c9:gf a.cells=true:=by
     clear mr ih fb bW hl d_;generalize a.cells=U at lx;induction U generalizing ds u1 with
     |nil=>rfl
     |cons l U ih=>
      simp only[gX] at lx;split at lx
      ·rename_i d Tu f' nT h1 h2;simp only[gf,Bool.and_eq_true];refine⟨?_,ih _ _ (fun p al=>dw p (by cases lx;rcases List.mem_append.1 al with h|h<;>simp[h])) h2⟩
       unfold jc at h1;split at h1<;>first|rfl|cases h1
      ·cases lx
    have hl1:=bW.cells c9;have vm:=yk lx hl1 aQ (fun p al=>dw p (List.mem_append.2 (.inl al)))
    obtain⟨g1,g2,g3⟩:=ih mr (by simpa using hl) (fun j h1 h2=>fb (j+1) (by simpa using h1) (by simpa using h2)) aQ (fun p al=>dw p (List.mem_append.2 (.inr al)))
    have nB:=nl _ _ _ d_;refine⟨by simp[g1],?_,fun u hu=>?_⟩
    ·simp only[flat,List.flatMap_cons];rw[nB];have:=ik ((gT (B:=B) (sites:=st.sites) vm.1 vm.2).append (gT (B:=B) (sites:=st.sites) g2.1 g2.2)|>fun h=>by
      rw[show cy ds++cy (flat t hk)=cy (ds++flat t hk) from by simp[cy]] at h
      exact h)
     exact this
    ·rcases List.mem_cons.1 hu with rfl|hu
     ·have:u.cells.toList.length=ds.length:=vm.1;rw[<-nB,e8] at this;simpa using this
     ·exact g3 u hu
   ·cases h
  ·cases h
theorem aaf:∀{as:List br} {t:aG} {xs:List (den t)} {us:List (Nat×Site)},kW t st as=some (xs,us)->di st.sites us:=by
 intro as;induction as with
 |nil=>intro t xs us h;simp only[kW] at h;cases h;exact .nil
 |cons a as ih=>
  intro t xs us h;simp only[kW] at h;split at h
  ·rename_i ds u1 lx;split at h
   ·rename_i x hk u2 d_ mr;cases h;exact(DF lx).append (ih mr)
   ·cases h
  ·cases h
theorem T2{us:List (Nat×Site)}(h:di st.sites us)(o:Nat):aV {st with sites:=aT st.sites us} o=aV st o:=by
 unfold aV ad.O;simp only;rcases lc h o with h1|⟨s,t,xs,h1,h2⟩
 ·rw[h1]
 ·rw[h2];rcases h1 with h1|h1|h1<;>rw[h1]<;>rfl
end
section
variable {P:Program}{L:World}{J:List Nat}{X:Nat->Prop}{B:Nat->Value}{st:ad}{tm:Array Value}{w:World}{D:Oper}
theorem pc{v:aK}{a:br}(h:lC v=some a):v=.av a:=by
 cases v with
 |av b=>cases h;rfl
 |iY _=>cases h
theorem Jn:∀{vs:List aK} {as:List br},mu vs=some as->vs.length=as.length/\∀j (h:j<vs.length) (ab:j<as.length),vs[j]=.av (as[j]):=by
 intro vs;induction vs with
 |nil=>intro as h;simp only[mu] at h;cases h;exact⟨rfl,fun j h=>by simp at h⟩
 |cons v vs ih=>
  intro as h;simp only[mu] at h;split at h
  ·rename_i a je h1 h2;cases h;obtain⟨g1,g2⟩:=ih h2;refine⟨by simp[g1],fun j aB ao=>?_⟩
   cases j with
   |zero=>exact pc h1
   |succ j=>exact g2 j (by simpa using aB) (by simpa using ao)
  ·cases h
theorem n5{C:Ctx}(ay:CtxOk P C){T e:TypeId}{t:aG}{bytes:Nat}(aY:C.tt T=.slice e t bytes):
  P.underlying T=some (.slice e)/\∃i z,P.info? e=some i/\i.size=ar t/\i.bytes=bytes/\i.zero=some z/\z.cells.size=ar t/\(t.ek=true->e=k6):=by
 have bE:=ay.tt T;rw[aY] at bE;obtain⟨⟨dZ,_⟩,z,hinfo,hzs⟩:=bE;refine⟨dZ,?_⟩;cases aF:P.info? e with
 |none=>simp[aF] at hinfo
 |some i=>
  simp only[aF,Option.map_some,Option.some.injEq,Prod.mk.injEq] at hinfo;exact⟨i,z,rfl,hinfo.1,hinfo.2.1,hinfo.2.2,hzs⟩
theorem Ii{C:Ctx}(ay:CtxOk P C){T e:TypeId}{t:aG}{bytes len:Nat}{parts:Array (Nat×Operand)}(aY:C.tt T=.slice e t bytes)(hlen:parts.toList.length=len)(lu:od 0 parts.toList=true)(tX:len*ar t<=1000)
  {ws:List Value} (Gx:ws=parts.toList.map fun p=>Act.eval ⟨tm,[]⟩ p.2) (hcs:∀v,v∈ws->v.cells.size=ar t) (hcl:(ws.flatMap fun v=>v.cells.toList).length=len*ar t):
  (Instr.buildSlice T len (parts.map fun(x:Nat×Operand)=>(x.1,Act.eval ⟨tm,[]⟩ x.2))).run P w=
   .ok (.slice (some ⟨w.heap.size,0,none⟩) len len) (w.alloc (.cells (ws.flatMap fun v=>v.cells.toList).toArray e)):=by
 obtain⟨dZ,i,z,hi,gA,nM,kg,hzs,ey⟩:=n5 ay aY;have abi:(parts.map fun(x:Nat×Operand)=>(x.1,Act.eval ⟨tm,[]⟩ x.2)).toList=parts.toList.map fun p=>(p.1,Act.eval ⟨tm,[]⟩ p.2):=by simp
 have acA:((parts.toList.map fun p=>(p.1,Act.eval ⟨tm,[]⟩ p.2)).flatMap fun p:Nat×Value=>p.2.cells.toList)=ws.flatMap fun v=>v.cells.toList:=by
  simp[Gx,List.flatMap_map]
 by_cases h0:len*i.size=0
 ·have oM:len=0:=by
   rcases Nat.mul_eq_zero.1 h0 with h|h
   ·exact h
   ·have:=iK t;omega
  subst oM;have nK:parts.toList=[]:=List.eq_nil_of_length_eq_zero hlen;have aib:ws=[]:=by simp[Gx,nK]
  have ain:parts=#[]:=by simpa using nK
  rw[aib];have jI:∀f:Nat->Value,Array.map f (Array.range 0)=#[]:=fun f=>by apply Array.ext';simp
  simp[Instr.buildSlice,run_underlying dZ,sizeOf,typeInfo,hi,ain,Instr.fill,newRow,jI]
 ·refine run_buildSlice w T e len _ _ i z dZ hi kg (by rw[gA];omega) h0 ?_
  rw[abi];have acp:(((Array.range (len*i.size)).map fun x=>z.cells[x%z.cells.size]!)).size=len*i.size:=by simp
  have:=Jl (ar t) (parts.toList.map fun p=>(p.1,Act.eval ⟨tm,[]⟩ p.2)) 0 ((Array.range (len*i.size)).map fun x=>z.cells[x%z.cells.size]!)
   (fun j h=>by have:=Wy _ 0 lu j (by simpa using h);simpa using this)
   (fun p al=>by
    obtain⟨q,aF,rfl⟩:=List.mem_map.1 al;exact hcs _ (by rw[Gx];exact List.mem_map.2 ⟨q,aF,rfl⟩))
   (by rw[acp,gA];simp[hlen])
  rw[gA] at this ⊢;rw[this,acA];congr 2
  unfold bd;rw[Nat.zero_mul,List.take_zero,List.nil_append,Nat.zero_add,hcl,List.drop_eq_nil_of_le (by simp),List.append_nil]
theorem Uv(S:af L J X B st tm w){C:Ctx}(ay:CtxOk P C){T e:TypeId}{t:aG}{bytes len o:Nat}{parts:Array (Nat×Operand)}(aY:C.tt T=.slice e t bytes)(aq:D.op=.buildSlice T len parts)
  (c_:D.dst=some o) (Y:b1 st D.dst=true) (hlen:parts.toList.length=len) (lu:od 0 parts.toList=true) (tX:len*ar t<=1000) {as:List br} {xs:List (den t)} {us:List (Nat×Site)}
  (has:mu (parts.toList.map fun p=>aO C st e p.2)=some as) (d_:kW t st as=some (xs,us)):
  cv P L J X st tm w D (bJ (.own o (aV st o))) (us++[(o,.row (aV st o) t xs)]):=by
 obtain⟨dZ,i,z,hi,gA,nM,kg,hzs,ey⟩:=n5 ay aY;have ho:=aaf d_;have aQ:kB L J X B st tm w us:=⟨S,ho⟩;obtain⟨vG,ki⟩:=Jn has;let ws:List Value:=parts.toList.map fun p=>Act.eval ⟨tm,[]⟩ p.2
 have u9:ws.length=as.length:=by rw[<-vG];simp[ws]
 have Fl:∀j (h:j<as.length) (ab:j<ws.length),fW B st.sites w (an X B st.sites) (as[j]) (ws[j]):=by
  intro j h1 h2;have hj:j<(parts.toList.map fun p=>aO C st e p.2).length:=by rw[vG];exact h1
  have:=ki j hj h1;simp only[List.getElem_map] at this;have bh:=cS S C e (parts.toList[j]'(by simpa using hj)).2
  rw[this] at bh;have Z:b9 B st.sites w (an X B st.sites) (.av (as[j])) (ws[j]):=by simpa[ws] using bh
  exact Z
 obtain⟨u6,dE,hcs⟩:=aae d_ u9 Fl aQ (fun p al=>al)
 have pz:xs.length=len:=by rw[u6,<-u9];simpa[ws] using hlen
 have hcl:(ws.flatMap fun v=>v.cells.toList).length=len*ar t:=by rw[dE.1,dP,pz]
 have hm:len<=maxLen:=by
  have:len*1<=len*ar t:=Nat.mul_le_mul_left _ (iK t);unfold maxLen;omega
 have bV:=aQ.new.C4 (o:=o) (xs:=xs) (cs:=ws.flatMap fun v=>v.cells.toList) (rest:=[]) (T:=e) (cap:=len) (by exact dE) (by simp[hcl]) hm ey
 rw[T2 ho,pz,List.append_nil] at bV;have oj:aT st.sites (us++[(o,.row (aV st o) t xs)])=b3 (aT st.sites us) o (.row (aV st o) t xs):=by rw[hV];rfl
 have cG:(Instr.buildSlice T len (parts.map fun(x:Nat×Operand)=>(x.1,Act.eval ⟨tm,[]⟩ x.2))).run P w=
   .ok (.slice (some ⟨w.heap.size,0,none⟩) len len) (w.alloc (.cells (ws.flatMap fun v=>v.cells.toList).toArray e)):=Ii ay aY hlen lu tX rfl hcs hcl
 refine ii (us:=us++[(o,.row (aV st o) t xs)]) (by rw[oj];exact bV) Y (vv:=.slice (some ⟨w.heap.size,0,none⟩) len len) ?_ ?_
 ·unfold execOp;simp only[aq,Sem.run_bind];have EH:=cG;simp only[EH,Result.andThen_ok,Sem.run_pure]
 ·rw[oj];refine⟨rfl,Ref.mk (O:=.row (aV st o) t xs) ?_ rfl (by simp[bT])⟩
  simp only[ck];simp
theorem Ul{w:World}{av:Nat->Prop}{t:aG}{z:den t}{fM:List Value}(h:cf w av (enc t z) fM)(n:Nat):cf w av (flat t (List.replicate n z)) ((List.replicate n fM).flatten):=by
 induction n with
 |zero=>exact⟨rfl,fun j h=>by simp[flat] at h⟩
 |succ n ih=>
  have:=ik ((gT (B:=fun _=>undef) (sites:=[]) h.1 h.2).append (gT (B:=fun _=>undef) (sites:=[]) ih.1 ih.2)|>fun h=>by
   rw[show cy (enc t z)++cy (flat t (List.replicate n z))=cy (enc t z++flat t (List.replicate n z)) from by simp[cy]] at h
   exact h)
  simpa[List.replicate_succ,flat,List.flatMap_cons] using this
theorem XG(z:Array Value)(n:Nat)(hz:0<z.size):((Array.range (n*z.size)).map fun x=>z[x%z.size]!).toList=(List.replicate n z.toList).flatten:=by
 induction n with
 |zero=>simp
 |succ n ih=>
  rw[List.replicate_succ',List.flatten_append];rw[<-ih];apply List.ext_getElem?;intro j;have e:(n+1)*z.size=n*z.size+z.size:=by rw[Nat.add_mul,Nat.one_mul]
  simp only[Array.toList_map,Array.toList_range,List.getElem?_map,List.getElem?_append,List.length_map,List.length_range,List.flatten_cons,List.flatten_nil,List.append_nil,e];by_cases h1:j<n*z.size
  ·rw[List.getElem?_range (by omega)];simp[h1]
  ·by_cases h2:j<n*z.size+z.size
   ·rw[List.getElem?_range h2];have Z:j-n*z.size<z.size:=by omega
    have aI:j%z.size=j-n*z.size:=by
     have:j=z.size*n+(j-n*z.size):=by rw[Nat.mul_comm];omega
     conv=>lhs;rw[this]
     rw[Nat.mul_add_mod,Nat.mod_eq_of_lt Z]
    simp[h1,aI,Z]
   ·rw[List.getElem?_eq_none (by simp;omega)]
    have Z:¬j-n*z.size<z.size:=by omega
    simp[h1,Z]
theorem U5{l:au}{v:Value}{d:aL}{us:List (Nat×Site)}(h:pg l=some v)(k:jc st l=some (d,us)):us=[]:=by
 cases l with
 |d x=>simp[jc] at k;exact k.2
 |nil t=>simp[jc] at k;exact k.2
 |own o s=>simp[pg] at h
 |clo g bq=>simp[pg] at h
 |_=>simp[jc] at k
theorem Im{C:Ctx}{T e:TypeId}{t:aG}{bytes:Nat}{kn km:IntKind}{n m:Int}{i:TypeInfo}{v:Value}(dZ:P.underlying T=some (.slice e))(hi:P.info? e=some i)(gA:i.size=ar t)(nM:i.bytes=bytes)
  (kg:i.zero=some v) (hzs:v.cells.size=ar t) (aS:0<=n) (aJ:n<=m) (bM:m*bytes<=room) (jj:m<=maxLen):
  (Instr.makeSlice T (.int kn n) (.int km m)).run P w=.ok (.slice (some ⟨w.heap.size,0,none⟩) n.toNat m.toNat) (w.alloc (.cells ((List.replicate m.toNat v.cells.toList).flatten).toArray e)):=by
 unfold maxLen at jj;have b0:IntKind.i64.wrap n=n:=IntWalk.i64_in n (by omega)
 have w2:IntKind.i64.wrap m=m:=IntWalk.i64_in m (by omega)
 have Fu:(decide (m<0)||decide (((i.bytes:Nat):Int)*m>2^48))=false:=by
  unfold room at bM;rw[nM];have:(bytes:Int)*m<=140737488355328:=by rw[Int.mul_comm];exact bM
  simp;omega
 have mi:((Array.range (m.toNat*i.size)).map fun x=>v.cells[x%v.cells.size]!)=((List.replicate m.toNat v.cells.toList).flatten).toArray:=by
  rw[<-XG v.cells m.toNat (by rw[hzs];exact iK t),hzs,gA]
 have GN:¬n<0:=by omega
 have hQ:¬n>m:=by omega
 unfold Instr.makeSlice;simp only[Sem.run_bind,run_underlying dZ,Result.andThen_ok,asInt,asIntOf,Sem.run_pure,kC hi,b0,w2,Fu,Bool.false_eq_true,GN,hQ,decide_false,Bool.or_false,Bool.or_self,if_false,
  run_askRoom,sizeOf]
 by_cases hz0:m.toNat*i.size=0
 ·have sD:m.toNat=0:=by
   rcases Nat.mul_eq_zero.1 hz0 with h|h
   ·exact h
   ·have:=iK t;omega
  have jI:∀f:Nat->Value,Array.map f (Array.range 0)=#[]:=fun f=>by apply Array.ext';simp
  simp[sD,newRow,jI]
 ·simp[hz0,kg,zeroValue,kC hi,newRow,mi]
theorem UT(S:af L J X B st tm w){C:Ctx}(ay:CtxOk P C){T e:TypeId}{t:aG}{bytes o:Nat}{l c:Operand}{kn km:IntKind}{n m:Int}{z:List au}{ds:List aL}{us:List (Nat×Site)}{ea:den t}(aY:C.tt T=.slice e t bytes)(aq:D.op=.makeSlice T l c)
  (c_:D.dst=some o) (Y:b1 st D.dst=true) (hl:aO C st 0 l=.av (.ai (.d (.int kn n)))) (hc:aO C st 0 c=.av (.ai (.d (.int km m)))) (hz:(C.tt e).zero=some z) (ef:gX st z=some (ds,us)) (d_:dec t ds=some ea):
  ∀r,lF bytes n m ea=some r->cv P L J X st tm w D (bJ (.own o (aV st o))) [(o,.row (aV st o) t r)]:=by
 intro r hr;obtain⟨dZ,i,fj,hi,gA,nM,kg,hzs,ey⟩:=n5 ay aY;obtain⟨v,hv,hzv⟩:=cd.w4 (w:=w) (ay.tt e) hz;have Gy:v=fj:=by
  simp[zeroValue,typeInfo,hi,kg] at hv;exact hv.symm
 subst Gy;obtain⟨h1,h2,Z⟩:=qB hzv;have dM:us=[]:=by
  clear d_ hz Z h2 h1;have key:∀{U:List au} {vs:List Value} {ds:List aL} {us:List (Nat×Site)},kH U=some vs->gX st U=some (ds,us)->us=[]:=by
   intro U;induction U with
   |nil=>intro vs ds us _ h;simp only[gX] at h;cases h;rfl
   |cons l U ih=>
    intro vs ds us h1 h2;simp only[kH] at h1;split at h1
    ·rename_i v cm g1 g2;simp only[gX] at h2;split at h2
     ·rename_i d Tu f' nT aB ao;cases h2;rw[ih g2 ao,List.append_nil];exact U5 g1 aB
     ·cases h2
    ·cases h1
  exact key hzv ef
 subst dM;have aQ:kB L J X B st tm w []:=⟨S,.nil⟩;have hrz:cf w (an X B st.sites) ds v.cells.toList:=yk ef ⟨h1,Z _ _ _ _⟩ aQ (fun p al=>al)
 rw[<-nl _ _ _ d_] at hrz;unfold lF at hr;split at hr
 ·rename_i hb;obtain⟨aS,aJ,bM,jj⟩:=hb;cases hr;have e1:Act.eval ⟨tm,[]⟩ l=.int kn n:=by
   have:=cS S C 0 l;rw[hl] at this;have this:ba _ _ (.int kn n) _:=this;generalize Act.eval ⟨tm,[]⟩ l=u at this;cases this;rfl
  have e2:Act.eval ⟨tm,[]⟩ c=.int km m:=by
   have:=cS S C 0 c;rw[hc] at this;have this:ba _ _ (.int km m) _:=this;generalize Act.eval ⟨tm,[]⟩ c=u at this;cases this;rfl
  have uA:=Ul hrz n.toNat;have hlen:((List.replicate n.toNat v.cells.toList).flatten).length=n.toNat*ar t:=by
   rw[uA.1,dP,List.length_replicate]
  have oi:(List.replicate m.toNat v.cells.toList).flatten=(List.replicate n.toNat v.cells.toList).flatten++(List.replicate (m.toNat-n.toNat) v.cells.toList).flatten:=by
   rw[<-List.flatten_append,List.replicate_append_replicate];congr 2;omega
  have hcap:((List.replicate n.toNat v.cells.toList).flatten).length+((List.replicate (m.toNat-n.toNat) v.cells.toList).flatten).length=m.toNat*ar t:=by
   rw[<-List.length_append,<-oi];simp[hzs]
  have uC:m.toNat<=maxLen:=by omega
  have bV:=S.C4 (o:=o) (T:=e) uA hcap uC ey;rw[List.length_replicate,<-oi] at bV;refine ii (us:=[(o,.row (aV st o) t (List.replicate n.toNat ea))]) bV Y (vv:=.slice (some ⟨w.heap.size,0,none⟩) n.toNat m.toNat) ?_ ?_
  ·unfold execOp;simp only[aq,e1,e2,Sem.run_bind];have cG:=Im (C:=C) (w:=w) (kn:=kn) (km:=km) dZ hi gA nM kg hzs aS aJ bM jj;simp only[cG,Result.andThen_ok,Sem.run_pure]
  ·refine⟨rfl,Ref.mk (O:=.row (aV st o) t (List.replicate n.toNat ea)) ?_ rfl (by simp[bT])⟩
   simp only[aT,ck];simp
 ·cases hr
end
theorem X2{aE jK:Type}(g:aE->Option jK):∀{l:List aE} {r:List jK},l.mapM g=some r->∀{i:Nat} {y:jK},r[i]? =some y->∃x,l[i]? =some x/\g x=some y:=by
 intro l;induction l with
 |nil=>intro r h i y aj;simp at h;subst h;simp at aj
 |cons x l ih=>
  intro r h i y aj;simp only[List.mapM_cons,Option.bind_eq_bind,Option.pure_def] at h;cases hx:g x with
  |none=>simp[hx] at h
  |some z=>
   cases hl:l.mapM g with
   |none=>simp[hx,hl] at h
   |some jN=>
    simp only[hx,hl,Option.bind_some,Option.some.injEq] at h;subst h;cases i with
    |zero=>simp at aj;subst aj;exact⟨x,by simp,hx⟩
    |succ i=>simp at aj;simpa using ih hl aj
section
variable {P:Program}{L:World}{J:List Nat}{X:Nat->Prop}{B:Nat->Value}{st:ad}{tm:Array Value}{w:World}{D:Oper}
theorem hI{k:IntKind}{n:Int}{v:Value}{av:Nat->Prop}(h:ba w av (.int k n) v):v=.int k n:=by cases h;rfl
theorem iL{b:Bool}{v:Value}{av:Nat->Prop}(h:ba w av (.bool b) v):v=.bool b:=by cases h;rfl
theorem g'{s:ak}{v:Value}{av:Nat->Prop}(h:ba w av (.str s) v):∃b:ByteArray,v=.string b/\b.data.toList=s:=by
 cases h with
 |str l s h=>exact⟨s,rfl,h⟩
theorem jr(S:af L J X B st tm w){C:Ctx}{T:TypeId}{x:Operand}{k:IntKind}{n:Int}(h:aO C st T x=.av (.ai (.d (.int k n)))):Act.eval ⟨tm,[]⟩ x=.int k n:=by
 have:=cS S C T x;rw[h] at this;exact hI this
theorem DD(S:af L J X B st tm w){C:Ctx}{T:TypeId}{x:Operand}{b:Bool}(h:aO C st T x=.av (.ai (.d (.bool b)))):Act.eval ⟨tm,[]⟩ x=.bool b:=by
 have:=cS S C T x;rw[h] at this;exact iL this
theorem abr(S:af L J X B st tm w){C:Ctx}{T:TypeId}{x:Operand}{s:ak}(h:aO C st T x=.av (.ai (.d (.str s)))):∃b:ByteArray,Act.eval ⟨tm,[]⟩ x=.string b/\b.data.toList=s:=by
 have:=cS S C T x;rw[h] at this;exact g' this
theorem Vi{C:Ctx}(ay:CtxOk P C){T:TypeId}{bF:List (Nat×Nat)}{n:Nat}{z:List au}{eq:Bool}(aY:C.tt T=.struct bF n z eq):(cd.struct bF n z eq).ok P T:=by
 have:=ay.tt T;rwa[aY] at this
theorem U1(S:af L J X B st tm w){C:Ctx}(ay:CtxOk P C){T:TypeId}{x:Operand}{f off HE:Nat}{bF:List (Nat×Nat)}{n:Nat}{z:List au}{eq:Bool}(aY:C.tt T=.struct bF n z eq)(aq:D.op=.fieldAddr T x f)
  (Y:b1 st D.dst=true) (hf:bF[f]? =some (off,HE)):Holds (Bk off (aO C st 0 x)) (cv P L J X st tm w D):=by
 obtain⟨fields,dZ,⟨aeC,vp⟩,_⟩:=Vi ay aY;obtain⟨TI,h1,h2⟩:=X2 _ aeC hf;have h1':fields[f]? =some TI:=by simpa using h1
 cases hi:P.info? TI.type with
 |none=>simp[hi] at h2
 |some i=>
  simp only[hi,Option.map_some,Option.some.injEq,Prod.mk.injEq] at h2;have hsz:i.size≠0:=by rw[h2.2];exact vp (off,HE) (List.mem_of_getElem? hf)
  have bh:=cS S C 0 x;have run:∀{b p:Nat},Act.eval ⟨tm,[]⟩ x=.pointer (some ⟨b,p,none⟩)->(execOp (Act.eval ⟨tm,[]⟩) D).run P w=.ok (.value (.pointer (some ⟨b,p+off,none⟩))) w:=by
   intro b p hx;unfold execOp;simp only[aq,hx,Instr.fieldAt,Instr.sureAddr,Sem.run_bind,run_underlying dZ,Result.andThen_ok,h1',Sem.run_pure,fieldPlace,sizeOf,kC hi,hsz,if_false,h2.1,gh]
  unfold Bk;split
  ·rename_i o s p bP;rw[bP] at bh;obtain⟨b,aB,ao⟩:=bh;exact Holds.ok (dq S Y (run aB) ⟨b,rfl,ao⟩)
  ·rename_i cells p bP;rw[bP] at bh;obtain⟨b,q,aB,ao⟩:=bh;refine Holds.ok (dq S Y (run aB) ⟨b,q,by rw[Nat.add_assoc],ao⟩)
  ·rename_i o s t k p bP;rw[bP] at bh;obtain⟨b,aB,ao⟩:=bh;exact Holds.ok (dq S Y (run aB) ⟨b,by rw[Nat.add_assoc],ao⟩)
  ·exact .fail
end
theorem tr(n:Nat)(l:List Nat):fE n l=true <-> n∈l:=by
 induction l with
 |nil=>simp[fE]
 |cons m l ih=>
  simp only[fE,Bool.or_eq_true,ih,List.mem_cons];constructor
  ·rintro(h|h)
   ·exact .inl (Nat.eq_of_beq_eq_true h)
   ·exact .inr h
  ·rintro(rfl|h)
   ·exact .inl (Nat.beq_refl n)
   ·exact .inr h
theorem n6(l:List Nat):eH l=true <-> l.Nodup:=by
 induction l with
 |nil=>simp[eH]
 |cons n l ih=>
  simp only[eH,Bool.and_eq_true,ih,List.nodup_cons,Bool.not_eq_true'];constructor
  ·rintro⟨h1,h2⟩;exact⟨fun h=>(by rw[(tr n l).2 h] at h1;cases h1),h2⟩
  ·rintro⟨h1,h2⟩;refine⟨?_,h2⟩;cases h:fE n l with
   |false=>rfl
   |true=>exact absurd ((tr n l).1 h) h1
theorem kD{sites us:List (Nat×Site)}{o:Nat}(h:o∉keys us):look (aT sites us) o=look sites o:=by
 induction us generalizing sites with
 |nil=>rfl
 |cons p us ih=>
  obtain⟨n,s⟩:=p;simp only[keys,List.mem_cons,not_or] at h;simp only[aT];rw[ih h.2,ck];have:¬n=o:=fun e=>h.1 e.symm
  simp[this]
theorem B8{aE:Type}{us:List (Nat×aE)}{o:Nat}{s:aE}(h:(o,s)∈us):o∈keys us:=by
 induction us with
 |nil=>simp at h
 |cons p us ih=>
  rcases List.mem_cons.1 h with rfl|h
  ·exact List.mem_cons_self
  ·exact List.mem_cons_of_mem _ (ih h)
theorem n9{aE:Type}{us:List (Nat×aE)}{o:Nat}(h:o∈keys us):∃s,(o,s)∈us:=by
 induction us with
 |nil=>simp[keys] at h
 |cons p us ih=>
  obtain⟨n,s⟩:=p;rcases List.mem_cons.1 h with h|h
  ·exact⟨s,by rw[h];exact List.mem_cons_self⟩
  ·obtain⟨am,ab⟩:=ih h;exact⟨am,List.mem_cons_of_mem _ ab⟩
theorem gd{aE:Type}(a b:List (Nat×aE)):keys (a++b)=keys a++keys b:=by
 induction a with
 |nil=>rfl
 |cons p a ih=>simp[keys,ih]
section
variable {P:Program}{L:World}{J:List Nat}{X:Nat->Prop}{B:Nat->Value}{st:ad}{tm:Array Value}{w:World}{D:Oper}
def cl(B:Nat->Value)(ks:List Nat):List Nat:=ks.flatMap fun o=>bA (B o)
theorem jT(a b:List Nat):cl B (a++b)=cl B a++cl B b:=by simp[cl]
def eM(sites:List (Nat×Site))(us:List (Nat×Site)):Prop:=∀o am,(o,am)∈us->∃O,look sites o=some O/\O.live=true/\am=.dead O.bX
theorem eM.nil{sites:List (Nat×Site)}:eM sites []:=fun _ _ h=>by simp at h
theorem eM.append{sites us vs:List (Nat×Site)}(h:eM sites us)(ab:eM sites vs):eM sites (us++vs):=by
 intro o s hm;rcases List.mem_append.1 hm with hm|hm
 ·exact h o s hm
 ·exact ab o s hm
theorem Wz:∀{us:List (Nat×Site)} {sites:List (Nat×Site)},eM sites us->∀F,(F∉keys us/\look (aT sites us) F=look sites F)\/(F∈keys us/\∃O,look sites F=some O/\O.live=true/\look (aT sites us) F=some (.dead O.bX)):=by
 intro us;induction us with
 |nil=>intro sites _ F;exact .inl ⟨by simp[keys],rfl⟩
 |cons p us ih=>
  obtain⟨o,s⟩:=p;intro sites h F;obtain⟨O,h1,h2,rfl⟩:=h o s List.mem_cons_self;by_cases hm:F∈keys us
  ·obtain⟨am,gE⟩:=n9 hm;obtain⟨bw,aB,ao,rfl⟩:=h F am (List.mem_cons_of_mem _ gE);refine .inr ⟨List.mem_cons_of_mem _ hm,bw,aB,ao,?_⟩;have:∀(us:List (Nat×Site)) (sites:List (Nat×Site)),(∀s,(F,s)∈us->s=.dead bw.bX)->F∈keys us->look (aT sites us) F=some (.dead bw.bX):=by
    intro us;induction us with
    |nil=>intro _ _ h;simp[keys] at h
    |cons q us Gn=>
     obtain⟨aN,r⟩:=q;intro sites M ag;simp only[aT];by_cases hR:F∈keys us
     ·exact Gn _ (fun s eR=>M s (List.mem_cons_of_mem _ eR)) hR
     ·rw[kD hR,ck];rcases List.mem_cons.1 ag with rfl|ag
      ·rw[M r List.mem_cons_self];simp
      ·exact absurd ag hR
   simp only[aT];refine this us _ (fun s M=>?_) hm
   obtain⟨s2,g1,g2,g3⟩:=h F s (List.mem_cons_of_mem _ M);rw[aB] at g1;cases g1;exact g3
  ·simp only[aT];rw[kD hm,ck];by_cases e:o=F
   ·subst e;exact .inr ⟨List.mem_cons_self,O,h1,h2,by simp⟩
   ·exact .inl ⟨fun ag=>(List.mem_cons.1 ag).elim (fun h=>e h.symm) hm,by simp[e]⟩
theorem Deep.len{av:Nat->Prop}{ds:List aL}{cs aA:List Value}(h:Deep w av ds cs aA):cs.length=ds.length:=by
 induction h with
 |nil=>rfl
 |row _ _ _ _ _ _ _ _ ih=>simp[ih]
 |leaf _ _ _ ih=>simp[ih]
theorem Deep.cz{av:Nat->Prop}{ds f':List aL}{cs jd aA RG:List Value}(h:Deep w av ds cs aA)(ab:Deep w av f' jd RG):Deep w av (ds++f') (cs++jd) (aA++RG):=by
 induction h with
 |nil=>exact ab
 |row u ys e U al h hr _ ih=>exact .row u ys e U al h hr ih
 |leaf al h _ ih=>exact .leaf al h ih
theorem Deep.inv{av:Nat->Prop}:∀{ds f':List aL} {cs aA:List Value},Deep w av (ds++f') cs aA->∃qf Sk gZ z_,cs=qf++Sk/\aA=gZ++z_/\Deep w av ds qf gZ/\Deep w av f' Sk z_:=by
 intro ds;induction ds with
 |nil=>intro f' cs aA h;exact⟨[],cs,[],aA,rfl,rfl,.nil,h⟩
 |cons d ds ih=>
  intro f' cs aA h;cases h with
  |row u ys e U al h hr k=>
   obtain⟨c1,c2,n1,n2,rfl,rfl,aB,ao⟩:=ih k;exact⟨_::c1,c2,_::n1,n2,rfl,rfl,.row u ys e U al h hr aB,ao⟩
  |leaf al h k=>
   obtain⟨c1,c2,n1,n2,rfl,rfl,aB,ao⟩:=ih k;exact⟨_::c1,c2,n1,n2,rfl,rfl,.leaf al h aB,ao⟩
theorem Deep.map{w':World}{av bN:Nat->Prop}{ds:List aL}{cs aA:List Value}(h:Deep w av ds cs aA)(go:∀{d v},ba w av d v->ba w' bN d v):
  (∀n,n∈aA->∀b,a8 n=some b->w'.heap[b]? =w.heap[b]?)->Deep w' bN ds cs aA:=by
 induction h with
 |nil=>intro _;exact .nil
 |row u ys e U al h hr _ ih=>intro ag;exact .row u ys e U al (pb h (ag _ List.mem_cons_self)) ⟨hr.1,fun j g1 g2=>go (hr.2 j g1 g2)⟩ (ih fun n hn=>ag n (List.mem_cons_of_mem _ hn))
 |leaf al h _ ih=>intro ag;exact .leaf al (go h) (ih ag)
theorem Deep.one{av:Nat->Prop}{ds:List aL}{cs aA:List Value}(h:Deep w av ds cs aA):∀u∈cs,u.oneCell'=true:=by
 induction h with
 |nil=>intro u hu;cases hu
 |row u ys e U _ h _ _ ih=>
  intro v hv;rcases List.mem_cons.1 hv with rfl|hv
  ·rcases h.2 with⟨h,_⟩|⟨_,_,_,_,h,_⟩<;>rw[h]<;>rfl
  ·exact ih v hv
 |leaf _ h _ ih=>
  intro v hv;rcases List.mem_cons.1 hv with rfl|hv
  ·exact h.hY
  ·exact ih v hv
theorem WV{o s:Nat}{t:aG}{xs:List (den t)}(h:ow st o s=some ⟨t,xs⟩):rowOf st o s=some ⟨t,xs⟩\/lj st o s=some ⟨t,xs⟩:=by
 unfold ow at h;split at h
 ·rename_i x hx;cases h;exact .inl hx
 ·exact .inr h
theorem af.any(S:af L J X B st tm w){o s:Nat}{t:aG}{xs:List (den t)}(h:ow st o s=some ⟨t,xs⟩):
  (∃O,look st.sites o=some O/\O.bX=s)/\((bT (B o)=.slice none 0 0/\xs=[])\/∃b c,bT (B o)=.slice (some ⟨b,0,none⟩) xs.length c):=by
 rcases WV h with h|h
 ·obtain⟨cs,_,hc⟩:=S.row h;refine⟨by rcases jn h with h|h<;>exact⟨_,h,rfl⟩,hc.imp id fun⟨b,c,h,_⟩=>⟨b,c,h⟩⟩
 ·have hl:=s6 h;obtain⟨e,v,aA,cs,h1,_,h2,_⟩:=S.sites o _ hl;refine⟨⟨_,hl,rfl⟩,?_⟩;rw[h1];show(v=_/\_)\/∃b c,v=_;rcases h2.2 with⟨hv,h0⟩|⟨g,cap,cur,bv,hv,_⟩
  ·exact .inl ⟨hv,List.eq_nil_of_length_eq_zero h0⟩
  ·exact .inr ⟨g,cap,hv⟩
theorem af.Mf(S:af L J X B st tm w){o:Nat}(h:bS st.sites o):(bA (B o)).Nodup:=by
 obtain⟨O,h1,h2⟩:=h;have:=S.sites o O h1;cases O with
 |box s cells=>obtain⟨b,T,cur,g,_⟩:=this;rw[g];simp[bA,a8]
 |row s t xs=>
  obtain⟨e,cs,g,_⟩:=this;rw[(iq g).2];cases a8 (B o)<;>simp
 |map s t es=>obtain⟨b,g,_⟩:=this;rw[g];simp[bA,a8]
 |deep s t xs=>obtain⟨e,v,aA,cs,g1,g2,_⟩:=this;exact g2
 |cQ=>cases h2
 |dead=>cases h2
theorem af.Me(S:af L J X B st tm w):∀{ks:List Nat},(∀F,F∈ks->bS st.sites F)->ks.Nodup->(cl B ks).Nodup:=by
 intro ks;induction ks with
 |nil=>intro _ _;simp[cl]
 |cons k ks ih=>
  intro hl hn;obtain⟨n1,n2⟩:=List.nodup_cons.1 hn;unfold cl;rw[List.flatMap_cons];refine List.nodup_append.2 ⟨S.Mf (hl k List.mem_cons_self),ih (fun F h=>hl F (List.mem_cons_of_mem _ h)) n2,fun a a5 b hb e=>?_⟩
  subst e;obtain⟨F,bm,hb⟩:=List.mem_flatMap.1 hb;exact n1 (S.c' k F a (hl k List.mem_cons_self) (hl F (List.mem_cons_of_mem _ bm)) a5 hb▸bm)
theorem af.uJ(S:af L J X B st tm w){o:Nat}{bw:Site}{nv:Value}{w':World}{ks:List (Nat×Site)}{K:List Nat}(oN:eM st.sites ks)(bn:∀F,F∈K <-> F∈keys ks\/F=o/\bS st.sites o)
  (hw:∀b,b<w.heap.size->(∀F,F∈K->b∉bA (B F))->w'.heap[b]? =w.heap[b]?) (hos:w'.os=w.os) (EF:w'.tape=w.tape) (uB:w'.output=w.output) (kQ:w.heap.size<=w'.heap.size)
  (fB:bw.live=true) (mh:∀O,look st.sites o=some O->O.bX<bw.bX\/(O.bX=bw.bX/\bT nv=bT (B o)))
  (gl:∀b,b∈bA nv->b<w'.heap.size/\((∃F,F∈K/\b∈bA (B F))\/w.heap.size<=b))
  (fb:∀{bi:List (Nat×Site)} {ax:Nat->Value},ax o=nv->(∀{a v},b9 B st.sites w (an X B st.sites) a v->b9 ax bi w' (an X ax bi) a v)->
   ir ax bi w' (an X ax bi) o bw):
  af L J X (fun F=>if F=o then nv else B F) {st with sites:=b3 (aT st.sites ks) o bw} tm w':=by
 have oK:=Wz oN;have hold:∀F,F∈K->bS st.sites F:=by
  intro F h;rcases(bn F).1 h with h|⟨rfl,h⟩
  ·rcases oK F with⟨ab,_⟩|⟨_,O,h1,h2,_⟩
   ·exact absurd h ab
   ·exact⟨O,h1,h2⟩
  ·exact h
 have cn:∀F,bS (b3 (aT st.sites ks) o bw) F->F=o\/(F≠o/\F∉K/\bS st.sites F):=by
  rintro F ⟨O,h1,h2⟩;rw[ck] at h1;by_cases e:o=F
  ·exact .inl e.symm
  ·simp only[e,if_false] at h1;rcases oK F with⟨aB,ao⟩|⟨aB,s,ao,bj,b'⟩
   ·exact .inr ⟨fun h=>e h.symm,fun h=>((bn F).1 h).elim aB fun h=>e h.1.symm,O,ao▸h1,h2⟩
   ·rw[b'] at h1;cases h1;cases h2
 have um:∀F b,F∉K->bS st.sites F->b∈bA (B F)->w'.heap[b]? =w.heap[b]? :=fun F b h1 h2 Z=>hw b (S.dW h2 Z) fun aN u3 hb=>h1 (S.c' F aN b h2 (hold aN u3) Z hb▸u3)
 refine S.ox (fun F O bm=>?_) (fun b h hb=>hw b hb fun F bm ab=>h (.inr ⟨F,hold F bm,ab⟩)) (fun b h hb ab=>?_) (fun go F O bm=>?_) (fun F aN b h1 h2 g1 g2=>?_) (fun F b h1 g1=>?_) (fun F b h1 g1=>?_) ?_ kQ
 ·rw[ck];by_cases e:o=F
  ·subst e;refine⟨bw,by simp,?_,fun h=>?_⟩
   ·rcases mh O bm with h|⟨h,_⟩<;>omega
   ·rcases mh O bm with ab|⟨_,ab⟩
    ·omega
    ·simpa using ab
  ·have bY:¬F=o:=fun h=>e h.symm
   rcases oK F with⟨aB,ao⟩|⟨aB,s,ao,bj,b'⟩
   ·exact⟨O,by simp[e,ao,bm],Nat.le_refl _,fun _=>by simp[bY]⟩
   ·rw[bm] at ao;cases ao;exact⟨.dead O.bX,by simp[e,b'],Nat.le_refl _,fun _=>by simp[bY]⟩
 ·rcases ab with ab|⟨F,h1,h2⟩
  ·exact h (.inl ab)
  ·rcases cn F h1 with rfl|⟨n1,n2,cV⟩
   ·simp only[if_true] at h2;rcases(gl b h2).2 with⟨aN,Z,aI⟩|Z
    ·exact h (.inr ⟨aN,hold aN Z,aI⟩)
    ·omega
   ·simp only[n1,if_false] at h2;exact h (.inr ⟨F,cV,h2⟩)
 ·rw[ck] at bm;by_cases e:o=F
  ·subst e;simp only[if_true,Option.some.injEq] at bm;subst bm;exact .inr (fb (by simp) go)
  ·have bY:¬F=o:=fun h=>e h.symm
   simp only[e,if_false] at bm;rcases oK F with⟨aB,ao⟩|⟨aB,s,ao,bj,b'⟩
   ·exact .inl ⟨ao▸bm,by simp[bY],fun hl b hb=>um F b (fun h=>((bn F).1 h).elim aB fun h=>e h.1.symm) ⟨O,ao▸bm,hl⟩ hb⟩
   ·rw[b'] at bm;cases bm;exact .inr trivial
 ·have key:∀F b,F∉K->bS st.sites F->b∈bA (B F)->b∉bA nv:=by
   intro F b n2 cV hb hn;rcases(gl b hn).2 with⟨aN,Z,aI⟩|Z
   ·exact n2 (S.c' F aN b cV (hold aN Z) hb aI▸Z)
   ·have:=S.dW cV hb;omega
  rcases cn F h1 with rfl|⟨n1,m1,cV⟩<;>rcases cn aN h2 with rfl|⟨n2,m2,ga⟩
  ·rfl
  ·simp only[if_true] at g1;simp only[n2,if_false] at g2;exact absurd g1 (key aN b m2 ga g2)
  ·simp only[if_true] at g2;simp only[n1,if_false] at g1;exact absurd g2 (key F b m1 cV g1)
  ·simp only[n1,if_false] at g1;simp only[n2,if_false] at g2;exact S.c' F aN b cV ga g1 g2
 ·rcases cn F h1 with rfl|⟨n1,_,cV⟩
  ·simp only[if_true] at g1;rcases(gl b g1).2 with⟨aN,Z,aI⟩|Z
   ·exact S.b2 aN b (hold aN Z) aI
   ·exact⟨fun hx=>by have:=S.old b hx;have:=S.frame.size;omega,.inr (Nat.le_trans S.frame.size Z)⟩
  ·simp only[n1,if_false] at g1;exact S.b2 F b cV g1
 ·rcases cn F h1 with rfl|⟨n1,_,cV⟩
  ·simp only[if_true] at g1;exact(gl b g1).1
  ·simp only[n1,if_false] at g1;exact Nat.lt_of_lt_of_le (S.dW cV g1) kQ
 ·have aQ:=S.frame;refine⟨hos.trans aQ.os,EF.trans aQ.tape,uB.trans aQ.output,Nat.le_trans aQ.size kQ,fun b h1 h2=>?_⟩
  rw[hw b (Nat.lt_of_lt_of_le h1 aQ.size) (fun F bm hb=>?_)]
  ·exact aQ.block b h1 h2
  ·rcases(S.b2 F b (hold F bm) hb).2 with h|h
   ·exact h2 h
   ·omega
theorem WH{t:aG}(h:t.gS=false)(x:den t):∀d,d∈enc t x->d.plain=true:=by
 cases t<;>first|(cases h;done)|(intro d Y;simp only[enc,List.mem_cons,List.not_mem_nil,or_false] at Y;(rcases Y with rfl|rfl|rfl|rfl|rfl);all_goals rfl)|skip
 all_goals(intro d Y;simp only[enc,List.mem_cons,List.not_mem_nil,or_false] at Y)
 all_goals first|(subst Y;rfl)|(rcases Y with rfl|rfl<;>rfl)|(rcases Y with rfl|rfl|rfl<;>rfl)|(rcases Y with rfl|rfl|rfl|rfl<;>rfl)
theorem Bj{t:aG}(h:t.gS=false){xs:List (den t)}:∀d,d∈flat t xs->d.plain=true:=by
 intro d Y;simp only[flat,List.mem_flatMap] at Y;obtain⟨x,_,hx⟩:=Y;exact WH h x d hx
theorem B6(S:af L J X B st tm w):∀{U:List au} {ds:List aL} {us:List (Nat×Site)} {vs:List Value},sinks st U=some (ds,us)->ch B st.sites w (an X B st.sites) U vs->
  eM st.sites us/\∃aA,Deep w (an X B st.sites) ds vs aA/\(aA.flatMap fun v=>(a8 v).toList)=cl B (keys us):=by
 intro U;induction U with
 |nil=>intro ds us vs h hl;simp only[sinks] at h;cases h;rw[hl.kJ];exact⟨.nil,[],.nil,rfl⟩
 |cons l U ih=>
  intro ds us vs h hl;simp only[sinks] at h;split at h
  ·rename_i d u1 f' u2 h1 h2;cases h;obtain⟨v,cm,rfl,hv,hvs⟩:=hl.inv;obtain⟨g2,aA,ao,bj⟩:=ih h2 hvs;unfold sink at h1;split at h1
   ·cases h1;exact⟨g2,aA,.leaf rfl hv ao,bj⟩
   ·cases h1;exact⟨g2,aA,.leaf rfl hv ao,bj⟩
   ·cases h1;exact⟨g2,aA,.leaf rfl hv ao,bj⟩
   ·rename_i t;cases h1;have hv:v=.slice none 0 0:=hv;subst hv;exact⟨g2,_::aA,.row t [] 0 [] (fun d h=>by simp[flat] at h) (tc w _ _ _) ⟨rfl,fun j h=>by simp[flat] at h⟩ ao,by rw[List.flatMap_cons,bj];rfl⟩
   ·rename_i o s;split at h1
    ·rename_i am t xs ff;cases hb:(am.beq s&&!t.gS) with
     |false=>rw[hb] at h1;cases h1
     |true=>
      rw[hb] at h1;simp only[Bool.and_eq_true,Bool.not_eq_true'] at hb;have:=Nat.eq_of_beq_eq_true hb.1;subst this;cases h1;have aF:look st.sites o=some (.row am t xs):=ff;obtain⟨e,cs,r1,r2⟩:=S.sites o _ aF;have iC:v=B o:=(Ref.at hv.2 aF rfl).trans (iq r1).1;subst iC;refine⟨fun F am hm=>?_,B o::aA,.row t xs e cs (Bj hb.2) r1 ⟨by rw[dP];exact r1.1,r2⟩ ao,?_⟩
      ·rcases List.mem_cons.1 hm with hm|hm
       ·cases hm;exact⟨_,aF,rfl,rfl⟩
       ·exact g2 F am hm
      ·rw[List.flatMap_cons,bj,<-(iq r1).2];rfl
    ·cases h1
   ·cases h1
  ·cases h
theorem Ig{U:List au}:∀{ds:List aL} {us:List (Nat×Site)},sinks st U=some (ds,us)->gf U=true:=by
 induction U with
 |nil=>intro ds us _;rfl
 |cons l U ih=>
  intro ds us h;simp only[sinks] at h;split at h
  ·rename_i d u1 f' u2 h1 h2;simp only[gf,Bool.and_eq_true];refine⟨?_,ih h2⟩;unfold sink at h1;split at h1<;>first|rfl|cases h1
  ·cases h
theorem Xz(S:af L J X B st tm w):∀{as:List br} {t:aG} {xs:List (den t)} {us:List (Nat×Site)} {ws:List Value},me t st as=some (xs,us)->ws.length=as.length->
  (∀j (h:j<as.length) (ab:j<ws.length),fW B st.sites w (an X B st.sites) (as[j]) (ws[j]))->
  xs.length=as.length/\eM st.sites us/\(∃aA,Deep w (an X B st.sites) (flat t xs) (ws.flatMap fun v=>v.cells.toList) aA/\(aA.flatMap fun v=>(a8 v).toList)=cl B (keys us))/\∀v,v∈ws->v.cells.size=ar t:=by
 intro as;induction as with
 |nil=>
  intro t xs us ws h hl _;simp only[me] at h;cases h;have:ws=[]:=List.eq_nil_of_length_eq_zero hl;subst this;exact⟨rfl,.nil,⟨[],.nil,rfl⟩,fun v hv=>by simp at hv⟩
 |cons a as ih=>
  intro t xs us ws h hl fb;match ws,hl with
  |v::ws,hl=>
  simp only[me] at h;split at h
  ·rename_i ds u1 lx;split at h
   ·rename_i x hk u2 d_ mr;cases h;have bW:=fb 0 (by simp) (by simp)
    simp only[List.getElem_cons_zero] at bW;have hl1:=bW.cells (Ig lx);obtain⟨g1,gZ,d1,aS⟩:=B6 S lx hl1;obtain⟨g2,g3,⟨z_,d2,aJ⟩,eF⟩:=ih mr (by simpa using hl) (fun j h1 h2=>fb (j+1) (by simpa using h1) (by simpa using h2))
    have nB:=nl _ _ _ d_;refine⟨by simp[g2],g1.append g3,⟨gZ++z_,?_,?_⟩,fun u hu=>?_⟩
    ·simp only[flat,List.flatMap_cons];rw[nB];exact d1.cz d2
    ·rw[List.flatMap_append,aS,aJ,gd,jT]
    ·rcases List.mem_cons.1 hu with rfl|hu
     ·have:u.cells.toList.length=ds.length:=d1.len;rw[<-nB,e8] at this;simpa using this
     ·exact eF u hu
   ·cases h
  ·cases h
theorem IM{aE:Type}{us:List (Nat×aE)}{o:Nat}(h:(look us o).isNone=true):o∉keys us:=by
 induction us with
 |nil=>simp[keys]
 |cons p us ih=>
  obtain⟨n,s⟩:=p;simp only[look] at h;cases hb:n.beq o with
  |true=>rw[hb] at h;cases h
  |false=>
   rw[hb] at h;intro hm;rcases List.mem_cons.1 hm with rfl|hm
   ·rw[Nat.beq_refl] at hb;cases hb
   ·exact ih h hm
theorem wV(t:aG){xs:List (den t)}{k:Nat}(ag:k<xs.length)(cT:den t):flat t (xs.set k cT)=flat t (xs.take k)++(enc t cT++flat t (xs.drop (k+1))):=by
 rw[List.set_eq_take_append_cons_drop,if_pos ag,l7];rfl
theorem Cr(t:aG){xs:List (den t)}{k:Nat}{x:den t}(hx:xs[k]? =some x):flat t xs=flat t (xs.take k)++(enc t x++flat t (xs.drop (k+1))):=by
 have ag:k<xs.length:=(List.getElem?_eq_some_iff.1 hx).1;have:=wV t ag x;rw[<-this];congr 1
 have ka:xs[k]=x:=(List.getElem?_eq_some_iff.1 hx).2;rw[<-ka,List.set_getElem_self]
theorem af.Xs(S:af L J X B st tm w){o s k:Nat}{t:aG}{xs:List (den t)}{x cT:den t}{v:Value}{us:List (Nat×Site)}{vs aA:List Value}(hb:look st.sites o=some (.deep s t xs))
  (hv:dd B st.sites w (an X B st.sites) (.ej o s t k 0) v) (hx:xs[k]? =some x) (dM:eM st.sites us) (hn:(keys us).Nodup) (a_:o∉keys us)
  (Y:Deep w (an X B st.sites) (enc t cT) vs aA) (fK:(aA.flatMap fun v=>(a8 v).toList)=cl B (keys us)):
  ∃b T cur bv nv,v=.pointer (some ⟨b,k*ar t,none⟩)/\w.heap[b]? =some (.cells (List.toArray cur) T bv)/\kX t.ek T cur.toArray bv/\k*ar t+vs.length<=cur.length/\
   af L J X (fun F=>if F=o then nv else B F) {st with sites:=b3 (aT st.sites us) o (.deep s t (xs.set k cT))} tm (w.setRow b (bd cur (k*ar t) vs).toArray):=by
 obtain⟨b,nH,jF⟩:=hv;obtain⟨n,c,bR⟩:=Ref.at jF hb rfl;obtain⟨e,v0,h7,cs,h0,dx,cO,kR⟩:=S.sites o _ hb;have ag:k<xs.length:=(List.getElem?_eq_some_iff.1 hx).1;rw[h0] at bR;replace bR:v0=.slice (some ⟨b,0,none⟩) n c:=bR
 obtain⟨p1,h⟩:=cO;rcases h with⟨e4,_⟩|⟨g,cap,cur,bv,gn,lP,hg,hnc,gp,hcs,jG⟩
 ·rw[bR] at e4;cases e4
 ·rw[bR] at gn;cases gn;have lN:(k+1)*ar t<=xs.length*ar t:=Nat.mul_le_mul_right _ ag;have hR:xs.length*ar t<=c*ar t:=Nat.mul_le_mul_right _ hnc;rw[Nat.add_mul,Nat.one_mul] at lN;have kb:vs.length=ar t:=by rw[Y.len,e8]
  have hd:cur.toList.length=c*ar t:=by simpa using hcs
  have iw:k*ar t+vs.length<=cur.toList.length:=by omega
  rw[Cr t hx] at kR;obtain⟨c1,Sl,n1,g4,rfl,rfl,d1,d23⟩:=kR.inv;obtain⟨c2,c3,n2,jO,rfl,rfl,d2,d3⟩:=d23.inv;have cV:c1.length=k*ar t:=by rw[d1.len,dP,List.length_take,Nat.min_eq_left (Nat.le_of_lt ag)]
  have ga:c2.length=ar t:=by rw[d2.len,e8]
  have fB:bS st.sites o:=⟨_,hb,rfl⟩;have sf:b∈bA (B o):=by rw[h0];exact ij.2 (.inl (by rw[bR];rfl))
  have Nq:a8 v0=some b:=by rw[bR];rfl
  have old:∀F,F∈keys us->bS st.sites F:=fun F h=>by
   obtain⟨am,ab⟩:=n9 h;obtain⟨O,aB,ao,_⟩:=dM F am ab;exact⟨O,aB,ao⟩
  have amt:∀y,y∈n1++(n2++jO)->∀a6,a8 y=some a6->a6∈bA (B o):=fun y aj a6 b5=>by rw[h0];exact ij.2 (.inr ⟨y,aj,b5⟩)
  have Ac:∀y,y∈aA->∀a6,a8 y=some a6->∃F,F∈keys us/\a6∈bA (B F):=fun y aj a6 b5=>by
   have:a6∈aA.flatMap fun v=>(a8 v).toList:=List.mem_flatMap.2 ⟨y,aj,by rw[b5];simp⟩
   rw[fK] at this;exact List.mem_flatMap.1 this
  have zo:bA (.tuple (v0::(n1++(aA++jO))).toArray)=b::((n1.flatMap fun v=>(a8 v).toList)++(cl B (keys us)++jO.flatMap fun v=>(a8 v).toList)):=by
   simp[bA,Nq,fK]
  have rO:bA (B o)=b::((n1.flatMap fun v=>(a8 v).toList)++((n2.flatMap fun v=>(a8 v).toList)++jO.flatMap fun v=>(a8 v).toList)):=by
   rw[h0];simp[bA,Nq]
  refine⟨b,e,cur.toList,bv,.tuple (v0::(n1++(aA++jO))).toArray,by simpa using nH,by simpa using hg,by simpa using lP,iw,?_⟩
  refine S.uJ (K:=o::keys us) dM (fun F=>?_) (fun a6 b5 hne=>setRow_other w b a6 _ ?_) rfl rfl rfl (by rw[setRow_size];exact Nat.le_refl _) rfl (fun O M=>?_) (fun a6 b5=>?_) (fun {bi ax} dI go=>?_)
  ·constructor
   ·intro h;rcases List.mem_cons.1 h with rfl|h
    ·exact .inr ⟨rfl,fB⟩
    ·exact .inl h
   ·rintro(h|⟨rfl,_⟩)
    ·exact List.mem_cons_of_mem _ h
    ·exact List.mem_cons_self
  ·rintro rfl;exact hne o List.mem_cons_self sf
  ·rw[hb] at M;cases M;exact .inr ⟨rfl,by rw[h0];rfl⟩
  ·rw[setRow_size];rw[zo] at b5;have:(∃F,F∈o::keys us/\a6∈bA (B F)):=by
    simp only[List.mem_cons,List.mem_append] at b5;rcases b5 with rfl|b5|b5|b5
    ·exact⟨o,List.mem_cons_self,sf⟩
    ·exact⟨o,List.mem_cons_self,by rw[rO];simp only[List.mem_cons,List.mem_append];exact .inr (.inl b5)⟩
    ·obtain⟨F,h1,h2⟩:=List.mem_flatMap.1 b5;exact⟨F,List.mem_cons_of_mem _ h1,h2⟩
    ·exact⟨o,List.mem_cons_self,by rw[rO];simp only[List.mem_cons,List.mem_append];exact .inr (.inr (.inr b5))⟩
   refine⟨?_,.inl this⟩;obtain⟨F,h1,h2⟩:=this;rcases List.mem_cons.1 h1 with rfl|h1
   ·exact S.dW fB h2
   ·exact S.dW (old F h1) h2
  ·have kh:=setRow_heap w b cur (bd cur.toList (k*ar t) vs).toArray e bv hg;have hb1:b∉(n1.flatMap fun v=>(a8 v).toList)++((n2.flatMap fun v=>(a8 v).toList)++jO.flatMap fun v=>(a8 v).toList):=by
    have:=dx;rw[rO] at this;exact(List.nodup_cons.1 this).1
   have jx:∀y,y∈n1++(aA++jO)->∀a6,a8 y=some a6->(w.setRow b (bd cur.toList (k*ar t) vs).toArray).heap[a6]? =w.heap[a6]? :=by
    intro y aj a6 b5;refine setRow_other w b a6 _ ?_
    rintro rfl;simp only[List.mem_append] at aj;rcases aj with aj|aj|aj
    ·exact hb1 (List.mem_append.2 (.inl (List.mem_flatMap.2 ⟨y,aj,by rw[b5];simp⟩)))
    ·obtain⟨F,h1,h2⟩:=Ac y aj _ b5;exact a_ (S.c' o F _ fB (old F h1) sf h2▸h1)
    ·exact hb1 (List.mem_append.2 (.inr (List.mem_append.2 (.inr (List.mem_flatMap.2 ⟨y,aj,by rw[b5];simp⟩)))))
   refine⟨e,v0,n1++(aA++jO),c1++(vs++c3),dI,?_,⟨?_,.inr ⟨b,c,_,bv,?_,?_,kh,?_,gp,?_,?_⟩⟩,?_⟩
   ·rw[dI,zo];have hu:=S.Me old hn;rw[rO] at dx;obtain⟨m1,m2⟩:=List.nodup_cons.1 dx;obtain⟨m3,m4,m5⟩:=List.nodup_append.1 m2;obtain⟨Ty,vW,ann⟩:=List.nodup_append.1 m4;have apart:∀a,a∈cl B (keys us)->a∉bA (B o):=by
     intro a a5 nO;obtain⟨F,h1,h2⟩:=List.mem_flatMap.1 a5;exact a_ (S.c' o F a fB (old F h1) nO h2▸h1)
    refine List.nodup_cons.2 ⟨fun h=>?_,List.nodup_append.2 ⟨m3,List.nodup_append.2 ⟨hu,vW,fun a a5 a6 b5 e=>?_⟩,fun a a5 a6 b5 e=>?_⟩⟩
    ·simp only[List.mem_append] at h;rcases h with h|h|h
     ·exact m1 (List.mem_append.2 (.inl h))
     ·exact apart _ h sf
     ·exact m1 (List.mem_append.2 (.inr (List.mem_append.2 (.inr h))))
    ·subst e;exact apart a a5 (by rw[rO];simp only[List.mem_cons,List.mem_append];exact .inr (.inr (.inr b5)))
    ·subst e;rcases List.mem_append.1 b5 with b5|b5
     ·exact apart a b5 (by rw[rO];simp only[List.mem_cons,List.mem_append];exact .inr (.inl a5))
     ·exact m5 a a5 a (List.mem_append.2 (.inr b5)) rfl
   ·rw[List.length_set];simp only[List.length_append] at p1 ⊢;omega
   ·rw[bR,List.length_set]
   ·refine⟨lP.1,?_⟩;rcases lP.2 with h|⟨h,ab⟩
    ·exact .inl h
    ·refine .inr ⟨h,?_⟩;rw[List.size_toArray,l5 _ _ _ iw];simpa using ab
   ·rw[List.length_set];exact hnc
   ·rw[List.size_toArray,l5 _ _ _ iw];exact hd
   ·rw[List.length_set,List.toList_toArray,A3 _ _ _ _ (by omega) (by rw[hd];omega),jG]
    unfold bd;rw[<-cV,List.take_left' rfl,kb,<-ga,<-List.append_assoc,<-List.append_assoc,<-List.length_append,List.drop_left' rfl]
   ·rw[wV t ag];have jb:∀{d v},ba w (an X B st.sites) d v->ba _ (an X ax bi) d v:=js go;exact(d1.map jb fun y aj=>jx y (List.mem_append.2 (.inl aj))).cz ((Y.map jb fun y aj=>jx y (List.mem_append.2 (.inr (List.mem_append.2 (.inl aj))))).cz (d3.map jb fun y aj=>jx y (List.mem_append.2 (.inr (List.mem_append.2 (.inr aj))))))
theorem Yj(t:aG)(x cT:den t):(enc t x).map aL.plain=(enc t cT).map aL.plain:=by cases t<;>rfl
theorem IT{d:aL}(h:d.hN=true):d.plain=true:=by cases d<;>first|rfl|cases h
theorem MB{t:aG}{x:den t}{off:Nat}(h:off<ar t):∃d,(enc t x)[off]? =some d/\enc t x=(enc t x).take off++d::(enc t x).drop (off+1):=by
 have hl:off<(enc t x).length:=by rw[e8];exact h
 refine⟨(enc t x)[off],List.getElem?_eq_getElem hl,?_⟩;rw[List.getElem_cons_drop,List.take_append_drop]
theorem I_{aE:Type}{l:List aE}{off:Nat}{d:aE}:bd l off [d]=l.take off++d::l.drop (off+1):=by simp[bd]
theorem UJ{aE:Type}{a b c:List aE}{y z:aE}{p:Nat}(h:p=a.length+b.length):bd (a++((b++y::c))) p [z]=a++(b++z::c):=by
 subst h;unfold bd;rw[<-List.append_assoc,<-List.length_append,List.take_left' rfl];have:(a++b++y::c).drop ((a++b).length+[z].length)=c:=by
  rw[List.drop_append,List.drop_eq_nil_of_le (by simp)]
  simp
 rw[this];simp
theorem af.V4(S:af L J X B st tm w){o s k off:Nat}{t:aG}{xs:List (den t)}{x cT:den t}{v u:Value}{d:aL}(hb:look st.sites o=some (.deep s t xs))
  (hv:dd B st.sites w (an X B st.sites) (.ej o s t k off) v) (hx:xs[k]? =some x) (Y:dec t (bd (enc t x) off [d])=some cT) (al:d.hN=true) (aq:off<ar t) (hu:ba w (an X B st.sites) d u):
  ∃b T cur bv,v=.pointer (some ⟨b,k*ar t+off,none⟩)/\w.heap[b]? =some (.cells (List.toArray cur) T bv)/\kX t.ek T cur.toArray bv/\k*ar t+off+1<=cur.length/\
   af L J X B {st with sites:=b3 st.sites o (.deep s t (xs.set k cT))} tm (w.setRow b (bd cur (k*ar t+off) [u]).toArray):=by
 obtain⟨b,nH,jF⟩:=hv;obtain⟨n,c,bR⟩:=Ref.at jF hb rfl;obtain⟨e,v0,h7,cs,h0,dx,cO,kR⟩:=S.sites o _ hb;have ag:k<xs.length:=(List.getElem?_eq_some_iff.1 hx).1;rw[h0] at bR;replace bR:v0=.slice (some ⟨b,0,none⟩) n c:=bR
 obtain⟨p1,h⟩:=cO;rcases h with⟨e4,_⟩|⟨g,cap,cur,bv,gn,lP,hg,hnc,gp,hcs,jG⟩
 ·rw[bR] at e4;cases e4
 ·rw[bR] at gn;cases gn;have lN:(k+1)*ar t<=xs.length*ar t:=Nat.mul_le_mul_right _ ag;have hR:xs.length*ar t<=c*ar t:=Nat.mul_le_mul_right _ hnc;rw[Nat.add_mul,Nat.one_mul] at lN;have hd:cur.toList.length=c*ar t:=by simpa using hcs
  have iw:k*ar t+off+[u].length<=cur.toList.length:=by simp only[List.length_singleton];omega
  rw[Cr t hx] at kR;obtain⟨c1,Sl,n1,g4,rfl,rfl,d1,d23⟩:=kR.inv;obtain⟨c2,c3,n2,jO,rfl,rfl,d2,d3⟩:=d23.inv;have cV:c1.length=k*ar t:=by rw[d1.len,dP,List.length_take,Nat.min_eq_left (Nat.le_of_lt ag)]
  have ga:c2.length=ar t:=by rw[d2.len,e8]
  obtain⟨d0,Av,nB⟩:=MB (x:=x) aq;have zm:enc t cT=(enc t x).take off++d::(enc t x).drop (off+1):=by rw[nl _ _ _ Y,I_]
  have nK:d0.plain=true:=by
   have h1:=congrArg (fun l=>l[off]?) (Yj t x cT)
   simp only[List.getElem?_map,Av,Option.map_some] at h1;have h2:(enc t cT)[off]? =some d:=by
    rw[zm,List.getElem?_append_right (by simp[e8];omega)]
    simp[e8,Nat.min_eq_left (Nat.le_of_lt aq)]
   rw[h2] at h1;simp only[Option.map_some,Option.some.injEq] at h1;rw[h1];exact IT al
  rw[nB] at d2;obtain⟨v8,ajp,o7,uU,rfl,rfl,nW,ajn⟩:=d2.inv;have ano:v8.length=off:=by rw[nW.len,List.length_take,e8];omega
  have fB:bS st.sites o:=⟨_,hb,rfl⟩;have sf:b∈bA (B o):=by rw[h0];exact ij.2 (.inl (by rw[bR];rfl))
  obtain⟨c0,g8,rfl,ajl⟩:∃c0 g8,ajp=c0::g8/\Deep w (an X B st.sites) ((enc t x).drop (off+1)) g8 uU:=by
   cases ajn with
   |row u ys e U nL h hr k'=>cases nK
   |leaf nL h k'=>exact⟨_,_,rfl,k'⟩
  have EG:(fun F=>if F=o then B o else B F)=B:=by funext F;by_cases e:F=o<;>simp[e]
  have G:=S.uJ (o:=o) (bw:=.deep s t (xs.set k cT)) (nv:=B o) (w':=w.setRow b (bd cur.toList (k*ar t+off) [u]).toArray) (ks:=[]) (K:=[o]) .nil (fun F=>by simp[keys];intro e;subst e;exact fB)
   (fun a6 b5 hne=>setRow_other w b a6 _ (by rintro rfl;exact hne o (by simp) sf)) rfl rfl rfl (by rw[setRow_size];exact Nat.le_refl _) rfl (fun O M=>by rw[hb] at M;cases M;exact .inr ⟨rfl,rfl⟩)
   (fun a6 b5=>⟨by rw[setRow_size];exact S.dW fB b5,.inl ⟨o,by simp,b5⟩⟩) (fun {bi ax} dI go=>?_)
  ·rw[EG] at G;exact⟨b,e,cur.toList,bv,nH,by simpa using hg,by simpa using lP,by simpa using iw,G⟩
  ·have kh:=setRow_heap w b cur (bd cur.toList (k*ar t+off) [u]).toArray e bv hg;have hb1:∀y,y∈n1++(o7++uU++jO)->∀a6,a8 y=some a6->a6≠b:=by
    rintro y aj a6 b5 rfl;have:=dx;rw[h0] at this;simp only[bA,List.flatMap_cons] at this;rw[bR] at this;exact(List.nodup_append.1 this).2.2 a6 (by simp[a8]) a6 (List.mem_flatMap.2 ⟨y,aj,by rw[b5];simp⟩) rfl
   have jx:∀y,y∈n1++(o7++uU++jO)->∀a6,a8 y=some a6->(w.setRow b (bd cur.toList (k*ar t+off) [u]).toArray).heap[a6]? =w.heap[a6]? :=fun y aj a6 b5=>setRow_other w b a6 _ (hb1 y aj a6 b5)
   have jb:∀{d v},ba w (an X B st.sites) d v->ba _ (an X ax bi) d v:=js go;refine⟨e,v0,n1++(o7++uU++jO),c1++((v8++u::g8)++c3),dI.trans h0,by rw[dI];exact dx,⟨?_,.inr ⟨b,c,_,bv,?_,?_,kh,?_,gp,?_,?_⟩⟩,?_⟩
   ·rw[List.length_set];simp only[List.length_append,List.length_cons] at p1 ⊢;omega
   ·rw[bR,List.length_set]
   ·refine⟨lP.1,?_⟩;rcases lP.2 with h|⟨h,ab⟩
    ·exact .inl h
    ·refine .inr ⟨h,?_⟩;rw[List.size_toArray,l5 _ _ _ iw];simpa using ab
   ·rw[List.length_set];exact hnc
   ·rw[List.size_toArray,l5 _ _ _ iw];exact hd
   ·rw[List.length_set,List.toList_toArray,A3 _ _ _ _ (by simp only[List.length_singleton];omega) (by rw[hd];omega),jG]
    simp only[List.append_assoc,List.cons_append];exact UJ (by omega)
   ·rw[wV t ag,zm];exact(d1.map jb fun y aj=>jx y (List.mem_append.2 (.inl aj))).cz ((((nW.map jb fun y aj=>jx y (by simp[aj])).cz (.leaf (IT al) (jb hu) (ajl.map jb fun y aj=>jx y (by simp[aj])))):Deep _ _ _ _ (o7++uU)).cz
     (d3.map jb fun y aj=>jx y (by simp[aj])))
theorem af.KP(S:af L J X B st tm w){o:Nat}{t:aG}{xs:List (den t)}{us:List (Nat×Site)}{cs aA rest:List Value}{T:TypeId}{cap:Nat}(dM:eM st.sites us)(hn:(keys us).Nodup)(a_:o∉keys us)
  (Y:Deep w (an X B st.sites) (flat t xs) cs aA) (fK:(aA.flatMap fun v=>(a8 v).toList)=cl B (keys us)) (hcap:cs.length+rest.length=cap*ar t) (hm:cap<=maxLen) (ey:t.ek=true->T=k6):
  af L J X (fun F=>if F=o then .tuple (.slice (some ⟨w.heap.size,0,none⟩) xs.length cap::aA).toArray else B F) {st with sites:=b3 (aT st.sites us) o (.deep (aV st o) t xs)} tm (w.alloc (.cells (cs++rest).toArray T (0,0))):=by
 have hcl:cs.length=xs.length*ar t:=by rw[Y.len,dP]
 have c8:xs.length<=cap:=by
  have:xs.length*ar t<=cap*ar t:=by omega
  exact Nat.le_of_mul_le_mul_right this (iK t)
 have old:∀F,F∈keys us->bS st.sites F:=fun F h=>by
  obtain⟨am,ab⟩:=n9 h;obtain⟨O,aB,ao,_⟩:=dM F am ab;exact⟨O,aB,ao⟩
 obtain⟨K,bn⟩:∃K:List Nat,∀F,F∈K <-> F∈keys us\/F=o/\bS st.sites o:=by
  by_cases h:bS st.sites o
  ·exact⟨o::keys us,fun F=>by simp[h,or_comm]⟩
  ·exact⟨keys us,fun F=>by simp[h]⟩
 have Ac:∀y,y∈aA->∀a6,a8 y=some a6->∃F,F∈keys us/\a6∈bA (B F):=fun y aj a6 b5=>by
  have:a6∈aA.flatMap fun v=>(a8 v).toList:=List.mem_flatMap.2 ⟨y,aj,by rw[b5];simp⟩
  rw[fK] at this;exact List.mem_flatMap.1 this
 have zo:bA (.tuple (.slice (some ⟨w.heap.size,0,none⟩) xs.length cap::aA).toArray)=w.heap.size::cl B (keys us):=by
  simp only[bA,List.flatMap_cons,fK];rfl
 refine S.uJ (K:=K) dM bn (fun b hb _=>RowKit.Below.heap_alloc w _ b hb) rfl rfl rfl (by simp) rfl (fun O M=>.inl (jm M)) (fun b hb=>?_) (fun {bi ax} dI go=>?_)
 ·rcases ij.1 hb with hb|⟨n,e4,hb⟩
  ·have hb:w.heap.size=b:=Option.some.inj hb;subst hb;exact⟨by simp,.inr (Nat.le_refl _)⟩
  ·obtain⟨F,h1,h2⟩:=Ac n e4 b hb;have:=S.dW (old F h1) h2;exact⟨by simp;omega,.inl ⟨F,(bn F).2 (.inl h1),h2⟩⟩
 ·refine⟨T,_,aA,cs,dI,?_,⟨hcl,.inr ⟨w.heap.size,cap,_,(0,0),rfl,⟨ey,.inl rfl⟩,heap_alloc_new w _,c8,hm,by simp[hcap],by rw[<-hcl];simp⟩⟩,?_⟩
  ·rw[dI,zo,List.nodup_cons];refine⟨fun h=>?_,S.Me old hn⟩
   obtain⟨F,h1,h2⟩:=List.mem_flatMap.1 h;have:=S.dW (old F h1) h2;omega
  ·refine Y.map (fun h=>js go h) fun n e4 b hb=>?_
   obtain⟨F,h1,h2⟩:=Ac n e4 b hb;exact RowKit.Below.heap_alloc w _ b (S.dW (old F h1) h2)
theorem Ub(S:af L J X B st tm w){C:Ctx}(ay:CtxOk P C){T e:TypeId}{t:aG}{bytes len o:Nat}{parts:Array (Nat×Operand)}(aY:C.tt T=.slice e t bytes)(aq:D.op=.buildSlice T len parts)
  (Y:b1 st D.dst=true) (hlen:parts.toList.length=len) (lu:od 0 parts.toList=true) (tX:len*ar t<=1000) {as:List br} {xs:List (den t)} {us:List (Nat×Site)}
  (has:mu (parts.toList.map fun p=>aO C st e p.2)=some as) (d_:me t st as=some (xs,us)) (hn:(keys us).Nodup) (a_:o∉keys us):
  cv P L J X st tm w D (bJ (.own o (aV st o))) (us++[(o,.deep (aV st o) t xs)]):=by
 obtain⟨dZ,i,z,hi,gA,nM,kg,hzs,ey⟩:=n5 ay aY;obtain⟨vG,ki⟩:=Jn has;let ws:List Value:=parts.toList.map fun p=>Act.eval ⟨tm,[]⟩ p.2
 have u9:ws.length=as.length:=by rw[<-vG];simp[ws]
 have Fl:∀j (h:j<as.length) (ab:j<ws.length),fW B st.sites w (an X B st.sites) (as[j]) (ws[j]):=by
  intro j h1 h2;have hj:j<(parts.toList.map fun p=>aO C st e p.2).length:=by rw[vG];exact h1
  have:=ki j hj h1;simp only[List.getElem_map] at this;have bh:=cS S C e (parts.toList[j]'(by simpa using hj)).2
  rw[this] at bh;have Z:b9 B st.sites w (an X B st.sites) (.av (as[j])) (ws[j]):=by simpa[ws] using bh
  exact Z
 obtain⟨u6,dM,⟨aA,vB,fK⟩,hcs⟩:=Xz S d_ u9 Fl;have pz:xs.length=len:=by rw[u6,<-u9];simpa[ws] using hlen
 have hcl:(ws.flatMap fun v=>v.cells.toList).length=len*ar t:=by rw[vB.len,dP,pz]
 have hm:len<=maxLen:=by
  have:len*1<=len*ar t:=Nat.mul_le_mul_left _ (iK t);unfold maxLen;omega
 have bV:=S.KP (o:=o) (rest:=[]) (T:=e) (cap:=len) dM hn a_ vB fK (by simp[hcl]) hm ey
 rw[pz,List.append_nil] at bV;have oj:aT st.sites (us++[(o,.deep (aV st o) t xs)])=b3 (aT st.sites us) o (.deep (aV st o) t xs):=by rw[hV];rfl
 have cG:=Ii (tm:=tm) (w:=w) ay aY hlen lu tX (ws:=ws) rfl hcs hcl;refine ii (us:=us++[(o,.deep (aV st o) t xs)]) (by rw[oj];exact bV) Y (vv:=.slice (some ⟨w.heap.size,0,none⟩) len len) ?_ ?_
 ·unfold execOp;simp only[aq,Sem.run_bind];have EH:=cG;simp only[EH,Result.andThen_ok,Sem.run_pure]
 ·rw[oj];refine⟨rfl,Ref.mk (O:=.deep (aV st o) t xs) ?_ rfl (by simp[bT])⟩
  simp only[ck];simp
theorem Ua{av:Nat->Prop}{t:aG}{z:den t}{fM aA:List Value}(h:Deep w av (enc t z) fM aA)(n:Nat):Deep w av (flat t (List.replicate n z)) ((List.replicate n fM).flatten) ((List.replicate n aA).flatten):=by
 induction n with
 |zero=>exact .nil
 |succ n ih=>
  have:=h.cz ih;simpa[List.replicate_succ,flat,List.flatMap_cons] using this
theorem Uo(S:af L J X B st tm w){C:Ctx}(ay:CtxOk P C){T e:TypeId}{t:aG}{bytes o:Nat}{l c:Operand}{kn km:IntKind}{n m:Int}{z:List au}{ds:List aL}{us:List (Nat×Site)}{ea:den t}(aY:C.tt T=.slice e t bytes)(aq:D.op=.makeSlice T l c)
  (Y:b1 st D.dst=true) (hl:aO C st 0 l=.av (.ai (.d (.int kn n)))) (hc:aO C st 0 c=.av (.ai (.d (.int km m)))) (hz:(C.tt e).zero=some z) (ef:sinks st z=some (ds,us)) (dM:us.isEmpty=true) (d_:dec t ds=some ea):
  ∀r,lF bytes n m ea=some r->cv P L J X st tm w D (bJ (.own o (aV st o))) [(o,.deep (aV st o) t r)]:=by
 intro r hr;obtain⟨dZ,i,fj,hi,gA,nM,kg,hzs,ey⟩:=n5 ay aY;obtain⟨v,hv,hzv⟩:=cd.w4 (w:=w) (ay.tt e) hz;have Gy:v=fj:=by
  simp[zeroValue,typeInfo,hi,kg] at hv;exact hv.symm
 subst Gy;obtain⟨h1,h2,Z⟩:=qB hzv;have dM:us=[]:=List.isEmpty_iff.1 dM;subst dM;obtain⟨_,aA,R4,vp⟩:=B6 S ef ⟨h1,Z _ _ _ _⟩;rw[<-nl _ _ _ d_] at R4;have vp:(aA.flatMap fun v=>(a8 v).toList)=[]:=vp
 unfold lF at hr;split at hr
 ·rename_i hb;obtain⟨aS,aJ,bM,jj⟩:=hb;cases hr;have e1:Act.eval ⟨tm,[]⟩ l=.int kn n:=by
   have:=cS S C 0 l;rw[hl] at this;have this:ba _ _ (.int kn n) _:=this;generalize Act.eval ⟨tm,[]⟩ l=u at this;cases this;rfl
  have e2:Act.eval ⟨tm,[]⟩ c=.int km m:=by
   have:=cS S C 0 c;rw[hc] at this;have this:ba _ _ (.int km m) _:=this;generalize Act.eval ⟨tm,[]⟩ c=u at this;cases this;rfl
  have uA:=Ua R4 n.toNat;have hlen:((List.replicate n.toNat v.cells.toList).flatten).length=n.toNat*ar t:=by
   rw[uA.len,dP,List.length_replicate]
  have oi:(List.replicate m.toNat v.cells.toList).flatten=(List.replicate n.toNat v.cells.toList).flatten++(List.replicate (m.toNat-n.toNat) v.cells.toList).flatten:=by
   rw[<-List.flatten_append,List.replicate_append_replicate];congr 2;omega
  have hcap:((List.replicate n.toNat v.cells.toList).flatten).length+((List.replicate (m.toNat-n.toNat) v.cells.toList).flatten).length=m.toNat*ar t:=by
   rw[<-List.length_append,<-oi];simp[hzs]
  have uC:m.toNat<=maxLen:=by omega
  have fK:(((List.replicate n.toNat aA).flatten).flatMap fun v=>(a8 v).toList)=cl B (keys ([]:List (Nat×Site))):=by
   have:∀k,(((List.replicate k aA).flatten).flatMap fun v=>(a8 v).toList)=[]:=fun k=>by
    induction k with
    |zero=>rfl
    |succ k ih=>rw[List.replicate_succ,List.flatten_cons,List.flatMap_append,vp,ih];rfl
   exact this _
  have bV:=S.KP (o:=o) (T:=e) (us:=[]) .nil List.nodup_nil (by simp[keys]) uA fK hcap uC ey
  rw[List.length_replicate,<-oi] at bV;refine ii (us:=[(o,.deep (aV st o) t (List.replicate n.toNat ea))]) bV Y (vv:=.slice (some ⟨w.heap.size,0,none⟩) n.toNat m.toNat) ?_ ?_
  ·unfold execOp;simp only[aq,e1,e2,Sem.run_bind];have cG:=Im (C:=C) (w:=w) (kn:=kn) (km:=km) dZ hi gA nM kg hzs aS aJ bM jj;simp only[cG,Result.andThen_ok,Sem.run_pure]
  ·refine⟨rfl,Ref.mk (O:=.deep (aV st o) t (List.replicate n.toNat ea)) ?_ rfl (by simp[bT])⟩
   simp only[aT,ck];simp
 ·cases hr
theorem Src.abd{u:Bool}{e:TypeId}{size n:Nat}{v:Value}{cs:List Value}(h:rowAt w u e size v n cs)(hone:∀x∈cs,x.oneCell'=true):Src w size v n cs:=by
 refine⟨h.1,hone,?_⟩;rcases h.2 with⟨h1,h2⟩|⟨g,cap,cur,bv,h1,_,hg,_,_,_,jG⟩
 ·exact .inl ⟨h1,h2⟩
 ·refine .inr (.inl ⟨⟨g,0,none⟩,cap,h1,fun j u hu=>?_⟩)
  rw[gh,Nat.zero_add,cell_of_row w g j cur e bv hg];rw[<-jG,List.getElem?_take] at hu;split at hu
  ·simpa using hu
  ·cases hu
theorem Lp{v:Value}{b:Nat}(h:v.ownBlock=some b):a8 v=some b:=by
 cases v<;>first|cases h|skip
 rename_i a n c;cases a<;>first|exact h|cases h
theorem af.Jr(S:af L J X B st tm w){dst bX:Nat}{t:aG}{xs ys:List (den t)}{ks:List (Nat×Site)}{v0 v':Value}{AD qf h7 gZ:List Value}{w':World}{bY:TypeId}(oN:eM st.sites ks)
  (d0:Deep w (an X B st.sites) (flat t xs) AD h7) (d1:Deep w (an X B st.sites) (flat t ys) qf gZ) (hA:(bA (.tuple (v0::(h7++gZ)).toArray)).Nodup) (zN:∀b,b∈bA (.tuple (v0::(h7++gZ)).toArray)->∃F,F∈keys ks/\b∈bA (B F))
  (h2:rowAt w' t.ek bY (ar t) v' (xs.length+ys.length) (AD++qf)) (Z:w.grownBy w' v0.ownBlock) (aI:∀b,a8 v'=some b->b<w'.heap.size/\(a8 v0=some b\/w.heap.size<=b)) (mh:∀O,look st.sites dst=some O->O.bX<bX):
  af L J X (fun F=>if F=dst then .tuple (v'::(h7++gZ)).toArray else B F) {st with sites:=b3 (aT st.sites ks) dst (.deep bX t (xs++ys))} tm w':=by
 have old:∀F,F∈keys ks->bS st.sites F:=fun F h=>by
  obtain⟨am,ab⟩:=n9 h;obtain⟨O,aB,ao,_⟩:=oN F am ab;exact⟨O,aB,ao⟩
 obtain⟨K,bn⟩:∃K:List Nat,∀F,F∈K <-> F∈keys ks\/F=dst/\bS st.sites dst:=by
  by_cases h:bS st.sites dst
  ·exact⟨dst::keys ks,fun F=>by simp[h,or_comm]⟩
  ·exact⟨keys ks,fun F=>by simp[h]⟩
 have RO:∀b,a8 v0=some b->b∈bA (.tuple (v0::(h7++gZ)).toArray):=fun b h=>ij.2 (.inl h)
 have u0:∀n,n∈h7++gZ->∀b,a8 n=some b->b∈bA (.tuple (v0::(h7++gZ)).toArray):=fun n hn b h=>ij.2 (.inr ⟨n,hn,h⟩)
 have lt:∀b,b∈bA (.tuple (v0::(h7++gZ)).toArray)->b<w.heap.size:=fun b hb=>by
  obtain⟨F,aB,ao⟩:=zN b hb;exact S.dW (old F aB) ao
 have AQ:bA (.tuple (v0::(h7++gZ)).toArray)=(a8 v0).toList++(h7++gZ).flatMap fun v=>(a8 v).toList:=by simp only[bA,List.flatMap_cons]
 have aln:bA (.tuple (v'::(h7++gZ)).toArray)=(a8 v').toList++(h7++gZ).flatMap fun v=>(a8 v).toList:=by simp only[bA,List.flatMap_cons]
 rw[AQ] at hA;obtain⟨a1,a2,gO⟩:=List.nodup_append.1 hA;have jx:∀n,n∈h7++gZ->∀b,a8 n=some b->w'.heap[b]? =w.heap[b]? :=fun n hn b hb=>Z.block b (lt b (u0 n hn b hb)) fun e=>
  gO b (by rw[Lp e.symm];simp) b (List.mem_flatMap.2 ⟨n,hn,by rw[hb];simp⟩) rfl
 refine S.uJ (K:=K) oN bn (fun b hb hne=>Z.block b hb fun e=>?_) Z.os Z.tape Z.output Z.size rfl (fun O M=>.inl (mh O M)) (fun b hb=>?_) (fun {bi ax} dI go=>?_)
 ·obtain⟨F,aB,ao⟩:=zN b (RO b (Lp e.symm));exact hne F ((bn F).2 (.inl aB)) ao
 ·rcases ij.1 hb with hb|⟨n,hn,hb⟩
  ·obtain⟨aB,ao⟩:=aI b hb;refine⟨aB,ao.imp (fun h=>?_) id⟩
   obtain⟨F,aB,ao⟩:=zN b (RO b h);exact⟨F,(bn F).2 (.inl aB),ao⟩
  ·have hm:=u0 n hn b hb;obtain⟨F,aB,ao⟩:=zN b hm;exact⟨Nat.lt_of_lt_of_le (lt b hm) Z.size,.inl ⟨F,(bn F).2 (.inl aB),ao⟩⟩
 ·refine⟨bY,v',h7++gZ,AD++qf,dI,?_,by rw[List.length_append];exact h2,?_⟩
  ·rw[dI,aln];refine List.nodup_append.2 ⟨by cases a8 v'<;>simp,a2,fun b hb c hc e=>?_⟩
   subst e;have hb:=Option.mem_toList.1 hb;rcases(aI b hb).2 with h|h
   ·exact gO b (by rw[h];simp) b hc rfl
   ·have:=lt b (by rw[AQ];exact List.mem_append.2 (.inr hc))
    omega
  ·have jb:∀{d:aL} {v:Value},ba w (an X B st.sites) d v->ba w' (an X ax bi) d v:=fun h=>js go h
   rw[l7];exact(d0.map jb fun n hn=>jx n (List.mem_append.2 (.inl hn))).cz (d1.map jb fun n hn=>jx n (List.mem_append.2 (.inr hn)))
theorem Il{o s dst:Nat}{O:Site}(h:look st.sites o=some O)(M:O.bX=s):aV (st.dh o (.dead s)) dst=aV st dst:=by
 unfold aV;rw[ad.l6];by_cases e:o=dst
 ·subst e;simp only[if_true,ad.O,h,M];rfl
 ·simp only[e,if_false]
theorem WU(S:af L J X B st tm w){C:Ctx}(ay:CtxOk P C){T ed:TypeId}{s x:Operand}{e ex:TypeId}{t u:aG}{bytes aJ:Nat}{dst:Nat}(aY:C.tt T=.slice e t bytes)(ey:C.tt ed=.slice ex u aJ)
  (aq:D.op=.call {callee:=.builtin .append,args:=#[s,x],argTypes:=#[T,ed]}) (c_:D.dst=some dst) (Y:b1 st D.dst=true):
  Holds (q9 bytes t dst st (aO C st T s) (aO C st ed x)) (cv P L J X st tm w D):=by
 have oT:=ay.tt ed;rw[ey] at oT;have uk:(∃ex,P.underlying ed=some (.slice ex))\/P.underlying ed=some .string:=.inl ⟨_,oT.1.1⟩;obtain⟨dZ,i,z,hi,oO,vx,sG,hzs,R_⟩:=n5 ay aY;have nA:=cS S C T s;have oD:=cS S C ed x;have runs:∀{v':Value} {w':World},(Builtin.append_ #[T,ed] D.type #[Act.eval ⟨tm,[]⟩ s,Act.eval ⟨tm,[]⟩ x]).run P w=.ok v' w'->
   (execOp (Act.eval ⟨tm,[]⟩) D).run P w=.ok (.value v') w':=by
  intro v' w' h;unfold execOp;simp only[aq,resolve,invoke,builtin,Sem.run_bind,Sem.run_pure,Result.andThen_ok,List.map_toArray,List.map_cons,List.map_nil,h]
 have one:∀{u:Bool} {bY:TypeId} {v':Value} {n m:Nat} {l:List Value} {w':World},rowAt w' u bY n v' m l->v'.oneCell'=true:=by
  intro u bY v' n m l w' h;rcases h.2 with⟨rfl,_⟩|⟨g,cap,cur,bv,rfl,_⟩<;>rfl
 unfold q9;split
 ·rename_i F s1 aeQ;rw[aeQ] at oD;split
  ·rename_i bc ys aev;split
   ·rename_i g5;subst g5;have sd:=s6 aev;obtain⟨am4,QQ,ux,FM,No,O4,ab5,Eu⟩:=S.sites F _ sd;have Ae:Act.eval ⟨tm,[]⟩ x=QQ:=(Ref.at oD.2 sd rfl:_=bT (B F)).trans (by rw[No];rfl)
    have hsrc:Src w (ar bc) (Act.eval ⟨tm,[]⟩ x) ys.length FM:=by rw[Ae];exact .abd ab5 Eu.one
    have zQ:bA (B F)=(a8 QQ).toList++ux.flatMap fun v=>(a8 v).toList:=by rw[No];simp only[bA,List.flatMap_cons]
    rw[zQ] at O4;obtain⟨_,Nc,_⟩:=List.nodup_append.1 O4;have zM:∀d,aV (st.dh F (.dead s1)) d=aV st d:=fun d=>Il sd rfl
    split
    ·-- AL nothing
     rename_i t2 bP;rw[bP] at nA;have oA:Act.eval ⟨tm,[]⟩ s=.slice none 0 0:=nA;refine Holds.eY fun r hr=>?_
     have cL:dB bytes [] ys=some r:=hr;unfold dB at cL;split at cL
     ·rename_i hb;cases cL;simp only[List.length_nil,Nat.zero_add,room] at hb;obtain⟨v',w',h1,⟨bY,h2⟩,Z,aI⟩:=s3 (P:=P) (u:=bc.ek) w T ed D.type e R_ i z (ar bc) bytes dZ uk hi sG oO vx hzs (iK _) (.slice none 0 0) 0 [] ⟨e,tc w _ e _⟩ _ _ FM hsrc
       (by rw[Nat.zero_add];exact hb.2) (by rw[Nat.zero_add];exact hb.1)
      have hU:bA (.tuple (Value.slice none 0 0::([]++ux)).toArray)=ux.flatMap fun v=>(a8 v).toList:=by simp only[bA,List.flatMap_cons,List.nil_append];rfl
      have bV:=S.Jr (dst:=dst) (bX:=aV (st.dh F (.dead s1)) dst) (ks:=[(F,.dead s1)]) (xs:=[]) (ys:=ys) (v0:=.slice none 0 0) (h7:=[]) (AD:=[]) (fun aN am hm=>by
       simp only[List.mem_singleton,Prod.mk.injEq] at hm;obtain⟨rfl,rfl⟩:=hm;exact⟨_,sd,rfl,rfl⟩) .nil Eu (by rw[hU];exact Nc) (fun b hb=>⟨F,by simp[keys],by rw[hU] at hb;rw[zQ];exact List.mem_append.2 (.inr hb)⟩) h2 Z aI (fun O M=>by rw[zM];exact jm M)
      refine ii (us:=[(F,.dead s1),(dst,.deep (aV (st.dh F (.dead s1)) dst) bc ([]++ys))]) bV Y (runs (by rw[oA];exact h1)) ?_
      refine⟨one h2,Ref.mk (O:=.deep (aV (st.dh F (.dead s1)) dst) bc ([]++ys)) ?_ rfl (by simp[bT])⟩
      simp only[aT,ck];simp
     ·cases cL
    ·-- AL a deep row
     rename_i o s2 bP;rw[bP] at nA;split
     ·rename_i t2 xs aew;split
      ·rename_i g5;subst g5;cases Ay:o.beq F with
       |true=>exact .fail
       |false=>
        have hne:o≠F:=fun e=>by subst e;rw[Nat.beq_refl] at Ay;cases Ay
        simp only[cond_false];refine Holds.eY fun r hr=>?_
        have cL:dB bytes xs ys=some r:=hr;unfold dB at cL;split at cL
        ·rename_i hb;cases cL;simp only[room] at hb;have uD:=s6 aew;obtain⟨am5,ss,Fc,afa,Np,O5,ab6,abv⟩:=S.sites o _ uD;have GF:Act.eval ⟨tm,[]⟩ s=ss:=(Ref.at nA.2 uD rfl:_=bT (B o)).trans (by rw[Np];rfl)
         have FJ:bA (B o)=(a8 ss).toList++Fc.flatMap fun v=>(a8 v).toList:=by rw[Np];simp only[bA,List.flatMap_cons]
         rw[FJ] at O5;obtain⟨v',w',h1,⟨bY,h2⟩,Z,aI⟩:=s3 (P:=P) (u:=t2.ek) w T ed D.type e R_ i z (ar t2) bytes dZ uk hi sG oO vx hzs (iK _) ss xs.length afa ⟨_,ab6⟩ _ _ FM hsrc hb.2 hb.1;have hU:bA (.tuple (ss::(Fc++ux)).toArray)=((a8 ss).toList++Fc.flatMap fun v=>(a8 v).toList)++ux.flatMap fun v=>(a8 v).toList:=by
          simp only[bA,List.flatMap_cons,List.flatMap_append,List.append_assoc]
         have aer:aV ((st.dh F (.dead s1)).dh o (.dead s2)) dst=aV st dst:=by
          have:(st.dh F (.dead s1)).O o=some (.deep s2 t2 xs):=by
           rw[ad.l6,if_neg (fun e=>hne e.symm)]
           exact uD
          exact(Il (st:=st.dh F (.dead s1)) (s:=s2) this rfl).trans (zM dst)
         have bV:=S.Jr (dst:=dst) (bX:=aV ((st.dh F (.dead s1)).dh o (.dead s2)) dst) (ks:=[(F,.dead s1),(o,.dead s2)]) (xs:=xs) (ys:=ys) (v0:=ss) (fun aN am hm=>by
          simp only[List.mem_cons,List.not_mem_nil,or_false,Prod.mk.injEq] at hm;rcases hm with⟨rfl,rfl⟩|⟨rfl,rfl⟩
          ·exact⟨_,sd,rfl,rfl⟩
          ·exact⟨_,uD,rfl,rfl⟩) abv Eu (by
           rw[hU];refine List.nodup_append.2 ⟨O5,Nc,fun b hb c hc e=>?_⟩
           subst e;exact hne (S.c' o F b ⟨_,uD,rfl⟩ ⟨_,sd,rfl⟩ (by rw[FJ];exact hb) (by rw[zQ];exact List.mem_append.2 (.inr hc)))) (fun b hb=>by
           rw[hU] at hb;rcases List.mem_append.1 hb with hb|hb
           ·exact⟨o,by simp[keys],by rw[FJ];exact hb⟩
           ·exact⟨F,by simp[keys],by rw[zQ];exact List.mem_append.2 (.inr hb)⟩) h2 Z aI (fun O M=>by rw[aer];exact jm M)
         refine ii (us:=[(F,.dead s1),(o,.dead s2),(dst,.deep (aV ((st.dh F (.dead s1)).dh o (.dead s2)) dst) t2 (xs++ys))]) bV Y (runs (by rw[GF];exact h1)) ?_
         refine⟨one h2,Ref.mk (O:=.deep (aV ((st.dh F (.dead s1)).dh o (.dead s2)) dst) t2 (xs++ys)) ?_ rfl (by simp[bT])⟩
         simp only[aT,ck];simp
        ·cases cL
      ·exact .fail
     ·exact .fail
    ·exact .fail
   ·exact .fail
  ·exact .fail
 ·exact .fail
end
section
variable {P:Program}{L:World}{J:List Nat}{X:Nat->Prop}{B:Nat->Value}{st:ad}{tm:Array Value}{w:World}{D:Oper}
theorem YV(S:af L J X B st tm w){C:Ctx}(ay:CtxOk P C){T:TypeId}{a x:Operand}{v:br}(aq:D.op=.store T a x)(Y:b1 st D.dst=true)(ag:(C.tt T).known=true)(hv:lC (aO C st T x)=some v):
  Holds (q' (C.tt T).size st (aO C st T a) v) (cv P L J X st tm w D):=by
 have hn:=Cd ag;have nN:=cS S C T a;have hex:=cS S C T x;rw[pc hv] at hex;have hex:fW B st.sites w (an X B st.sites) v (Act.eval ⟨tm,[]⟩ x):=hex;have run:∀{b p:Nat} {cur:List Value} {fy:TypeId} {u:Bool} {bv:Nat×Nat},Act.eval ⟨tm,[]⟩ a=.pointer (some ⟨b,p,none⟩)->w.heap[b]? =some (.cells cur.toArray fy bv)->kX u fy cur.toArray bv->(Act.eval ⟨tm,[]⟩ x).cells.toList.length=(C.tt T).size->
   p+(Act.eval ⟨tm,[]⟩ x).cells.toList.length<=cur.length->(∀u∈(Act.eval ⟨tm,[]⟩ x).cells.toList,u.oneCell'=true)->
   (execOp (Act.eval ⟨tm,[]⟩) D).run P w=.ok .skip (w.setRow b (bd cur p (Act.eval ⟨tm,[]⟩ x).cells.toList).toArray):=by
  intro b p cur fy u bv h1 h2 hz Z aI bp;unfold execOp;simp only[aq,h1,Instr.storeAt,Instr.sureAddr,Sem.run_bind,Sem.run_pure,Result.andThen_ok,If (ay.tt T) hn h2 hz Z aI bp]
 unfold q';cases hlen:v.cells.length.beq (C.tt T).size with
 |false=>simp only[cond_false];exact .fail
 |true=>
  have py:=Nat.eq_of_beq_eq_true hlen;simp only[cond_true];split
  ·rename_i o s off bP;rw[bP] at nN;split
   ·rename_i cells hb;cases hc:(Nat.ble (off+(C.tt T).size) cells.length&&gf v.cells) with
    |false=>simp only[cond_false];exact .fail
    |true=>
     simp only[cond_true];simp only[Bool.and_eq_true] at hc;have c8:=Nat.le_of_ble_eq_true hc.1;have hl:=hex.cells hc.2;obtain⟨b,fy,cur,h1,h2,Z,bV⟩:=S.YX (gu hb) nN hl (by rw[py];exact c8) (hl.hY hc.2) hc.2
     exact Holds.e3 (qC (us:=[(o,.box s (bd cells off v.cells))]) bV Y (run (u:=false) h1 h2 ⟨(fun h=>by cases h),.inl rfl⟩ (by rw[hl.1];exact py) Z (hl.hY hc.2)))
   ·exact .fail
  ·rename_i o s u k off bP;rw[bP] at nN;split
   ·rename_i am t xs ff;have nn:look st.sites o=some (.row am t xs):=ff;cases hc:(am.beq s&&Nat.ble (off+(C.tt T).size) (ar t)&&decide (t=u)) with
    |false=>simp only[cond_false];exact .fail
    |true=>
     simp only[cond_true];simp only[Bool.and_eq_true,decide_eq_true_eq] at hc;obtain⟨⟨oR,lT⟩,rfl⟩:=hc;have:=Nat.eq_of_beq_eq_true oR;subst this;have c8:=Nat.le_of_ble_eq_true lT;split
     ·rename_i ds us ef;cases hQ:(look us o).isNone with
      |false=>simp only[cond_false];exact .fail
      |true=>
       simp only[cond_true];refine Holds.eY fun cT ka=>?_
       have iS:((xs[k]?).bind fun x=>dec t (bd (enc t x) off ds))=some cT:=ka
       cases lH:xs[k]? with
       |none=>rw[lH] at iS;cases iS
       |some o5=>
        rw[lH] at iS;have d_:dec t (bd (enc t o5) off ds)=some cT:=iS;have ho:=DF ef;have aQ:kB L J X B st tm w us:=⟨S,ho⟩;have c9:gf v.cells=true:=by
         clear hlen py ka iS d_ hQ ho aQ;revert ef
         generalize v.cells=U;intro ef;induction U generalizing ds us with
         |nil=>rfl
         |cons l U ih=>
          simp only[gX] at ef;split at ef
          ·rename_i d Tu f' nT h1 h2;simp only[gf,Bool.and_eq_true];refine⟨?_,ih _ _ h2⟩;unfold jc at h1;split at h1<;>first|rfl|cases h1
          ·cases ef
        have hl:=hex.cells c9;have hr:=yk ef hl aQ (fun p al=>al)
        have hdl:ds.length=(C.tt T).size:=by
         have:=hr.1;rw[hl.1] at this;omega
        have Fu:look (aT st.sites us) o=some (.row am t xs):=by
         rcases lc ho o with h|⟨s2,t2,amL,h,ab⟩
         ·rw[h];exact nn
         ·exfalso
          have:∀(us:List (Nat×Site)) (sites:List (Nat×Site)),look us o=none->look (aT sites us) o=look sites o:=by
           intro us;induction us with
           |nil=>intro sites _;rfl
           |cons p us ih=>
            obtain⟨F,O⟩:=p;intro sites zl;simp only[look] at zl;cases hb:F.beq o with
            |true=>simp[hb] at zl
            |false=>
             simp only[hb,cond_false] at zl;simp only[aT];rw[ih _ zl,ck,if_neg];rintro rfl;simp at hb
          have Z:=this us st.sites (by simpa using hQ)
          rw[ab,nn] at Z;cases Z
        have aeR:=aQ.go (a:=.av (.ai (.ej o am t k off))) nN;obtain⟨b,fy,cur,bv,h1,h2,hz,Z,bV⟩:=aQ.new.YW Fu aeR lH (nl _ _ _ d_) hr (by rw[hdl];exact c8) (hl.hY c9)
        refine qC (ax:=B) (us:=us++[(o,.row am t (xs.set k cT))]) ?_ Y (run h1 h2 hz (by rw[hl.1];exact py) Z (hl.hY c9))
        rw[hV];exact bV
     ·exact .fail
   ·rename_i am t xs ff;have nn:look st.sites o=some (.deep am t xs):=ff;cases hc:(am.beq s&&decide (t=u)) with
    |false=>simp only[cond_false];exact .fail
    |true=>
    simp only[cond_true];simp only[Bool.and_eq_true,decide_eq_true_eq] at hc;obtain⟨oR,rfl⟩:=hc;have:=Nat.eq_of_beq_eq_true oR;subst this;cases hc:(off.beq 0&&(C.tt T).size.beq (ar t)) with
    |false=>
     simp only[cond_false];split
     ·rename_i d mi;cases aF:(d.hN&&Nat.blt off (ar t)) with
      |false=>simp only[cond_false];exact .fail
      |true=>
       simp only[cond_true];simp only[Bool.and_eq_true] at aF;have aiq:off<ar t:=Nat.le_of_ble_eq_true aF.2;refine Holds.eY fun cT ka=>?_
       have iS:((xs[k]?).bind fun x=>dec t (bd (enc t x) off [d]))=some cT:=ka
       cases lH:xs[k]? with
       |none=>rw[lH] at iS;cases iS
       |some o5=>
        rw[lH] at iS;have d_:dec t (bd (enc t o5) off [d])=some cT:=iS;have hl:=hex.cells (by rw[mi];rfl)
        rw[mi] at hl;obtain⟨ko,r0,hu,sz,vd⟩:=hl.inv;have jI:r0=[]:=vd.kJ;subst jI;obtain⟨b,fy,cur,bv,h1,h2,hz,Z,bV⟩:=S.V4 nn nN lH d_ aF.1 aiq sz;have GM:(C.tt T).size=1:=by rw[<-py,mi];rfl
        have cG:=run h1 h2 hz (by rw[hu,GM];rfl) (by rw[hu];exact Z) (by rw[hu];intro v hv;rw[List.mem_singleton.1 hv];exact ba.hY sz)
        rw[hu] at cG;refine qC (ax:=B) (us:=[(o,.deep am t (xs.set k cT))]) ?_ Y cG;exact bV
     ·exact .fail
    |true=>
     simp only[cond_true];simp only[Bool.and_eq_true] at hc;obtain⟨sI,lT⟩:=hc;have:=Nat.eq_of_beq_eq_true sI;subst this;split
     ·rename_i ds us ef;cases hQ:((look us o).isNone&&eH (keys us)) with
      |false=>simp only[cond_false];exact .fail
      |true=>
       simp only[cond_true];rw[Bool.and_eq_true] at hQ;refine Holds.eY fun cT ka=>?_
       have iS:((xs[k]?).bind fun _=>dec t ds)=some cT:=ka
       cases lH:xs[k]? with
       |none=>rw[lH] at iS;cases iS
       |some o5=>
        rw[lH] at iS;have d_:dec t ds=some cT:=iS;have hl:=hex.cells (Ig ef);obtain⟨g1,aA,g2,g3⟩:=B6 S ef hl;rw[<-nl _ _ _ d_] at g2;obtain⟨b,fy,cur,bv,nv,h1,h2,hz,Z,bV⟩:=S.Xs nn nN lH g1 ((n6 _).1 hQ.2) (IM hQ.1) g2 g3;refine qC (ax:=fun F=>if F=o then nv else B F) (us:=us++[(o,.deep am t (xs.set k cT))]) ?_ Y (run h1 h2 hz (by rw[hl.1];exact py) Z g2.one)
        rw[hV];exact bV
     ·exact .fail
   ·exact .fail
  ·exact .fail
theorem UY(S:af L J X B st tm w){C:Ctx}(ay:CtxOk P C){T e:TypeId}{t:aG}{bytes:Nat}{x i:Operand}{k:IntKind}{n:Int}(aY:C.tt T=.slice e t bytes)(hi:aO C st 0 i=.av (.ai (.d (.int k n))))(aq:D.op=.indexAddr T x i)
  (Y:b1 st D.dst=true):
  Holds (qD t st (aO C st T x) n) (cv P L J X st tm w D):=by
 obtain⟨dZ,inf,z,j7,gA,nM,kg,hzs,_⟩:=n5 ay aY;have uG:=jr S hi;have bh:=cS S C T x;have run:∀{a:Addr} {len cap:Nat},Act.eval ⟨tm,[]⟩ x=.slice (some a) len cap->0<=n->n<len->(execOp (Act.eval ⟨tm,[]⟩) D).run P w=.ok (.value (.pointer (some (a.add (n.toNat*ar t))))) w:=by
  intro a len cap hx h0 h1;unfold execOp;simp[aq,hx,uG,Instr.indexAt,asIntOf,run_underlying dZ,h0,h1,sizeOf,kC j7,gA]
 unfold qD;split
 ·rename_i u xs bP;split;case isFalse=>exact .fail
  rename_i nI;subst nI;rw[bP] at bh;have bh:ba w (an X B st.sites) (.sl u xs) (Act.eval ⟨tm,[]⟩ x):=bh;refine Holds.d' fun y aj=>?_
  have dL:bg xs n=some y:=aj;unfold bg at dL;split at dL
  ·rename_i h0;have aW:n.toNat<xs.length:=by
    rcases Nat.lt_or_ge n.toNat xs.length with h|h
    ·exact h
    ·rw[List.getElem?_eq_none h] at dL;cases dL
   generalize hx:Act.eval ⟨tm,[]⟩ x=v at bh;cases bh with
   |nil=>simp at aW
   |sl _ _ a cap cs m hm hcap hb hl hc hr=>
    subst hm;have hne:xs≠[]:=by rintro rfl;simp at aW
    have cO:cf w (an X B st.sites) (flat u xs) cs:=⟨hl,hr⟩;have lJ:a.spot=none:=by
     have nz:0<cs.length:=by rw[hl,dP];exact Nat.mul_pos (List.length_pos_iff.mpr hne) (iK u)
     have h1:=hc 0 cs[0] (List.getElem?_eq_getElem nz);have h2:a.add 0=a:=by unfold Addr.add;simp
     rw[h2] at h1;unfold World.cell? at h1;split at h1
     ·cases M:a.spot with
      |none=>rfl
      |some _=>simp[M] at h1
     ·cases h1
    obtain⟨nY,AS,ajs⟩:=a;simp only at lJ;subst lJ;have hcs:g_ w nY AS cs:=fun j v hv=>by have:=hc j v hv;rwa[gh] at this
    refine dq S Y (run hx h0 (by omega)) ?_
    rw[gh];have fZ:=s' u xs n.toNat y dL;have acw:=(hcs.drop (n.toNat*ar u)).take (ar u);have ke:=((gT (B:=B) (sites:=st.sites) hl hr).drop (n.toNat*ar u)).take (ar u);have e2:((cy (flat u xs)).drop (n.toNat*ar u)).take (ar u)=cy (enc u y):=by
     rw[<-fZ];simp[cy,List.map_drop,List.map_take]
    rw[e2] at ke;have dE:=ik ke;have iU:nY<w.heap.size:=by
     have nz:0<cs.length:=by rw[hl,dP];exact Nat.mul_pos (List.length_pos_iff.mpr hne) (iK u)
     exact World.block_lt_of_cell? w _ (hcs 0 cs[0] (List.getElem?_eq_getElem nz))
    exact⟨nY,AS+n.toNat*ar u,by rw[Nat.add_zero],hb hne,iU,_,dE.1,acw,dE.2⟩
  ·cases dL
 ·rename_i o s bP;rw[bP] at bh;split
  ·rename_i u xs cO;split;case isFalse=>exact .fail
   rename_i nI;subst nI;refine Holds.d' fun y aj=>?_
   have dL:fa xs.length n=some y:=aj;unfold fa at dL;split at dL
   ·rename_i hb;cases dL;obtain⟨⟨O,fZ,jH⟩,iQ⟩:=S.any cO;have hv:Act.eval ⟨tm,[]⟩ x=bT (B o):=Ref.at bh.2 fZ jH;rcases iQ with⟨hn,Af⟩|⟨b,c,bR⟩
    ·subst Af;simp at hb;omega
    ·refine dq S Y (run (by rw[hv];exact bR) hb.1 hb.2) ?_
     rw[gh,Nat.zero_add];exact⟨b,by rw[Nat.add_zero],Ref.mk fZ jH ⟨_,_,bR⟩⟩
   ·cases dL
  ·exact .fail
 ·exact .fail
end
section
variable {P:Program}{L:World}{J:List Nat}{X:Nat->Prop}{B:Nat->Value}{st:ad}{tm:Array Value}{w:World}{D:Oper}
theorem KY(S:af L J X B st tm w){C:Ctx}{cE:Option Operand}{kV l:Int}(h:h3 kV (cE.map (aO C st 0))=some l):
  (cE=none/\l=kV)\/∃x k,cE=some x/\Act.eval ⟨tm,[]⟩ x=.int k l:=by
 cases cE with
 |none=>simp only[Option.map_none,h3,Option.some.injEq] at h;exact .inl ⟨rfl,h.symm⟩
 |some x=>
  simp only[Option.map_some] at h;generalize hx:aO C st 0 x=v at h;unfold h3 at h;split at h
  ·rename_i bP;cases bP
  ·rename_i k n bP;cases h;cases bP;exact .inr ⟨x,k,rfl,jr S hx⟩
  ·cases h
theorem BR(t:aG)(xs:List (den t))(n:Nat):flat t (xs.take n)=(flat t xs).take (n*ar t):=by
 rcases Nat.lt_or_ge xs.length n with h|h
 ·rw[List.take_of_length_le (Nat.le_of_lt h),List.take_of_length_le (by rw[dP];exact Nat.mul_le_mul_right _ (Nat.le_of_lt h))]
 ·have:=l7 t (xs.take n) (xs.drop n);rw[List.take_append_drop] at this;rw[this,List.take_left' (by rw[dP,List.length_take,Nat.min_eq_left h])]
theorem J4(t:aG)(xs:List (den t))(n:Nat):flat t (xs.drop n)=(flat t xs).drop (n*ar t):=by
 rcases Nat.lt_or_ge xs.length n with h|h
 ·rw[List.drop_eq_nil_of_le (Nat.le_of_lt h),List.drop_eq_nil_of_le (by rw[dP];exact Nat.mul_le_mul_right _ (Nat.le_of_lt h))]
  rfl
 ·have:=l7 t (xs.take n) (xs.drop n);rw[List.take_append_drop] at this;rw[this,List.drop_left' (by rw[dP,List.length_take,Nat.min_eq_left h])]
theorem Bb{P:Program}{w:World}(isSlice:Bool)(len cap:Nat)(cE hi:Option Value)(l h:Int)(fL:(cE=none/\l=0)\/∃k,cE=some (.int k l))(iE:(hi=none/\h=len)\/∃k,hi=some (.int k h))
  (h0:0<=l) (h1:l<=h) (h2:h<=len) (hc:len<=cap):(Instr.sliceBounds isSlice len cap cE hi none).run P w=.ok (l.toNat,h.toNat,cap) w:=by
 have bU:0<=h:=by omega
 have R0:h<=cap:=by omega
 have aif:((h.toNat:Nat):Int)=h:=Int.toNat_of_nonneg bU;rcases fL with⟨rfl,rfl⟩|⟨k,rfl⟩<;>rcases iE with⟨rfl,rfl⟩|⟨k',rfl⟩
 ·simp[Instr.sliceBounds]
 ·simp[Instr.sliceBounds,Instr.sliceBound,asIntOf,bU,R0]
 ·simp[Instr.sliceBounds,Instr.sliceBound,asIntOf,h0,h1]
 ·simp[Instr.sliceBounds,Instr.sliceBound,asIntOf,bU,R0,h0,aif,h1]
theorem YU(s:ByteArray)(l h:Nat)(h2:h<=s.size):(s.extract l h).data.toList=(s.data.toList.take h).drop l:=by
 rw[ByteArray.data_extract,Array.toList_extract];simp[List.extract_eq_take_drop,List.drop_take]
theorem LZ{w:World}{av:Nat->Prop}{t:aG}{xs:List (den t)}{b D:Nat}{cs:List Value}(hb:xs≠[]->¬av b)(hr:cf w av (flat t xs) cs)(hc:g_ w b D cs)(l h:Nat)(h1:l<=h)(h2:h<=xs.length)(a:Addr)(fm:Nat)(R7:h-l<=fm)
  (a5:a=⟨b,D+l*ar t,none⟩\/l=h) (R8:a.block=b):ba w av (.sl t ((xs.take h).drop l)) (.slice (some a) (h-l) fm):=by
 have hlen:((xs.take h).drop l).length=h-l:=by simp;omega
 by_cases RV:l=h
 ·subst RV;have:(xs.take l).drop l=[]:=List.eq_nil_of_length_eq_zero (by rw[hlen];omega)
  rw[this];exact .sl t [] a fm [] _ (by simp) R7 (fun hx=>absurd rfl hx) rfl (fun j u hu=>by simp at hu) (fun j h=>by simp[flat] at h)
 ·rcases a5 with a5|a5
  ·subst a5;have hf:flat t ((xs.take h).drop l)=((flat t xs).take (h*ar t)).drop (l*ar t):=by
    rw[J4,BR]
   have ke:=((gT (B:=fun _=>undef) (sites:=[]) hr.1 hr.2).take (h*ar t)).drop (l*ar t)
   have e2:((cy (flat t xs)).take (h*ar t)).drop (l*ar t)=cy (flat t ((xs.take h).drop l)):=by
    rw[hf];simp[cy,List.map_drop,List.map_take]
   rw[e2] at ke;have cL:=ik ke;refine .sl t _ _ fm _ _ hlen.symm R7 (fun hx=>hb ?_) cL.1 (fun j u hu=>?_) cL.2
   ·rintro rfl;simp at hx
   ·rw[gh];exact((hc.take (h*ar t)).drop (l*ar t)) j u hu
  ·exact absurd a5 RV
theorem C3{w:World}{av:Nat->Prop}{t:aG}{xs:List (den t)}{a:Addr}{cs:List Value}(hb:xs≠[]->¬av a.block)(hr:cf w av (flat t xs) cs)(hc:∀j u,cs[j]? =some u->w.cell? (a.add j)=some u)
  (l h cap:Nat) (h1:l<=h) (h2:h<=xs.length) (hcap:xs.length<=cap):
  ba w av (.sl t ((xs.take h).drop l)) (.slice (if cap=l then some a else(some a).map (·.add (l*ar t))) (h-l) (cap-l)):=by
 by_cases hx:xs=[]
 ·subst hx;have:h=0:=by simpa using h2
  subst this;have oM:l=0:=by omega
  subst oM;have:((if cap=0 then some a else(some a).map (·.add (0*ar t))):Option Addr)=some a:=by
   split
   ·rfl
   ·simp[Addr.add]
  rw[this];exact .sl t [] a (cap-0) [] 0 rfl (by omega) (fun hx=>absurd rfl hx) rfl (fun j u hu=>by simp at hu) (fun j h=>by simp[flat] at h)
 ·have lJ:a.spot=none:=by
   have nz:0<cs.length:=by rw[hr.1,dP];exact Nat.mul_pos (List.length_pos_iff.mpr hx) (iK t)
   have h1:=hc 0 cs[0] (List.getElem?_eq_getElem nz);have h2:a.add 0=a:=by unfold Addr.add;simp
   rw[h2] at h1;unfold World.cell? at h1;split at h1
   ·cases M:a.spot with
    |none=>rfl
    |some _=>simp[M] at h1
   ·cases h1
  obtain⟨nY,AS,ajs⟩:=a;simp only at lJ;subst lJ;have hcs:g_ w nY AS cs:=fun j v hv=>by have:=hc j v hv;rwa[gh] at this
  split
  ·rename_i e;exact LZ hb hr hcs l h h1 h2 _ _ (by omega) (.inr (by omega)) rfl
  ·simp only[Option.map_some,gh];exact LZ hb hr hcs l h h1 h2 _ _ (by omega) (.inl rfl) rfl
theorem JG{v:aK}{us iX:List (Nat×Site)}(e:aT st.sites us=aT st.sites iX)(h:cv P L J X st tm w D v us):cv P L J X st tm w D v iX:=by
 have:st.cz D.dst v iX=st.cz D.dst v us:=by cases D.dst<;>simp only[ad.cz,ad.tx,e]
 intro K Q bn;rw[this] at bn;exact h K Q bn
theorem Y1(S:af L J X B st tm w){C:Ctx}(ay:CtxOk P C){T:TypeId}{x:Operand}{cE hi:Option Operand}(aq:D.op=.slice T x cE hi none)(Y:b1 st D.dst=true):
  Holds (rc (C.tt T) st (aO C st T x) (cE.map (aO C st 0)) (hi.map (aO C st 0))) (cv P L J X st tm w D):=by
 have bh:=cS S C T x;have pL:∀{cE:Option Operand} {kV l:Int},h3 kV (cE.map (aO C st 0))=some l->(cE.map (Act.eval ⟨tm,[]⟩)=none/\l=kV)\/∃k,cE.map (Act.eval ⟨tm,[]⟩)=some (.int k l):=by
  intro cE kV l h;rcases KY S h with⟨rfl,ab⟩|⟨x,k,rfl,ab⟩
  ·exact .inl ⟨rfl,ab⟩
  ·exact .inr ⟨k,by simp[ab]⟩
 have runs:∀{vv:Value},(Instr.sliceAt T (Act.eval ⟨tm,[]⟩ x) (cE.map (Act.eval ⟨tm,[]⟩)) (hi.map (Act.eval ⟨tm,[]⟩)) none).run P w=.ok vv w->(execOp (Act.eval ⟨tm,[]⟩) D).run P w=.ok (.value vv) w:=by
  intro vv h;unfold execOp;simp only[aq,Option.map_none,Sem.run_bind,h,Result.andThen_ok,Sem.run_pure]
 have ud:∀{e:TypeId} {t:aG} {bytes:Nat} {a:Option Addr} {len cap:Nat} {l h:Int},C.tt T=.slice e t bytes->Act.eval ⟨tm,[]⟩ x=.slice a len cap->h3 0 (cE.map (aO C st 0))=some l->h3 len (hi.map (aO C st 0))=some h->
   0<=l->l<=h->h<=len->len<=cap->(execOp (Act.eval ⟨tm,[]⟩) D).run P w=.ok (.value (.slice (if cap=l.toNat then a else a.map (·.add (l.toNat*ar t))) (h.toNat-l.toNat) (cap-l.toNat))) w:=by
  intro e t bytes a len cap l h aY hx fL iE h0 h1 h2 hc;obtain⟨dZ,inf,z,j7,gA,_⟩:=n5 ay aY;refine runs ?_
  have hb:=Bb (P:=P) (w:=w) true len cap (cE.map (Act.eval ⟨tm,[]⟩)) (hi.map (Act.eval ⟨tm,[]⟩)) l h (pL fL) (pL iE) h0 h1 h2 hc;simp only[Instr.sliceAt,Instr.slice,Sem.run_bind,run_underlying dZ,Result.andThen_ok,hx,hb,sizeOf,kC j7,gA,Sem.run_pure]
 unfold rc;split
 ·rename_i s bP;rw[bP] at bh;obtain⟨b,hx,M⟩:=g' bh;split
  ·rename_i l h aY fL iE;have bE:=ay.tt T;rw[aY] at bE;refine Holds.d' fun r hr=>?_
   have cL:dA s l h=some r:=hr;unfold dA at cL;split at cL
   ·rename_i hb;obtain⟨h0,h1,h2⟩:=hb;cases cL;have hsz:s.length=b.size:=by rw[<-M];rfl
    rw[hsz] at h2 iE;refine dq S Y (vv:=.string (b.extract l.toNat h.toNat)) (runs ?_) (.str _ _ ?_)
    ·have hb:=Bb (P:=P) (w:=w) false b.size b.size (cE.map (Act.eval ⟨tm,[]⟩)) (hi.map (Act.eval ⟨tm,[]⟩)) l h (pL fL) (pL iE) h0 h1 h2 (Nat.le_refl _);simp[Instr.sliceAt,Instr.slice,run_underlying bE.1,hx,hb]
    ·rw[YU b _ _ (by omega),M]
   ·cases cL
  ·exact .fail
 ·rename_i t xs bP;rw[bP] at bh;have bh:ba w (an X B st.sites) (.sl t xs) (Act.eval ⟨tm,[]⟩ x):=bh;split
  ·rename_i e u bytes l h aY fL iE;split;case isFalse=>exact .fail
   rename_i nI;subst nI;refine Holds.d' fun r hr=>?_
   have cL:dA xs l h=some r:=hr;unfold dA at cL;split at cL
   ·rename_i hb;obtain⟨h0,h1,h2⟩:=hb;cases cL;generalize hx:Act.eval ⟨tm,[]⟩ x=v at bh;cases bh with
    |nil=>
     have bU:h=0:=by simp at h2;omega
     have hl:l=0:=by omega
     subst bU hl;refine dq S Y (ud aY hx fL iE h0 h1 h2 (Nat.le_refl _)) ?_
     simp only[List.take_nil,List.drop_nil];exact ba.nil t
    |sl _ _ a cap cs m hm hcap hb hl hc hr=>
     subst hm;refine dq S Y (ud aY hx fL iE h0 h1 h2 hcap) ?_
     exact C3 hb ⟨hl,hr⟩ hc l.toNat h.toNat cap (by omega) (by omega) hcap
   ·cases cL
  ·exact .fail
 ·rename_i t bP;rw[bP] at bh;have hx:Act.eval ⟨tm,[]⟩ x=.slice none 0 0:=bh;split
  ·rename_i e u bytes l h aY fL iE;refine Holds.d' fun r hr=>?_
   have cL:dA ([]:List (den t)) l h=some r:=hr;unfold dA at cL;split at cL
   ·rename_i hb;obtain⟨h0,h1,h2⟩:=hb;cases cL;have bU:h=0:=by simp at h2;omega
    have hl:l=0:=by omega
    subst bU hl;refine dq S Y (ud aY hx fL iE h0 h1 h2 (Nat.le_refl _)) ?_
    simp only[List.take_nil,List.drop_nil];exact ba.nil t
   ·cases cL
  ·exact .fail
 ·rename_i o s bP;rw[bP] at bh;split
  ·rename_i t xs cO;split
   ·rename_i e u bytes l h aY fL iE;split;case isFalse=>exact .fail
    rename_i nI;subst nI;refine Holds.eY fun r hr=>?_
    have cL:dA xs l h=some r:=hr;unfold dA at cL;split at cL
    ·rename_i hb;obtain⟨h0,h1,h2⟩:=hb;cases cL;refine JG (us:=[(o,.cQ s t xs)]) (KU cO).symm ?_
     have ho:di st.sites [(o,.cQ s t xs)]:=by
      intro F O hm;simp only[List.mem_singleton,Prod.mk.injEq] at hm;obtain⟨rfl,rfl⟩:=hm;exact⟨s,t,xs,rfl,(jn cO).imp id .inl⟩
     have aQ:kB L J X B st tm w [(o,.cQ s t xs)]:=⟨S,ho⟩;have oK:=wh ho (List.mem_singleton.2 rfl);obtain⟨dE,Nu⟩:=aQ.new.sites o _ oK;have hv:Act.eval ⟨tm,[]⟩ x=bT (B o):=by
      rcases jn cO with h1|h1<;>exact Ref.at bh.2 h1 rfl
     generalize hx:bT (B o)=v at dE Nu;rw[hx] at hv;cases dE with
     |nil=>
      have bU:h=0:=by simp at h2;omega
      have hl:l=0:=by omega
      subst bU hl;refine ii (us:=[(o,.cQ s t [])]) aQ.new Y (ud aY hv fL iE h0 h1 h2 (Nat.le_refl _)) ?_
      simp only[List.take_nil,List.drop_nil];exact ba.nil t
     |sl _ _ a cap cs m hm hcap hb hl hc hr=>
      subst hm;refine ii (us:=[(o,.cQ s t xs)]) aQ.new Y (ud aY hv fL iE h0 h1 h2 hcap) ?_
      exact C3 hb ⟨hl,hr⟩ hc l.toNat h.toNat cap (by omega) (by omega) hcap
    ·cases cL
   ·exact .fail
  ·exact .fail
 ·exact .fail
end
section
variable {P:Program}{L:World}{J:List Nat}{X:Nat->Prop}{B:Nat->Value}{st:ad}{tm:Array Value}{w:World}{D:Oper}
theorem _S{av:Nat->Prop}{o s:Nat}{t:aG}{xs:List (den t)}{v:Value}(h:b9 B st.sites w av (bJ (.own o s)) v)(hr:rowOf st o s=some ⟨t,xs⟩):v=bT (B o):=by
 rcases jn hr with h1|h1<;>exact Ref.at h.2 h1 rfl
theorem Lw(S:af L J X B st tm w){l:au}{v:Value}{t:aG}{es:List (ak×den t)}(h:dd B st.sites w (an X B st.sites) l v)(hm:mapOf st l=some ⟨t,es⟩):
  (v=.map none/\es=[])\/∃b,v=.map (some b)/\lq w b t es:=by
 unfold mapOf at hm;split at hm
 ·cases hm;have h:ba w (an X B st.sites) (.map t es) v:=h;cases h with
  |r_=>exact .inl ⟨rfl,rfl⟩
  |map _ _ b hb hm=>exact .inr ⟨b,rfl,hm⟩
 ·rename_i o s;split at hm
  ·rename_i am u sL hl;cases hb:am.beq s with
   |false=>rw[hb] at hm;cases hm
   |true=>
    rw[hb] at hm;have M:=Nat.eq_of_beq_eq_true hb;subst M;cases hm;have hl:look st.sites o=some (.map am _ es):=hl;have hv:v=bT (B o):=Ref.at h.2 hl rfl;obtain⟨b,h1,h2⟩:=S.sites o _ hl;exact .inr ⟨b,by rw[hv,h1];rfl,h2⟩
  ·cases hm
 ·cases hm
theorem lq.size{b:Nat}{t:aG}{es:List (ak×den t)}{arr:Array MapEntry}(h:mj arr=jt t es):arr.size=es.length:=by
 have:=congrArg List.length h;simpa[mj,jt] using this
theorem abg(S:af L J X B st tm w){C:Ctx}(ay:CtxOk P C){T:TypeId}{x:Operand}(aq:D.op=.call {callee:=.builtin .len,args:=#[x],argTypes:=#[T]})(Y:b1 st D.dst=true):
  Holds (r' (C.tt T) st (aO C st T x)) (cv P L J X st tm w D):=by
 have bh:=cS S C T x;have bE:=ay.tt T;have run:∀{vv:Value},(Builtin.len_ #[T] D.type #[Act.eval ⟨tm,[]⟩ x]).run P w=.ok vv w->(execOp (Act.eval ⟨tm,[]⟩) D).run P w=.ok (.value vv) w:=by
  intro vv h;unfold execOp;simp only[aq,resolve,invoke,builtin,Sem.run_bind,Sem.run_pure,Result.andThen_ok,List.map_toArray,List.map_cons,List.map_nil,h]
 unfold r';split
 ·rename_i s aY bP;rw[bP] at bh;rw[aY] at bE;obtain⟨b,hx,M⟩:=g' bh;refine Holds.ok (dq S Y (run (vv:=.int .i64 s.length) ?_) (.int _ _));have:s.length=b.size:=by rw[<-M];rfl
  simp[Builtin.len_,hx,run_underlying bE.1,goInt,this]
 ·rename_i e t b u xs aY bP;rw[bP] at bh;rw[aY] at bE;have bh:ba w (an X B st.sites) (.sl u xs) (Act.eval ⟨tm,[]⟩ x):=bh;refine Holds.ok (dq S Y (run (vv:=.int .i64 xs.length) ?_) (.int _ _));generalize Act.eval ⟨tm,[]⟩ x=v at bh;cases bh with
  |nil=>simp[Builtin.len_,run_underlying bE.1.1,goInt]
  |sl _ _ a cap cs n hn hcap hb hl hc hr=>simp[Builtin.len_,run_underlying bE.1.1,goInt,hn]
 ·rename_i e t b u aY bP;rw[bP] at bh;rw[aY] at bE;have hx:Act.eval ⟨tm,[]⟩ x=.slice none 0 0:=bh;exact Holds.ok (dq S Y (run (vv:=.int .i64 0) (by simp[Builtin.len_,hx,run_underlying bE.1.1,goInt])) (.int _ _))
 ·rename_i e t b o s aY bP;rw[bP] at bh;rw[aY] at bE;split
  ·rename_i u xs cO;obtain⟨⟨O,fZ,jH⟩,hc⟩:=S.any cO;have hv:Act.eval ⟨tm,[]⟩ x=bT (B o):=Ref.at bh.2 fZ jH;refine Holds.ok (dq S Y (run (vv:=.int .i64 xs.length) ?_) (.int _ _));rcases hc with⟨h1,h2⟩|⟨a6,c,h1⟩
   ·subst h2;simp[Builtin.len_,hv,h1,run_underlying bE.1.1,goInt]
   ·simp[Builtin.len_,hv,h1,run_underlying bE.1.1,goInt]
  ·exact .fail
 ·rename_i g7 kv u l aY bP;rw[bP] at bh;rw[aY] at bE;split
  ·rename_i bx es hm;refine Holds.ok (dq S Y (run (vv:=.int .i64 es.length) ?_) (.int _ _));rcases Lw S bh hm with⟨h1,rfl⟩|⟨b,h1,arr,c,h2,Z⟩
   ·simp[Builtin.len_,h1,run_underlying bE.1.1,goInt]
   ·have hsz:=lq.size (b:=b) Z;simp[Builtin.len_,h1,run_underlying bE.1.1,goInt,MapKept.run_getObj_map h2,hsz,Result.andThen]
  ·exact .fail
 ·exact .fail
theorem ZG(S:af L J X B st tm w){C:Ctx}(ay:CtxOk P C){T:TypeId}{x i:Operand}{s:ak}{k:IntKind}{n:Int}(aq:D.op=.index T x i)(Y:b1 st D.dst=true)(aY:C.tt T=.str)
  (hx:aO C st T x=.av (.ai (.d (.str s)))) (hi:aO C st 0 i=.av (.ai (.d (.int k n)))):Holds (.d' (bg s n) fun b=>one (.int .u8 b.toNat)) (cv P L J X st tm w D):=by
 have bE:=ay.tt T;rw[aY] at bE;obtain⟨b,hb,M⟩:=abr S hx;have hn:=jr S hi;refine Holds.d' fun y aj=>?_
 have dL:bg s n=some y:=aj;unfold bg at dL;split at dL
 ·rename_i h0;refine dq S Y (vv:=.int .u8 y.toNat) ?_ (.int _ _);have oC:b[n.toNat]? =some y:=by
   have:n.toNat<s.length:=by
    rcases Nat.lt_or_ge n.toNat s.length with h|h
    ·exact h
    ·rw[List.getElem?_eq_none h] at dL;cases dL
   rw[<-M] at dL this;have hsz:n.toNat<b.size:=this;rw[getElem?_pos b n.toNat hsz];rw[List.getElem?_eq_getElem this] at dL;have Z:b.data[n.toNat]=y:=by simpa using dL
   rw[<-Z];rfl
  unfold execOp;simp[aq,hb,hn,Instr.index,asIntOf,run_underlying bE.1,h0,oC]
 ·cases dL
theorem bytes_beq(x y:ByteArray):(x==y)=(x.data.toList==y.data.toList):=by
 obtain⟨a⟩:=x;obtain⟨b⟩:=y;have h:((⟨a⟩:ByteArray)==⟨b⟩)=(a==b):=rfl;rw[h,Bool.eq_iff_iff];simp
theorem ZJ:∀{z U:List au} {vs:List Value},pM z U=true->ch B st.sites w (an X B st.sites) U vs->oF z vs=true:=by
 intro z;induction z with
 |nil=>
  intro U vs h h1;cases U with
  |nil=>rw[h1.kJ];rfl
  |cons l U=>cases h
 |cons c z ih=>
  intro U vs h h1;unfold pM at h;split at h
  ·rename_i hz;cases hz
  ·rename_i bP;cases bP;obtain⟨v,cm,rfl,a1,a2⟩:=h1.inv;rw[hI a1];exact ih h a2
  ·rename_i bP;cases bP;obtain⟨v,cm,rfl,a1,a2⟩:=h1.inv;rw[iL a1];exact ih h a2
  ·rename_i bP;cases bP;obtain⟨v,cm,rfl,a1,a2⟩:=h1.inv;obtain⟨x,rfl,hx⟩:=g' a1;exact ih h a2
  ·cases h
theorem VN:∀{U ic:List au} {vs us:List Value} {b:Bool},tO U ic=some b->ch B st.sites w (an X B st.sites) U vs->ch B st.sites w (an X B st.sites) ic us->iI vs us=some b:=by
 have leaf:∀{d e:aL} {v u:Value} {b:Bool} {av:Nat->Prop},yJ d e=some b->ba w av d v->ba w av e u->ni v u=some b:=by
  intro d e v u b av h h1 h2;unfold yJ at h;split at h
  ·rw[hI h1,hI h2];exact h
  ·rw[iL h1,iL h2];exact h
  ·obtain⟨x,rfl,hx⟩:=g' h1;obtain⟨y,rfl,aj⟩:=g' h2;subst hx aj;cases h;show some (x==y)=some (x.data.toList==y.data.toList);rw[bytes_beq]
  ·cases h
 intro U;induction U with
 |nil=>intro ic vs us b h _ _;cases ic<;>simp[tO] at h
 |cons l U ih=>
  intro ic vs us b h h1 h2;obtain⟨v,cm,rfl,a1,a2⟩:=h1.inv;unfold tO at h;split at h
  ·rename_i d e bP;cases bP;obtain⟨u,iX,rfl,aS,aJ⟩:=h2.inv;rw[a2.kJ,aJ.kJ];exact leaf h a1 aS
  ·rename_i d ds e es hne bP;cases bP;obtain⟨u,iX,rfl,aS,aJ⟩:=h2.inv;split at h
   ·rename_i x y hx aj;cases h;have e1:=leaf hx a1 aS;have e2:=ih aj a2 aJ;match cm,iX,e2 with
    |[],[],e2=>simp[iI] at e2
    |[],_::_,e2=>simp[iI] at e2
    |_::_,[],e2=>simp[iI] at e2
    |v2::amM,u2::amO,e2=>rw[iI,e1,e2];simp
   ·cases h
  ·cases h
theorem run_equal_bool{T:TypeId}(h:P.underlying T=some .bool)(a b:Bool):(Op.equal T (.bool a) (.bool b)).run P w=.ok (a==b) w:=by
 have e:Op.maxDepth=9999+1:=rfl;unfold Op.equal;rw[e];unfold Op.equalIn;simp only[Sem.run_bind,run_underlying h,Result.andThen_ok,Sem.run_pure]
theorem run_eql_bool{T:TypeId}(h:P.underlying T=some .bool)(a b:Bool):(binOp .eql T (.bool a) (.bool b)).run P w=.ok (.bool (a==b)) w:=by
 show((do pure (.bool (<-Op.equal T (.bool a) (.bool b)))):Sem Value).run P w=_
 simp only[Sem.run_bind,run_equal_bool h,Result.andThen_ok,Sem.run_pure]
theorem run_neq_bool{T:TypeId}(h:P.underlying T=some .bool)(a b:Bool):(binOp .neq T (.bool a) (.bool b)).run P w=.ok (.bool (!(a==b))) w:=by
 show((do pure (.bool (!(<-Op.equal T (.bool a) (.bool b))))):Sem Value).run P w=_
 simp only[Sem.run_bind,run_equal_bool h,Result.andThen_ok,Sem.run_pure]
theorem aak(S:af L J X B st tm w){C:Ctx}(ay:CtxOk P C){op:BinOp}{T mP:TypeId}{x y:Operand}(aq:D.op=.binOp op T x y mP)(Y:b1 st D.dst=true):
  Holds (FO op (C.tt T) (aO C st T x) (aO C st T y)) (cv P L J X st tm w D):=by
 have hx:=cS S C T x;have aj:=cS S C T y;have bE:=ay.tt T;have run:∀{vv:Value},(eqGuard op T x y (Act.eval ⟨tm,[]⟩ x) (Act.eval ⟨tm,[]⟩ y)).run P w=.ok () w->(binOp op T (Act.eval ⟨tm,[]⟩ x) (Act.eval ⟨tm,[]⟩ y)).run P w=.ok vv w->
   (execOp (Act.eval ⟨tm,[]⟩) D).run P w=.ok (.value vv) w:=by
  intro vv h1 h2;unfold execOp;simp only[aq,Sem.run_bind,h1,h2,Result.andThen_ok,Sem.run_pure]
 have plain:∀{r:c4},(eqGuard op T x y (Act.eval ⟨tm,[]⟩ x) (Act.eval ⟨tm,[]⟩ y)).run P w=.ok () w->Holds r (Plain P w (binOp op T (Act.eval ⟨tm,[]⟩ x) (Act.eval ⟨tm,[]⟩ y)))->Holds r (cv P L J X st tm w D):=by
  intro r h1 h2 z hz hc;obtain⟨vv,d,g1,g2,g3,eF⟩:=h2 z hz hc;rw[g2,g3];exact dq S Y (run h1 g1) (eF _)
 unfold FO;split
 ·rename_i k a k' b j' mI;rw[j'] at hx;rw[mI] at aj;refine plain (by rw[hI hx,hI aj];exact T7 _ _ _ _ _ _ _ _) ?_
  rw[hI hx,hI aj];unfold Mj;split
  ·refine Holds.d' fun n hn=>?_
   have e4:EY k a b=some n:=hn;unfold EY at e4;split at e4
   ·cases e4
   ·rename_i hb;cases e4;exact .mk (by simp[binOp,Op.shift,hb]) fun av=>.int _ _
  ·refine Holds.d' fun n hn=>?_
   have e4:ns k a b=some n:=hn;unfold ns at e4;split at e4
   ·cases e4
   ·rename_i hb;cases e4;exact .mk (by simp[binOp,Op.shift,hb]) fun av=>.int _ _
  ·rename_i h1 h2;split
   ·rename_i ag;subst ag;exact XC _ T k a b h1 h2
   ·exact .fail
 ·rename_i s t j' mI;rw[j'] at hx;rw[mI] at aj;obtain⟨a,a5,M⟩:=g' hx;obtain⟨b,hb,aC⟩:=g' aj;subst M aC;refine plain (by rw[a5,hb];exact TZ _ _ _ _ _ _) ?_
  rw[a5,hb];exact XA op T a b
 ·rename_i a b j' mI;rw[j'] at hx;rw[mI] at aj;unfold MF;split
  ·rename_i aY;rw[aY] at bE;split
   ·refine plain (by rw[iL hx,iL aj];exact Ie _ _ _ _ _ _) (Holds.ok ?_)
    rw[iL hx,iL aj];exact .mk (run_eql_bool bE.1 _ _) fun av=>.bool _
   ·refine plain (by rw[iL hx,iL aj];exact Ie _ _ _ _ _ _) (Holds.ok ?_)
    rw[iL hx,iL aj];exact .mk (run_neq_bool bE.1 _ _) fun av=>.bool _
   ·exact .fail
  ·exact .fail
 ·rename_i xs ys j' mI;rw[j'] at hx;rw[mI] at aj;unfold Nz;split
  ·rename_i bF n z aY;rw[aY] at bE;cases hl:xs.length.beq n&&pM z xs with
   |false=>exact .fail
   |true=>
    simp only[cond_true];simp only[Bool.and_eq_true] at hl;have ft:=Nat.eq_of_beq_eq_true hl.1;split
    ·rename_i b hb;obtain⟨vs,hv,i_,jF⟩:=hx;obtain⟨us,hu,sz,vd⟩:=aj;have Aw:=VN hb ⟨i_,jF⟩ ⟨sz,vd⟩;obtain⟨fields,dZ,_,⟨fj,hz,_,_⟩,bP⟩:=bE;obtain⟨hg,Fw⟩:=bP rfl;have:=Fw vs us b w Aw (ZJ hl.2 ⟨i_,jF⟩);split
     ·refine plain ?_ (Holds.ok ?_)
      ·rw[hv,hu];simp[eqGuard,hg]
      ·rw[hv,hu];refine .mk (vv:=.bool b) ?_ fun av=>.bool _
       show((do pure (.bool (<-Op.equal T (.agg vs.toArray) (.agg us.toArray)))):Sem Value).run P w=_
       simp only[Sem.run_bind,this,Result.andThen_ok,Sem.run_pure]
     ·refine plain ?_ (Holds.ok ?_)
      ·rw[hv,hu];simp[eqGuard,hg]
      ·rw[hv,hu];refine .mk (vv:=.bool (!b)) ?_ fun av=>.bool _
       show((do pure (.bool (!(<-Op.equal T (.agg vs.toArray) (.agg us.toArray))))):Sem Value).run P w=_
       simp only[Sem.run_bind,this,Result.andThen_ok,Sem.run_pure]
     ·exact .fail
    ·exact .fail
  ·exact .fail
 ·exact .fail
theorem UN{T:TypeId}{ic:Array (String×TypeId)}(aC:P.underlying T=some (.interface ic))(fy:TypeId)(cY:Option Int)(v:Value)(hv:v=match cY with|none=>.nilIface|some n=>.iface fy (.agg #[.int .i64 n])):
  (Op.equal T v .nilIface).run P w=.ok cY.isNone w:=by
 have h:∀d:Nat,(Op.equalIn (d+1) T v .nilIface).run P w=.ok cY.isNone w:=fun d=>by
  subst hv;cases cY<;>simp[Op.equalIn,run_underlying aC]
 exact h 9999
theorem Yg(S:af L J X B st tm w){C:Ctx}(ay:CtxOk P C){op:BinOp}{T mP:TypeId}{x y:Operand}(aq:D.op=.binOp op T x y mP)(Y:b1 st D.dst=true)(hn:yL y=true):
  Holds (Er op (C.tt T) (aO C st T x)) (cv P L J X st tm w D):=by
 have aj:y=.const .nilIface:=by
  unfold yL at hn;split at hn
  ·rfl
  ·cases hn
 subst aj;have hx:=cS S C T x;have bE:=ay.tt T;have key:∀(fy:TypeId) (cY:Option Int),(Act.eval ⟨tm,[]⟩ x=match cY with|none=>.nilIface|some n=>.iface fy (.agg #[.int .i64 n]))->Holds (zu op (C.tt T) cY) (cv P L J X st tm w D):=by
  intro fy cY hv;unfold zu;split
  ·rename_i aY;rw[aY] at bE;obtain⟨ic,bE⟩:=bE;have he:=UN (P:=P) (w:=w) bE.1 fy cY _ hv;have hg:(eqGuard op T x (.const .nilIface) (Act.eval ⟨tm,[]⟩ x) .nilIface).run P w=.ok () w:=by
    rw[hv];cases cY<;>cases op<;>simp[eqGuard]
   split
   ·refine Holds.ok (dq S Y (vv:=.bool cY.isNone) ?_ (.bool _));unfold execOp;simp only[aq,Act.eval,Sem.run_bind,Result.andThen_ok,Sem.run_pure] at hg ⊢;rw[hg];simp only[Result.andThen_ok];have:(binOp .eql T (Act.eval ⟨tm,[]⟩ x) .nilIface).run P w=.ok (.bool cY.isNone) w:=by
     have e:binOp .eql T (Act.eval ⟨tm,[]⟩ x) .nilIface=(do pure (.bool (<-Op.equal T (Act.eval ⟨tm,[]⟩ x) .nilIface))):=by rw[hv];cases cY<;>rfl
     rw[e];simp only[Sem.run_bind,he,Result.andThen_ok,Sem.run_pure]
    simp only[Act.eval] at this;rw[this];rfl
   ·refine Holds.ok (dq S Y (vv:=.bool cY.isSome) ?_ (.bool _));unfold execOp;simp only[aq,Act.eval,Sem.run_bind,Result.andThen_ok,Sem.run_pure] at hg ⊢;rw[hg];simp only[Result.andThen_ok];have:(binOp .neq T (Act.eval ⟨tm,[]⟩ x) .nilIface).run P w=.ok (.bool cY.isSome) w:=by
     have e:binOp .neq T (Act.eval ⟨tm,[]⟩ x) .nilIface=(do pure (.bool (!(<-Op.equal T (Act.eval ⟨tm,[]⟩ x) .nilIface)))):=by rw[hv];cases cY<;>rfl
     rw[e];simp only[Sem.run_bind,he,Result.andThen_ok,Sem.run_pure];cases cY<;>rfl
    simp only[Act.eval] at this;rw[this];rfl
   ·exact .fail
  ·exact .fail
 unfold Er;split
 ·rename_i fy cY j';rw[j'] at hx;have hx:ba w (an X B st.sites) (.err fy cY) (Act.eval ⟨tm,[]⟩ x):=hx;exact key fy cY (by revert hx;generalize Act.eval ⟨tm,[]⟩ x=vv;intro hx;cases hx<;>rfl)
 ·rename_i j';rw[j'] at hx;exact key 0 none hx
 ·exact .fail
theorem T3(S:af L J X B st tm w){C:Ctx}(ay:CtxOk P C){T:TypeId}{x:Operand}{n:Int}{bF z q e}(aq:D.op=.makeInterface T x)(Y:b1 st D.dst=true)(aY:C.tt T=.struct bF q z e)
  (hx:aO C st T x=.av (.agg [.d (.int .i64 n)])):cv P L J X st tm w D (one (.err T (some n))) []:=by
 have bE:=ay.tt T;rw[aY] at bE;obtain⟨fields,hu,_⟩:=bE;have bh:=cS S C T x;rw[hx] at bh;obtain⟨vs,h1,h2,Z⟩:=bh;match vs,h2,h1,Z with
 |[v],_,h1,Z=>
  have hv:=hI (Z 0 (by simp) (by simp))
  simp only[List.getElem_cons_zero] at hv;subst hv;refine dq S Y (vv:=.iface T (.agg #[.int .i64 n])) ?_ (.err _ _);unfold execOp;simp[aq,Instr.makeInterface,run_underlying hu,h1]
end
section
variable {P:Program}{L:World}{J:List Nat}{X:Nat->Prop}{B:Nat->Value}{st:ad}{tm:Array Value}{w:World}{D:Oper}
theorem q5(xs:List Int):flat .u8 xs=xs.map (aL.int .u8):=by
 unfold flat;induction xs with
 |nil=>rfl
 |cons x xs ih=>simp only[List.flatMap_cons,List.map_cons,ih];rfl
theorem LY{w:World}{av:Nat->Prop}{xs:List Int}{cs:List Value}(h:cf w av (flat .u8 xs) cs):cs=xs.map (Value.int .u8):=by
 obtain⟨h1,h2⟩:=h;rw[q5] at h1;apply List.ext_getElem
 ·rw[h1];simp
 ·intro j g1 g2;have g3:j<xs.length:=by simpa using g2
  have:=h2 j (by rw[q5];simpa using g3) g1
  have e:(flat .u8 xs)[j]'(by rw[q5];simpa using g3)=aL.int .u8 xs[j]:=by simp[q5]
  rw[e] at this;rw[hI this];simp
theorem Is{src dst e:TypeId}{a:Addr}{len cap:Nat}{xs:List Int}(M:P.underlying src=some (.slice e))(he:P.underlying e=some (.int .u8))(Y:P.underlying dst=some .string)
  (hlen:xs.length=len) (hc:∀j u,(xs.map (Value.int .u8))[j]? =some u->w.cell? (a.add j)=some u):
  ∃b:ByteArray,(convert src dst (.slice (some a) len cap)).run P w=.ok (.string b) w/\b.data.toList=strOf xs:=by
 have hl:(loadCells a len).run P w=.ok (xs.map (Value.int .u8)).toArray w:=by
  have:=run_loadCells_list (P:=P) w a (xs.map (Value.int .u8)) hc;simpa[hlen] using this
 rw[run_convert_bytes_string w src dst e _ len cap M he Y,run_bytesToString w a len cap xs hl,foldl_push_bytes];exact⟨_,rfl,by simp[strOf]⟩
theorem wu{ti:cd}(h:isByte ti=true):ti=.int .u8:=by
 unfold isByte at h;split at h
 ·rfl
 ·cases h
theorem Ym(s:ak):(bytesOf s).length=s.length:=by simp[bytesOf]
theorem ZW(S:af L J X B st tm w){C:Ctx}(ay:CtxOk P C){src dst:TypeId}{x:Operand}{o:Nat}(aq:D.op=.convert src dst x)(c_:D.dst=some o)(Y:b1 st D.dst=true):
  Holds (rQ C src dst o st (aO C st src x)) (cv P L J X st tm w D):=by
 have bh:=cS S C src x;have M:=ay.tt src;have aC:=ay.tt dst;have run:∀{vv:Value} {w':World},(convert src dst (Act.eval ⟨tm,[]⟩ x)).run P w=.ok vv w'->(execOp (Act.eval ⟨tm,[]⟩) D).run P w=.ok (.value vv) w':=by
  intro vv w' h;unfold execOp;simp only[aq,Sem.run_bind,h,Result.andThen_ok,Sem.run_pure]
 have pQ:∀{ti:cd},ti.ok P src->ti≠.none->∃d,P.underlying src=some d:=by
  intro ti h hn;cases ti with
  |none=>exact absurd rfl hn
  |int k=>exact⟨_,h.1⟩
  |bool=>exact⟨_,h.1⟩
  |str=>exact⟨_,h.1⟩
  |ptr=>obtain⟨_,h⟩:=h;exact⟨_,h.1⟩
  |func=>obtain⟨_,_,_,h⟩:=h;exact⟨_,h.1⟩
  |iface=>obtain⟨_,h⟩:=h;exact⟨_,h.1⟩
  |slice e t b=>exact⟨_,h.1.1⟩
  |map k e t=>exact⟨_,h.1.1⟩
  |struct bF n z eq=>obtain⟨f,h,_⟩:=h;exact⟨_,h⟩
  |arr e t n=>exact⟨_,h.1⟩
 unfold rQ;split
 ·exact .fail
 ·rename_i k k' n ag hx hn;rw[hx] at bh;rw[ag] at aC;obtain⟨d,lS⟩:=pQ M (by rintro h;exact absurd h (by simpa using hn))
  refine Holds.ok (dq S Y (run (vv:=.int k (k.wrap n)) ?_) (.int _ _));rw[hI bh];simp[convert,run_underlying lS,run_underlying aC.1,Conv.intToInt]
 ·rename_i s ag hx hn;rw[hx] at bh;rw[ag] at aC;obtain⟨b,hb,da⟩:=g' bh;obtain⟨d,lS⟩:=pQ M (by rintro h;exact absurd h (by simpa using hn))
  refine Holds.ok (dq S Y (run (vv:=.string b) ?_) (.str _ _ da));rw[hb];simp[convert,run_underlying lS,run_underlying aC.1]
 ·rename_i e b xs hsrc pC hx;cases lU:isByte (C.tt e) with
  |false=>exact .fail
  |true=>
   rw[hx] at bh;rw[pC] at aC;rw[hsrc] at M;have he:=ay.tt e;rw[wu lU] at he;have bh:ba w (an X B st.sites) (.sl .u8 xs) (Act.eval ⟨tm,[]⟩ x):=bh;have:∃b:ByteArray,(convert src dst (Act.eval ⟨tm,[]⟩ x)).run P w=.ok (.string b) w/\b.data.toList=strOf xs:=by
    generalize Act.eval ⟨tm,[]⟩ x=v at bh;cases bh with
    |nil=>exact⟨_,run_convert_bytes_nil w src e M.1.1 he.1 _ _ dst aC.1,rfl⟩
    |sl _ _ a cap cs n hn hcap hb hl hc hr=>
     have:=LY (xs:=xs) ⟨hl,hr⟩;subst this;exact Is M.1.1 he.1 aC.1 hn.symm hc
   obtain⟨b,h1,h2⟩:=this;exact Holds.ok (dq S Y (run h1) (.str _ _ h2))
 ·rename_i e b u hsrc pC hx;cases lU:isByte (C.tt e) with
  |false=>exact .fail
  |true=>
   rw[hx] at bh;rw[pC] at aC;rw[hsrc] at M;have he:=ay.tt e;rw[wu lU] at he;have bh:Act.eval ⟨tm,[]⟩ x=.slice none 0 0:=bh;refine Holds.ok (dq S Y (run (vv:=.string ByteArray.empty) ?_) (.str _ _ rfl));rw[bh];exact run_convert_bytes_nil w src e M.1.1 he.1 _ _ dst aC.1
 ·rename_i e b F s hsrc pC hx;split
  ·rename_i xs cO;cases lU:isByte (C.tt e) with
   |false=>exact .fail
   |true=>
    rw[hx] at bh;rw[pC] at aC;rw[hsrc] at M;have he:=ay.tt e;rw[wu lU] at he;have hv:=_S bh cO;have:∃b:ByteArray,(convert src dst (Act.eval ⟨tm,[]⟩ x)).run P w=.ok (.string b) w/\b.data.toList=strOf xs:=by
     rw[hv];obtain⟨cs,h1,hc⟩:=S.row cO;rcases hc with⟨h2,Z⟩|⟨a6,c,h2,Z,aI⟩
     ·subst Z;rw[h2];exact⟨_,run_convert_bytes_nil w src e M.1.1 he.1 _ _ dst aC.1,rfl⟩
     ·have:=LY (xs:=xs) (ik h1);subst this;rw[h2];exact Is M.1.1 he.1 aC.1 rfl (fun j u hu=>by rw[gh];exact Z j u hu)
    obtain⟨b,h1,h2⟩:=this;exact Holds.ok (dq S Y (run h1) (.str _ _ h2))
  ·exact .fail
 ·rename_i e b s hsrc pC hx;cases lU:isByte (C.tt e) with
  |false=>exact .fail
  |true=>
   rw[hx] at bh;rw[pC] at aC;rw[hsrc] at M;have he:=ay.tt e;rw[wu lU] at he;obtain⟨gq,hb,da⟩:=g' bh;have cG:(convert src dst (Act.eval ⟨tm,[]⟩ x)).run P w=.ok (.slice (some ⟨w.heap.size,0,none⟩) gq.size (grownCap w gq.size 0 e)) (Go.Lib.bytesWorld w e gq):=by
    rw[hb];exact Go.Lib.run_convert_string_bytes w src dst e gq M.1 aC.1.1 he.1
   have hcap:gq.size<=grownCap w gq.size 0 e:=grownCap_ge w gq.size 0 e;refine Holds.eY fun r hr=>?_
   have uC:gq.size<=maxLen:=by
    have hr:(if s.length<=maxLen then some () else none)=some r:=hr
    split at hr
    ·rename_i h;rw[<-da] at h;simpa using h
    ·cases hr
   have hsz:(Go.Lib.bytesCells w e gq).size=grownCap w gq.size 0 e:=by
    simp only[Go.Lib.bytesCells,Array.size_append,Array.size_map,Array.size_replicate];have:gq.data.size=gq.size:=rfl;omega
   have hlen:gq.size=(bytesOf s).length:=by rw[Ym,<-da];rfl
   have gN:af L J X (fun F=>if F=o then .slice (some ⟨w.heap.size,0,none⟩) gq.size (grownCap w gq.size 0 e) else B F) {st with sites:=b3 st.sites o (.row (aV st o) .u8 (bytesOf s))} tm (Go.Lib.bytesWorld w e gq):=by
    refine S.make (fun b hb=>Go.Lib.bytesWorld_at_old w e gq b hb) rfl rfl rfl (by rw[Go.Lib.bytesWorld_size];omega) (fun O M=>jm M)
     (fun b hb=>by have hb:=List.mem_singleton.1 hb;subst hb;exact⟨Nat.le_refl _,by rw[Go.Lib.bytesWorld_size];exact Nat.lt_succ_self _⟩) ?_
    intro bi ax eR dI go al5 amd;refine⟨e,gq.data.toList.map fun b=>Value.int .u8 b.toNat,⟨?_,.inr ⟨_,_,Go.Lib.bytesCells w e gq,_,dI.trans (by rw[hlen]),⟨(fun h=>by obtain⟨_,z,_,_,ey⟩:=aC;exact ey h),.inr ⟨rfl,Nat.le_refl _⟩⟩,Go.Lib.bytesWorld_at_new w e gq,by rw[<-hlen];exact hcap,grownCap_le_maxLen w gq.size 0 e uC,?_,?_⟩⟩,fun j g1 g2=>?_⟩
    ·rw[List.length_map,<-hlen];exact(Nat.mul_one _).symm
    ·rw[hsz];exact(Nat.mul_one _).symm
    ·have h1:(bytesOf s).length*ar .u8=(gq.data.toList.map fun b=>Value.int .u8 b.toNat).length:=by rw[List.length_map,<-hlen];exact Nat.mul_one _
     rw[h1];simp only[Go.Lib.bytesCells,Array.toList_append,Array.toList_map];exact List.take_left
    ·subst da;simp only[q5,bytesOf,List.getElem_map];exact .int _ _
   refine ii (us:=[(o,.row (aV st o) .u8 (bytesOf s))]) gN Y (run cG) ?_
   refine⟨rfl,Ref.mk (O:=.row (aV st o) .u8 (bytesOf s)) ?_ rfl (by simp[bT])⟩
   simp only[aT,ck];simp
 ·exact .fail
end
section
variable {P:Program}{L:World}{J:List Nat}{X:Nat->Prop}{B:Nat->Value}{st:ad}{tm:Array Value}{w:World}{D:Oper}
theorem Lu(S:af L J X B st tm w){C:Ctx}{x:Operand}(aq:D.op=.move x\/D.op=.assign x)(Y:b1 st D.dst=true)(T:TypeId):cv P L J X st tm w D (aO C st T x) []:=by
 refine dq S Y (vv:=Act.eval ⟨tm,[]⟩ x) ?_ (cS S C T x);unfold execOp;rcases aq with h|h<;>simp only[h,Sem.run_pure]
theorem Lm(S:af L J X B st tm w){C:Ctx}{c a b:Operand}{t:Bool}{T:TypeId}(aq:D.op=.pick c a b)(Y:b1 st D.dst=true)(hc:aO C st T c=.av (.ai (.d (.bool t)))):
  cv P L J X st tm w D (aO C st T (if t then a else b)) []:=by
 refine dq S Y (vv:=Act.eval ⟨tm,[]⟩ (if t then a else b)) ?_ (cS S C T _)
 unfold execOp;have:=DD S hc;cases t<;>simp[aq,this,asBool]
theorem Ve(S:af L J X B st tm w){C:Ctx}{x:Operand}{t:Bool}{T ed:TypeId}(aq:D.op=.unOp .not ed x)(Y:b1 st D.dst=true)(hc:aO C st T x=.av (.ai (.d (.bool t)))):
  cv P L J X st tm w D (one (.bool (!t))) []:=by
 refine dq S Y (vv:=.bool (!t)) ?_ (.bool _);unfold execOp;simp[aq,DD S hc,Op.unary]
theorem Vf(S:af L J X B st tm w){C:Ctx}{x:Operand}{k:IntKind}{n:Int}{T ed:TypeId}(aq:D.op=.unOp .neg ed x)(Y:b1 st D.dst=true)(hc:aO C st T x=.av (.ai (.d (.int k n)))):
  cv P L J X st tm w D (one (.int k (k.wrap (0-n)))) []:=by
 refine dq S Y (vv:=.int k (k.wrap (0-n))) ?_ (.int _ _);unfold execOp;simp[aq,jr S hc,Op.unary,Op.intArith]
theorem A7(S:af L J X B st tm w){C:Ctx}{x:Operand}{v:aK}{T:TypeId}(aq:D.op=.nilCheck x)(Y:b1 st D.dst=true)(hc:aO C st T x=v)
  (hv:∀vv,b9 B st.sites w (an X B st.sites) v vv->∃a,vv=.pointer (some a)):cv P L J X st tm w D v []:=by
 have:=cS S C T x;rw[hc] at this;obtain⟨a,a5⟩:=hv _ this;refine dq S Y (vv:=Act.eval ⟨tm,[]⟩ x) ?_ this;unfold execOp;simp[aq,a5]
theorem WD(S:af L J X B st tm w){C:Ctx}{x:Operand}{i:Nat}{as:List br}{a:br}{T:TypeId}(aq:D.op=.extract x i)(Y:b1 st D.dst=true)(hc:aO C st T x=.iY as)(a5:as[i]? =some a):
  cv P L J X st tm w D (.av a) []:=by
 have bh:=cS S C T x;rw[hc] at bh;obtain⟨vs,h1,h2,Z⟩:=bh;obtain⟨hi,aiC⟩:=List.getElem?_eq_some_iff.1 a5;have hS:i<vs.length:=by omega
 refine dq S Y (vv:=vs[i]) ?_ (by rw[<-aiC];exact Z i hi hS)
 unfold execOp;simp[aq,h1,Instr.extract,hS]
theorem JT(S:af L J X B st tm w){C:Ctx}{x y:Operand}{k k':IntKind}{a b:Int}{T:TypeId}{rL:Bool}{cI:Array TypeId}(aq:D.op=.call {callee:=.builtin (if rL then .max else .min),args:=#[x,y],argTypes:=cI})(Y:b1 st D.dst=true)
  (hx:aO C st T x=.av (.ai (.d (.int k a)))) (aj:aO C st T y=.av (.ai (.d (.int k' b)))):cv P L J X st tm w D (one (.int k (if rL then gz a b else zF a b))) []:=by
 refine dq S Y (vv:=.int k (if rL then gz a b else zF a b)) ?_ (.int _ _)
 unfold execOp;cases rL<;>simp[aq,resolve,invoke,builtin,jr S hx,jr S aj,Builtin.max_,Builtin.min_,Builtin.max2,Builtin.min2,gz,zF]
theorem _Y(S:af L J X B st tm w){C:Ctx}{x y z u v:Operand}{k aB ao bj b':IntKind}{a b c d e:Int}{T:TypeId}{cI:Array TypeId}(aq:D.op=.call {callee:=.builtin .max,args:=#[x,y,z,u,v],argTypes:=cI})(Y:b1 st D.dst=true)
  (hx:aO C st T x=.av (.ai (.d (.int k a)))) (aj:aO C st T y=.av (.ai (.d (.int aB b)))) (hz:aO C st T z=.av (.ai (.d (.int ao c)))) (hu:aO C st T u=.av (.ai (.d (.int bj d)))) (hv:aO C st T v=.av (.ai (.d (.int b' e)))):
  cv P L J X st tm w D (one (.int k (gz (gz (gz (gz a b) c) d) e))) []:=by
 refine dq S Y (vv:=.int k (gz (gz (gz (gz a b) c) d) e)) ?_ (.int _ _);unfold execOp;simp[aq,resolve,invoke,builtin,jr S hx,jr S aj,jr S hz,jr S hu,jr S hv,Builtin.max_,Builtin.max2,gz]
theorem ZX(S:af L J X B st tm w){C:Ctx}:∀{xs:List Operand} {bq:List (Nat×Nat)},step.nq C st xs=some bq->xs.length=bq.length/\
  ∀i (h:i<bq.length) (ab:i<xs.length),Ref st.sites (bq[i]).1 (bq[i]).2 (Act.eval ⟨tm,[]⟩ (xs[i])=bT (B (bq[i]).1)):=by
 intro xs;induction xs with
 |nil=>intro bq h;simp only[step.nq] at h;cases h;exact⟨rfl,fun i h=>by simp at h⟩
 |cons x xs ih=>
  intro bq h;simp only[step.nq] at h;split at h
  ·rename_i o s l hx hl;cases h;obtain⟨h1,h2⟩:=ih hl;refine⟨by simp[h1],fun i g1 g2=>?_⟩
   cases i with
   |zero=>
    have:=cS S C 0 x;rw[hx] at this;obtain⟨b,hb,O,r1,r2,ib⟩:=this;exact⟨O,r1,r2,fun e=>by simp only[List.getElem_cons_zero];rw[ib e];exact hb⟩
   |succ i=>simpa using h2 i (by simpa using g1) (by simpa using g2)
  ·cases h
theorem Vy(S:af L J X B st tm w){C:Ctx}{g:FuncId}{first captured:Array Operand}{bq:List (Nat×Nat)}(aq:D.op=.makeFunc (.func g) first captured)(Y:b1 st D.dst=true)(hf:first.toList.isEmpty=true)
  (hc:step.nq C st captured.toList=some bq):cv P L J X st tm w D (bJ (.clo g bq)) []:=by
 obtain⟨h1,h2⟩:=ZX S hc;refine dq S Y (vv:=.func (.func g) #[] (captured.toList.map (Act.eval ⟨tm,[]⟩)).toArray) ?_ ⟨captured.toList.map (Act.eval ⟨tm,[]⟩),rfl,by simpa using h1,fun i g1 g2=>?_⟩
 ·have:first=#[]:=by simpa using hf
  unfold execOp;simp only[aq,Instr.makeFunc,Sem.run_bind,Sem.run_pure,Result.andThen_ok,this];simp;apply Array.ext';simp
 ·have:=h2 i g1 (by simpa using g2)
  simpa using this
theorem Ka(S:af L J X B st tm w){C:Ctx}{bF:List (Nat×Nat)}:∀(parts:List (Nat×Operand)) (z:List au) (cells:Array Value),ch B st.sites w (an X B st.sites) z cells.toList->
  Holds (step.mm C st bF z parts) (fun v us=>us=[]/\∃iM,Instr.fill (bF.toArray[·]?) cells (parts.map fun p=>(p.1,Act.eval ⟨tm,[]⟩ p.2))=some iM/\b9 B st.sites w (an X B st.sites) v (.agg iM)):=by
 intro parts;induction parts with
 |nil=>intro z cells h;exact Holds.ok ⟨rfl,cells,rfl,cells.toList,by simp,h.1,h.2⟩
 |cons p parts ih=>
  obtain⟨i,x⟩:=p;intro z cells h;simp only[step.mm];split
  ·rename_i off n a hf a5;cases hb:(a.cells.length.beq n&&gf a.cells&&Nat.ble (off+n) z.length) with
   |false=>exact .fail
   |true=>
    simp only[cond_true];simp only[Bool.and_eq_true] at hb;obtain⟨⟨aS,aJ⟩,bM⟩:=hb;have aS:=Nat.eq_of_beq_eq_true aS;have bM:=Nat.le_of_ble_eq_true bM;have bh:=cS S C 0 x;rw[pc a5] at bh;have mi:=fW.cells (bh:fW B st.sites w _ a _) aJ;have hsz:(Act.eval ⟨tm,[]⟩ x).cells.size=n:=by rw[<-aS,<-mi.1];simp
    have c8:off+(Act.eval ⟨tm,[]⟩ x).cells.size<=cells.size:=by
     have:=h.1;simp at this;omega
    have:=ih (Jk.bd z off a.cells) (Jk.bd cells.toList off (Act.eval ⟨tm,[]⟩ x).cells.toList).toArray (by simpa using ch.bd off h mi)
    intro y aj hc;obtain⟨g1,iM,g2,g3⟩:=this y aj hc;refine⟨g1,iM,?_,g3⟩;simp only[List.map_cons,Instr.fill];have GU:bF.toArray[i]? =some (off,n):=by simpa using hf
    simp only[GU];have c1:¬((Act.eval ⟨tm,[]⟩ x).cells.size≠n\/off+(Act.eval ⟨tm,[]⟩ x).cells.size>cells.size):=by omega
    have c2:(decide ((Act.eval ⟨tm,[]⟩ x).cells.size≠n)||decide (off+(Act.eval ⟨tm,[]⟩ x).cells.size>cells.size))=false:=by
     simp;omega
    have iw:off+n<=cells.size:=by omega
    rw[IS _ _ _ c8];simp only[Bool.decide_or,hsz] at*;simpa[c2,iw] using g2
  ·exact .fail
theorem ZZ(S:af L J X B st tm w){C:Ctx}(ay:CtxOk P C){T:TypeId}{parts:Array (Nat×Operand)}{bF:List (Nat×Nat)}{n:Nat}{z:List au}{eq:Bool}(aY:C.tt T=.struct bF n z eq)(aq:D.op=.build T parts)
  (Y:b1 st D.dst=true):Holds (step.mm C st bF z parts.toList) (cv P L J X st tm w D):=by
 have bE:=ay.tt T;rw[aY] at bE;obtain⟨fields,dZ,⟨hf,_⟩,⟨fj,hz,hzz,hzl⟩,_⟩:=bE;obtain⟨aB,ao,bj⟩:=qB hzz;intro y aj hc;obtain⟨g1,iM,g2,g3⟩:=Ka S parts.toList z fj ⟨aB,fun j h ab=>bj _ _ _ _ j h ab⟩ y aj hc
 rw[g1];refine dq S Y (vv:=.agg iM) ?_ g3;cases hi:P.info? T with
 |none=>simp[hi] at hz
 |some TC=>
  simp only[hi,Option.map_some,Option.some.injEq,Prod.mk.injEq] at hz;have hb:P.built T (parts.toList.map fun p=>(p.1,Act.eval ⟨tm,[]⟩ p.2))=some iM:=by
   unfold Program.built;simp only[hi,dZ,hz.2,hf];exact g2
  have b5:P.built T (parts.map fun p=>(p.1,Act.eval ⟨tm,[]⟩ p.2)).toList=some iM:=by simpa using hb
  unfold execOp;simp only[aq,Sem.run_bind,run_build w T _ iM b5,Result.andThen_ok,Sem.run_pure]
end
def mf(w:World)(b:Nat)(D:Obj):World:={w with heap:=w.heap.setIfInBounds b D}
theorem Lc{b:ByteArray}{l:ak}(h:b.data.toList=l):Value.string b=gy l:=by
 subst h;rfl
def kP{aE:Type}:List (ak×aE)->ak->Nat->Option (Nat×aE)
 |[],_,_=>none
 |(k,v)::r,n,i=>bif k==n then some (i,v) else kP r n (i+1)
theorem X3{aE:Type}(n:ak):∀(es:List (ak×aE)) (i:Nat),(kP es n i).map (·.2)=jY es n:=by
 intro es;induction es with
 |nil=>intro i;rfl
 |cons p es ih=>
  intro i;simp only[kP,jY];cases p.1==n with
  |true=>rfl
  |false=>exact ih (i+1)
theorem Vx{aE:Type}(n:ak)(v:aE):∀(es:List (ak×aE)) (i:Nat),kP es n i=none->oh es n v=es++[(n,v)]:=by
 intro es;induction es with
 |nil=>intro i _;rfl
 |cons p es ih=>
  intro i h;simp only[kP] at h;simp only[oh];cases al:(p.1==n) with
  |true=>rw[al] at h;cases h
  |false=>rw[al] at h;simp only[cond_false,ih (i+1) h,List.cons_append]
theorem Wu{aE:Type}(n:ak)(v:aE):∀(es:List (ak×aE)) (i j:Nat) (v0:aE),kP es n i=some (j,v0)->i<=j/\(∃p,es[j-i]? =some p/\p.1=n)/\oh es n v=es.modify (j-i) fun p=>(p.1,v):=by
 intro es;induction es with
 |nil=>intro i j v0 h;cases h
 |cons p es ih=>
  intro i j v0 h;simp only[kP] at h;simp only[oh];cases al:(p.1==n) with
  |true=>
   rw[al] at h;cases h;refine⟨Nat.le_refl _,⟨p,by simp,eq_of_beq al⟩,?_⟩
   simp
  |false=>
   rw[al] at h;obtain⟨h1,⟨q,h2,Z⟩,aI⟩:=ih (i+1) j v0 h;have e:j-i=(j-(i+1))+1:=by omega
   refine⟨by omega,⟨q,by rw[e];simpa using h2,Z⟩,?_⟩
   rw[e,cond_false,aI,List.modify_succ_cons]
theorem IU{t:aG}(n:ak):∀(es:List (ak×den t)) (ic:List MapEntry) (i:Nat),ic.map (fun e=>(e.key,e.val))=jt t es->
  Instr.findNow .string (gy n) ic i=some ((kP es n i).map fun p=>(p.1,mR t p.2))
 |[],ic,i,h=>by
  have:ic=[]:=by simpa[jt] using h
  subst this;rfl
 |(k,v)::es,[],i,h=>by simp[jt] at h
 |(k,v)::es,m::ic,i,h=>by
  simp only[jt,List.map_cons,List.cons.injEq,Prod.mk.injEq] at h;obtain⟨⟨h1,h2⟩,Z⟩:=h;have ih:=IU n es ic (i+1) Z;have M:Instr.sameNow .string (gy n) m.key=some (k==n):=by
   rw[h1];show some ((⟨n.toArray⟩:ByteArray)==⟨k.toArray⟩)=_;rw[bytes_beq];congr 1
   rw[Bool.eq_iff_iff];simp only[beq_iff_eq];exact eq_comm
  unfold Instr.findNow kP;rw[M];cases k==n with
  |true=>simp only[cond_true,Option.map_some,h2]
  |false=>simp only[cond_false];exact ih
section
variable {P:Program}{w:World}{g7 kv T:TypeId}{t:aG}
theorem V'{g7:TypeId}(ag:P.underlying g7=some .string)(c:Bool)(s:ak)(n:Nat):(Instr.checkKey c (n+1) g7 (gy s)).run P w=.ok () w:=by
 simp[Instr.checkKey,run_underlying ag,gy,Result.andThen]
theorem tb{g7:TypeId}(ag:P.underlying g7=some .string)(c:Bool)(s:ak):(Instr.checkKey c 10000 g7 (gy s)).run P w=.ok () w:=V' ag c s 9999
theorem w5{g7:TypeId}(ag:P.underlying g7=some .string){es:List (ak×den t)}{arr:Array MapEntry}(h:mj arr=jt t es)(n:ak):
  (Instr.findKey g7 (gy n) arr.toList).run P w=.ok ((kP es n 0).map fun p=>(p.1,mR t p.2)) w:=by
 simp[Instr.findKey,run_underlying ag,IU n es arr.toList 0 h,Result.andThen]
theorem XB(s:ak):(Instr.keyThatStays (gy s) (gy s)).run P w=.ok (gy s) w:=by
 have:Instr.sameBits 10000 (gy s) (gy s)=true:=by
  show((⟨s.toArray⟩:ByteArray)==⟨s.toArray⟩)=true;rw[bytes_beq];simp
 simp[Instr.keyThatStays,this]
theorem acg{t:aG}{d:aL}{x:den t}{v:Value}{av:Nat->Prop}(h:EW t d=some x)(hr:ba w av d v):v=mR t x:=by
 unfold EW at h;split at h
 ·cases h;cases hr;rfl
 ·cases h;cases hr;rfl
 ·cases h
theorem V9(aY:P.underlying T=some (.map g7 kv))(ag:P.underlying g7=some .string){b:Nat}{arr:Array MapEntry}{clock:Nat}{es:List (ak×den t)}(hb:w.heap[b]? =some (.map arr clock))(he:mj arr=jt t es)(n:ak)(x:den t):
  ∃oH ol,(Instr.mapUpdate T (.map (some b)) (gy n) (mR t x)).run P w=.ok () (mf w b (.map oH ol))/\mj oH=jt t (oh es n x):=by
 cases hm:kP es n 0 with
 |none=>
  refine⟨arr.push ⟨gy n,mR t x,clock⟩,clock+1,?_,?_⟩
  ·have hf:=w5 (w:=w) ag he n;rw[hm] at hf;simp[Instr.mapUpdate,run_underlying aY,MapKept.run_getObj_map hb,tb ag,hf,MapKept.run_setObj_map _ hb,Result.andThen,mf]
  ·rw[Vx n x es 0 hm];unfold mj jt at he ⊢;simp[he]
 |some p=>
  obtain⟨j,v0⟩:=p;obtain⟨_,⟨q,h2,Z⟩,aI⟩:=Wu n x es 0 j v0 hm;rw[Nat.sub_zero] at h2 aI;have hlen:arr.size=es.length:=lq.size (b:=b) he;have hj:j<arr.size:=by rw[hlen];exact(List.getElem?_eq_some_iff.1 h2).1
  have aeK:((arr[j]?).map (·.key)).getD (gy n)=gy n:=by
   have bp:=congrArg (fun l=>l[j]?) he
   simp only[mj,jt,List.getElem?_map,h2,Option.map_some,Array.getElem?_toList] at bp;cases a5:arr[j]? with
   |none=>rfl
   |some e=>
    rw[a5] at bp;simp only[Option.map_some,Option.some.injEq,Prod.mk.injEq] at bp;simp[bp.1,Z]
  refine⟨arr.modify j fun e=>{e with key:=gy n,val:=mR t x},clock,?_,?_⟩
  ·have hf:=w5 (w:=w) ag he n;rw[hm] at hf;simp[Instr.mapUpdate,run_underlying aY,MapKept.run_getObj_map hb,tb ag,hf,MapKept.run_setObj_map _ hb,Result.andThen,mf,aeK,XB]
  ·rw[aI];unfold mj jt at he ⊢;apply List.ext_getElem?;intro i;have bp:=congrArg (fun l=>l[i]?) he
   simp only[List.getElem?_map,Array.getElem?_toList] at bp;simp only[List.getElem?_map,Array.getElem?_toList,Array.getElem?_modify,List.getElem?_modify];by_cases hij:j=i
   ·subst hij;simp only[if_true,h2,Option.map_some,<-Z];cases a5:arr[j]? with
    |none=>rw[a5,h2] at bp;cases bp
    |some e=>rfl
   ·simp only[hij,if_false];cases a5:arr[i]? <;>cases b5:es[i]? <;>rw[a5,b5] at bp<;>simp_all
end
section
variable {P:Program}{L:World}{J:List Nat}{X:Nat->Prop}{B:Nat->Value}{st:ad}{tm:Array Value}{w:World}{D:Oper}
theorem Bd(w:World)(b a6:Nat)(D:Obj)(h:a6≠b):(mf w b D).heap[a6]? =w.heap[a6]? :=by
 simp only[mf,Array.getElem?_setIfInBounds];rw[if_neg (fun e=>h e.symm)]
theorem T8(w:World)(b:Nat)(D cY:Obj)(h:w.heap[b]? =some cY):(mf w b D).heap[b]? =some D:=by
 have:=(Array.getElem?_eq_some_iff.1 h).1;simp[mf,Array.getElem?_setIfInBounds,this]
theorem af.aa7(S:af L J X B st tm w){o s b:Nat}{t:aG}{es sL:List (ak×den t)}{D:Obj}{oH:Array MapEntry}{ol:Nat}(hl:look st.sites o=some (.map s t es))(bR:B o=.map (some b))(hg:w.heap[b]? =some D)
  (he:mj oH=jt t sL):af L J X B {st with sites:=b3 st.sites o (.map s t sL)} tm (mf w b (.map oH ol)):=by
 have vF:b∈bA (B o):=fR (by rw[bR];rfl)
 have cn:bS st.sites o:=⟨_,hl,rfl⟩;have lw:∀F,bS (b3 st.sites o (.map s t sL)) F <-> bS st.sites F:=Jh hl rfl;have bW:∀a6,an X B (b3 st.sites o (.map s t sL)) a6 <-> an X B st.sites a6:=by
  intro a6;unfold an;simp only[lw]
 have hne:∀a6,¬an X B st.sites a6->a6≠b:=by
  rintro a6 h rfl;exact h (.inr ⟨o,cn,vF⟩)
 have hsz:(mf w b (.map oH ol)).heap.size=w.heap.size:=by simp[mf]
 refine S.ox (fun F am bm=>?_) (fun a6 h _=>Bd w b a6 _ (hne a6 h)) (fun a6 h _=>by rw[bW];exact h) (fun go F am bm=>?_) (fun F aN a6 h1 h2=>S.c' F aN a6 ((lw F).1 h1) ((lw aN).1 h2))
  (fun F a6 h=>S.b2 F a6 ((lw F).1 h)) (fun F a6 h hb=>by rw[hsz];exact S.dW ((lw F).1 h) hb) ?_ (by rw[hsz];exact Nat.le_refl _)
 ·rw[ck];by_cases e:o=F
  ·subst e;rw[hl] at bm;cases bm;exact⟨.map s t sL,by simp,Nat.le_refl _,fun _=>rfl⟩
  ·exact⟨am,by simp[e,bm],Nat.le_refl _,fun _=>rfl⟩
 ·rw[ck] at bm;by_cases e:o=F
  ·subst e;simp only[if_true,Option.some.injEq] at bm;subst bm;exact .inr ⟨b,bR,oH,ol,T8 w b _ _ hg,he⟩
  ·simp only[e,if_false] at bm;refine .inl ⟨bm,rfl,fun se a6 b5=>Bd w b a6 _ ?_⟩
   rintro rfl;exact e (S.c' o F _ cn ⟨am,bm,se⟩ vF b5)
 ·have aQ:=S.frame;refine⟨aQ.os,aQ.tape,aQ.output,by rw[hsz];exact aQ.size,fun a6 h1 h2=>?_⟩
  rw[Bd w b a6 _ ?_]
  ·exact aQ.block a6 h1 h2
  ·rintro rfl;rcases(S.b2 o _ cn vF).2 with h|h
   ·exact h2 h
   ·omega
theorem af.makeMap(S:af L J X B st tm w){o:Nat}{t:aG}:
  af L J X (fun F=>if F=o then .map (some w.heap.size) else B F) {st with sites:=b3 st.sites o (.map (aV st o) t [])} tm (w.alloc (.map #[] 0)):=
 S.make (fun b hb=>RowKit.Below.heap_alloc w _ b hb) rfl rfl rfl (by simp) (fun O M=>jm M) (fun b hb=>by have hb:=List.mem_singleton.1 hb;subst hb;exact⟨Nat.le_refl _,by simp⟩)
  (fun M bR go _ _=>⟨w.heap.size,bR,#[],0,heap_alloc_new w _,rfl⟩)
end
end Go.Jk
