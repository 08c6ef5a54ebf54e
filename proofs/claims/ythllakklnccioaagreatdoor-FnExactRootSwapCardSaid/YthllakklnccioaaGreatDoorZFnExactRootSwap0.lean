/- FnExactRootSwap: the program's RootSwap returns what the reference's returns, for all arguments. (part 1 of 6: JnCore, JnGlob, JnState, JnExec, JnFoot, JnCode, JnTurn, JnOps1, JnOps2, JnOps3, JnOps4, JnOps5, JnOps6, JnOps7, JnOps8, JnOps9, JnOps10, JnOpsD, JnOps11, JnOps12, JnOps13, JnOps14, JnOps15, JnOps16) Conditions: none beyond the statement. -/
import Derived.Calls
import Derived.Below
import Derived.WalkKit
import Derived.Laws.AppendOwn
import Derived.Great.BuildSlice
import Derived.IntWalk
import Derived.Laws.Tables
import Derived.MapKept
import Derived.Laws.BytesArg
import Derived.Lib.ConvBytes
set_option linter.unusedSimpArgs false
set_option linter.unusedVariables false
namespace Go.Jk
abbrev al:=List UInt8
structure a5 where
 path:al
 kind:Int
 mode:Int
 text:al
structure dr where
 name:al
 kind:Int
 a8:al
structure aK where
 name:al
 a8:al
 bb:List dr
 bu:List a5
structure ahV where
 name:al
 text:al
structure U_ where
 name:al
 text:al
structure Source where
 name:al
 sum:al
structure Piece where
 name:al
 eS:al
structure adj where
 name:al
 a8:al
 lets:List U_
 builds:List dr
 runs:List dr
 sources:List Source
 pieces:List Piece
 steps:List al
structure ahz where
 at_:Int
 lines:List al
inductive aG where
 |i64|u8|u32|bool|str|entry|need|pack|file|lt|source|piece|recipe|hunk|sj
 deriving DecidableEq
@[reducible] def den:aG->Type
 |.i64|.u8|.u32=>Int
 |.bool=>Bool
 |.str=>al
 |.entry=>a5
 |.need=>dr
 |.pack=>aK
 |.file=>ahV
 |.lt=>U_
 |.source=>Source
 |.piece=>Piece
 |.recipe=>adj
 |.hunk=>ahz
 |.sj=>List Bool
inductive aM:Type where
 |int (k:IntKind) (n:Int)
 |bool (b:Bool)
 |str (s:al)
 |sl (t:aG) (xs:List (den t))
 |fn (g:FuncId) (bE:List (List aM))
 |map (t:aG) (es:List (al×den t))
 |err (T:Nat) (D:Option Int)
def enc:(t:aG)->den t->List aM
 |.i64,n=>[.int .i64 n]
 |.u8,n=>[.int .u8 n]
 |.u32,n=>[.int .u32 n]
 |.bool,b=>[.bool b]
 |.str,s=>[.str s]
 |.entry,e=>[.str e.path,.int .i64 e.kind,.int .i64 e.mode,.str e.text]
 |.need,n=>[.str n.name,.int .i64 n.kind,.str n.a8]
 |.pack,p=>[.str p.name,.str p.a8,.sl .need p.bb,.sl .entry p.bu]
 |.file,f=>[.str f.name,.str f.text]
 |.lt,f=>[.str f.name,.str f.text]
 |.source,f=>[.str f.name,.str f.sum]
 |.piece,f=>[.str f.name,.str f.eS]
 |.recipe,r=>[.str r.name,.str r.a8,.sl .lt r.lets,.sl .need r.builds,.sl .need r.runs,.sl .source r.sources,.sl .piece r.pieces,.sl .str r.steps]
 |.hunk,h=>[.int .i64 h.at_,.sl .str h.lines]
 |.sj,b=>[.sl .bool b]
def ax:aG->Nat
 |.i64|.u8|.u32|.bool|.str|.sj=>1
 |.entry=>4
 |.need=>3
 |.pack=>4
 |.file|.lt|.source|.piece|.hunk=>2
 |.recipe=>8
def dec:(t:aG)->List aM->Option (den t)
 |.i64,[.int .i64 n]=>some n
 |.u8,[.int .u8 n]=>some n
 |.u32,[.int .u32 n]=>some n
 |.bool,[.bool b]=>some b
 |.str,[.str s]=>some s
 |.entry,[.str a,.int .i64 k,.int .i64 m,.str b]=>some ⟨a,k,m,b⟩
 |.need,[.str a,.int .i64 k,.str b]=>some ⟨a,k,b⟩
 |.pack,[.str a,.str b,.sl .need aA,.sl .entry es]=>some ⟨a,b,aA,es⟩
 |.file,[.str a,.str b]=>some ⟨a,b⟩
 |.lt,[.str a,.str b]=>some ⟨a,b⟩
 |.source,[.str a,.str b]=>some ⟨a,b⟩
 |.piece,[.str a,.str b]=>some ⟨a,b⟩
 |.recipe,[.str a,.str b,.sl .lt U,.sl .need bs,.sl .need ky,.sl .source aS,.sl .piece ps,.sl .str cX]=>some ⟨a,b,U,bs,ky,aS,ps,cX⟩
 |.hunk,[.int .i64 n,.sl .str U]=>some ⟨n,U⟩
 |.sj,[.sl .bool b]=>some b
 |_,_=>none
theorem fc:∀(t:aG) (x:den t),(enc t x).length=ax t:=by
 intro t x;cases t<;>rfl
theorem iS(t:aG):0<ax t:=by cases t<;>decide
theorem nD:∀(t:aG) (ds:List aM) (x:den t),dec t ds=some x->enc t x=ds:=by
 intro t ds x h;unfold dec at h;split at h<;>first|(cases h;rfl)|cases h
def flat(t:aG)(xs:List (den t)):List aM:=xs.flatMap (enc t)
theorem dR(t:aG)(xs:List (den t)):(flat t xs).length=xs.length*ax t:=by
 unfold flat;induction xs with
 |nil=>simp
 |cons x xs ih=>simp[List.flatMap_cons,fc,ih,Nat.add_mul,Nat.add_comm]
theorem kL(t:aG)(xs ys:List (den t)):flat t (xs++ys)=flat t xs++flat t ys:=by
 simp[flat,List.flatMap_append]
theorem flat_get(t:aG)(xs:List (den t))(i j:Nat)(x:den t)(hx:xs[i]? =some x)(hj:j<ax t):
  (flat t xs)[i*ax t+j]? =(enc t x)[j]? :=by
 induction xs generalizing i with
 |nil=>simp at hx
 |cons y ys ih=>
  cases i with
  |zero=>
   simp only[List.getElem?_cons_zero,Option.some.injEq] at hx;subst hx;simp only[Nat.zero_mul,Nat.zero_add,flat,List.flatMap_cons];rw[List.getElem?_append_left (by rw[fc];exact hj)]
  |succ i=>
   simp only[List.getElem?_cons_succ] at hx;have:=ih i hx;simp only[flat,List.flatMap_cons] at this ⊢;rw[List.getElem?_append_right (by rw[fc,Nat.add_mul];omega),fc]
   rw[<-this];congr 1
   rw[Nat.add_mul];omega
theorem aak(t:aG)(xs:List (den t))(i:Nat)(x:den t):
  flat t (xs.set i x)=(flat t xs).take (i*ax t)++(if i<xs.length then enc t x else [])++(flat t xs).drop ((i+1)*ax t):=by
 induction xs generalizing i with
 |nil=>simp[flat]
 |cons y ys ih=>
  cases i with
  |zero=>
   simp only[List.set_cons_zero,flat,List.flatMap_cons,Nat.zero_mul,List.take_zero,List.nil_append,List.length_cons,Nat.zero_lt_succ,if_true,Nat.zero_add,Nat.one_mul];rw[List.drop_append_of_le_length (by rw[fc];omega)]
   rw[show List.drop (ax t) (enc t y)=[] from List.drop_eq_nil_of_le (by rw[fc];exact Nat.le_refl _)]
   rfl
  |succ i=>
   have h:=ih i;simp only[flat] at h;simp only[List.set_cons_succ,flat,List.flatMap_cons,List.length_cons];rw[h];have e1:List.take ((i+1)*ax t) (enc t y++ys.flatMap (enc t))=enc t y++(ys.flatMap (enc t)).take (i*ax t):=by
    rw[List.take_append,List.take_of_length_le (by rw[fc,Nat.add_mul];omega),fc]
    congr 2
    rw[Nat.add_mul];omega
   have e2:List.drop ((i+1+1)*ax t) (enc t y++ys.flatMap (enc t))=(ys.flatMap (enc t)).drop ((i+1)*ax t):=by
    rw[List.drop_append,List.drop_eq_nil_of_le (by rw[fc,Nat.add_mul,Nat.add_mul];omega),fc,List.nil_append]
    congr 1
    rw[Nat.add_mul (i+1) 1];omega
   rw[e1,e2];simp only[Nat.add_lt_add_iff_right,List.append_assoc]
def qy:TypeId:=999999
def lh:TypeId:=5
def n9:List Nat:=[]
def ph(w:World):Prop:=True
theorem aem{w w':World}(h:∀b,b∈n9->w'.heap[b]? =w.heap[b]?)(k:ph w):ph w':=trivial
theorem akI{w:World}(k:ph w)(b:Nat)(h:b∈n9):b<w.heap.size:=by
 unfold n9 at h;cases h
inductive aw:Type where
 |d (v:aM)
 |nil (t:aG) -- mR nil slice
 |own (o s:Nat) -- mR whole of a row of r3 own
 |ptr (o s off:Nat) -- a pointer aod a box of r3 own
 |ee (cells:List aM) (off:Nat) -- a pointer Bn cells uP Ie only read
 |ek (o s:Nat) (t:aG) (k off:Nat) -- a pointer Bn anH k of a row of r3 own,Hu cell 'oU
 |clo (g:FuncId) (bE:List (Nat×Nat)) -- a closure over boxes of r3 own
 |cB (v:Value) -- aob this value
 |fresh (t:aG) (xs:List (den t)) -- a row uP anN else holds (ab5 caller and callee alone)
 |eK (t:aG) (xs:List (den t)) -- mR same,with mR rows in Hu elements
 |ew -- in a aeq first cell:nil,or mR aeq own address (strings.anJ)
 |any
inductive bA:Type where
 |ai (l:aw)
 |agg (U:List aw)
inductive aL:Type where
 |av (a:bA)
 |je (as:List bA)
inductive Site:Type where
 |box (s:Nat) (cells:List aw)
 |row (s:Nat) (t:aG) (xs:List (den t))
 |cS (s:Nat) (t:aG) (xs:List (den t))
 |map (s:Nat) (t:aG) (es:List (al×den t))
 |deep (s:Nat) (t:aG) (xs:List (den t)) -- a row of r3 own with mR rows in Hu elements
 |dead (s:Nat)
def Site.b2:Site->Nat
 |.box s _|.row s _ _|.cS s _ _|.map s _ _|.deep s _ _|.dead s=>s
def Site.live:Site->Bool
 |.box _ _|.row _ _ _|.map _ _ _|.deep _ _ _=>true
 |_=>false
def look{aD:Type}:List (Nat×aD)->Nat->Option aD
 |[],_=>none
 |(k,v)::r,n=>bif k.beq n then some v else look r n
def b8{aD:Type}:List (Nat×aD)->Nat->aD->List (Nat×aD)
 |[],n,v=>[(n,v)]
 |(k,w)::r,n,v=>bif k.beq n then(k,v)::r else(k,w)::b8 r n v
theorem jc{a b:Nat}(h:¬a=b):a.beq b=false:=by
 cases e:a.beq b
 ·rfl
 ·exact absurd (Nat.eq_of_beq_eq_true e) h
theorem cn{aD:Type}(l:List (Nat×aD))(n m:Nat)(v:aD):look (b8 l n v) m=if n=m then some v else look l m:=by
 induction l with
 |nil=>
  simp only[b8,look];by_cases h:n=m
  ·subst h;simp
  ·have:n.beq m=false:=jc h;simp[this,h]
 |cons p l ih=>
  obtain⟨k,w⟩:=p;simp only[b8];by_cases h:k=n
  ·subst h;simp only[Nat.beq_refl,cond_true,look];by_cases hm:k=m
   ·subst hm;simp
   ·have:k.beq m=false:=jc hm;simp[this,hm]
  ·have hb:k.beq n=false:=jc h;simp only[hb,cond_false,look];by_cases hm:k=m
   ·subst hm;have:¬n=k:=fun e=>h e.symm
    simp[this]
   ·have:k.beq m=false:=jc hm;simp[this,ih]
structure ad where
 cF:List (Nat×aL)
 sites:List (Nat×Site)
 nt:Nat
def ad.get(st:ad)(t:Nat):aL:=match look st.cF t with|some v=>v|none=>.av (.ai .any)
def ad.O(st:ad)(o:Nat):Option Site:=look st.sites o
def ad.set(st:ad)(t:Nat)(v:aL):ad:={st with cF:=b8 st.cF t v}
def ad.dp(st:ad)(o:Nat)(s:Site):ad:={st with sites:=b8 st.sites o s}
@[simp] theorem ad.Eb(st:ad)(t u:Nat)(v:aL):(st.set t v).get u=if t=u then v else st.get u:=by
 unfold ad.set ad.get;rw[cn];by_cases h:t=u<;>simp[h]
@[simp] theorem ad._B(st:ad)(t o:Nat)(v:aL):(st.set t v).O o=st.O o:=rfl
@[simp] theorem ad.acW(st:ad)(t:Nat)(v:aL):(st.set t v).nt=st.nt:=rfl
@[simp] theorem ad.Xb(st:ad)(o u:Nat)(s:Site):(st.dp o s).get u=st.get u:=rfl
@[simp] theorem ad.mj(st:ad)(o F:Nat)(s:Site):(st.dp o s).O F=if o=F then some s else st.O F:=by
 unfold ad.dp ad.O;simp only[cn]
@[simp] theorem ad.XS(st:ad)(o:Nat)(s:Site):(st.dp o s).nt=st.nt:=rfl
def nb:(t:aG)->den t->Value
 |.i64,n=>.int .i64 n
 |.bool,b=>.bool b
 |_,_=>undef
def gD(l:al):Value:=.string ⟨l.toArray⟩
def mz(arr:Array MapEntry):List (Value×Value):=arr.toList.map fun e=>(e.key,e.val)
def jC(t:aG)(es:List (al×den t)):List (Value×Value):=es.map fun p=>(gD p.1,nb t p.2)
def lF(w:World)(b:Nat)(t:aG)(es:List (al×den t)):Prop:=∃arr clock,w.heap[b]? =some (.map arr clock)/\mz arr=jC t es
theorem lF.of{w w':World}{b:Nat}{t:aG}{es:List (al×den t)}(h:w'.heap[b]? =w.heap[b]?)(m:lF w b t es):lF w' b t es:=by
 obtain⟨arr,c,h1,h2⟩:=m;exact⟨arr,c,h.trans h1,h2⟩
theorem lF.lt{w:World}{b:Nat}{t:aG}{es:List (al×den t)}(m:lF w b t es):b<w.heap.size:=by
 obtain⟨arr,c,h1,h2⟩:=m;rcases Nat.lt_or_ge b w.heap.size with h|h
 ·exact h
 ·rw[Array.getElem?_eq_none h] at h1;cases h1
inductive bj(w:World)(av:Nat->Prop):aM->Value->Prop where
 |int (k:IntKind) (n:Int):bj w av (.int k n) (.int k n)
 |bool (b:Bool):bj w av (.bool b) (.bool b)
 |str (l:al) (s:ByteArray) (h:s.data.toList=l):bj w av (.str l) (.string s)
 |nil (t:aG):bj w av (.sl t []) (.slice none 0 0)
 |sl (t:aG) (xs:List (den t)) (a:Addr) (cap:Nat) (cs:List Value) (n:Nat) (hn:n=xs.length) (hcap:n<=cap) (hb:xs≠[]->¬av a.block)
   (hl:cs.length=(flat t xs).length)
   (hc:∀j u,cs[j]? =some u->w.cell? (a.add j)=some u)
   (hr:∀j (h:j<(flat t xs).length) (ab:j<cs.length),bj w av ((flat t xs)[j]) (cs[j])):bj w av (.sl t xs) (.slice (some a) n cap)
 |fn (g:FuncId) (bE:List (List aM)) (bs:List Nat) (il:Nat->List Value) (lb:Array Value) (AQ:lb=(bs.map fun b=>Value.pointer (some ⟨b,0,none⟩)).toArray) (pe:bs.length=bE.length)
   (hb:∀b,b∈bs->¬av b) (aX:∀b,b∈bs->b<w.heap.size)
   (hl:∀i (h:i<bE.length),(il i).length=(bE[i]).length)
   (hc:∀i (h:i<bs.length) j u,(il i)[j]? =some u->w.cell? ⟨bs[i],j,none⟩=some u)
   (hr:∀i (h:i<bE.length) j (h1:j<(bE[i]).length) (h2:j<(il i).length),bj w av ((bE[i])[j]) ((il i)[j])):
   bj w av (.fn g bE) (.func (.func g) #[] lb)
 |sx (t:aG):bj w av (.map t []) (.map none)
 |map (t:aG) (es:List (al×den t)) (b:Nat) (hb:¬av b) (hm:lF w b t es):bj w av (.map t es) (.map (some b))
 |p' (T:TypeId):bj w av (.err T none) .nilIface
 |err (T:TypeId) (n:Int):bj w av (.err T (some n)) (.iface T (.agg #[.int .i64 n]))
theorem bj.h4{w:World}{av:Nat->Prop}{d:aM}{v:Value}(r:bj w av d v):v.oneCell'=true:=by
 cases r<;>rfl
def va(v:Value):Prop:=v=.slice none 0 0\/∃b n c,v=.slice (some ⟨b,0,none⟩) n c
def a7:Value->Option Nat
 |.slice (some a) _ _=>some a.block
 |.pointer (some a)=>some a.block
 |.map (some b)=>some b
 |_=>none
def bY:Value->Value
 |.tuple vs=>vs.toList.headD undef
 |v=>v
def bI:Value->List Nat
 |.tuple vs=>vs.toList.flatMap fun v=>(a7 v).toList
 |v=>(a7 v).toList
theorem fW{v:Value}{b:Nat}(h:a7 v=some b):b∈bI v:=by
 cases v<;>first|(show b∈(a7 _).toList;rw[h];simp)|cases h
section
variable (B:Nat->Value)(sites:List (Nat×Site))(w:World)(av:Nat->Prop)
def Ref(o s:Nat)(p:Prop):Prop:=∃O,look sites o=some O/\s<=O.b2/\(O.b2=s->p)
def dk:aw->Value->Prop
 |.d x,v=>bj w av x v
 |.nil _,v=>v=.slice none 0 0
 |.own o s,v=>v.oneCell'=true/\Ref sites o s (v=bY (B o))
 |.ptr o s off,v=>∃b,v=.pointer (some ⟨b,off,none⟩)/\Ref sites o s (bY (B o)=.pointer (some ⟨b,0,none⟩))
 |.ee cells off,v=>∃b D,v=.pointer (some ⟨b,D+off,none⟩)/\¬av b/\b<w.heap.size/\∃cs:List Value,cs.length=cells.length/\(∀j u,cs[j]? =some u->w.cell? ⟨b,D+j,none⟩=some u)/\
   ∀j (h:j<cells.length) (ab:j<cs.length),bj w av (cells[j]) (cs[j])
 |.ek o s t k off,v=>∃b,v=.pointer (some ⟨b,k*ax t+off,none⟩)/\Ref sites o s (∃n c,bY (B o)=.slice (some ⟨b,0,none⟩) n c)
 |.clo g bE,v=>∃vs:List Value,v=.func (.func g) #[] vs.toArray/\vs.length=bE.length/\∀i (h:i<bE.length) (ab:i<vs.length),Ref sites (bE[i]).1 (bE[i]).2 (vs[i]=bY (B (bE[i]).1))
 |.cB u,v=>v=u
 |.fresh _ _,_=>False
 |.eK _ _,_=>False
 |.ew,_=>True
 |.any,_=>True
def aG.en:aG->Bool
 |.u8=>true
 |_=>false
def k7(u:Bool)(e:TypeId)(cur:Array Value)(bG:Nat×Nat):Prop:=(u=true->e=lh)/\(bG=(0,0)\/u=true/\cur.size<=bG.1)
def rowAt(w:World)(u:Bool)(e:TypeId)(size:Nat)(v:Value)(n:Nat)(xs:List Value):Prop:=
 xs.length=n*size/\((v=.slice none 0 0/\n=0)\/
  ∃g cap cur bG,v=.slice (some ⟨g,0,none⟩) n cap/\k7 u e cur bG/\w.heap[g]? =some (.cells cur e bG)/\n<=cap/\cap<=maxLen/\cur.size=cap*size/\cur.toList.take (n*size)=xs)
theorem tB(w:World)(u:Bool)(e:TypeId)(size:Nat):rowAt w u e size (.slice none 0 0) 0 []:=⟨by simp,.inl ⟨rfl,rfl⟩⟩
theorem iv{w:World}{u:Bool}{e:TypeId}{size:Nat}{v:Value}{n:Nat}{xs:List Value}(h:rowAt w u e size v n xs):bY v=v/\bI v=(a7 v).toList:=by
 rcases h.2 with⟨rfl,_⟩|⟨g,cap,cur,bG,rfl,_⟩<;>exact⟨rfl,rfl⟩
theorem tV{w:World}{u:Bool}{e:TypeId}{size:Nat}{v:Value}{n:Nat}{xs:List Value}{b:Nat}(h:rowAt w u e size v n xs)(hb:b∈bI v):a7 v=some b:=by
 rw[(iv h).2] at hb;simpa using hb
theorem pw{w w':World}{u:Bool}{e:TypeId}{size:Nat}{v:Value}{n:Nat}{xs:List Value}(h:rowAt w u e size v n xs)(hb:∀b,a7 v=some b->w'.heap[b]? =w.heap[b]?):rowAt w' u e size v n xs:=by
 refine⟨h.1,?_⟩;rcases h.2 with hn|⟨g,cap,cur,bG,hv,r1,r2,g9⟩
 ·exact .inl hn
 ·refine .inr ⟨g,cap,cur,bG,hv,r1,?_,g9⟩;rw[hb g (by rw[hv];rfl)];exact r2
def ch(w:World)(av:Nat->Prop)(ds:List aM)(vs:List Value):Prop:=vs.length=ds.length/\∀j (h:j<ds.length) (ab:j<vs.length),bj w av (ds[j]) (vs[j])
def aM.plain:aM->Bool
 |.sl _ _|.fn _ _|.map _ _=>false
 |_=>true
inductive Deep(w:World)(av:Nat->Prop):List aM->List Value->List Value->Prop where
 |nil:Deep w av [] [] []
 |row (u:aG) (ys:List (den u)) (e:TypeId) (U:List Value) (aj:∀d,d∈flat u ys->d.plain=true) {c:Value} {ds:List aM} {cs aA:List Value} (h:rowAt w u.en e (ax u) c ys.length U) (hr:ch w av (flat u ys) U) (k:Deep w av ds cs aA):Deep w av (.sl u ys::ds) (c::cs) (c::aA)
 |leaf {d:aM} {c:Value} {ds:List aM} {cs aA:List Value} (aj:d.plain=true) (h:bj w av d c) (k:Deep w av ds cs aA):Deep w av (d::ds) (c::cs) aA
def mJ(cells:List aw)(T:TypeId)(cur:List Value)(b:Nat):Prop:=cells.head?=some .ew->T=qy/\(cur.head?=some (.pointer none)\/cur.head?=some (.pointer (some ⟨b,0,none⟩)))
def f_:bA->Value->Prop
 |.ai l,v=>dk B sites w av l v
 |.agg U,v=>∃vs:List Value,v=.agg vs.toArray/\vs.length=U.length/\∀j (h:j<U.length) (ab:j<vs.length),dk B sites w av (U[j]) (vs[j])
def b_:aL->Value->Prop
 |.av a,v=>f_ B sites w av a v
 |.je as,v=>∃vs:List Value,v=.tuple vs.toArray/\vs.length=as.length/\∀j (h:j<as.length) (ab:j<vs.length),f_ B sites w av (as[j]) (vs[j])
def iw(o:Nat):Site->Prop
 |.box _ cells=>∃b T,∃cur:List Value,B o=.pointer (some ⟨b,0,none⟩)/\w.heap[b]? =some (.cells cur.toArray T (0,0))/\cur.length=cells.length/\
   (∀u∈cur,u.oneCell'=true)/\mJ cells T cur b/\∀j (h:j<cells.length) (ab:j<cur.length),dk B sites w av (cells[j]) (cur[j])
 |.row _ t xs=>∃e,∃cs:List Value,rowAt w t.en e (ax t) (B o) xs.length cs/\∀j (h:j<(flat t xs).length) (ab:j<cs.length),bj w av ((flat t xs)[j]) (cs[j])
 |.cS _ t xs=>bj w av (.sl t xs) (bY (B o))/\va (bY (B o))
 |.map _ t es=>∃b,B o=.map (some b)/\lF w b t es
 |.deep _ t xs=>∃e v,∃aA cs:List Value,B o=.tuple (v::aA).toArray/\(bI (B o)).Nodup/\rowAt w t.en e (ax t) v xs.length cs/\Deep w av (flat t xs) cs aA
 |.dead _=>True
end
theorem iq{v:Value}{aA:List Value}{b:Nat}:b∈bI (.tuple (v::aA).toArray) <-> a7 v=some b\/∃n,n∈aA/\a7 n=some b:=by
 simp[bI]
def bX(sites:List (Nat×Site))(o:Nat):Prop:=∃O,look sites o=some O/\O.live=true
def an(X:Nat->Prop)(B:Nat->Value)(sites:List (Nat×Site))(b:Nat):Prop:=X b\/∃o,bX sites o/\b∈bI (B o)
structure Fr(J:List Nat)(L w:World):Prop where
 os:w.os=L.os
 tape:w.tape=L.tape
 output:w.output=L.output
 size:L.heap.size<=w.heap.size
 block:∀b,b<L.heap.size->b∉J->w.heap[b]? =L.heap[b]?
theorem Fr.refl(J:List Nat)(w:World):Fr J w w:=⟨rfl,rfl,rfl,Nat.le_refl _,fun _ _ _=>rfl⟩
structure hO(w:World)(J:List Nat)(X:Nat->Prop):Prop where
 ok:ph w
 J:∀b,b∈n9->b∉J
 X:∀b,b∈n9->¬X b
 lt:∀b,b∈n9->b<w.heap.size
theorem hO.less{w:World}{J:List Nat}{X X':Nat->Prop}(G:hO w J X)(h:∀b,b∈n9->X' b->X b):hO w J X':=⟨G.ok,G.J,fun b hb hx=>G.X b hb (h b hb hx),G.lt⟩
theorem hO.ad0{w:World}{J:List Nat}{X X':Nat->Prop}(G:hO w J X)(h:∀b,X' b->X b\/b∈J):hO w J X':=⟨G.ok,G.J,fun b hb hx=>(h b hx).elim (G.X b hb) (G.J b hb),G.lt⟩
structure ah(L:World)(J:List Nat)(X:Nat->Prop)(B:Nat->Value)(st:ad)(tm:Array Value)(w:World):Prop where
 nt:tm.size=st.nt
 cF:∀t,b_ B st.sites w (an X B st.sites) (st.get t) (tm.getD t undef)
 sites:∀o O,look st.sites o=some O->iw B st.sites w (an X B st.sites) o O
 df:∀o F b,bX st.sites o->bX st.sites F->b∈bI (B o)->b∈bI (B F)->o=F
 b7:∀o b,bX st.sites o->b∈bI (B o)->¬X b/\(b∈J\/L.heap.size<=b)
 frame:Fr J L w
 old:∀b,X b->b<w.heap.size
 eS:hO L J X
inductive cf:Type where
 |none
 |int (k:IntKind)
 |bool
 |str
 |ptr
 |func
 |slice (e:TypeId) (t:aG) (bytes:Nat)
 |struct (bM:List (Nat×Nat)) (n:Nat) (z:List aw) (eq:Bool)
 |map (k e:TypeId) (t:aG)
 |arr (e:TypeId) (t:aG) (n:Nat)
 |iface
def wh:(t:aG)->Option (den t)
 |.i64|.u8|.u32=>some (0:Int)
 |.bool=>some false
 |.str=>some ([]:al)
 |_=>none
def sI:aG->Option aw
 |.i64=>some (.d (.int .i64 0))
 |.u8=>some (.d (.int .u8 0))
 |.u32=>some (.d (.int .u32 0))
 |.bool=>some (.d (.bool false))
 |.str=>some (.d (.str []))
 |_=>none
def cf.agg:cf->Bool
 |.struct _ _ _ _|.arr _ _ _=>true
 |_=>false
def cf.known:cf->Bool
 |.none=>false
 |_=>true
def cf.size:cf->Nat
 |.struct _ n _ _=>n
 |.arr _ _ n=>n
 |_=>1
def cf.zero:cf->Option (List aw)
 |.none=>Option.none
 |.int k=>some [.d (.int k 0)]
 |.bool=>some [.d (.bool false)]
 |.str=>some [.d (.str [])]
 |.ptr=>some [.cB (.pointer Option.none)]
 |.func=>some [.cB .nilFunc]
 |.slice _ t _=>some [.nil t]
 |.struct _ _ z _=>some z
 |.map _ _ _=>some [.cB (.map Option.none)]
 |.arr _ t n=>(sI t).map (List.replicate n)
 |.iface=>some [.cB .nilIface]
inductive Arg:Type where
 |av (a:bA)
 |dJ (cells:List aw)
structure u9:Type 1 where
 H:Type
 comp:Option H
 dJ:H->List (List aw)
 eQ:H->List bA
 ey:H->List aw -- rows uP an2 aek,as an3 aoq back
abbrev aU:=List Arg->u9
def u9.fail:u9:=⟨Unit,Option.none,fun _=>[],fun _=>[],fun _=>[]⟩
structure Ctx:Type 1 where
 tt:TypeId->cf
 bM:FuncId->Option aU
 kw:FuncId->Option FuncId:=fun _=>none
 nf:FuncId->Bool:=fun _=>false
 op:FuncId->Bool:=fun _=>false
 ha:FuncId->Bool:=fun _=>false -- a Z2 copy check
 bs:FuncId->Bool:=fun _=>false -- a Z2 String
 gt:Nat->Option ((t:aG)×List (den t)):=fun _=>none -- mR anE tables
 dQ:Bool:=false -- rows of rows Ie made as r3 own,whole
structure c8:Type 1 where
 H:Type
 comp:Option H
 val:H->aL
 us:H->List (Nat×Site)
 qB:H->Bool
def c8.fail:c8:=⟨Unit,Option.none,fun _=>.av (.ai .any),fun _=>[],fun _=>false⟩
def c8.ok(v:aL):c8:=⟨Unit,some (),fun _=>v,fun _=>[],fun _=>true⟩
def c8.e9(v:aL)(us:List (Nat×Site)):c8:=⟨Unit,some (),fun _=>v,fun _=>us,fun _=>true⟩
def c8.d'{H:Type}(c:Option H)(f:H->aL):c8:=⟨H,c,f,fun _=>[],fun _=>true⟩
def c8.e4{H:Type}(c:Option H)(f:H->aL)(us:H->List (Nat×Site)):c8:=⟨H,c,f,us,fun _=>true⟩
def bl{aD:Type}(xs:List aD)(i:Int):Option aD:=if 0<=i then xs[i.toNat]? else none
def e_(n:Nat)(i:Int):Option Nat:=if 0<=i/\i<n then some i.toNat else none
def dy{aD:Type}(xs:List aD)(cG hi:Int):Option (List aD):=if 0<=cG/\cG<=hi/\hi<=xs.length then some ((xs.take hi.toNat).drop cG.toNat) else none
def room:Nat:=140737488355328
def dv{aD:Type}(bytes:Nat)(xs ys:List aD):Option (List aD):=if(xs.length+ys.length)*bytes<=room/\xs.length+ys.length<=maxLen then some (xs++ys) else none
def n_(s t:al):Option al:=if((s.length+t.length:Nat):Int)>IntKind.i64.max then none else some (s++t)
def su(k:IntKind)(x y:Int):Option Int:=if y=0 then none else some (k.wrap (x.tdiv y))
def sr(x y:Int):Option Int:=if y=0 then none else some (x.tmod y)
def FQ(k:IntKind)(x y:Int):Option Int:=if y<0 then none else some (k.wrap (x*2^(min y.toNat k.bits)))
def nK(k:IntKind)(x y:Int):Option Int:=if y<0 then none else some (x.fdiv (2^(min y.toNat k.bits)))
def lU{aD:Type}(bytes:Nat)(n c:Int)(z:aD):Option (List aD):=if 0<=n/\n<=c/\c*bytes<=room/\c<=maxLen then some (List.replicate n.toNat z) else none
def gE(x y:Int):Int:=if y>x then y else x
def z4(x y:Int):Int:=if y<x then y else x
def QZ(k:IntKind)(x y:Int):Int:=k.wrap (BitVec.ofInt k.bits x &&& BitVec.ofInt k.bits y).toNat
def Sk(k:IntKind)(x y:Int):Int:=k.wrap (BitVec.ofInt k.bits x ||| BitVec.ofInt k.bits y).toNat
def sp(k:IntKind)(x y:Int):Int:=k.wrap (BitVec.ofInt k.bits x ^^^ BitVec.ofInt k.bits y).toNat
def bytesOf(s:al):List Int:=s.map fun b=>(b.toNat:Int)
def strOf(xs:List Int):al:=xs.map fun n=>UInt8.ofNat n.toNat
abbrev one(d:aM):aL:=.av (.ai (.d d))
abbrev bP(l:aw):aL:=.av (.ai l)
def uf(ti:cf):Value->aL
 |.int k n=>one (.int k n)
 |.bool b=>one (.bool b)
 |.string s=>one (.str s.data.toList)
 |.slice none 0 0=>match ti with|.slice _ t _=>bP (.nil t)|_=>bP (.cB (.slice none 0 0))
 |.map none=>match ti with|.map _ _ t=>one (.map t [])|_=>bP (.cB (.map none))
 |.agg _|.tuple _=>bP .any
 |v=>bP (.cB v)
def aP(C:Ctx)(st:ad)(T:TypeId):Operand->aL
 |.tmp t=>st.get t
 |.const v=>uf (C.tt T) v
 |.global g=>bP (.cB (.pointer (some ⟨g,0,none⟩)))
 |.func f=>bP (.clo f [])
def rowOf(st:ad)(o s:Nat):Option ((t:aG)×List (den t)):=
 match st.O o with
 |some (.row am t xs)=>bif am.beq s then some ⟨t,xs⟩ else none
 |some (.cS am t xs)=>bif am.beq s then some ⟨t,xs⟩ else none
 |_=>none
def ly(st:ad)(o s:Nat):Option ((t:aG)×List (den t)):=
 match st.O o with
 |some (.deep am t xs)=>bif am.beq s then some ⟨t,xs⟩ else none
 |_=>none
def oR(st:ad)(o s:Nat):Option ((t:aG)×List (den t)):=match rowOf st o s with
 |some x=>some x
 |none=>ly st o s
def fv(st:ad)(o s:Nat):Option (List aw):=
 match st.O o with
 |some (.box am cells)=>bif am.beq s then some cells else none
 |_=>none
def mapOf(st:ad):aw->Option ((t:aG)×List (al×den t))
 |.d (.map t es)=>some ⟨t,es⟩
 |.own o s=>match st.O o with
  |some (.map am t es)=>bif am.beq s then some ⟨t,es⟩ else none
  |_=>none
 |_=>none
def j3{aD:Type}:List (al×aD)->al->Option aD
 |[],_=>none
 |(k,v)::r,n=>bif k==n then some v else j3 r n
def oH{aD:Type}:List (al×aD)->al->aD->List (al×aD)
 |[],n,v=>[(n,v)]
 |(k,w)::r,n,v=>bif k==n then(k,v)::r else(k,w)::oH r n v
def FO:(t:aG)->aM->Option (den t)
 |.i64,.int .i64 n=>some n
 |.bool,.bool b=>some b
 |_,_=>none
def uK:(t:aG)->Option (den t)->Option aM
 |.i64,D=>some (.int .i64 (D.getD 0))
 |.bool,D=>some (.bool (D.getD false))
 |_,_=>none
def aZ(st:ad)(o:Nat):Nat:=match st.O o with|some x=>x.b2+1|none=>0
def lO(st:ad)(o s:Nat)(t:aG)(xs:List (den t)):List (Nat×Site):=match st.O o with
 |some (.cS _ _ _)=>[]
 |_=>[(o,.cS s t xs)]
def jk(st:ad):aw->Option (aM×List (Nat×Site))
 |.d v=>some (v,[])
 |.nil t=>some (.sl t [],[])
 |.own o s=>match rowOf st o s with
  |some ⟨t,xs⟩=>some (.sl t xs,lO st o s t xs)
  |none=>match ly st o s with
   |some ⟨t,xs⟩=>some (.sl t xs,[(o,.cS s t xs)])
   |none=>none
 |.clo g []=>some (.fn g [],[])
 |_=>none
def g5(st:ad):List aw->Option (List aM×List (Nat×Site))
 |[]=>some ([],[])
 |l::U=>match jk st l,g5 st U with
  |some (d,us),some (ds,vs)=>some (d::ds,us++vs)
  |_,_=>none
def aG.gW:aG->Bool
 |.pack|.recipe|.hunk|.sj=>true
 |_=>false
def sink(st:ad):aw->Option (aM×List (Nat×Site))
 |.d (.int k n)=>some (.int k n,[])
 |.d (.bool b)=>some (.bool b,[])
 |.d (.str s)=>some (.str s,[])
 |.nil t=>some (.sl t [],[])
 |.own o s=>match st.O o with
  |some (.row am t xs)=>bif am.beq s&&!t.gW then some (.sl t xs,[(o,.dead s)]) else none
  |_=>none
 |_=>none
def sinks(st:ad):List aw->Option (List aM×List (Nat×Site))
 |[]=>some ([],[])
 |l::U=>match sink st l,sinks st U with
  |some (d,us),some (ds,vs)=>some (d::ds,us++vs)
  |_,_=>none
def bA.cells:bA->List aw
 |.ai l=>[l]
 |.agg U=>U
def aw.storable:aw->Bool
 |.any|.ew|.fresh _ _|.eK _ _|.ee _ _|.ek _ _ _ _ _=>false
 |.cB (.agg _)|.cB (.tuple _)=>false
 |_=>true
def gj:List aw->Bool
 |[]=>true
 |l::U=>l.storable&&gj U
def cut(agg:Bool)(off n:Nat)(U:List aw):Option aL:=
 bif agg then(bif Nat.ble (off+n) U.length then some (.av (.agg ((U.drop off).take n))) else none)
 else match U.drop off with|l::_=>some (bP l)|[]=>none
def cC(ds:List aM):List aw:=ds.map .d
def a_{aD:Type}(old:List aD)(off:Nat)(new:List aD):List aD:=old.take off++new++old.drop (off+new.length)
def y7:aM->aM->Option Bool
 |.int k a,.int k' b=>if k=k' then some (a==b) else none
 |.bool a,.bool b=>some (a==b)
 |.str a,.str b=>some (a==b)
 |_,_=>none
def ug:List aw->List aw->Option Bool
 |[.d a],[.d b]=>y7 a b
 |.d a::as,.d b::bs=>match y7 a b,ug as bs with
  |some x,some y=>some (x&&y)
  |_,_=>none
 |_,_=>none
def OH(op:BinOp)(k:IntKind)(x y:Int):c8:=
 match op with
 |.add=>.ok (one (.int k (k.wrap (x+y))))
 |.sub=>.ok (one (.int k (k.wrap (x-y))))
 |.mul=>.ok (one (.int k (k.wrap (x*y))))
 |.quo=>.d' (su k x y) fun n=>one (.int k n)
 |.rem=>.d' (sr x y) fun n=>one (.int k n)
 |.and=>.ok (one (.int k (QZ k x y)))
 |.or=>.ok (one (.int k (Sk k x y)))
 |.xor=>.ok (one (.int k (sp k x y)))
 |.eql=>.ok (one (.bool (x==y)))
 |.neq=>.ok (one (.bool (x !=y)))
 |.lss=>.ok (one (.bool (decide (x<y))))
 |.leq=>.ok (one (.bool (decide (x<=y))))
 |.gtr=>.ok (one (.bool (decide (x>y))))
 |.geq=>.ok (one (.bool (decide (x>=y))))
 |_=>.fail
def Om(op:BinOp)(s t:al):c8:=
 match op with
 |.add=>.d' (n_ s t) fun r=>one (.str r)
 |.eql=>.ok (one (.bool (s==t)))
 |.neq=>.ok (one (.bool (!(s==t))))
 |.lss=>.ok (one (.bool (Op.bytesLess s t)))
 |.leq=>.ok (one (.bool (Op.bytesLess s t||s==t)))
 |.gtr=>.ok (one (.bool (!(Op.bytesLess s t||s==t))))
 |.geq=>.ok (one (.bool (!(Op.bytesLess s t))))
 |_=>.fail
def NC(op:BinOp)(k:IntKind)(a:Int)(k':IntKind)(b:Int):c8:=
 match op with
 |.shl=>.d' (FQ k a b) fun n=>one (.int k n)
 |.shr=>.d' (nK k a b) fun n=>one (.int k n)
 |op=>if k=k' then OH op k a b else .fail
def NY(op:BinOp)(ti:cf)(a b:Bool):c8:=
 match ti with
 |.bool=>match op with
  |.eql=>.ok (one (.bool (a==b)))
  |.neq=>.ok (one (.bool (!(a==b))))
  |_=>.fail
 |_=>.fail
def p_:List aw->List aw->Bool
 |[],[]=>true
 |.d (.int _ _)::z,.d (.int _ _)::l=>p_ z l
 |.d (.bool _)::z,.d (.bool _)::l=>p_ z l
 |.d (.str _)::z,.d (.str _)::l=>p_ z l
 |_,_=>false
def OZ(op:BinOp)(ti:cf)(xs ys:List aw):c8:=
 match ti with
 |.struct _ n z true=>bif xs.length.beq n&&p_ z xs then
   match ug xs ys with
   |some b=>match op with
    |.eql=>.ok (one (.bool b))
    |.neq=>.ok (one (.bool (!b)))
    |_=>.fail
   |none=>.fail
  else .fail
 |_=>.fail
def zQ(op:BinOp)(ti:cf)(D:Option Int):c8:=
 match ti with
 |.iface=>match op with
  |.eql=>.ok (one (.bool D.isNone))
  |.neq=>.ok (one (.bool D.isSome))
  |_=>.fail
 |_=>.fail
def y9:Operand->Bool
 |.const .nilIface=>true
 |_=>false
def Fa(op:BinOp)(ti:cf):aL->c8
 |.av (.ai (.d (.err _ D)))=>zQ op ti D
 |.av (.ai (.cB .nilIface))=>zQ op ti none
 |_=>.fail
def GF(op:BinOp)(ti:cf)(x y:aL):c8:=
 match x,y with
 |.av (.ai (.d (.int k a))),.av (.ai (.d (.int k' b)))=>NC op k a k' b
 |.av (.ai (.d (.str s))),.av (.ai (.d (.str t)))=>Om op s t
 |.av (.ai (.d (.bool a))),.av (.ai (.d (.bool b)))=>NY op ti a b
 |.av (.agg xs),.av (.agg ys)=>OZ op ti xs ys
 |_,_=>.fail
def r'(agg:Bool)(n:Nat)(st:ad)(a:aL):c8:=
 match a with
 |.av (.ai (.ptr o s off))=>match fv st o s with
  |some cells=>match cut agg off n cells with|some v=>.ok v|none=>.fail
  |none=>.fail
 |.av (.ai (.ee cells off))=>match cut agg off n (cC cells) with|some v=>.ok v|none=>.fail
 |.av (.ai (.ek o s u k off))=>match rowOf st o s with
  |some ⟨t,xs⟩=>if t=u/\off+n<=ax t then .d' (xs[k]?) fun x=>match cut agg off n (cC (enc t x)) with|some v=>v|none=>bP .any else .fail
  |none=>.fail
 |_=>.fail
def keys{aD:Type}:List (Nat×aD)->List Nat
 |[]=>[]
 |p::r=>p.1::keys r
def fI(n:Nat):List Nat->Bool
 |[]=>false
 |m::r=>n.beq m||fI n r
def eJ:List Nat->Bool
 |[]=>true
 |n::r=>!fI n r&&eJ r
def aM.hR:aM->Bool
 |.int _ _|.bool _|.str _=>true
 |_=>false
def rC(n:Nat)(st:ad)(a:aL)(v:bA):c8:=
 bif v.cells.length.beq n then
 match a with
 |.av (.ai (.ptr o s off))=>match fv st o s with
  |some cells=>bif Nat.ble (off+n) cells.length&&gj v.cells then .e9 (bP (.cB undef)) [(o,.box s (a_ cells off v.cells))] else .fail
  |none=>.fail
 |.av (.ai (.ek o s u k off))=>match st.O o with
  |some (.row am t xs)=>bif am.beq s&&Nat.ble (off+n) (ax t)&&decide (t=u) then
    match g5 st v.cells with
    |some (ds,us)=>bif(look us o).isNone then .e4 ((xs[k]?).bind fun x=>dec t (a_ (enc t x) off ds)) (fun _=>bP (.cB undef)) fun x=>us++[(o,.row s t (xs.set k x))] else .fail
    |none=>.fail
   else .fail
  |some (.deep am t xs)=>bif am.beq s&&decide (t=u) then(bif off.beq 0&&n.beq (ax t) then
    match sinks st v.cells with
    |some (ds,us)=>bif(look us o).isNone&&eJ (keys us) then .e4 ((xs[k]?).bind fun _=>dec t ds) (fun _=>bP (.cB undef)) fun x=>us++[(o,.deep s t (xs.set k x))] else .fail
    |none=>.fail
   else match v.cells with
    |[.d d]=>bif d.hR&&Nat.blt off (ax t) then .e4 ((xs[k]?).bind fun x=>dec t (a_ (enc t x) off [d])) (fun _=>bP (.cB undef)) fun x=>[(o,.deep s t (xs.set k x))] else .fail
    |_=>.fail)
   else .fail
  |_=>.fail
 |_=>.fail
 else .fail
def qX(u:aG)(st:ad)(x:aL)(i:Int):c8:=
 match x with
 |.av (.ai (.d (.sl t xs)))=>if t=u then .d' (bl xs i) fun x=>bP (.ee (enc t x) 0) else .fail
 |.av (.ai (.own o s))=>match oR st o s with
  |some ⟨t,xs⟩=>if t=u then .d' (e_ xs.length i) fun k=>bP (.ek o s t k 0) else .fail
  |none=>.fail
 |_=>.fail
def B0(off:Nat):aL->c8
 |.av (.ai (.ptr o s D))=>.ok (bP (.ptr o s (D+off)))
 |.av (.ai (.ee cells D))=>.ok (bP (.ee cells (D+off)))
 |.av (.ai (.ek o s t k D))=>.ok (bP (.ek o s t k (D+off)))
 |_=>.fail
def h7(k5:Int):Option aL->Option Int
 |none=>some k5
 |some (.av (.ai (.d (.int _ n))))=>some n
 |some _=>none
def rF(ti:cf)(st:ad)(x:aL)(cG hi:Option aL):c8:=
 match x with
 |.av (.ai (.d (.str s)))=>match ti,h7 0 cG,h7 s.length hi with
  |.str,some l,some h=>.d' (dy s l h) fun r=>one (.str r)
  |_,_,_=>.fail
 |.av (.ai (.d (.sl t xs)))=>match ti,h7 0 cG,h7 xs.length hi with
  |.slice _ u _,some l,some h=>if t=u then .d' (dy xs l h) fun r=>one (.sl t r) else .fail
  |_,_,_=>.fail
 |.av (.ai (.nil t))=>match ti,h7 0 cG,h7 0 hi with
  |.slice _ _ _,some l,some h=>.d' (dy ([]:List (den t)) l h) fun r=>one (.sl t r)
  |_,_,_=>.fail
 |.av (.ai (.own o s))=>match rowOf st o s with
  |some ⟨t,xs⟩=>match ti,h7 0 cG,h7 xs.length hi with
   |.slice _ u _,some l,some h=>if t=u then .e4 (dy xs l h) (fun r=>one (.sl t r)) fun _=>lO st o s t xs else .fail
   |_,_,_=>.fail
  |none=>.fail
 |_=>.fail
def sy(ti:cf)(st:ad)(x:aL):c8:=
 match ti,x with
 |.str,.av (.ai (.d (.str s)))=>.ok (one (.int .i64 s.length))
 |.slice _ _ _,.av (.ai (.d (.sl _ xs)))=>.ok (one (.int .i64 xs.length))
 |.slice _ _ _,.av (.ai (.nil _))=>.ok (one (.int .i64 0))
 |.slice _ _ _,.av (.ai (.own o s))=>match oR st o s with
  |some ⟨_,xs⟩=>.ok (one (.int .i64 xs.length))
  |none=>.fail
 |.map _ _ _,.av (.ai l)=>match mapOf st l with
  |some ⟨_,es⟩=>.ok (one (.int .i64 es.length))
  |none=>.fail
 |_,_=>.fail
def rV(st:ad):aL->Option aM
 |.av (.ai (.d (.sl t xs)))=>some (.sl t xs)
 |.av (.ai (.d (.str s)))=>some (.str s)
 |.av (.ai (.nil t))=>some (.sl t [])
 |.av (.ai (.own o s))=>match rowOf st o s with|some ⟨t,xs⟩=>some (.sl t xs)|none=>none
 |_=>none
def pI(bytes:Nat)(t:aG)(dst:Nat)(st:ad)(s:aL)(ys:List (den t)):c8:=
 match s with
 |.av (.ai (.nil _))=>.e4 (dv bytes [] ys) (fun _=>bP (.own dst (aZ st dst))) fun r=>[(dst,.row (aZ st dst) t r)]
 |.av (.ai (.own o s))=>match st.O o with
  |some (.row am bk xs)=>bif am.beq s then
    if ab:bk=t then .e4 (dv bytes (ab▸xs:List (den t)) ys) (fun _=>bP (.own dst (aZ (st.dp o (.dead s)) dst)))
     fun r=>[(o,.dead s),(dst,.row (aZ (st.dp o (.dead s)) dst) t r)]
    else .fail
   else .fail
  |_=>.fail
 |_=>.fail
def ry(bytes:Nat)(t:aG)(dst:Nat)(st:ad)(s x:aL):c8:=
 match rV st x with
 |none=>.fail
 |some d=>match d with
  |.sl u ys=>if h:u=t then pI bytes t dst st s (h▸ys:List (den t)) else .fail
  |_=>.fail
def rA(bytes:Nat)(t:aG)(dst:Nat)(st:ad)(s x:aL):c8:=
 match x with
 |.av (.ai (.own F u))=>match ly st F u with
  |some ⟨bk,ys⟩=>if h:bk=t then(match s with
   |.av (.ai (.nil _))=>.e4 (dv bytes [] (h▸ys:List (den t))) (fun _=>bP (.own dst (aZ (st.dp F (.dead u)) dst))) fun r=>[(F,.dead u),(dst,.deep (aZ (st.dp F (.dead u)) dst) t r)]
   |.av (.ai (.own o s))=>match ly st o s with
    |some ⟨t2,xs⟩=>if h2:t2=t then(bif o.beq F then .fail else
      .e4 (dv bytes (h2▸xs:List (den t)) (h▸ys)) (fun _=>bP (.own dst (aZ ((st.dp F (.dead u)).dp o (.dead s)) dst)))
       fun r=>[(F,.dead u),(o,.dead s),(dst,.deep (aZ ((st.dp F (.dead u)).dp o (.dead s)) dst) t r)]) else .fail
    |none=>.fail
   |_=>.fail) else .fail
  |none=>.fail
 |_=>.fail
def un(st:ad):aL->Bool
 |.av (.ai (.own o s))=>(ly st o s).isSome
 |_=>false
def rz(bytes:Nat)(t:aG)(dst:Nat)(st:ad)(s x:aL):c8:=
 match x with
 |.av (.ai (.d (.str y)))=>if h:t=.u8 then pI bytes t dst st s (h▸(bytesOf y:List (den .u8))) else .fail
 |_=>.fail
def p0(dQ:Bool)(bytes o:Nat)(st:ad)(ty:aG)(n m:Int)(z:List aw):c8:=match bif dQ&&ty.gW then sinks st z else none with
 |some (ds,us)=>match dec ty ds with
  |some ea=>bif us.isEmpty then .e4 (lU bytes n m ea) (fun _=>bP (.own o (aZ st o))) fun r=>[(o,.deep (aZ st o) ty r)] else .fail
  |none=>.fail
 |none=>match g5 st z with
  |some (ds,_)=>match dec ty ds with
   |some ea=>.e4 (lU bytes n m ea) (fun _=>bP (.own o (aZ st o))) fun r=>[(o,.row (aZ st o) ty r)]
   |none=>.fail
  |none=>.fail
def k6(t:aG)(st:ad):List bA->Option (List (den t)×List (Nat×Site))
 |[]=>some ([],[])
 |a::as=>match g5 st a.cells with
  |some (ds,us)=>match dec t ds,k6 t st as with
   |some x,some (xs,vs)=>some (x::xs,us++vs)
   |_,_=>none
  |none=>none
def ms(t:aG)(st:ad):List bA->Option (List (den t)×List (Nat×Site))
 |[]=>some ([],[])
 |a::as=>match sinks st a.cells with
  |some (ds,us)=>match dec t ds,ms t st as with
   |some x,some (xs,vs)=>some (x::xs,us++vs)
   |_,_=>none
  |none=>none
def lR:aL->Option bA
 |.av a=>some a
 |.je _=>none
def mI:List aL->Option (List bA)
 |[]=>some []
 |v::vs=>match lR v,mI vs with|some a,some as=>some (a::as)|_,_=>none
def oE:Nat->List (Nat×Operand)->Bool
 |_,[]=>true
 |n,(i,_)::r=>i.beq n&&oE (n+1) r
def isByte:cf->Bool
 |.int .u8=>true
 |_=>false
def si(C:Ctx)(src dst:TypeId)(o:Nat)(st:ad)(x:aL):c8:=
 match C.tt src,C.tt dst,x with
 |.none,_,_=>.fail
 |_,.int k,.av (.ai (.d (.int _ n)))=>.ok (one (.int k (k.wrap n)))
 |_,.str,.av (.ai (.d (.str s)))=>.ok (one (.str s))
 |.slice e .u8 _,.str,.av (.ai (.d (.sl .u8 xs)))=>bif isByte (C.tt e) then .ok (one (.str (strOf xs))) else .fail
 |.slice e .u8 _,.str,.av (.ai (.nil _))=>bif isByte (C.tt e) then .ok (one (.str [])) else .fail
 |.slice e .u8 _,.str,.av (.ai (.own F s))=>match rowOf st F s with
  |some ⟨.u8,xs⟩=>bif isByte (C.tt e) then .ok (one (.str (strOf xs))) else .fail
  |_=>.fail
 |.str,.slice e .u8 _,.av (.ai (.d (.str s)))=>bif isByte (C.tt e) then .e4 (if s.length<=maxLen then some () else none) (fun _=>bP (.own o (aZ st o))) fun _=>[(o,.row (aZ st o) .u8 (bytesOf s))] else .fail
 |_,_,_=>.fail
def kV(st:ad):List (Nat×Nat)->Option (List (List aM)×List (Nat×Site)×List Nat)
 |[]=>some ([],[],[])
 |(o,s)::r=>match fv st o s with
  |some cells=>match g5 st cells,kV st r with
   |some (ds,us),some (rest,vs,bs)=>some (ds::rest,us++vs,o::bs)
   |_,_=>none
  |none=>none
def mL(st:ad):aw->Option (aw×List (Nat×Site)×List Nat)
 |.ee cells 0=>some (.ee cells 0,[],[])
 |.clo g (c::cs)=>match kV st (c::cs) with|some (ds,us,bs)=>some (.d (.fn g ds),us,bs)|none=>none
 |l=>match jk st l with|some (d,us)=>some (.d d,us,[])|none=>none
def lB(st:ad):List aw->Option (List aw×List (Nat×Site)×List Nat)
 |[]=>some ([],[],[])
 |l::U=>match mL st l,lB st U with
  |some (a,us,bs),some (as,vs,cs)=>some (a::as,us++vs,bs++cs)
  |_,_=>none
def mH(st:ad):aw->Option (aw×List (Nat×Site))
 |.d v=>some (.d v,[])
 |.nil t=>some (.fresh t [],[])
 |.own o s=>match st.O o with
  |some (.row am t xs)=>bif am.beq s then some (.fresh t xs,[(o,.dead s)]) else none
  |some (.cS am t xs)=>bif am.beq s then some (.d (.sl t xs),[]) else none
  |some (.deep am t xs)=>bif am.beq s then some (.eK t xs,[(o,.dead s)]) else none
  |_=>none
 |.ew=>some (.ew,[])
 |.cB v=>some (.cB v,[])
 |_=>none
def uw:List aw->List aw
 |.cB (.pointer none)::r=>.ew::r
 |l=>l
def jG(st:ad):List aw->Option (List aw×List (Nat×Site))
 |[]=>some ([],[])
 |l::U=>match mH st l,jG st U with
  |some (a,us),some (as,vs)=>some (a::as,us++vs)
  |_,_=>none
structure jJ where
 as:List Arg
 et:List (Nat×Site) -- rows uP Ie et,as anL apd frozen
 fu:List Nat -- boxes uP Ie et
 gone:List (Nat×Site) -- boxes uP go over,and rows in an4
 boxes:List (Nat×Nat) -- mR boxes:O,b2
 rows:List (Option (Nat×Nat)) -- mR cells of an1 holds aek rows:a anT O,b2
def iu(st:ad):List aL->Option jJ
 |[]=>some ⟨[],[],[],[],[],[]⟩
 |.av (.ai (.ptr o s 0))::vs=>match fv st o s,iu st vs with
  |some cells,some r=>match jG st cells with
   |some (cs,gone)=>some ⟨.dJ cs::r.as,r.et,r.fu,((o,.dead s)::gone)++r.gone,(o,s)::r.boxes,r.rows⟩
   |none=>none
  |_,_=>none
 |.av (.ai l)::vs=>match mL st l,iu st vs with
  |some (a,us,bs),some r=>some ⟨.av (.ai a)::r.as,us++r.et,bs++r.fu,r.gone,r.boxes,[]⟩
  |_,_=>none
 |.av (.agg U)::vs=>match lB st U,iu st vs with
  |some (as,us,bs),some r=>some ⟨.av (.agg as)::r.as,us++r.et,bs++r.fu,r.gone,r.boxes,[]⟩
  |_,_=>none
 |_::_=>none
def lx(st:ad):aw->Option (aw×List (Nat×Site)×List (Nat×Site)×List Nat)
 |.own o s=>match mH st (.own o s) with|some (a,us)=>some (a,us,[],[])|none=>none
 |.nil t=>some (.fresh t [],[],[],[])
 |l=>match mL st l with|some (a,us,bs)=>some (a,[],us,bs)|none=>none
def lv(st:ad):List aw->Option (List aw×List (Nat×Site)×List (Nat×Site)×List Nat)
 |[]=>some ([],[],[],[])
 |l::U=>match lx st l,lv st U with
  |some (a,us,bM,bs),some (as,vs,gs,cs)=>some (a::as,us++vs,bM++gs,bs++cs)
  |_,_=>none
def aw.ri:aw->Bool
 |.fresh _ _|.eK _ _=>false
 |_=>true
def fV:List aw->Bool
 |[]=>true
 |l::U=>l.ri&&fV U
def k0(st:ad):aw->Option (Nat×Nat)
 |.own o s=>match st.O o with
  |some (.row _ _ _)|some (.deep _ _ _)=>some (o,s)
  |_=>none
 |_=>none
def nG(st:ad)(U dm:List aw):List (Option (Nat×Nat)):=bif fV dm then [] else U.map (k0 st)
def jZ(st:ad):List aL->Option jJ
 |[]=>some ⟨[],[],[],[],[],[]⟩
 |.av (.ai l)::vs=>match lx st l,jZ st vs with
  |some (a,us,U,bs),some r=>some ⟨.av (.ai a)::r.as,U++r.et,bs++r.fu,us++r.gone,r.boxes,nG st [l] [a]++r.rows⟩
  |_,_=>none
 |.av (.agg as)::vs=>match lv st as,jZ st vs with
  |some (jm,us,U,bs),some r=>some ⟨.av (.agg jm)::r.as,U++r.et,bs++r.fu,us++r.gone,r.boxes,nG st as jm++r.rows⟩
  |_,_=>none
 |_::_=>none
def rk(b:Bool)(st:ad)(vs:List aL):Option jJ:=bif b then jZ st vs else iu st vs
def aw.gW:aw->Bool
 |.d (.sl _ _)|.d (.fn _ _)|.d (.map _ _)=>true
 |.d _=>false
 |.fresh t _=>t.gW
 |.ew|.cB _|.eK _ _=>false
 |_=>true
def nr:List aw->Bool
 |[]=>false
 |l::U=>l.gW||nr U
def q4:List bA->Bool
 |[]=>false
 |a::as=>nr a.cells||q4 as
def q3:List (List aw)->Bool
 |[]=>false
 |a::as=>nr a||q3 as
def take(st:ad)(n:Nat):List aw->List aw×List (Nat×Site)
 |[]=>([],[])
 |.fresh t xs::U=>let r:=take st (n+1) U;(.own n (aZ st n)::r.1,(n,.row (aZ st n) t xs)::r.2)
 |.eK t xs::U=>let r:=take st (n+1) U;(.own n (aZ st n)::r.1,(n,.deep (aZ st n) t xs)::r.2)
 |l::U=>let r:=take st (n+1) U;(l::r.1,r.2)
def dG(st:ad)(n:Nat):List bA->List bA×List (Nat×Site)
 |[]=>([],[])
 |.ai l::as=>let x:=take st n [l];let r:=dG st (n+100) as;((match x.1 with|[fo]=>.ai fo|U=>.agg U)::r.1,x.2++r.2)
 |.agg U::as=>let x:=take st n U;let r:=dG st (n+100) as;(.agg x.1::r.1,x.2++r.2)
def eZ(st:ad):List (Nat×Nat)->List (List aw)->List (Nat×Site)
 |(o,s)::bs,cs::ct=>let x:=take st (1000000+o*100) cs;x.2++(o,.box s x.1)::eZ st bs ct
 |_,_=>[]
def oA:List (Option (Nat×Nat))->List Nat
 |[]=>[]
 |none::r=>oA r
 |some p::r=>p.1::oA r
def eL:List (Option (Nat×Nat))->List aw->List (Nat×Site)
 |some (o,s)::r,.fresh t xs::U=>(o,.row s t xs)::eL r U
 |some (o,s)::r,.eK t xs::U=>(o,.deep s t xs)::eL r U
 |_::r,_::U=>eL r U
 |_,_=>[]
def Oo:List bA->aL
 |[a]=>.av a
 |as=>.je as
def eO:List Nat->List Nat->Bool
 |[],_=>true
 |n::r,l=>!fI n l&&eO r l
def oQ(dst:Nat)(st:ad)(S:aU)(a:jJ):c8:=
 let r:=S a.as
 {H:=r.H,comp:=r.comp
  val:=fun y=>Oo (dG st (2000000+dst*10000) (r.eQ y)).1
  us:=fun y=>(bif q4 (r.eQ y)||q3 (r.dJ y)||nr (r.ey y) then a.et else [])++a.gone++(eZ st a.boxes (r.dJ y)++eL a.rows (r.ey y))++(dG st (2000000+dst*10000) (r.eQ y)).2
  qB:=fun y=>eJ (keys a.gone)&&eO (keys a.et++a.fu) (keys a.gone)&&eJ (keys ((eZ st a.boxes (r.dJ y)++eL a.rows (r.ey y))++(dG st (2000000+dst*10000) (r.eQ y)).2))&&
   eO (keys a.et++a.fu) (keys ((eZ st a.boxes (r.dJ y)++eL a.rows (r.ey y))++(dG st (2000000+dst*10000) (r.eQ y)).2))&&(!(q4 (r.eQ y)||q3 (r.dJ y)||nr (r.ey y))||a.fu.isEmpty)&&(eJ (oA a.rows)&&eO (oA a.rows) (keys (eZ st a.boxes (r.dJ y))))}
def callee(v:aL):Option (FuncId×List (Nat×Nat)):=
 match v with
 |.av (.ai (.clo g bE))=>some (g,bE)
 |_=>none
def gf(C:Ctx)(st:ad):List Operand->List TypeId->List aL
 |[],_=>[]
 |x::xs,[]=>aP C st 0 x::gf C st xs []
 |x::xs,T::cK=>aP C st T x::gf C st xs cK
def kS:List (List aM)->List Arg
 |[]=>[]
 |c::cs=>.av (.ai (.ee c 0))::kS cs
def rE(g:FuncId)(n:Nat)(st:ad):List aL->c8
 |[.av (.ai (.d (.str s))),.av (.ai (.d (.str p)))]=>.e9 (bP (.clo g [(n,aZ st n),(n+1,aZ st (n+1)),(n+2,aZ st (n+2))]))
   [(n,.box (aZ st n) [.d (.str p)]),(n+1,.box (aZ st (n+1)) [.d (.str s)]),(n+2,.box (aZ st (n+2)) [.d (.int .i64 0)])]
 |_=>.fail
def copyV(st:ad):List aL->c8
 |[.av (.ai (.ptr o s 0))]=>match st.O o with
  |some (.box am [.ew,l])=>bif am.beq s then .e9 (.je []) [(o,.box s [.ew,l])] else .fail
  |_=>.fail
 |_=>.fail
def rf(st:ad):List aL->c8
 |[.av (.ai (.ptr o s 0))]=>match fv st o s with
  |some [_,.nil .u8]=>.ok (one (.str []))
  |some [_,.own F u]=>match st.O F with
   |some (.row bF .u8 xs)=>bif bF.beq u then .e9 (one (.str (strOf xs))) [(F,.cS u .u8 xs)] else .fail
   |_=>.fail
  |_=>.fail
 |_=>.fail
def rY(n:Nat)(st:ad):List aL->c8
 |[.av (.ai (.d (.sl .u8 xs)))]=>.e9 (bP (.ptr n (aZ st n) 0)) [(n,.box (aZ st n) [.d (.sl .u8 (xs.take 2000)),.d (.int .i64 0)])]
 |_=>.fail
def ls(C:Ctx)(dst:Nat)(st:ad)(f:aL)(vs:List aL):c8:=
  match f with
  |.av (.ai (.clo g bE))=>match C.kw g with
   |some cv=>match bE with
    |[]=>rE cv (3000000+dst*10) st vs
    |_=>.fail
   |none=>bif C.op g then(match bE with
    |[]=>rY (4000000+dst) st vs
    |_=>.fail) else bif C.ha g then(match bE with
    |[]=>copyV st vs
    |_=>.fail) else bif C.bs g then(match bE with
    |[]=>rf st vs
    |_=>.fail) else match C.bM g,rk (C.nf g) st vs,kV st bE with
    |some S,some a,some (cs,us,bs)=>oQ dst st S {a with as:=a.as++kS cs,et:=a.et++us,fu:=a.fu++bs}
    |_,_,_=>.fail
  |.av (.ai (.d (.fn g bE)))=>match C.bM g,iu st vs with
    |some S,some a=>oQ dst st S {a with as:=a.as++kS bE}
    |_,_=>.fail
  |_=>.fail
def Ai(t:aG)(xs:List (den t))(n:Nat):List aw:=match wh t with
 |some z=>(List.range n).flatMap fun j=>cC (enc t (xs.getD j z))
 |none=>[]
def sF(t:aG):List aw->Option (List (den t))
 |[]=>some []
 |.d d::U=>match dec t [d],sF t U with
  |some x,some xs=>some (x::xs)
  |_,_=>none
 |_=>none
def long{aD:Type}(n:Nat)(xs:List aD):Option (List aD):=if xs.length=n then some xs else none
def pZ(o:Nat)(st:ad)(t:aG)(n:Nat)(xs:List (den t)):c8:=bif xs.length.beq n&&Nat.ble n 1000 then .e9 (bP (.ek o (aZ st o) t 0 0)) [(o,.row (aZ st o) t xs)] else .fail
def rS(o:Nat)(st:ad)(t:aG)(n:Nat):c8:=match wh t with
 |some z=>pZ o st t n (List.replicate n z)
 |none=>.fail
def sH(o:Nat)(st:ad)(t:aG)(n:Nat)(v:aL):c8:=match v with
 |.av (.agg U)=>match sF t U with
  |some xs=>pZ o st t n xs
  |none=>.fail
 |_=>.fail
def sa(st:ad)(t:aG)(n:Nat)(a:aL):c8:=match a with
 |.av (.ai (.ek o s u 0 0))=>match rowOf st o s with
  |some ⟨bk,xs⟩=>if bk=t/\bk=u then .d' (long n xs) fun xs=>.av (.agg (Ai bk xs n)) else .fail
  |none=>.fail
 |_=>.fail
def rD(st:ad)(t:aG)(n:Nat)(a:aL)(v:bA):c8:=match a,v with
 |.av (.ai (.ek o s u 0 0)),.agg U=>match st.O o with
  |some (.row am bk xs)=>if bk=t/\bk=u/\am=s then(match sF bk U with
   |some ys=>bif ys.length.beq n then .e4 (long n xs) (fun _=>bP (.cB undef)) fun _=>[(o,.row s bk ys)] else .fail
   |none=>.fail) else .fail
  |_=>.fail
 |_,_=>.fail
def qY(C:Ctx)(st:ad)(t:aG)(n:Nat)(x:aL)(i:Int):c8:=match x with
 |.av (.ai (.ek o s u 0 0))=>match rowOf st o s with
  |some ⟨bk,xs⟩=>if bk=t/\bk=u then .d' ((long n xs).bind fun xs=>e_ xs.length i) fun k=>bP (.ek o s bk k 0) else .fail
  |none=>.fail
 |.av (.ai (.cB (.pointer (some ⟨g,0,none⟩))))=>match C.gt g with
  |some ⟨bk,xs⟩=>bif decide (bk=t)&&xs.length.beq n then .d' (bl xs i) fun x=>bP (.ee (enc bk x) 0) else .fail
  |none=>.fail
 |_=>.fail
def E5(t:aG)(n:Nat)(x:aL)(i:Int):c8:=match x with
 |.av (.agg U)=>match sF t U with
  |some xs=>bif xs.length.beq n then .d' (bl xs i) fun x=>(match enc t x with|[d]=>bP (.d d)|_=>bP .any) else .fail
  |none=>.fail
 |_=>.fail
def rG(st:ad)(t:aG)(n:Nat)(x:aL)(cG hi:Option aL):c8:=match x with
 |.av (.ai (.ek o s u 0 0))=>match rowOf st o s,h7 0 cG,h7 n hi with
  |some ⟨bk,xs⟩,some l,some h=>if bk=t/\bk=u then .e4 ((long n xs).bind fun xs=>dy xs l h) (fun r=>bP (.d (.sl bk r))) fun _=>lO st o s bk xs else .fail
  |_,_,_=>.fail
 |_=>.fail
def kQ(C:Ctx)(st:ad)(D:Oper):c8:=
 match D.op with
 |.makeMap t r=>match D.dst,C.tt t with
  |some o,.map _ _ ty=>match r with
   |none=>.e9 (bP (.own o (aZ st o))) [(o,.map (aZ st o) ty [])]
   |some x=>match aP C st 0 x with
    |.av (.ai (.d (.int _ _)))=>.e9 (bP (.own o (aZ st o))) [(o,.map (aZ st o) ty [])]
    |_=>.fail
  |_,_=>.fail
 |.mapUpdate t m k x=>rK C st t m k x
 |.insert t m k x=>rK C st t m k x
 |.lookup t m k c=>match C.tt t,aP C st t m,aP C st 0 k with
  |.map _ _ ty,.av (.ai l),.av (.ai (.d (.str n)))=>match mapOf st l with
   |some ⟨u,es⟩=>bif decide (u=ty) then(match uK u (j3 es n) with
    |some d=>.ok (bif c then .je [.ai (.d d),.ai (.d (.bool (j3 es n).isSome))] else one d)
    |none=>.fail) else .fail
   |none=>.fail
  |_,_,_=>.fail
 |.makeInterface t x=>match C.tt t,aP C st t x with
  |.struct _ _ _ _,.av (.agg [.d (.int .i64 n)])=>.ok (one (.err t (some n)))
  |_,_=>.fail
 |_=>.fail
where
 rK (C:Ctx) (st:ad) (t:TypeId) (m k x:Operand):c8:=match C.tt t,aP C st t m,aP C st 0 k,aP C st 0 x with
  |.map _ _ ty,.av (.ai (.own o s)),.av (.ai (.d (.str n))),.av (.ai (.d d))=>match st.O o with
   |some (.map am u es)=>bif am.beq s&&decide (u=ty) then(match FO u d with
    |some v=>.e9 (bP (.cB undef)) [(o,.map s u (oH es n v))]
    |none=>.fail) else .fail
   |_=>.fail
  |_,_,_,_=>.fail
def step(C:Ctx)(st:ad)(D:Oper):c8:=
 match D.op with
 |.move x|.assign x=>.ok (aP C st D.type x)
 |.pick c a b=>match aP C st D.type c with
  |.av (.ai (.d (.bool true)))=>.ok (aP C st D.type a)
  |.av (.ai (.d (.bool false)))=>.ok (aP C st D.type b)
  |_=>.fail
 |.alloc elem=>match D.dst,C.tt elem with
  |some o,.arr _ t n=>rS o st t n
  |some o,ti=>match ti.zero with
   |some z=>.e9 (bP (.ptr o (aZ st o) 0)) [(o,.box (aZ st o) (bif elem.beq qy then uw z else z))]
   |none=>.fail
  |_,_=>.fail
 |.box elem x=>match D.dst,C.tt elem with
  |some o,.arr _ t n=>sH o st t n (aP C st elem x)
  |some o,_=>match lR (aP C st elem x) with
   |some a=>bif gj a.cells then .e9 (bP (.ptr o (aZ st o) 0)) [(o,.box (aZ st o) a.cells)] else .fail
   |none=>.fail
  |_,_=>.fail
 |.build t parts=>match C.tt t with
  |.struct bM _ z _=>mB C st bM z parts.toList
  |.arr _ ty n=>match sI ty with
   |some z=>mB C st ((List.range n).map fun j=>(j,1)) (List.replicate n z) parts.toList
   |none=>.fail
  |_=>.fail
 |.buildSlice t len parts=>match D.dst,C.tt t with
  |some o,.slice e ty _=>bif parts.toList.length.beq len&&oE 0 parts.toList&&Nat.ble (len*ax ty) 1000 then
    match mI (parts.toList.map fun p=>aP C st e p.2) with
    |some as=>match bif C.dQ&&ty.gW then ms ty st as else none with
     |some (xs,us)=>bif eJ (keys us)&&(look us o).isNone then .e9 (bP (.own o (aZ st o))) (us++[(o,.deep (aZ st o) ty xs)]) else .fail
     |none=>match k6 ty st as with
      |some (xs,us)=>.e9 (bP (.own o (aZ st o))) (us++[(o,.row (aZ st o) ty xs)])
      |none=>.fail
    |none=>.fail
   else .fail
  |_,_=>.fail
 |.load t a=>match C.tt t with
  |.arr _ ty n=>sa st ty n (aP C st t a)
  |ti=>bif ti.known then r' ti.agg ti.size st (aP C st t a) else .fail
 |.store t a x=>match lR (aP C st t x) with
  |some v=>match C.tt t with
   |.arr _ ty n=>rD st ty n (aP C st t a) v
   |ti=>bif ti.known then rC ti.size st (aP C st t a) v else .fail
  |none=>.fail
 |.nilCheck x=>match aP C st D.type x with
  |.av (.ai (.ptr o s f))=>.ok (bP (.ptr o s f))
  |.av (.ai (.ee cs f))=>.ok (bP (.ee cs f))
  |.av (.ai (.ek o s t k f))=>.ok (bP (.ek o s t k f))
  |_=>.fail
 |.binOp op t x y _=>bif y9 y then Fa op (C.tt t) (aP C st t x) else GF op (C.tt t) (aP C st t x) (aP C st t y)
 |.unOp op _ x=>match op,aP C st D.type x with
  |.not,.av (.ai (.d (.bool b)))=>.ok (one (.bool (!b)))
  |.neg,.av (.ai (.d (.int k n)))=>.ok (one (.int k (k.wrap (0-n))))
  |.xor,.av (.ai (.d (.int k n)))=>.ok (one (.int k (sp k (if k.signed then-1 else k.max) n)))
  |_,_=>.fail
 |.convert src dst x=>(match D.dst with|some o=>si C src dst o st (aP C st src x)|none=>.fail)
 |.makeFunc fn first captured=>match fn with
  |.func g=>bif first.toList.isEmpty then(match nI C st captured.toList with|some bE=>.ok (bP (.clo g bE))|none=>.fail) else .fail
  |_=>.fail
 |.makeSlice t l c=>match D.dst,C.tt t,aP C st 0 l,aP C st 0 c with
  |some o,.slice e ty bytes,.av (.ai (.d (.int _ n))),.av (.ai (.d (.int _ m)))=>match(C.tt e).zero with
   |some z=>p0 C.dQ bytes o st ty n m z
   |none=>.fail
  |_,_,_,_=>.fail
 |.slice t x cG hi Bq=>match Bq with
  |none=>match C.tt t with
   |.arr _ ty n=>rG st ty n (aP C st t x) (cG.map (aP C st 0)) (hi.map (aP C st 0))
   |ti=>rF ti st (aP C st t x) (cG.map (aP C st 0)) (hi.map (aP C st 0))
  |some _=>.fail
 |.fieldAddr s x f=>match C.tt s with
  |.struct bM _ _ _=>match bM[f]? with
   |some (off,_)=>B0 off (aP C st 0 x)
   |none=>.fail
  |_=>.fail
 |.indexAddr t x i=>match C.tt t,aP C st 0 i with
  |.slice _ ty _,.av (.ai (.d (.int _ n)))=>qX ty st (aP C st t x) n
  |.arr _ ty m,.av (.ai (.d (.int _ n)))=>qY C st ty m (aP C st t x) n
  |_,_=>.fail
 |.index t x i=>match C.tt t,aP C st t x,aP C st 0 i with
  |.str,.av (.ai (.d (.str s))),.av (.ai (.d (.int _ n)))=>.d' (bl s n) fun b=>one (.int .u8 b.toNat)
  |.arr _ ty m,v,.av (.ai (.d (.int _ n)))=>E5 ty m v n
  |_,_,_=>.fail
 |.extract t i=>match aP C st 0 t with
  |.je as=>match as[i]? with
   |some a=>.ok (.av a)
   |none=>.fail
  |_=>.fail
 |.call c=>match c.callee with
  |.value f=>match D.dst with
   |some d=>ls C d st (aP C st 0 f) (gf C st c.args.toList c.argTypes.toList)
   |none=>ls C 0 st (aP C st 0 f) (gf C st c.args.toList c.argTypes.toList)
  |.builtin b=>match b,D.dst,c.args.toList,c.argTypes.toList with
   |.len,_,[x],[t]=>sy (C.tt t) st (aP C st t x)
   |.append,some o,[s,x],[t,u]=>match C.tt t,C.tt u with
    |.slice _ ty bytes,.slice _ _ _=>bif un st (aP C st u x) then rA bytes ty o st (aP C st t s) (aP C st u x) else ry bytes ty o st (aP C st t s) (aP C st u x)
    |.slice _ ty bytes,.str=>rz bytes ty o st (aP C st t s) (aP C st u x)
    |_,_=>.fail
   |.max,_,[x,y],_=>match aP C st D.type x,aP C st D.type y with
    |.av (.ai (.d (.int k a))),.av (.ai (.d (.int _ b)))=>.ok (one (.int k (gE a b)))
    |_,_=>.fail
   |.max,_,[x,y,z,u,v],_=>match aP C st D.type x,aP C st D.type y,aP C st D.type z,aP C st D.type u,aP C st D.type v with
    |.av (.ai (.d (.int k a))),.av (.ai (.d (.int _ b))),.av (.ai (.d (.int _ c))),.av (.ai (.d (.int _ d))),.av (.ai (.d (.int _ e)))=>.ok (one (.int k (gE (gE (gE (gE a b) c) d) e)))
    |_,_,_,_,_=>.fail
   |.min,_,[x,y],_=>match aP C st D.type x,aP C st D.type y with
    |.av (.ai (.d (.int k a))),.av (.ai (.d (.int _ b)))=>.ok (one (.int k (z4 a b)))
    |_,_=>.fail
   |_,_,_,_=>.fail
  |_=>.fail
 |_=>kQ C st D
where
 mB (C:Ctx) (st:ad) (bM:List (Nat×Nat)):List aw->List (Nat×Operand)->c8
  |z,[]=>.ok (.av (.agg z))
  |z,(i,x)::r=>match bM[i]?,lR (aP C st 0 x) with
   |some (off,n),some a=>bif a.cells.length.beq n&&gj a.cells&&Nat.ble (off+n) z.length then mB C st bM (a_ z off a.cells) r else .fail
   |_,_=>.fail
 nI (C:Ctx) (st:ad):List Operand->Option (List (Nat×Nat))
  |[]=>some []
  |x::r=>match aP C st 0 x,nI C st r with
   |.av (.ai (.ptr o s 0)),some l=>some ((o,s)::l)
   |_,_=>none
def EM(C:Ctx)(st:ad)(D:Oper):Option (((t:aG)×List (den t))×Bool):=
 match D.op with
 |.binOp op T x (.const (.slice none 0 0)) _=>match C.tt T with
  |.slice _ _ _=>match op with
   |.eql=>match aP C st T x with
    |.av (.ai (.d (.sl t xs)))=>some (⟨t,xs⟩,false)
    |_=>none
   |.neq=>match aP C st T x with
    |.av (.ai (.d (.sl t xs)))=>some (⟨t,xs⟩,true)
    |_=>none
   |_=>none
  |_=>none
 |_=>none
def aw.names:aw->List Nat
 |.own o _|.ptr o _ _|.ek o _ _ _ _=>[o]
 |.clo _ bE=>keys bE
 |_=>[]
def cP:List aw->List Nat
 |[]=>[]
 |l::U=>l.names++cP U
def oy:List bA->List Nat
 |[]=>[]
 |a::as=>cP a.cells++oy as
def aL.names:aL->List Nat
 |.av a=>cP a.cells
 |.je as=>oy as
def wU(st:ad)(o:Nat):List Nat:=match st.O o with
 |some (.box _ cells)=>cP cells
 |_=>[]
def er(st:ad):List Nat->List Nat
 |[]=>[]
 |o::r=>o::(wU st o++er st r)
def kW:Op->List Operand
 |.move x|.assign x|.makeInterface _ x|.box _ x|.load _ x|.nilCheck x|.unOp _ _ x|.convert _ _ x|.fieldAddr _ x _|.extract x _=>[x]
 |.pick c a b=>[c,a,b]
 |.build _ ps|.buildSlice _ _ ps=>ps.toList.map (·.2)
 |.store _ a v|.binOp _ _ a v _|.makeSlice _ a v|.indexAddr _ a v|.index _ a v=>[a,v]
 |.makeFunc _ _ captured=>captured.toList
 |.slice _ x l h _=>x::(l.toList++h.toList)
 |.call c=>(match c.callee with|.value f=>[f]|_=>[])++c.args.toList
 |.lookup _ m k _=>[m,k]
 |.mapUpdate _ m k x|.insert _ m k x=>[m,k,x]
 |.makeMap _ r=>r.toList
 |_=>[]
def nz(st:ad):List Operand->List Nat
 |[]=>[]
 |.tmp t::r=>(st.get t).names++nz st r
 |_::r=>nz st r
def oB:List Operand->List Nat
 |[]=>[]
 |.tmp t::r=>t::oB r
 |_::r=>oB r
def y_:Op->Bool
 |.call c=>match c.callee with
  |.value _=>true
  |_=>false
 |_=>false
def Fh(C:Ctx):Op->List Nat
 |.makeSlice t _ _=>match C.tt t with
  |.slice e _ _=>match(C.tt e).zero with
   |some z=>cP z
   |none=>[]
  |_=>[]
 |_=>[]
def looks:Op->Bool
 |.load _ _|.store _ _ _|.slice _ _ _ _ _|.indexAddr _ _ _|.convert _ _ _|.buildSlice _ _ _|.call _|.lookup _ _ _ _|.mapUpdate _ _ _ _|.insert _ _ _ _=>true
 |_=>false
def FA(C:Ctx)(st:ad)(D:Oper):List Nat:=(bif looks D.op then er st (nz st (kW D.op)) else [])++D.dst.toList++Fh C D.op
def L4(u:Nat):List Oper->List Nat
 |[]=>[]
 |D::r=>(match D.op,D.dst with
  |.move (.tmp t),some d=>bif Nat.beq d u then [t] else []
  |_,_=>[])++L4 u r
def CM(all:List Oper):List Oper->List Nat
 |[]=>[]
 |D::r=>(match D.op with
  |.slice _ (.tmp u) _ _ _=>u::L4 u all
  |_=>[])++CM all r
def OX(st:ad)(t:Nat):List (Nat×Site):=match st.get t with
 |.av (.ai (.own o s))=>match st.O o with
  |some (.row am t xs)=>bif am.beq s then [(o,.cS am t xs)] else []
  |_=>[]
 |_=>[]
def zp(st:ad):List Nat->List (Nat×Site)
 |[]=>[]
 |t::r=>OX st t++zp st r
def ad.hs(st:ad):List (Nat×Site)->ad
 |[]=>st
 |(o,s)::r=>(st.dp o s).hs r
def ad.cu(st:ad)(dst:Option Nat)(v:aL)(us:List (Nat×Site)):ad:=
 match dst with
 |some t=>(st.hs us).set t v
 |none=>st.hs us
def b6(st:ad):Option Nat->Bool
 |some t=>Nat.blt t st.nt
 |none=>true
abbrev yN:aL:=bP (.cB undef)
section
variable {R:Type}
open Classical in
noncomputable def ns{t:aG}(xs:List (den t))(a b:Option R):Option R:=if xs=[]->a=b then b else none
def j2(C:Ctx)(st:ad)(D:Oper)(K:ad->Option R):Option R:=
 bif b6 st D.dst then(step C st D).comp.bind fun y=>bif(step C st D).qB y then K (st.cu D.dst ((step C st D).val y) ((step C st D).us y)) else none else none
noncomputable def uy(C:Ctx)(st:ad)(D:Oper)(K:ad->Option R):Option R:=
 match EM C st D with
 |some (⟨t,xs⟩,neg)=>bif b6 st D.dst then ns xs (K (st.cu D.dst (one (.bool (!neg))) [])) (K (st.cu D.dst (one (.bool neg)) [])) else none
 |none=>j2 C st D K
def rH(st:ad)(D:Oper)(K:ad->Option R):Option R:=
 bif b6 st D.dst then K (st.cu D.dst yN []) else none
noncomputable def ub(C:Ctx)(ops:Array Oper)(st:ad)(D:Oper)(K:ad->Option R):Option R:=
 match D.guard with
 |none=>uy C st D K
 |some (j,want)=>match(ops[j]?).bind (·.dst) with
  |some t=>match st.get t with
   |.av (.ai (.d (.bool b)))=>bif(bif want then b else !b) then uy C (st.set t (one (.bool want))) D K else rH (st.set t (one (.bool (!want)))) D K
   |.av (.ai (.cB (.tuple _)))=>rH st D K
   |_=>none
  |none=>none
structure pX:Type 1 where
 o:Nat
 s:Nat
 t:aG
 xs:List (den t)
 k:Nat
 off:Nat
 S:aU
 i:IntKind
 n:Int
 d1:Nat
 dQ:Nat
 v:aL
def ad.nL(st:ad)(q:pX):ad:=(st.set q.d1 (bP .any)).set q.dQ q.v
def um(C:Ctx)(st:ad)(D:Oper):Option (Nat×aL):=match D.op,D.dst,D.guard with
 |.move x,some dQ,none=>bif Nat.blt dQ st.nt then some (dQ,aP C st D.type x) else none
 |_,_,_=>none
def r4(C:Ctx)(st:ad)(o1 fg o2:Oper):Option pX:=
 match o1.op,o1.dst,o1.guard,o2.op,o2.guard with
 |.load T a,some d1,none,.call c,none=>match aP C st T a with
  |.av (.ai (.ek o s u k off))=>match st.O o,c.callee,c.args.toList with
   |some (.deep am t xs),.value (.func g),[.tmp d2,x]=>match um C (st.set d1 (bP .any)) fg with
    |some (dQ,v)=>match C.tt T,aP C ((st.set d1 (bP .any)).set dQ v) 0 x,C.bM g with
     |.slice _ _ _,.av (.ai (.d (.int i n))),some S=>bif d2.beq d1&&am.beq s&&decide (t=u)&&Nat.blt d1 st.nt&&!dQ.beq d1 then some ⟨o,am,t,xs,k,off,S,i,n,d1,dQ,v⟩ else none
     |_,_,_=>none
    |none=>none
   |_,_,_=>none
  |_=>none
 |_,_,_,_,_=>none
def OB(st:ad)(o2:Oper)(q:pX)(x:den q.t)(K:ad->Option R):List bA->List (List aw)->List aw->Option R
 |[.ai (.d d)],[],[.fresh bF mP]=>match dec q.t (a_ (enc q.t x) q.off [.sl bF mP]) with
  |some cW=>bif d.hR&&!bF.gW&&b6 st o2.dst then K ((st.nL q).cu o2.dst (one d) [(q.o,.deep q.s q.t (q.xs.set q.k cW))]) else none
  |none=>none
 |_,_,_=>none
def MK(st:ad)(o2:Oper)(q:pX)(K:ad->Option R):Option R:=
 (q.xs[q.k]?).bind fun x=>match(enc q.t x)[q.off]? with
  |some (.sl u ys)=>(q.S [.av (.ai (.fresh u ys)),.av (.ai (.d (.int q.i q.n)))]).comp.bind fun y=>
    OB st o2 q x K ((q.S [.av (.ai (.fresh u ys)),.av (.ai (.d (.int q.i q.n)))]).eQ y) ((q.S [.av (.ai (.fresh u ys)),.av (.ai (.d (.int q.i q.n)))]).dJ y) ((q.S [.av (.ai (.fresh u ys)),.av (.ai (.d (.int q.i q.n)))]).ey y)
  |_=>none
noncomputable def mv(C:Ctx)(ops:Array Oper):List Oper->ad->(ad->Option R)->Option R
 |[],st,K=>K st
 |[D],st,K=>ub C ops st D K
 |[D,o2],st,K=>ub C ops st D fun af=>mv C ops [o2] af K
 |D::fg::o2::r,st,K=>match r4 C st D fg o2 with
  |some q=>MK st o2 q fun af=>mv C ops r af K
  |none=>ub C ops st D fun af=>mv C ops (fg::o2::r) af K
structure Rec where
 D:Oper
 go:Bool
 v:aL
 us:List (Nat×Site)
 ky:List Nat
 rn:List Nat
 A7:Bool
def ur:List Nat->Bool
 |[]=>false
 |n::r=>Nat.ble 1000000 n||ur r
def sw(d:Option Nat)(l:List Nat):Bool:=match d with|some d=>fI d l|none=>false
def lK(a b:Rec):Bool:=
 sw a.D.dst b.ky||sw a.D.dst b.D.dst.toList||sw b.D.dst a.ky||
 !eO (keys a.us) (b.rn++keys b.us)||!eO (keys b.us) a.rn||(a.A7&&ur (keys b.us))||(b.A7&&ur (keys a.us))
def lD(bd:List (Nat×Rec×List Nat)):List Edge->List Nat
 |[]=>[]
 |e::r=>bif Region.binds .any e then(match look bd e.on with|some x=>e.on::(x.2++lD bd r)|none=>lD bd r) else lD bd r
def ru(i:Nat):List Edge->Bool
 |[]=>true
 |e::r=>(!Region.binds .any e||Nat.blt e.on i)&&ru i r
def rJ(wa:List Nat)(x:Rec):List (Nat×Rec×List Nat)->Bool
 |[]=>true
 |(j,y,_)::r=>(fI j wa||!lK y x)&&rJ wa x r
def MR(i:Nat):List Oper->Bool
 |[]=>false
 |D::r=>(match D.guard with|some (j,_)=>Nat.beq i j|none=>false)||MR i r
def F8(g:Bool)(v:aL)(K:aL->Option R):Option R:=
 bif g then(match v with
  |.av (.ai (.d (.bool b)))=>bif b then K (one (.bool true)) else K (one (.bool false))
  |v=>K v) else K v
def yH(C:Ctx)(g:Bool)(st:ad)(D:Oper)(gs:List Nat)(K:Rec->Option R):Option R:=
 (step C st D).comp.bind fun y=>bif(step C st D).qB y then F8 g ((step C st D).val y) fun v=>
  K ⟨D,true,v,(step C st D).us y,gs++oB (kW D.op),FA C st D,y_ D.op⟩ else none
def Da(D:Oper)(gs:List Nat)(K:Rec->Option R):Option R:=K ⟨D,false,yN,[],gs,[],false⟩
def Fc(C:Ctx)(ops:Array Oper)(g:Bool)(st:ad)(D:Oper)(K:Rec->Option R):Option R:=
 match D.guard with
 |none=>yH C g st D [] K
 |some (j,want)=>match(ops[j]?).bind (·.dst) with
  |some t=>match st.get t with
   |.av (.ai (.d (.bool b)))=>bif(bif want then b else !b) then yH C g st D [t] K else Da D [t] K
   |.av (.ai (.cB (.tuple _)))=>Da D [t] K
   |_=>none
  |none=>none
def zy(C:Ctx)(ops:Array Oper):List Oper->Nat->List (Nat×Rec×List Nat)->ad->(ad->Option R)->Option R
 |[],_,_,st,K=>K st
 |D::r,i,bd,st,K=>bif b6 st D.dst&&ru i D.after.toList then Fc C ops (MR i r) st D fun x=>
   bif rJ (lD bd D.after.toList) x bd then zy C ops r (i+1) ((i,x,lD bd D.after.toList)::bd) (st.cu D.dst x.v x.us) K else none
  else none
def MX(C:Ctx)(ops:Array Oper)(st:ad)(K:ad->Option R):Option R:=zy C ops ops.toList 0 [] (st.hs (zp st (CM ops.toList ops.toList))) K
inductive Out:Type where
 |norm (st:ad)
 |exit (id:Nat) (st:ad)
 |ret (st:ad)
structure agR:Type 1 where
 H:Type
 comp:Option H
 out:H->Out
 run:(R:Type)->H->(Out->Option R)->Option R
 run_eq:∀(R:Type) (y:H) (K:Out->Option R),run R y K=K (out y)
abbrev gM:=ad->agR
structure g6:Type 1 extends Ctx where
 nW:Nat->Option gM
def wrap(C:g6)(p:Nat)(st:ad)(K:Out->Option R)(x:Option R):Option R:=
 match C.nW p with
 |some f=>(f st).comp.bind fun y=>(f st).run R y K
 |none=>x
noncomputable def exec(C:g6):Code->Nat->ad->(Out->Option R)->Option R
 |.skip,_,st,K=>K (.norm st)
 |.region _ ops false,p,st,K=>wrap C p st K (mv C.toCtx ops ops.toList st fun af=>K (.norm af))
 |.region _ ops true,p,st,K=>wrap C p st K (MX C.toCtx ops st fun af=>K (.norm af))
 |.seq a b,p,st,K=>wrap C p st K (exec C a (2*p) st fun
  |.norm af=>exec C b (2*p+1) af K
  |D=>K D)
 |.cond c a b,p,st,K=>wrap C p st K (match aP C.toCtx st 0 c with
  |.av (.ai (.d (.bool t)))=>bif t then exec C a (2*p) st K else exec C b (2*p+1) st K
  |_=>none)
 |.block id c,p,st,K=>wrap C p st K (exec C c (2*p) st fun
  |.exit ic af=>bif ic.beq id then K (.norm af) else K (.exit ic af)
  |D=>K D)
 |.loop _,p,st,K=>wrap C p st K none
 |.rangeFunc _ _ _ _,p,st,K=>wrap C p st K none
 |.exit id,_,st,K=>K (.exit id st)
 |.ret,_,st,K=>K (.ret st)
 |_,_,_,_=>none
end
section
variable {B aB:Nat->Value}{sites bp:List (Nat×Site)}{w w':World}{av bT:Nat->Prop}
structure gG(B aB:Nat->Value)(sites bp:List (Nat×Site))(w w':World)(av bT:Nat->Prop):Prop where
 ref:∀o O,look sites o=some O->∃bH,look bp o=some bH/\O.b2<=bH.b2/\(bH.b2=O.b2->bY (aB o)=bY (B o))
 a7:∀b,¬av b->b<w.heap.size->w'.heap[b]? =w.heap[b]?
 av:∀b,¬av b->b<w.heap.size->¬bT b
theorem bj.goes{d:aM}{v:Value}(G:gG B aB sites bp w w' av bT)(M:w.heap.size<=w'.heap.size)(aor:∀b,bT b->b<w'.heap.size)(r:bj w av d v):bj w' bT d v:=by
 induction r with
 |int k n=>exact .int k n
 |bool b=>exact .bool b
 |str l s h=>exact .str l s h
 |nil t=>exact .nil t
 |sl t xs a cap cs n hn hcap hb hl hc _ ih=>
  have key:xs≠[]->a.block<w.heap.size:=by
   intro hne;have nP:0<cs.length:=by
    rw[hl,dR];exact Nat.mul_pos (List.length_pos_iff.mpr hne) (iS t)
   have:=hc 0 (cs[0]) (List.getElem?_eq_getElem nP);have h2:=World.block_lt_of_cell? w _ this;have gq:(a.add 0).block=a.block:=by unfold Addr.add;split<;>rfl
   rwa[gq] at h2
  refine .sl t xs a cap cs n hn hcap (fun hx=>G.av _ (hb hx) (key hx)) hl (fun j u hu=>?_) ih
  have iX:=hc j u hu;have hne:xs≠[]:=by
   rintro rfl;have:cs=[]:=List.eq_nil_of_length_eq_zero (by simpa[flat] using hl)
   subst this;simp at hu
  have gq:(a.add j).block=a.block:=by unfold Addr.add;split<;>rfl
  rw[World.cell?_of_block (w:=w) (a:=a.add j) (by rw[gq];exact G.a7 _ (hb hne) (key hne))]
  exact iX
 |fn g bE bs il lb AQ pe hb aX hl hc _ ih=>
  refine .fn g bE bs il lb AQ pe (fun b hm=>G.av b (hb b hm) (aX b hm)) (fun b hm=>Nat.lt_of_lt_of_le (aX b hm) M) hl (fun i hi j u hu=>?_) ih
  have iX:=hc i hi j u hu;have hm:bs[i]∈bs:=List.getElem_mem hi;rw[World.cell?_of_block (w:=w) (a:=⟨bs[i],j,none⟩) (G.a7 _ (hb _ hm) (aX _ hm))];exact iX
 |sx t=>exact .sx t
 |p' T=>exact .p' T
 |err T n=>exact .err T n
 |map t es b hb hm=>exact .map t es b (G.av b hb hm.lt) (hm.of (G.a7 b hb hm.lt))
theorem Ref.goes{o s:Nat}{p qK:Prop}(G:gG B aB sites bp w w' av bT)(h:Ref sites o s p)(aj:bY (aB o)=bY (B o)->p->qK):Ref bp o s qK:=by
 obtain⟨O,h1,h2,aa⟩:=h;obtain⟨bH,g1,g2,g3⟩:=G.ref o O h1;refine⟨bH,g1,Nat.le_trans h2 g2,fun e=>?_⟩
 have:bH.b2=O.b2:=by omega
 exact aj (g3 this) (aa (by omega))
theorem dk.goes{l:aw}{v:Value}(G:gG B aB sites bp w w' av bT)(M:w.heap.size<=w'.heap.size)(b1:∀b,bT b->b<w'.heap.size)(h:dk B sites w av l v):dk aB bp w' bT l v:=by
 cases l with
 |d x=>exact bj.goes G M b1 h
 |nil t=>exact h
 |own o s=>exact⟨h.1,Ref.goes G h.2 (fun e p=>by rw[e];exact p)⟩
 |ptr o s off=>obtain⟨b,h1,h2⟩:=h;exact⟨b,h1,Ref.goes G h2 (fun e p=>by rw[e];exact p)⟩
 |ee cells off=>
  obtain⟨b,D,hv,hb,aX,cs,hl,hc,hr⟩:=h;refine⟨b,D,hv,G.av b hb aX,Nat.lt_of_lt_of_le aX M,cs,hl,fun j u hu=>?_,fun j h1 h2=>(hr j h1 h2).goes G M b1⟩
  have iX:=hc j u hu;rw[World.cell?_of_block (w:=w) (a:=⟨b,D+j,none⟩) (G.a7 b hb aX)];exact iX
 |ek o s t k off=>obtain⟨b,h1,h2⟩:=h;exact⟨b,h1,Ref.goes G h2 (fun e p=>by rw[e];exact p)⟩
 |clo g bE=>
  obtain⟨vs,hv,hl,hr⟩:=h;exact⟨vs,hv,hl,fun i h1 h2=>Ref.goes G (hr i h1 h2) (fun e p=>p.trans e.symm)⟩
 |cB u=>exact h
 |fresh t xs=>exact h
 |eK t xs=>exact h
 |ew=>trivial
 |any=>trivial
theorem f_.goes{a:bA}{v:Value}(G:gG B aB sites bp w w' av bT)(M:w.heap.size<=w'.heap.size)(b1:∀b,bT b->b<w'.heap.size)(h:f_ B sites w av a v):f_ aB bp w' bT a v:=by
 cases a with
 |ai l=>exact dk.goes G M b1 h
 |agg U=>
  obtain⟨vs,hv,hl,hr⟩:=h;exact⟨vs,hv,hl,fun j h1 h2=>(hr j h1 h2).goes G M b1⟩
theorem b_.goes{a:aL}{v:Value}(G:gG B aB sites bp w w' av bT)(M:w.heap.size<=w'.heap.size)(b1:∀b,bT b->b<w'.heap.size)(h:b_ B sites w av a v):b_ aB bp w' bT a v:=by
 cases a with
 |av a=>exact f_.goes G M b1 h
 |je as=>
  obtain⟨vs,hv,hl,hr⟩:=h;exact⟨vs,hv,hl,fun j h1 h2=>(hr j h1 h2).goes G M b1⟩
theorem ch.goes{ds:List aM}{vs:List Value}(G:gG B aB sites bp w w' av bT)(M:w.heap.size<=w'.heap.size)(b1:∀b,bT b->b<w'.heap.size)(h:ch w av ds vs):ch w' bT ds vs:=
 ⟨h.1,fun j h1 h2=>(h.2 j h1 h2).goes G M b1⟩
theorem Deep.goes{ds:List aM}{cs aA:List Value}(G:gG B aB sites bp w w' av bT)(M:w.heap.size<=w'.heap.size)(b1:∀b,bT b->b<w'.heap.size)(h:Deep w av ds cs aA):
  (∀n,n∈aA->∀b,Jk.a7 n=some b->w'.heap[b]? =w.heap[b]?)->Deep w' bT ds cs aA:=by
 induction h with
 |nil=>intro _;exact .nil
 |row u ys e U aj h hr _ ih=>intro ag;exact .row u ys e U aj (pw h (ag _ List.mem_cons_self)) (hr.goes G M b1) (ih fun n hn=>ag n (List.mem_cons_of_mem _ hn))
 |leaf aj h _ ih=>intro ag;exact .leaf aj (h.goes G M b1) (ih ag)
theorem iw.goes{o:Nat}{O:Site}(G:gG B aB sites bp w w' av bT)(M:w.heap.size<=w'.heap.size)(b1:∀b,bT b->b<w'.heap.size)(bW:aB o=B o)
  (hb:O.live=true->∀b,b∈Jk.bI (B o)->w'.heap[b]? =w.heap[b]?) (h:iw B sites w av o O):iw aB bp w' bT o O:=by
 cases O with
 |box s cells=>
  obtain⟨b,T,cur,h1,h2,aa,aH,H8,bD⟩:=h;have:=hb rfl b (fW (by rw[h1];rfl))
  exact⟨b,T,cur,bW.trans h1,this.trans h2,aa,aH,H8,fun j g1 g2=>(bD j g1 g2).goes G M b1⟩
 |row s t xs=>
  obtain⟨e,cs,h1,h2⟩:=h;refine⟨e,cs,?_,fun j g1 g2=>(h2 j g1 g2).goes G M b1⟩
  rw[bW];exact pw h1 fun b b9=>hb rfl b (fW b9)
 |cS s t xs=>exact⟨by rw[bW];exact bj.goes G M b1 h.1,by rw[bW];exact h.2⟩
 |map s t es=>
  obtain⟨b,h1,h2⟩:=h;exact⟨b,bW.trans h1,h2.of (hb rfl b (fW (by rw[h1];rfl)))⟩
 |deep s t xs=>
  obtain⟨e,v,aA,cs,h1,h2,aa,aH⟩:=h;have ag:∀b,a7 v=some b\/(∃n,n∈aA/\a7 n=some b)->w'.heap[b]? =w.heap[b]? :=fun b h=>hb rfl b (by rw[h1];exact iq.2 h)
  exact⟨e,v,aA,cs,bW.trans h1,by rw[bW];exact h2,pw aa fun b h=>ag b (.inl h),aH.goes G M b1 fun n hn b h=>ag b (.inr ⟨n,hn,h⟩)⟩
 |dead s=>trivial
end
theorem ah.oS{L:World}{J:List Nat}{X:Nat->Prop}{B aB:Nat->Value}{st:ad}{bp:List (Nat×Site)}{tm:Array Value}{w w':World}
  (S:ah L J X B st tm w)
  (p2:∀o O,look st.sites o=some O->∃bH,look bp o=some bH/\O.b2<=bH.b2/\(bH.b2=O.b2->bY (aB o)=bY (B o)))
  (gq:∀b,¬an X B st.sites b->b<w.heap.size->w'.heap[b]? =w.heap[b]?)
  (b1:∀b,¬an X B st.sites b->b<w.heap.size->¬an X aB bp b)
  (agb:(∀{a v},b_ B st.sites w (an X B st.sites) a v->b_ aB bp w' (an X aB bp) a v)->∀o bH,look bp o=some bH->
   (look st.sites o=some bH/\aB o=B o/\(bH.live=true->∀b,b∈bI (B o)->w'.heap[b]? =w.heap[b]?))\/iw aB bp w' (an X aB bp) o bH)
  (aeh:∀o F b,bX bp o->bX bp F->b∈bI (aB o)->b∈bI (aB F)->o=F)
  (aee:∀o b,bX bp o->b∈bI (aB o)->¬X b/\(b∈J\/L.heap.size<=b))
  (aX:∀o b,bX bp o->b∈bI (aB o)->b<w'.heap.size)
  (ac3:Fr J L w') (M:w.heap.size<=w'.heap.size):
  ah L J X aB {st with sites:=bp} tm w':=by
 have G:gG B aB st.sites bp w w' (an X B st.sites) (an X aB bp):=⟨p2,gq,b1⟩;have u4:∀b,an X aB bp b->b<w'.heap.size:=by
  rintro b (hx|⟨o,h1,h2⟩)
  ·exact Nat.lt_of_lt_of_le (S.old b hx) M
  ·exact aX o b h1 h2
 refine⟨S.nt,fun t=>(S.cF t).goes G M u4,fun o bH bh=>?_,aeh,aee,ac3,fun b h=>Nat.lt_of_lt_of_le (S.old b h) M,S.eS⟩
 rcases agb (fun h=>h.goes G M u4) o bH bh with⟨h1,h2,aa⟩|h
 ·exact(S.sites o bH h1).goes G M u4 h2 aa
 ·exact h
def cl(tm:Array Value)(dst:Option Nat)(v:Value):Array Value:=
 match dst with
 |some d=>tm.setIfInBounds d v
 |none=>tm
section
variable {P:Program}{K:Act->World->Prop}{Q:Exit->Act->World->Prop}{D:Oper}{tm:Array Value}{w w':World}{vv:Value}
theorem mr(h:(execOp (Act.eval ⟨tm,[]⟩) D).run P w=.ok (.value vv) w')(ag:K ⟨cl tm D.dst vv,[]⟩ w'):D.wp P ⟨tm,[]⟩ w K Q:=by
 unfold Oper.wp;rw[h,Oper.upon_value];cases Y:D.dst with
 |none=>simp only[Y,cl] at ag;simpa[Act.put] using ag
 |some d=>simp only[Y,cl] at ag;simpa[Act.put] using ag
theorem aco(h:(execOp (Act.eval ⟨tm,[]⟩) D).run P w=.ok .skip w')(ag:K ⟨cl tm D.dst undef,[]⟩ w'):D.wp P ⟨tm,[]⟩ w K Q:=by
 unfold Oper.wp;rw[h,Oper.upon_skip];cases Y:D.dst with
 |none=>simp only[Y,cl] at ag;simpa[Act.put] using ag
 |some d=>simp only[Y,cl] at ag;simpa[Act.put] using ag
end
def aW(sites:List (Nat×Site)):List (Nat×Site)->List (Nat×Site)
 |[]=>sites
 |(o,s)::r=>aW (b8 sites o s) r
theorem ad.tR(st:ad)(us:List (Nat×Site)):st.hs us={st with sites:=aW st.sites us}:=by
 induction us generalizing st with
 |nil=>rfl
 |cons p us ih=>obtain⟨o,s⟩:=p;simp only[ad.hs,aW];rw[ih];rfl
theorem hZ(sites:List (Nat×Site))(us vs:List (Nat×Site)):aW sites (us++vs)=aW (aW sites us) vs:=by
 induction us generalizing sites with
 |nil=>rfl
 |cons p us ih=>obtain⟨o,s⟩:=p;simp only[List.cons_append,aW];exact ih _
section
variable {L:World}{J:List Nat}{X:Nat->Prop}{B:Nat->Value}{st:ad}{tm:Array Value}{w:World}
theorem ah.put(S:ah L J X B st tm w){t:Nat}{v:aL}{vv:Value}(aE:t<st.nt)(hv:b_ B st.sites w (an X B st.sites) v vv):
  ah L J X B (st.set t v) (tm.setIfInBounds t vv) w:=by
 refine⟨by simpa using S.nt,fun u=>?_,S.sites,S.df,S.b7,S.frame,S.old,S.eS⟩
 rw[ad.Eb];by_cases h:t=u
 ·subst h;simp only[if_true];have:(tm.setIfInBounds t vv).getD t undef=vv:=by
   have h1:t<tm.size:=by rw[S.nt];exact aE
   simp[Array.getD,h1]
  rw[this];exact hv
 ·simp only[h,if_false];have:(tm.setIfInBounds t vv).getD u undef=tm.getD u undef:=by
   simp only[Array.getD_eq_getD_getElem?,Array.getElem?_setIfInBounds,h,if_false]
  rw[this];exact S.cF u
theorem ah.cu{dst:Option Nat}{v:aL}{vv:Value}{us:List (Nat×Site)}(S:ah L J X B {st with sites:=aW st.sites us} tm w)
  (Y:b6 st dst=true) (hv:b_ B (aW st.sites us) w (an X B (aW st.sites us)) v vv):ah L J X B (st.cu dst v us) (cl tm dst vv) w:=by
 cases dst with
 |none=>simp only[ad.cu,ad.tR,cl];exact S
 |some t=>
  simp only[ad.cu,ad.tR,cl];have aE:t<st.nt:=by simpa[b6] using Y
  exact ah.put (st:={st with sites:=aW st.sites us}) S aE hv
theorem cV(S:ah L J X B st tm w)(C:Ctx)(T:TypeId)(x:Operand):b_ B st.sites w (an X B st.sites) (aP C st T x) (Act.eval ⟨tm,[]⟩ x):=by
 cases x with
 |tmp t=>exact S.cF t
 |const v=>
  show b_ _ _ _ _ (uf (C.tt T) v) v;unfold uf;split
  ·exact .int _ _
  ·exact .bool _
  ·exact .str _ _ rfl
  ·split<;>exact rfl
  ·split
   ·exact .sx _
   ·exact rfl
  ·trivial
  ·trivial
  ·exact rfl
 |global g=>exact rfl
 |func f=>
  refine⟨[],rfl,rfl,fun i h=>?_⟩
  simp at h
variable {P:Program}{C:Ctx}{D:Oper}{K:Act->World->Prop}{Q:Exit->Act->World->Prop}
def cz(P:Program)(L:World)(J:List Nat)(X:Nat->Prop)(st:ad)(tm:Array Value)(w:World)(D:Oper)(v:aL)(us:List (Nat×Site)):Prop:=
 ∀(K:Act->World->Prop) (Q:Exit->Act->World->Prop),(∀aB bU w',ah L J X aB (st.cu D.dst v us) bU w'->K ⟨bU,[]⟩ w')->D.wp P ⟨tm,[]⟩ w K Q
theorem dx(S:ah L J X B st tm w)(Y:b6 st D.dst=true){v:aL}{vv:Value}
  (h:(execOp (Act.eval ⟨tm,[]⟩) D).run P w=.ok (.value vv) w) (hv:b_ B st.sites w (an X B st.sites) v vv):cz P L J X st tm w D v []:=
 fun _ _ bC=>mr h (bC _ _ _ (ah.cu (us:=[]) S Y hv))
end
section
variable {P:Program}{w:World}
theorem Vs(op:BinOp)(t:TypeId)(x y:Operand)(k k':IntKind)(a b:Int):(eqGuard op t x y (.int k a) (.int k' b)).run P w=.ok () w:=by
 unfold eqGuard;cases op<;>rfl
theorem Vl(op:BinOp)(t:TypeId)(x y:Operand)(a b:ByteArray):(eqGuard op t x y (.string a) (.string b)).run P w=.ok () w:=by
 unfold eqGuard;cases op<;>rfl
theorem Jh(op:BinOp)(t:TypeId)(x y:Operand)(a b:Bool):(eqGuard op t x y (.bool a) (.bool b)).run P w=.ok () w:=by
 unfold eqGuard;cases op<;>rfl
def Holds(r:c8)(dI:aL->List (Nat×Site)->Prop):Prop:=∀y,r.comp=some y->r.qB y=true->dI (r.val y) (r.us y)
theorem Holds.fail{dI:aL->List (Nat×Site)->Prop}:Holds .fail dI:=fun _ h _=>by cases h
theorem Holds.ok{v:aL}{dI:aL->List (Nat×Site)->Prop}(h:dI v []):Holds (.ok v) dI:=fun _ _ _=>h
theorem Holds.e9{v:aL}{us:List (Nat×Site)}{dI:aL->List (Nat×Site)->Prop}(h:dI v us):Holds (.e9 v us) dI:=fun _ _ _=>h
theorem Holds.d'{H:Type}{c:Option H}{f:H->aL}{dI:aL->List (Nat×Site)->Prop}(h:∀y,c=some y->dI (f y) []):Holds (.d' c f) dI:=fun y ak _=>h y ak
theorem Holds.e4{H:Type}{c:Option H}{f:H->aL}{us:H->List (Nat×Site)}{dI:aL->List (Nat×Site)->Prop}(h:∀y,c=some y->dI (f y) (us y)):Holds (.e4 c f us) dI:=fun y ak _=>h y ak
def Plain(P:Program)(w:World)(s:Sem Value)(v:aL)(us:List (Nat×Site)):Prop:=
 ∃vv d,s.run P w=.ok vv w/\us=[]/\v=one d/\∀av,bj w av d vv
theorem Plain.mk{s:Sem Value}{vv:Value}{d:aM}(h:s.run P w=.ok vv w)(hr:∀av,bj w av d vv):Plain P w s (one d) []:=⟨vv,d,h,rfl,rfl,hr⟩
theorem Y'(op:BinOp)(T:TypeId)(k:IntKind)(a b:Int)(M:op≠.shl)(eT:op≠.shr):
  Holds (OH op k a b) (Plain P w (binOp op T (.int k a) (.int k b))):=by
 cases op with
 |shl=>exact absurd rfl M
 |shr=>exact absurd rfl eT
 |andNot=>exact .fail
 |quo=>
  refine Holds.d' fun y ak=>?_
  unfold su at ak;split at ak
  ·cases ak
  ·rename_i hb;cases ak;exact .mk (by simp[binOp,Op.intDiv,hb]) fun av=>.int _ _
 |rem=>
  refine Holds.d' fun y ak=>?_
  unfold sr at ak;split at ak
  ·cases ak
  ·rename_i hb;cases ak;exact .mk (by simp[binOp,Op.intDiv,hb]) fun av=>.int _ _
 |add=>exact Holds.ok (.mk (by simp[binOp,Op.intArith]) fun av=>.int _ _)
 |sub=>exact Holds.ok (.mk (by simp[binOp,Op.intArith]) fun av=>.int _ _)
 |mul=>exact Holds.ok (.mk (by simp[binOp,Op.intArith]) fun av=>.int _ _)
 |and=>exact Holds.ok (.mk (by simp[binOp,Op.intBits,QZ]) fun av=>.int _ _)
 |or=>exact Holds.ok (.mk (by simp[binOp,Op.intBits,Sk]) fun av=>.int _ _)
 |xor=>exact Holds.ok (.mk (by simp[binOp,Op.intBits,sp]) fun av=>.int _ _)
 |eql=>exact Holds.ok (.mk (by simp[binOp,Op.intCmp]) fun av=>.bool _)
 |neq=>exact Holds.ok (.mk (by simp[binOp,Op.intCmp]) fun av=>.bool _)
 |lss=>exact Holds.ok (.mk (by simp[binOp,Op.intCmp]) fun av=>.bool _)
 |leq=>exact Holds.ok (.mk (by simp[binOp,Op.intCmp]) fun av=>.bool _)
 |gtr=>exact Holds.ok (.mk (by simp[binOp,Op.intCmp]) fun av=>.bool _)
 |geq=>exact Holds.ok (.mk (by simp[binOp,Op.intCmp]) fun av=>.bool _)
theorem Y9(op:BinOp)(T:TypeId)(a b:ByteArray):
  Holds (Om op a.data.toList b.data.toList) (Plain P w (binOp op T (.string a) (.string b))):=by
 have e1:a.toList=a.data.toList:=ByteArray.toList_eq a;have e2:b.toList=b.data.toList:=ByteArray.toList_eq b;have cY:a.data.toList.length=a.size:=rfl;have gh:b.data.toList.length=b.size:=rfl;cases op with
 |add=>
  refine Holds.d' fun y ak=>?_
  simp only[n_,cY,gh] at ak;split at ak
  ·cases ak
  ·rename_i hc;cases ak;refine .mk (vv:=.string (a++b)) ?_ fun av=>.str _ _ (by simp[ByteArray.data_append])
   simp only[binOp,Op.stringOp,hc,if_false,Sem.run_pure]
 |eql=>exact Holds.ok (.mk (by rw[<-e1,<-e2];rfl) fun av=>.bool _)
 |neq=>exact Holds.ok (.mk (by rw[<-e1,<-e2];rfl) fun av=>.bool _)
 |lss=>exact Holds.ok (.mk (by rw[<-e1,<-e2];rfl) fun av=>.bool _)
 |leq=>exact Holds.ok (.mk (by rw[<-e1,<-e2];rfl) fun av=>.bool _)
 |gtr=>exact Holds.ok (.mk (by rw[<-e1,<-e2];rfl) fun av=>.bool _)
 |geq=>exact Holds.ok (.mk (by rw[<-e1,<-e2];rfl) fun av=>.bool _)
 |_=>exact .fail
end
def pD:aw->Option Value
 |.d (.int k n)=>some (.int k n)
 |.d (.bool b)=>some (.bool b)
 |.d (.str [])=>some (.string ⟨#[]⟩)
 |.nil _=>some (.slice none 0 0)
 |.cB (.pointer none)=>some (.pointer none)
 |.cB .nilFunc=>some .nilFunc
 |.cB (.map none)=>some (.map none)
 |.cB .nilIface=>some .nilIface
 |_=>none
def kP:List aw->Option (List Value)
 |[]=>some []
 |l::U=>match pD l,kP U with
  |some v,some vs=>some (v::vs)
  |_,_=>none
theorem J8{l:aw}{v:Value}(h:pD l=some v)(B:Nat->Value)(sites:List (Nat×Site))(w:World)(av:Nat->Prop):dk B sites w av l v/\v.oneCell'=true:=by
 unfold pD at h;split at h<;>first|cases h|skip
 ·exact⟨.int _ _,rfl⟩
 ·exact⟨.bool _,rfl⟩
 ·exact⟨.str _ _ rfl,rfl⟩
 ·exact⟨rfl,rfl⟩
 ·exact⟨rfl,rfl⟩
 ·exact⟨rfl,rfl⟩
 ·exact⟨rfl,rfl⟩
 ·exact⟨rfl,rfl⟩
theorem qV:∀{U:List aw} {vs:List Value},kP U=some vs->vs.length=U.length/\(∀u∈vs,u.oneCell'=true)/\
  ∀(B:Nat->Value) (sites:List (Nat×Site)) (w:World) (av:Nat->Prop) j (h:j<U.length) (ab:j<vs.length),dk B sites w av (U[j]) (vs[j]):=by
 intro U;induction U with
 |nil=>intro vs h;simp[kP] at h;subst h;exact⟨rfl,fun u hu=>by simp at hu,fun _ _ _ _ j h=>by simp at h⟩
 |cons l U ih=>
  intro vs h;simp only[kP] at h;split at h
  ·rename_i v cq h1 h2;cases h;obtain⟨g1,g2,g3⟩:=ih h2;refine⟨by simp[g1],fun u hu=>?_,fun B sites w av j hj jh=>?_⟩
   ·rcases List.mem_cons.1 hu with rfl|hu
    ·exact(J8 h1 (fun _=>undef) [] default (fun _=>False)).2
    ·exact g2 u hu
   ·cases j with
    |zero=>exact(J8 h1 _ _ _ _).1
    |succ j=>exact g3 B sites w av j (by simpa using hj) (by simpa using jh)
  ·cases h
def nA:Value->Value->Option Bool
 |.int k a,.int k' b=>if k=k' then some (a==b) else none
 |.bool a,.bool b=>some (a==b)
 |.string a,.string b=>some (a==b)
 |_,_=>none
def iQ:List Value->List Value->Option Bool
 |[a],[b]=>nA a b
 |a::as,b::bs=>match nA a b,iQ as bs with
  |some x,some y=>some (x&&y)
  |_,_=>none
 |_,_=>none
def o4:List aw->List Value->Bool
 |[],[]=>true
 |.d (.int _ _)::z,.int _ _::l=>o4 z l
 |.d (.bool _)::z,.bool _::l=>o4 z l
 |.d (.str _)::z,.string _::l=>o4 z l
 |_,_=>false
def iE(P:Program)(T:TypeId)(d:TypeDesc)(z:Value):Prop:=
 P.underlying T=some d/\(∀bM,d≠.struct bM)/\(∀n e,d≠.array n e)/\(P.info? T).map (fun i=>(i.size,i.zero))=some (1,some z)
def mapElem(P:Program)(e:TypeId):aG->Prop
 |.i64=>iE P e (.int .i64) (.int .i64 0)
 |.bool=>iE P e .bool (.bool false)
 |_=>False
def Er(P:Program)(e:TypeId):aG->Prop
 |.i64=>iE P e (.int .i64) (.int .i64 0)
 |.u32=>iE P e (.int .u32) (.int .u32 0)
 |.bool=>iE P e .bool (.bool false)
 |.str=>iE P e .string (.string ⟨#[]⟩)
 |_=>False
def cf.ok(P:Program)(T:TypeId):cf->Prop
 |.none=>True
 |.int k=>iE P T (.int k) (.int k 0)
 |.bool=>iE P T .bool (.bool false)
 |.str=>iE P T .string (.string ⟨#[]⟩)
 |.ptr=>∃e,iE P T (.pointer e) (.pointer Option.none)
 |.func=>∃ps ky v,iE P T (.func ps ky v) .nilFunc
 |.slice e t bytes=>iE P T (.slice e) (.slice Option.none 0 0)/\∃z,(P.info? e).map (fun i=>(i.size,i.bytes,i.zero))=some (ax t,bytes,some z)/\z.cells.size=ax t/\(t.en=true->e=lh)
 |.struct bM n z eq=>∃fields:Array Field,P.underlying T=some (.struct fields)/\
   (fields.toList.mapM (fun f=>(P.info? f.type).map fun i=>(f.offset,i.size))=some bM/\∀p∈bM,p.2≠0)/\
   (∃fm,(P.info? T).map (fun i=>(i.size,i.zero))=some (n,some (.agg fm))/\kP z=some fm.toList/\z.length=n)/\
   (eq=true->P.eqGuardType P.depth T=false/\∀(vs us:List Value) (b:Bool) (w:World),iQ vs us=some b->o4 z vs=true->(Op.equal T (.agg vs.toArray) (.agg us.toArray)).run P w=.ok b w)
 |.map k e t=>iE P T (.map k e) (.map Option.none)/\P.underlying k=some .string/\mapElem P e t
 |.iface=>∃ik,iE P T (.interface ik) .nilIface
 |.arr e t n=>P.underlying T=some (.array n e)/\(∃fm z,(P.info? T).map (fun i=>(i.size,i.zero))=some (n,some (.agg fm))/\sI t=some z/\kP (List.replicate n z)=some fm.toList)/\Er P e t
section
variable {P:Program}{T:TypeId}{w:World}
theorem kJ{i:TypeInfo}(h:P.info? T=some i):(typeInfo T).run P w=.ok i w:=by
 simp[typeInfo,h]
theorem cf.L1{ti:cf}(h:ti.ok P T)(hn:ti≠.none):(sizeOf T).run P w=.ok ti.size w:=by
 have key:∀{z:Option Value} {n:Nat},(P.info? T).map (fun i=>(i.size,i.zero))=some (n,z)->(sizeOf T).run P w=.ok n w:=by
  intro z n h;cases hi:P.info? T with
  |none=>simp[hi] at h
  |some i=>
   simp only[hi,Option.map_some,Option.some.injEq,Prod.mk.injEq] at h;simp[sizeOf,kJ hi,h.1]
 cases ti with
 |none=>exact absurd rfl hn
 |int k=>exact key h.2.2.2
 |bool=>exact key h.2.2.2
 |str=>exact key h.2.2.2
 |ptr=>obtain⟨e,h⟩:=h;exact key h.2.2.2
 |func=>obtain⟨_,_,_,h⟩:=h;exact key h.2.2.2
 |iface=>obtain⟨_,h⟩:=h;exact key h.2.2.2
 |slice e t b=>exact key h.1.2.2.2
 |map k e t=>exact key h.1.2.2.2
 |struct bM n z eq=>obtain⟨fields,_,_,⟨fm,h,_⟩,_⟩:=h;exact key h
 |arr e t n=>obtain⟨_,⟨fm,z,h,_⟩,_⟩:=h;exact key h
theorem cf.xn{ti:cf}(h:ti.ok P T){z:List aw}(hz:ti.zero=some z):∃v,(zeroValue T).run P w=.ok v w/\kP z=some v.cells.toList:=by
 have key:∀{z:Value} {n:Nat},(P.info? T).map (fun i=>(i.size,i.zero))=some (n,some z)->(zeroValue T).run P w=.ok z w:=by
  intro z n h;cases hi:P.info? T with
  |none=>simp[hi] at h
  |some i=>
   simp only[hi,Option.map_some,Option.some.injEq,Prod.mk.injEq] at h;simp[zeroValue,kJ hi,h.2]
 cases ti with
 |none=>cases hz
 |int k=>cases hz;exact⟨_,key h.2.2.2,rfl⟩
 |bool=>cases hz;exact⟨_,key h.2.2.2,rfl⟩
 |str=>cases hz;exact⟨_,key h.2.2.2,rfl⟩
 |ptr=>cases hz;obtain⟨e,h⟩:=h;exact⟨_,key h.2.2.2,rfl⟩
 |func=>cases hz;obtain⟨_,_,_,h⟩:=h;exact⟨_,key h.2.2.2,rfl⟩
 |iface=>cases hz;obtain⟨_,h⟩:=h;exact⟨_,key h.2.2.2,rfl⟩
 |slice e t b=>cases hz;exact⟨_,key h.1.2.2.2,rfl⟩
 |map k e t=>cases hz;exact⟨_,key h.1.2.2.2,rfl⟩
 |struct bM n ea eq=>cases hz;obtain⟨fields,_,_,⟨fm,h,h2,_⟩,_⟩:=h;exact⟨_,key h,h2⟩
 |arr e t n=>
  obtain⟨_,⟨fm,Bl,h,h1,h2⟩,_⟩:=h;simp only[cf.zero,h1,Option.map_some,Option.some.injEq] at hz;subst hz;exact⟨_,key h,h2⟩
theorem cf.K0{ti:cf}(h:ti.ok P T)(hn:ti≠.none):(isAgg T).run P w=.ok ti.agg w:=by
 have key:∀{d:TypeDesc},P.underlying T=some d->(∀bM,d≠.struct bM)->(∀n e,d≠.array n e)->(isAgg T).run P w=.ok false w:=by
  intro d h h1 h2;simp only[isAgg,Sem.run_bind,run_underlying h,Result.andThen_ok];cases d<;>first|rfl|exact absurd rfl (h1 _)|exact absurd rfl (h2 _ _)
 cases ti with
 |none=>exact absurd rfl hn
 |int k=>exact key h.1 h.2.1 h.2.2.1
 |bool=>exact key h.1 h.2.1 h.2.2.1
 |str=>exact key h.1 h.2.1 h.2.2.1
 |ptr=>obtain⟨e,h⟩:=h;exact key h.1 h.2.1 h.2.2.1
 |func=>obtain⟨_,_,_,h⟩:=h;exact key h.1 h.2.1 h.2.2.1
 |iface=>obtain⟨_,h⟩:=h;exact key h.1 h.2.1 h.2.2.1
 |slice e t b=>exact key h.1.1 h.1.2.1 h.1.2.2.1
 |map k e t=>exact key h.1.1 h.1.2.1 h.1.2.2.1
 |struct bM n z eq=>
  obtain⟨fields,h,_⟩:=h;simp only[isAgg,Sem.run_bind,run_underlying h,Result.andThen_ok];rfl
 |arr e t n=>
  obtain⟨h,_⟩:=h;simp only[isAgg,Sem.run_bind,run_underlying h,Result.andThen_ok];rfl
def rX(agg:Bool)(cs:List Value):Value:=bif agg then .agg cs.toArray else cs.headD undef
theorem qT{ti:cf}(h:ti.ok P T)(hn:ti≠.none)(a:Addr)(cs:List Value)(hl:cs.length=ti.size)(hc:∀j u,cs[j]? =some u->w.cell? (a.add j)=some u):
  (loadVar T a).run P w=.ok (rX ti.agg cs) w:=by
 simp only[loadVar,Sem.run_bind,cf.K0 h hn,Result.andThen_ok];cases Gu:ti.agg with
 |true=>
  simp only[if_true,Sem.run_bind,cf.L1 h hn,Result.andThen_ok,rX,cond_true];rw[<-hl,run_loadCells_list w a cs hc];rfl
 |false=>
  have h1:ti.size=1:=by cases ti<;>first|rfl|cases Gu
  rw[h1] at hl;match cs,hl with
  |[c],_=>
   have h0:=hc 0 c rfl;have a3:a.add 0=a:=by unfold Addr.add;simp
   rw[a3] at h0;simp[rX,h0]
end
section
variable {B:Nat->Value}{sites:List (Nat×Site)}{w:World}{av:Nat->Prop}
def ck(B:Nat->Value)(sites:List (Nat×Site))(w:World)(av:Nat->Prop)(U:List aw)(vs:List Value):Prop:=
 vs.length=U.length/\∀j (h:j<U.length) (ab:j<vs.length),dk B sites w av (U[j]) (vs[j])
theorem ck.nil:ck B sites w av [] []:=⟨rfl,fun j h=>by simp at h⟩
theorem ck.cons{l:aw}{U:List aw}{v:Value}{vs:List Value}(h:dk B sites w av l v)(M:ck B sites w av U vs):ck B sites w av (l::U) (v::vs):=
 ⟨by simp[M.1],fun j h1 h2=>by
  cases j with
  |zero=>exact h
  |succ j=>exact M.2 j (by simpa using h1) (by simpa using h2)⟩
theorem ck.inv{l:aw}{U:List aw}{vs:List Value}(h:ck B sites w av (l::U) vs):∃v cq,vs=v::cq/\dk B sites w av l v/\ck B sites w av U cq:=by
 obtain⟨h1,h2⟩:=h;match vs,h1 with
 |v::cq,h1=>
  exact⟨v,cq,rfl,h2 0 (by simp) (by simp),by simpa using h1,fun j g1 g2=>h2 (j+1) (by simpa using g1) (by simpa using g2)⟩
theorem ck.kR{vs:List Value}(h:ck B sites w av [] vs):vs=[]:=List.eq_nil_of_length_eq_zero h.1
theorem ck.drop{U:List aw}{vs:List Value}(n:Nat)(h:ck B sites w av U vs):ck B sites w av (U.drop n) (vs.drop n):=
 ⟨by simp[h.1],fun j h1 h2=>by simp only[List.getElem_drop];exact h.2 _ (by simp at h1;omega) (by simp at h2;omega)⟩
theorem ck.take{U:List aw}{vs:List Value}(n:Nat)(h:ck B sites w av U vs):ck B sites w av (U.take n) (vs.take n):=
 ⟨by simp[h.1],fun j h1 h2=>by simp only[List.getElem_take];exact h.2 _ (by simp at h1;omega) (by simp at h2;omega)⟩
theorem ck.append{U dm:List aw}{vs cq:List Value}(h:ck B sites w av U vs)(ab:ck B sites w av dm cq):ck B sites w av (U++dm) (vs++cq):=by
 induction U generalizing vs with
 |nil=>rw[h.kR];exact ab
 |cons l U ih=>
  obtain⟨v,aow,rfl,h1,h2⟩:=h.inv;exact .cons h1 (ih h2)
theorem ck.a_{U dm:List aw}{vs cq:List Value}(off:Nat)(h:ck B sites w av U vs)(ab:ck B sites w av dm cq):ck B sites w av (Jk.a_ U off dm) (Jk.a_ vs off cq):=by
 unfold Jk.a_;rw[ab.1];exact((h.take off).append ab).append (h.drop _)
theorem dk.h4{l:aw}{u:Value}(h:dk B sites w av l u)(c':l.storable=true):u.oneCell'=true:=by
 cases l with
 |d x=>exact bj.h4 h
 |nil t=>rw[show u=_ from h];rfl
 |own o s=>exact h.1
 |ptr o s off=>obtain⟨b,rfl,_⟩:=h;rfl
 |ee c D=>cases c'
 |ek _ _ _ _ _=>cases c'
 |clo g bE=>obtain⟨vs,rfl,_⟩:=h;rfl
 |cB x=>rw[show u=x from h];cases x<;>first|rfl|cases c'
 |fresh t xs=>cases c'
 |eK t xs=>cases c'
 |ew=>cases c'
 |any=>cases c'
theorem ck.h4{U:List aw}{vs:List Value}(h:ck B sites w av U vs)(c':gj U=true):∀u∈vs,u.oneCell'=true:=by
 induction U generalizing vs with
 |nil=>rw[h.kR];intro u hu;simp at hu
 |cons l U ih=>
  obtain⟨v,cq,rfl,h1,h2⟩:=h.inv;simp only[gj,Bool.and_eq_true] at c';intro u hu;rcases List.mem_cons.1 hu with rfl|hu
  ·exact h1.h4 c'.1
  ·exact ih h2 c'.2 u hu
theorem f_.cells{a:bA}{v:Value}(h:f_ B sites w av a v)(c':gj a.cells=true):ck B sites w av a.cells v.cells.toList:=by
 cases a with
 |ai l=>
  have h1:v.oneCell'=true:=dk.h4 h (by simpa[bA.cells,gj] using c')
  have:v.cells=#[v]:=by cases v<;>first|rfl|cases h1
  rw[this];exact .cons h .nil
 |agg U=>
  obtain⟨vs,rfl,h1,h2⟩:=h;exact⟨h1,h2⟩
theorem NX{agg:Bool}{off n:Nat}{U:List aw}{vs:List Value}{v:aL}(hc:cut agg off n U=some v)(h1:agg=false->n=1)(h:ck B sites w av U vs):
  off+n<=vs.length/\b_ B sites w av v (rX agg ((vs.drop off).take n)):=by
 unfold cut at hc;cases agg with
 |true=>
  simp only[cond_true] at hc;cases hb:Nat.ble (off+n) U.length with
  |false=>simp[hb] at hc
  |true=>
   simp only[hb,cond_true,Option.some.injEq] at hc;subst hc;have c4:off+n<=U.length:=Nat.le_of_ble_eq_true hb;have:=(h.drop off).take n;exact⟨by rw[h.1];exact c4,_,rfl,this.1,this.2⟩
 |false=>
  simp only[cond_false] at hc;have hn:=h1 rfl;subst hn;cases Y:U.drop off with
  |nil=>simp[Y] at hc
  |cons l r=>
   simp only[Y,Option.some.injEq] at hc;subst hc;have Ty:=h.drop off;rw[Y] at Ty;obtain⟨u,us,hu,hl,_⟩:=Ty.inv;have hlen:off<U.length:=by
    rcases Nat.lt_or_ge off U.length with h|h
    ·exact h
    ·rw[List.drop_eq_nil_of_le h] at Y;cases Y
   refine⟨by rw[h.1];omega,?_⟩
   rw[hu];exact hl
theorem gX{ds:List aM}{vs:List Value}(hl:vs.length=ds.length)(h:∀j (h:j<ds.length) (ab:j<vs.length),bj w av (ds[j]) (vs[j])):ck B sites w av (cC ds) vs:=
 ⟨by simp[cC,hl],fun j h1 h2=>by simp only[cC,List.getElem_map];exact h j (by simpa[cC] using h1) h2⟩
end
theorem gl(b D j:Nat):(⟨b,D,none⟩:Addr).add j=⟨b,D+j,none⟩:=by
 unfold Addr.add;split<;>simp_all
def ho(w:World)(b D:Nat)(cs:List Value):Prop:=∀j u,cs[j]? =some u->w.cell? ⟨b,D+j,none⟩=some u
theorem ho.drop{w:World}{b D:Nat}{cs:List Value}(h:ho w b D cs)(m:Nat):ho w b (D+m) (cs.drop m):=by
 intro j u hu;rw[List.getElem?_drop] at hu;have:=h _ _ hu;rwa[Nat.add_assoc]
theorem ho.take{w:World}{b D:Nat}{cs:List Value}(h:ho w b D cs)(m:Nat):ho w b D (cs.take m):=by
 intro j u hu;rw[List.getElem?_take] at hu;split at hu
 ·exact h _ _ hu
 ·cases hu
theorem ho.row{w:World}{b:Nat}{cur:List Value}{T:TypeId}{cw:Nat×Nat}(h:w.heap[b]? =some (.cells cur.toArray T cw)):ho w b 0 cur:=by
 intro j u hu;rw[Nat.zero_add,cell_of_row w b j _ T cw h];simpa using hu
theorem tx(t:aG)(xs:List (den t))(k:Nat)(x:den t)(hx:xs[k]? =some x):((flat t xs).drop (k*ax t)).take (ax t)=enc t x:=by
 apply List.ext_getElem?;intro j;rw[List.getElem?_take,List.getElem?_drop];split
 ·rename_i hj;exact flat_get t xs k j x hx hj
 ·rename_i hj;rw[List.getElem?_eq_none (by rw[fc];omega)]
section
variable {P:Program}{C:g6}{L:World}{J:List Nat}{X:Nat->Prop}{B:Nat->Value}{st:ad}{tm:Array Value}{w:World}
theorem gy{o s:Nat}{cells:List aw}(h:fv st o s=some cells):look st.sites o=some (.box s cells):=by
 unfold fv ad.O at h;split at h
 ·rename_i am iU hl;cases hb:am.beq s with
  |false=>simp[hb] at h
  |true=>
   simp only[hb,cond_true,Option.some.injEq] at h;have:=Nat.eq_of_beq_eq_true hb;subst this h;exact hl
 ·cases h
theorem jw{o s:Nat}{t:aG}{xs:List (den t)}(h:rowOf st o s=some ⟨t,xs⟩):look st.sites o=some (.row s t xs)\/look st.sites o=some (.cS s t xs):=by
 unfold rowOf ad.O at h;split at h
 ·rename_i am bk hB hl;cases hb:am.beq s with
  |false=>simp[hb] at h
  |true=>
   simp only[hb,cond_true,Option.some.injEq] at h;have:=Nat.eq_of_beq_eq_true hb;subst this;cases h;exact .inl hl
 ·rename_i am bk hB hl;cases hb:am.beq s with
  |false=>simp[hb] at h
  |true=>
   simp only[hb,cond_true,Option.some.injEq] at h;have:=Nat.eq_of_beq_eq_true hb;subst this;cases h;exact .inr hl
 ·cases h
theorem Ref.at{sites:List (Nat×Site)}{o s:Nat}{p:Prop}{O:Site}(h:Ref sites o s p)(hl:look sites o=some O)(M:O.b2=s):p:=by
 obtain⟨bH,h1,_,aa⟩:=h;rw[hl] at h1;cases h1;exact aa M
theorem Ref.mk{sites:List (Nat×Site)}{o s:Nat}{p:Prop}{O:Site}(hl:look sites o=some O)(M:O.b2=s)(aj:p):Ref sites o s p:=
 ⟨O,hl,by omega,fun _=>aj⟩
theorem ah.box(S:ah L J X B st tm w){o s off:Nat}{cells:List aw}(h:look st.sites o=some (.box s cells)){v:Value}(hv:dk B st.sites w (an X B st.sites) (.ptr o s off) v):
  ∃b T cur,B o=.pointer (some ⟨b,0,none⟩)/\v=.pointer (some ⟨b,off,none⟩)/\w.heap[b]? =some (.cells (List.toArray cur) T (0,0))/\(∀u∈cur,u.oneCell'=true)/\ck B st.sites w (an X B st.sites) cells cur:=by
 obtain⟨b,T,cur,h1,h2,aa,aH,_,bD⟩:=S.sites o _ h;obtain⟨a',g2,g3⟩:=hv;have g1:=Ref.at g3 h rfl;rw[h1] at g1;cases g1;exact⟨b,T,cur,h1,g2,h2,aH,aa,bD⟩
theorem ah.row(S:ah L J X B st tm w){o s:Nat}{t:aG}{xs:List (den t)}(h:rowOf st o s=some ⟨t,xs⟩):
  ∃cs:List Value,ck B st.sites w (an X B st.sites) (cC (flat t xs)) cs/\
   ((bY (B o)=.slice none 0 0/\xs=[])\/∃b c,bY (B o)=.slice (some ⟨b,0,none⟩) xs.length c/\ho w b 0 cs/\xs.length<=c):=by
 rcases jw h with h|h
 ·obtain⟨e,cs,h1,h2⟩:=S.sites o _ h;have hl:cs.length=(flat t xs).length:=by rw[dR];exact h1.1
  refine⟨cs,gX hl h2,?_⟩;rw[(iv h1).1];rcases h1.2 with⟨hn,h0⟩|⟨g,cap,cur,bG,hv,_,hg,hnc,_,_,jN⟩
  ·exact .inl ⟨hn,List.eq_nil_of_length_eq_zero h0⟩
  ·refine .inr ⟨_,_,hv,fun j u hu=>?_,hnc⟩
   rw[Nat.zero_add,cell_of_row w g j cur e bG hg];rw[<-jN,List.getElem?_take] at hu;split at hu
   ·simpa using hu
   ·cases hu
 ·obtain⟨h1,bQ⟩:bj w (an X B st.sites) (.sl t xs) (bY (B o))/\va (bY (B o)):=S.sites o _ h;generalize hv:bY (B o)=v at h1 bQ;cases h1 with
  |nil t=>exact⟨[],⟨rfl,fun j h=>by simp[cC,flat] at h⟩,.inl ⟨rfl,rfl⟩⟩
  |sl t xs a cap cs n hn hcap hb hl hc hr=>
   subst hn;rcases bQ with bQ|⟨b,n,c,bQ⟩
   ·cases bQ
   ·cases bQ;exact⟨cs,gX hl hr,.inr ⟨b,cap,rfl,fun j u hu=>by have:=hc j u hu;rwa[gl] at this,hcap⟩⟩
def RO(g:Nat)(t:aG)(xs:List (den t)):Prop:=g∈n9/\∀w (av:Nat->Prop),ph w->∃T bG,∃cs:List Value,w.heap[g]? =some (.cells cs.toArray T bG)/\cs.length=(flat t xs).length/\∀j (h:j<(flat t xs).length) (ab:j<cs.length),bj w av ((flat t xs)[j]) (cs[j])
structure CtxOk(P:Program)(C:Ctx):Prop where
 tt:∀T,(C.tt T).ok P T
 gt:∀g t xs,C.gt g=some ⟨t,xs⟩->RO g t xs
theorem CW{ti:cf}(h:ti.known=true):ti≠.none:=by rintro rfl;cases h
theorem Df{ti:cf}(h:ti.agg=false):ti.size=1:=by cases ti<;>first|rfl|cases h
theorem aau{agg:Bool}{off n:Nat}{U:List aw}(h:off+n<=U.length)(h1:agg=false->n=1):cut agg off n U≠none:=by
 unfold cut;cases agg with
 |true=>
  have:Nat.ble (off+n) U.length=true:=Nat.ble_eq_true_of_le h;simp[this]
 |false=>
  have:=h1 rfl;simp only[cond_false];cases Y:U.drop off with
  |nil=>have:=congrArg List.length Y;simp at this;omega
  |cons l r=>simp
theorem abI(S:ah L J X B st tm w){C:Ctx}(az:CtxOk P C){D:Oper}{T:TypeId}{x:Operand}(au:D.op=.load T x)(Y:b6 st D.dst=true)(ag:(C.tt T).known=true):
  Holds (r' (C.tt T).agg (C.tt T).size st (aP C st T x)) (cz P L J X st tm w D):=by
 have hn:=CW ag;have bo:=cV S C T x;have fin:∀{b p:Nat} {U:List aw} {vs:List Value} {off:Nat} {v:aL},Act.eval ⟨tm,[]⟩ x=.pointer (some ⟨b,p+off,none⟩)->ho w b p vs->ck B st.sites w (an X B st.sites) U vs->
   cut (C.tt T).agg off (C.tt T).size U=some v->cz P L J X st tm w D v []:=by
  intro b p U vs off v hx hc hl ja;obtain⟨c4,HL⟩:=NX ja Df hl;refine dx S Y (vv:=rX (C.tt T).agg ((vs.drop off).take (C.tt T).size)) ?_ HL;have cI:=qT (P:=P) (w:=w) (az.tt T) hn ⟨b,p+off,none⟩ ((vs.drop off).take (C.tt T).size) (by simp;omega) (fun j u hu=>by rw[gl];exact(hc.drop off).take _ j u hu)
  unfold execOp;simp only[au,Instr.loadAt,Instr.sureAddr,hx,Sem.run_bind,Sem.run_pure,Result.andThen_ok,cI]
 unfold r';split
 ·rename_i o s off bV;rw[bV] at bo;split
  ·rename_i cells hb;split
   ·rename_i v ja;obtain⟨b,fC,cur,_,hv,hg,_,hl⟩:=S.box (gy hb) bo;exact Holds.ok (fin (p:=0) (by rw[Nat.zero_add];exact hv) (ho.row hg) hl ja)
   ·exact .fail
  ·exact .fail
 ·rename_i cells off bV;rw[bV] at bo;split
  ·rename_i v ja;obtain⟨b,p,hv,_,_,cs,hl,hc,hr⟩:=bo;exact Holds.ok (fin hv hc (gX hl hr) ja)
  ·exact .fail
 ·rename_i o s u k off bV;rw[bV] at bo;split
  ·rename_i t xs cJ;split
   ·rename_i nZ;obtain⟨rfl,c4⟩:=nZ;refine Holds.d' fun y ak=>?_
    have dN:xs[k]? =some y:=ak;obtain⟨cs,hl,iX⟩:=S.row cJ;have c':∃O,look st.sites o=some O/\O.b2=s:=by
     rcases jw cJ with h|h<;>exact⟨_,h,rfl⟩
    obtain⟨O,gd,jO⟩:=c';obtain⟨b,hv,u3⟩:=bo;obtain⟨n,c,bW⟩:=Ref.at u3 gd jO;cases ja:cut (C.tt T).agg off (C.tt T).size (cC (enc t y)) with
    |none=>exact absurd ja (aau (by simpa[cC,fc] using c4) Df)
    |some v=>
     rcases iX with⟨oV,_⟩|⟨a',fq,dK,hcs,_⟩
     ·rw[bW] at oV;cases oV
     ·rw[bW] at dK;cases dK;have e1:cC (enc t y)=((cC (flat t xs)).drop (k*ax t)).take (ax t):=by
       rw[<-tx t xs k y dN];simp[cC,List.map_drop,List.map_take]
      rw[e1] at ja;refine fin (p:=k*ax t) hv ?_ ((hl.drop (k*ax t)).take (ax t)) ja;have:=(hcs.drop (k*ax t)).take (ax t);rwa[Nat.zero_add] at this
   ·exact .fail
  ·exact .fail
 ·exact .fail
end
section
variable {P:Program}{L:World}{J:List Nat}{X:Nat->Prop}{B:Nat->Value}{st:ad}{tm:Array Value}{w:World}
theorem tK{u:Bool}{e:TypeId}{size:Nat}{v:Value}{n:Nat}{xs:List Value}{b:Nat}(h:rowAt w u e size v n xs)(hb:a7 v=some b):b<w.heap.size:=by
 rcases h.2 with⟨hn,_⟩|⟨g,cap,cur,bG,hv,_,hg,_⟩
 ·rw[hn] at hb;cases hb
 ·rw[hv] at hb;cases hb;exact(Array.getElem?_eq_some_iff.1 hg).1
theorem Deep.lt{av:Nat->Prop}{ds:List aM}{cs aA:List Value}(h:Deep w av ds cs aA):∀n,n∈aA->∀b,a7 n=some b->b<w.heap.size:=by
 induction h with
 |nil=>intro n hn;cases hn
 |row u ys e U _ h _ _ ih=>
  intro n hn b hb;rcases List.mem_cons.1 hn with rfl|hn
  ·exact tK h hb
  ·exact ih n hn b hb
 |leaf _ _ _ ih=>exact ih
theorem ah.dX(S:ah L J X B st tm w){o b:Nat}(hl:bX st.sites o)(hb:b∈bI (B o)):b<w.heap.size:=by
 obtain⟨O,h1,h2⟩:=hl;have:=S.sites o O h1;cases O with
 |box s cells=>
  obtain⟨a',T,cur,g1,g2,_⟩:=this;rw[g1] at hb;have hb:b∈[a']:=hb;rw[List.mem_singleton.1 hb];exact(Array.getElem?_eq_some_iff.1 g2).1
 |row s t xs=>
  obtain⟨e,cs,g1,_⟩:=this;exact tK g1 (tV g1 hb)
 |map s t es=>
  obtain⟨a',g1,g2⟩:=this;rw[g1] at hb;have hb:b∈[a']:=hb;rw[List.mem_singleton.1 hb];exact g2.lt
 |deep s t xs=>
  obtain⟨e,v,aA,cs,g1,_,g2,g3⟩:=this;rw[g1] at hb;rcases iq.1 hb with hb|⟨n,hn,hb⟩
  ·exact tK g2 hb
  ·exact g3.lt n hn b hb
 |cS=>cases h2
 |dead=>cases h2
theorem y6{B aB:Nat->Value}{sites bp:List (Nat×Site)}{w w':World}{av bT:Nat->Prop}(go:∀{a:aL} {v:Value},b_ B sites w av a v->b_ aB bp w' bT a v){U:List aw}{vs:List Value}
  (h:ck B sites w av U vs):ck aB bp w' bT U vs:=by
 obtain⟨cq,h1,h2,aa⟩:=go (a:=.av (.agg U)) (v:=.agg vs.toArray) ⟨vs,rfl,h.1,h.2⟩;have:vs=cq:=by simpa using h1
 subst this;exact⟨h2,aa⟩
theorem jB{B aB:Nat->Value}{sites bp:List (Nat×Site)}{w w':World}{av bT:Nat->Prop}(go:∀{a:aL} {v:Value},b_ B sites w av a v->b_ aB bp w' bT a v){d:aM}{v:Value}
  (h:bj w av d v):bj w' bT d v:=go (a:=one d) (v:=v) h
theorem Kp{sites:List (Nat×Site)}{o:Nat}{O bH:Site}(hl:look sites o=some O)(h:bH.live=O.live)(F:Nat):bX (b8 sites o bH) F <-> bX sites F:=by
 unfold bX;rw[cn];by_cases e:o=F
 ·subst e;simp only[if_true,hl,Option.some.injEq];constructor
  ·rintro⟨s,rfl,h2⟩;exact⟨O,rfl,h▸h2⟩
  ·rintro⟨s,rfl,h2⟩;exact⟨bH,rfl,h▸h2⟩
 ·simp only[e,if_false]
theorem ah.write(S:ah L J X B st tm w){o b:Nat}{O bH:Site}{cur sG:Array Value}{T:TypeId}{cw:Nat×Nat}(hl:look st.sites o=some O)(fF:O.live=true)(ac2:bH.live=true)(M:bH.b2=O.b2)
  (bW:b∈bI (B o)) (hg:w.heap[b]? =some (.cells cur T cw))
  (ff:∀{bp:List (Nat×Site)} {w':World},bp=b8 st.sites o bH->w'=w.setRow b sG->w'.heap[b]? =some (.cells sG T cw)->
   (∀{a v},b_ B st.sites w (an X B st.sites) a v->b_ B bp w' (an X B bp) a v)->iw B bp w' (an X B bp) o bH):
  ah L J X B {st with sites:=b8 st.sites o bH} tm (w.setRow b sG):=by
 have cr:bX st.sites o:=⟨O,hl,fF⟩;have lL:∀F,bX (b8 st.sites o bH) F <-> bX st.sites F:=Kp hl (ac2.trans fF.symm);have b1:∀a',an X B (b8 st.sites o bH) a' <-> an X B st.sites a':=by
  intro a';unfold an;simp only[lL]
 have hne:∀a',¬an X B st.sites a'->a'≠b:=by
  rintro a' h rfl;exact h (.inr ⟨o,cr,bW⟩)
 refine S.oS (fun F s bB=>?_) (fun a' h _=>setRow_other w b a' _ (hne a' h)) (fun a' h _=>by rw[b1];exact h) (fun go F s bB=>?_) (fun F aO a' h1 h2=>S.df F aO a' ((lL F).1 h1) ((lL aO).1 h2))
  (fun F a' h=>S.b7 F a' ((lL F).1 h)) (fun F a' h hb=>by rw[setRow_size];exact S.dX ((lL F).1 h) hb) ?_ (by rw[setRow_size];exact Nat.le_refl _)
 ·rw[cn];by_cases e:o=F
  ·subst e;rw[hl] at bB;cases bB;exact⟨bH,by simp,by omega,fun _=>rfl⟩
  ·exact⟨s,by simp[e,bB],Nat.le_refl _,fun _=>rfl⟩
 ·rw[cn] at bB;by_cases e:o=F
  ·subst e;simp only[if_true,Option.some.injEq] at bB;subst bB;exact .inr (ff rfl rfl (setRow_heap w b cur sG T cw hg) go)
  ·simp only[e,if_false] at bB;refine .inl ⟨bB,rfl,fun sB a' b9=>setRow_other w b a' _ ?_⟩
   rintro rfl;exact e (S.df o F _ cr ⟨s,bB,sB⟩ bW b9)
 ·have aR:=S.frame;refine⟨aR.os,aR.tape,aR.output,by rw[setRow_size];exact aR.size,fun a' h1 h2=>?_⟩
  rw[setRow_other w b a' _ ?_]
  ·exact aR.block a' h1 h2
  ·rintro rfl;rcases(S.b7 o _ cr bW).2 with h|h
   ·exact h2 h
   ·omega
theorem Cc{av:Nat->Prop}{t:aG}{xs:List (den t)}{e:TypeId}{v:Value}{cs:List Value}(h1:rowAt w t.en e (ax t) v xs.length cs)(h2:ch w av (flat t xs) cs)(hb:∀b,a7 v=some b->¬av b):bj w av (.sl t xs) v/\va v:=by
 rcases h1.2 with⟨hn,h0⟩|⟨g,cap,cur,bG,hv,_,hg,hnc,_,_,jN⟩
 ·have:xs=[]:=List.eq_nil_of_length_eq_zero h0;subst this;rw[hn];exact⟨.nil t,.inl rfl⟩
 ·rw[hv];refine⟨?_,.inr ⟨_,_,_,rfl⟩⟩;refine .sl t xs _ cap cs xs.length rfl hnc (fun _=>hb g (by rw[hv];rfl)) h2.1 (fun j u hu=>?_) h2.2
  rw[gl,Nat.zero_add,cell_of_row w g j cur e bG hg];rw[<-jN,List.getElem?_take] at hu;split at hu
  ·simpa using hu
  ·cases hu
theorem ch.cons{av:Nat->Prop}{d:aM}{ds:List aM}{v:Value}{vs:List Value}(h:bj w av d v)(k:ch w av ds vs):ch w av (d::ds) (v::vs):=by
 refine⟨by simp[k.1],fun j g1 g2=>?_⟩
 cases j with
 |zero=>exact h
 |succ j=>exact k.2 j (by simpa using g1) (by simpa using g2)
theorem Deep.aiZ{w':World}{av bT:Nat->Prop}{ds:List aM}{cs aA:List Value}(h:Deep w av ds cs aA)(go:∀{d v},bj w av d v->bj w' bT d v):
  (∀n,n∈aA->∀b,a7 n=some b->¬bT b/\w'.heap[b]? =w.heap[b]?)->ch w' bT ds cs:=by
 induction h with
 |nil=>intro _;exact⟨rfl,fun j h=>by simp at h⟩
 |row u ys e U _ h hr _ ih=>
  intro ag;refine .cons (Cc (pw h fun b hb=>(ag _ List.mem_cons_self b hb).2) ⟨hr.1,fun j g1 g2=>go (hr.2 j g1 g2)⟩ fun b hb=>(ag _ List.mem_cons_self b hb).1).1 (ih fun n hn=>ag n (List.mem_cons_of_mem _ hn))
 |leaf _ h _ ih=>intro ag;exact .cons (go h) (ih ag)
theorem ah.freeze(S:ah L J X B st tm w){o s:Nat}{t:aG}{xs:List (den t)}(hl:look st.sites o=some (.row s t xs)\/look st.sites o=some (.deep s t xs)):
  ah L J X B {st with sites:=b8 st.sites o (.cS s t xs)} tm w:=by
 have cr:bX st.sites o:=by rcases hl with hl|hl<;>exact⟨_,hl,rfl⟩
 have dB:∀F,bX (b8 st.sites o (.cS s t xs)) F->bX st.sites F/\F≠o:=by
  rintro F ⟨O,h1,h2⟩;rw[cn] at h1;by_cases e:o=F
  ·subst e;simp at h1;subst h1;cases h2
  ·simp only[e,if_false] at h1;exact⟨⟨O,h1,h2⟩,fun h=>e h.symm⟩
 have b1:∀a',an X B (b8 st.sites o (.cS s t xs)) a'->an X B st.sites a':=by
  rintro a' (h|⟨F,h1,h2⟩)
  ·exact .inl h
  ·exact .inr ⟨F,(dB F h1).1,h2⟩
 have l0:∀b,b∈bI (B o)->¬an X B (b8 st.sites o (.cS s t xs)) b:=by
  rintro b hb (hx|⟨F,g1,g2⟩)
  ·exact(S.b7 o b cr hb).1 hx
  ·obtain⟨g3,eH⟩:=dB F g1;exact eH (S.df F o b g3 cr g2 hb)
 refine S.oS (fun F O bB=>?_) (fun _ _ _=>rfl) (fun a' h _ ab=>h (b1 a' ab)) (fun go F O bB=>?_) (fun F aO a' h1 h2=>S.df F aO a' (dB F h1).1 (dB aO h2).1)
  (fun F a' h=>S.b7 F a' (dB F h).1) (fun F a' h hb=>S.dX (dB F h).1 hb) S.frame (Nat.le_refl _)
 ·rw[cn];by_cases e:o=F
  ·subst e;refine⟨.cS s t xs,by simp,?_,fun _=>rfl⟩
   rcases hl with hl|hl<;>rw[hl] at bB<;>cases bB<;>exact Nat.le_refl _
  ·exact⟨O,by simp[e,bB],Nat.le_refl _,fun _=>rfl⟩
 ·rw[cn] at bB;by_cases e:o=F
  ·subst e;simp only[if_true,Option.some.injEq] at bB;subst bB;refine .inr ?_
   show bj _ _ (.sl t xs) (bY (B o))/\va (bY (B o));rcases hl with hl|hl
   ·obtain⟨b4,cs,h1,h2⟩:=S.sites o _ hl;rw[(iv h1).1];exact Cc h1 ⟨by rw[dR];exact h1.1,fun j g1 g2=>jB go (h2 j g1 g2)⟩ fun b hb=>l0 b (fW hb)
   ·obtain⟨b4,v,aA,cs,h0,_,h1,h2⟩:=S.sites o _ hl;have bQ:bY (B o)=v:=by rw[h0];rfl
    rw[bQ];exact Cc h1 (h2.aiZ (jB go) fun n hn b hb=>⟨l0 b (by rw[h0];exact iq.2 (.inr ⟨n,hn,hb⟩)),rfl⟩) fun b hb=>l0 b (by rw[h0];exact iq.2 (.inl hb))
  ·simp only[e,if_false] at bB;exact .inl ⟨bB,rfl,fun _ _ _=>rfl⟩
theorem LC{aD:Type}(l:List (Nat×aD))(n:Nat)(v:aD)(h:look l n=some v):b8 l n v=l:=by
 induction l with
 |nil=>simp[look] at h
 |cons p l ih=>
  obtain⟨k,u⟩:=p;simp only[look] at h;simp only[b8];cases hb:k.beq n with
  |true=>simp only[hb,cond_true,Option.some.injEq] at h;subst h;simp
  |false=>simp only[hb,cond_false] at h;simp[ih h]
def dq(sites:List (Nat×Site))(us:List (Nat×Site)):Prop:=
 ∀o O,(o,O)∈us->∃s t,∃xs:List (den t),O=.cS s t xs/\(look sites o=some (.row s t xs)\/look sites o=some (.cS s t xs)\/look sites o=some (.deep s t xs))
theorem dq.nil{sites:List (Nat×Site)}:dq sites []:=fun _ _ h=>by simp at h
theorem dq.append{sites us vs:List (Nat×Site)}(h:dq sites us)(ab:dq sites vs):dq sites (us++vs):=by
 intro o O hm;rcases List.mem_append.1 hm with hm|hm
 ·exact h o O hm
 ·exact ab o O hm
theorem dq.step{sites us:List (Nat×Site)}{o:Nat}{O:Site}(h:dq sites ((o,O)::us)):dq (b8 sites o O) us:=by
 obtain⟨s,t,xs,rfl,hl⟩:=h o O (by simp)
 intro F bH hm;obtain⟨am,bk,hB,rfl,fy⟩:=h F bH (by simp[hm])
 refine⟨am,bk,hB,rfl,?_⟩;rw[cn];by_cases e:o=F
 ·subst e;simp only[if_true];right;left;rcases hl with hl|hl|hl<;>rcases fy with fy|fy|fy<;>rw[hl] at fy<;>cases fy<;>rfl
 ·simp only[e,if_false];exact fy
theorem ah.yE{us:List (Nat×Site)}:∀{st:ad},ah L J X B st tm w->dq st.sites us->ah L J X B {st with sites:=aW st.sites us} tm w:=by
 induction us with
 |nil=>intro st S _;exact S
 |cons p us ih=>
  obtain⟨o,O⟩:=p;intro st S h;have ab:=h.step;obtain⟨s,t,xs,rfl,hl⟩:=h o O (by simp)
  simp only[aW];rcases hl with hl|hl|hl
  ·exact ih (S.freeze (.inl hl)) ab
  ·rw[LC _ _ _ hl] at ab ⊢;exact ih S ab
  ·exact ih (S.freeze (.inr hl)) ab
theorem lq{us:List (Nat×Site)}:∀{sites:List (Nat×Site)},dq sites us->∀o,(look (aW sites us) o=look sites o)\/(∃s t,∃xs:List (den t),(look sites o=some (.row s t xs)\/look sites o=some (.cS s t xs)\/look sites o=some (.deep s t xs))/\look (aW sites us) o=some (.cS s t xs)):=by
 induction us with
 |nil=>intro sites _ o;exact .inl rfl
 |cons p us ih=>
  obtain⟨F,O⟩:=p;intro sites h o;obtain⟨s,t,xs,rfl,hl⟩:=h F O (by simp)
  simp only[aW];have hc:=cn sites F o (.cS s t xs);rcases ih h.step o with h1|⟨am,bk,hB,h1,h2⟩
  ·by_cases e:F=o
   ·subst e;simp only[if_true] at hc;exact .inr ⟨s,t,xs,hl,h1.trans hc⟩
   ·simp only[e,if_false] at hc;exact .inl (h1.trans hc)
  ·by_cases e:F=o
   ·subst e;simp only[if_true] at hc;rw[hc] at h1;rcases h1 with h1|h1|h1
    ·cases h1
    ·cases h1;exact .inr ⟨s,t,xs,hl,h2⟩
    ·cases h1
   ·simp only[e,if_false] at hc;rw[hc] at h1;exact .inr ⟨am,bk,hB,h1,h2⟩
theorem wE{us:List (Nat×Site)}:∀{sites:List (Nat×Site)},dq sites us->∀{o s:Nat} {t:aG} {xs:List (den t)},(o,Site.cS s t xs)∈us->look (aW sites us) o=some (.cS s t xs):=by
 intro sites h o s t xs hm;obtain⟨jr,t0,Ar,he,hl⟩:=h o _ hm;cases he;rcases lq h o with h1|⟨am,bk,hB,h1,h2⟩
 ·-- named,and aoZ anK
  induction us generalizing sites with
  |nil=>simp at hm
  |cons p us ih=>
   obtain⟨F,O⟩:=p;simp only[aW] at h1 ⊢;rcases List.mem_cons.1 hm with hm|hm
   ·cases hm;rcases lq h.step o with h2|⟨am,bk,hB,h2,aa⟩
    ·rw[h2,cn];simp
    ·rw[cn] at h2;simp at h2;obtain⟨rfl,rfl,h2⟩:=h2;rw[aa];cases h2;rfl
   ·have hc:=cn sites F o O;by_cases e:F=o
    ·subst e;obtain⟨s1,t1,aiu,rfl,hl1⟩:=h F O (by simp)
     have:Site.cS s1 t1 aiu=Site.cS s t xs:=by
      rcases hl with hl|hl|hl<;>rcases hl1 with hl1|hl1|hl1<;>rw[hl] at hl1<;>cases hl1<;>rfl
     cases this;simp only[if_true] at hc;rcases lq h.step F with h2|⟨am,bk,hB,h2,aa⟩
     ·rw[h2,hc]
     ·rw[hc] at h2;rcases h2 with h2|h2|h2
      ·cases h2
      ·cases h2;exact aa
      ·cases h2
    ·simp only[e,if_false] at hc;refine ih h.step hm (by rw[hc];exact hl) ?_
     rw[h1,hc]
 ·rcases hl with hl|hl|hl<;>rcases h1 with h1|h1|h1<;>rw[hl] at h1<;>cases h1<;>exact h2
end
section
variable {P:Program}{L:World}{J:List Nat}{X:Nat->Prop}{B:Nat->Value}{st:ad}{tm:Array Value}{w:World}
structure kI(L:World)(J:List Nat)(X:Nat->Prop)(B:Nat->Value)(st:ad)(tm:Array Value)(w:World)(vs:List (Nat×Site)):Prop where
 old:ah L J X B st tm w
 bG:dq st.sites vs
theorem kI.new{vs:List (Nat×Site)}(aR:kI L J X B st tm w vs):ah L J X B {st with sites:=aW st.sites vs} tm w:=aR.old.yE aR.bG
theorem kI.go{vs:List (Nat×Site)}(aR:kI L J X B st tm w vs){a:aL}{v:Value}(h:b_ B st.sites w (an X B st.sites) a v):b_ B (aW st.sites vs) w (an X B (aW st.sites vs)) a v:=by
 have dB:∀F,bX (aW st.sites vs) F->bX st.sites F:=by
  rintro F ⟨O,h1,h2⟩;rcases lq aR.bG F with h|⟨s,t,xs,_,h⟩
  ·exact⟨O,h▸h1,h2⟩
  ·rw[h] at h1;cases h1;cases h2
 refine h.goes ⟨fun o O bh=>?_,fun _ _ _=>rfl,fun b hb _ b9=>hb ?_⟩ (Nat.le_refl _) ?_
 ·rcases lq aR.bG o with h|⟨s,t,xs,h1,h2⟩
  ·exact⟨O,h.trans bh,Nat.le_refl _,fun _=>rfl⟩
  ·refine⟨_,h2,?_,fun _=>rfl⟩
   rw[bh] at h1;rcases h1 with h1|h1|h1<;>cases h1<;>exact Nat.le_refl _
 ·rcases b9 with h|⟨F,h1,h2⟩
  ·exact .inl h
  ·exact .inr ⟨F,dB F h1,h2⟩
 ·rintro b (h|⟨F,h1,h2⟩)
  ·exact aR.old.old b h
  ·exact aR.old.dX (dB F h1) h2
theorem abT{o s:Nat}{t:aG}{xs:List (den t)}(hr:rowOf st o s=some ⟨t,xs⟩):dq st.sites (lO st o s t xs):=by
 unfold lO;split
 ·exact .nil
 ·intro F O hm;simp only[List.mem_singleton,Prod.mk.injEq] at hm;obtain⟨rfl,rfl⟩:=hm;exact⟨s,t,xs,rfl,(jw hr).imp id .inl⟩
theorem L_{o s:Nat}{t:aG}{xs:List (den t)}(hr:rowOf st o s=some ⟨t,xs⟩):aW st.sites (lO st o s t xs)=aW st.sites [(o,.cS s t xs)]:=by
 unfold lO;split
 ·rename_i jr t0 Ar h0;have h0:look st.sites o=some (.cS jr t0 Ar):=h0;simp only[aW];rcases jw hr with h|h
  ·rw[h0] at h;cases h
  ·exact(LC _ _ _ h).symm
 ·rfl
theorem ZP{sites us:List (Nat×Site)}(h:dq sites us){o s:Nat}{t:aG}{xs:List (den t)}(hl:look sites o=some (.cS s t xs)):look (aW sites us) o=some (.cS s t xs):=by
 rcases lq h o with h1|⟨am,bk,hB,h1,h2⟩
 ·rw[h1];exact hl
 ·rw[hl] at h1;rcases h1 with h1|h1|h1
  ·cases h1
  ·cases h1;exact h2
  ·cases h1
theorem ts{o s:Nat}{t:aG}{xs:List (den t)}(h:ly st o s=some ⟨t,xs⟩):look st.sites o=some (.deep s t xs):=by
 unfold ly at h;split at h
 ·rename_i am bk hB M;cases hb:am.beq s with
  |false=>rw[hb] at h;cases h
  |true=>
   rw[hb] at h;have:=Nat.eq_of_beq_eq_true hb;subst this;cases h;exact M
 ·cases h
theorem NW{l:aw}{d:aM}{us:List (Nat×Site)}(h:jk st l=some (d,us)):dq st.sites us:=by
 unfold jk at h;split at h
 ·cases h;exact .nil
 ·cases h;exact .nil
 ·rename_i o s;split at h
  ·rename_i t xs hr;cases h;exact abT hr
  ·split at h
   ·rename_i t xs hr;cases h;intro F O hm;simp only[List.mem_singleton,Prod.mk.injEq] at hm;obtain⟨rfl,rfl⟩:=hm;exact⟨s,t,xs,rfl,.inr (.inr (ts hr))⟩
   ·cases h
 ·cases h;exact .nil
 ·cases h
theorem NV{l:aw}{d:aM}{us vs:List (Nat×Site)}{v:Value}(h:jk st l=some (d,us))(hv:dk B st.sites w (an X B st.sites) l v)
  (aR:kI L J X B st tm w vs) (dB:∀p,p∈us->p∈vs):bj w (an X B (aW st.sites vs)) d v:=by
 unfold jk at h;split at h
 ·cases h;exact jB aR.go hv
 ·cases h;rw[show v=_ from hv];exact .nil _
 ·rename_i o s;split at h
  ·rename_i t xs hr;cases h;have hl:look (aW st.sites vs) o=some (.cS s t xs):=by
    unfold lO at dB;split at dB
    ·rename_i jr t0 Ar h0;have h0:look st.sites o=some (.cS jr t0 Ar):=h0;rcases jw hr with h|h
     ·rw[h0] at h;cases h
     ·exact ZP aR.bG h
    ·exact wE aR.bG (dB _ (List.mem_singleton.2 rfl))
   have:=aR.new.sites o _ hl;have iI:v=bY (B o):=by
    rcases jw hr with h1|h1<;>exact Ref.at hv.2 h1 rfl
   rw[iI];exact this.1
  ·split at h
   ·rename_i t xs hr;cases h;have:=aR.new.sites o _ (wE aR.bG (dB _ (List.mem_singleton.2 rfl)));have iI:v=bY (B o):=Ref.at hv.2 (ts hr) rfl;rw[iI];exact this.1
   ·cases h
 ·rename_i g;cases h;obtain⟨U,rfl,hl,_⟩:=hv;have:U=[]:=List.eq_nil_of_length_eq_zero (by simpa using hl)
  subst this;exact .fn g [] [] (fun _=>[]) _ rfl rfl (fun b hb=>by simp at hb) (fun b hb=>by simp at hb) (fun i hi=>by simp at hi) (fun i hi=>by simp at hi) (fun i hi=>by simp at hi)
 ·cases h
theorem Eo:∀{U:List aw} {ds:List aM} {us:List (Nat×Site)},g5 st U=some (ds,us)->dq st.sites us:=by
 intro U;induction U with
 |nil=>intro ds us h;simp only[g5] at h;cases h;exact .nil
 |cons l U ih=>
  intro ds us h;simp only[g5] at h;split at h
  ·rename_i d u1 gg u2 h1 h2;cases h;exact(NW h1).append (ih h2)
  ·cases h
theorem yI:∀{U:List aw} {ds:List aM} {us vs:List (Nat×Site)} {cs:List Value},g5 st U=some (ds,us)->ck B st.sites w (an X B st.sites) U cs->
  kI L J X B st tm w vs->(∀p,p∈us->p∈vs)->ch w (an X B (aW st.sites vs)) ds cs:=by
 intro U;induction U with
 |nil=>intro ds us vs cs h hl _ _;simp only[g5] at h;cases h;rw[hl.kR];exact⟨rfl,fun j h=>by simp at h⟩
 |cons l U ih=>
  intro ds us vs cs h hl aR dB;simp only[g5] at h;split at h
  ·rename_i d u1 gg u2 h1 h2;cases h;obtain⟨c,jl,rfl,hc,hcs⟩:=hl.inv;have r1:=NV h1 hc aR (fun p aj=>dB p (List.mem_append.2 (.inl aj)))
   obtain⟨r2,g9⟩:=ih h2 hcs aR (fun p aj=>dB p (List.mem_append.2 (.inr aj)))
   refine⟨by simp[r2],fun j g1 g2=>?_⟩
   cases j with
   |zero=>exact r1
   |succ j=>exact g9 j (by simpa using g1) (by simpa using g2)
  ·cases h
theorem k7.run{P:Program}{u:Bool}(g D:Nat)(t:TypeId)(bG:Nat×Nat):∀(vs:List Value) (i:Nat) (cur:Array Value) (w:World),w.heap[g]? =some (.cells cur t bG)->k7 u t cur bG->D+i+vs.length<=cur.size->(∀v∈vs,v.oneCell'=true)->
  (storeCells ⟨g,D,none⟩ vs i).run P w=.ok () (w.setRow g (cur.toList.take (D+i)++vs++cur.toList.drop (D+i+vs.length)).toArray)
 |[],i,cur,w,hg,_,_,_=>by
  simp only[storeCells,List.append_nil,List.length_nil,Nat.add_zero,List.take_append_drop,Array.toArray_toList];rw[setRow_self w g cur t bG hg];rfl
 |v::rest,i,cur,w,hg,hz,hl,h1=>by
  have hi:D+i<cur.size:=by simp at hl;omega
  have agA:(⟨g,D,none⟩:Addr).add i=⟨g,D+i,none⟩:=by unfold Addr.add;split<;>simp_all
  have iX:w.cell? ⟨g,D+i,none⟩=some cur[D+i]:=by simp[World.cell?,hg,hi]
  have agq:w.frozen? ⟨g,D+i,none⟩=false:=by
   rcases hz.2 with rfl|⟨_,hz⟩
   ·simp[World.frozen?,hg]
   ·simp only[World.frozen?,hg];have:¬bG.1<=D+i:=by omega
    simp[this]
  have c':(store ((⟨g,D,none⟩:Addr).add i) v).run P w=.ok () (w.setRow g (cur.setIfInBounds (D+i) v)):=by
   rw[agA,run_store P w _ v _ (h1 v (by simp)),iX]
   simp[agq,setCell_eq_setRow w g (D+i) cur t bG v hg]
  have ih:=k7.run (P:=P) (u:=u) g D t bG rest (i+1) (cur.setIfInBounds (D+i) v) (w.setRow g (cur.setIfInBounds (D+i) v)) (setRow_heap w g cur _ t _ hg)
   ⟨hz.1,hz.2.imp id fun h=>⟨h.1,by simpa using h.2⟩⟩ (by simp at hl ⊢;omega) (fun x hx=>h1 x (by simp[hx]))
  simp only[storeCells,Sem.run_bind,c',Result.andThen_ok,ih,setRow_setRow];congr 3
  have e:=list_seg_step cur.toList (D+i) v rest (by simp at hl ⊢;omega)
  simpa[Array.toList_setIfInBounds,Nat.add_assoc] using e
theorem Jj{u:Bool}{bG:Nat×Nat}{T:TypeId}{ti:cf}(h:ti.ok P T)(hn:ti≠.none){b off:Nat}{vv:Value}{cur:List Value}{fC:TypeId}(hg:w.heap[b]? =some (.cells cur.toArray fC bG))(hz:k7 u fC cur.toArray bG)
  (hsz:vv.cells.toList.length=ti.size) (c4:off+vv.cells.toList.length<=cur.length) (h1:∀u∈vv.cells.toList,u.oneCell'=true):
  (storeVar T ⟨b,off,none⟩ vv).run P w=.ok () (w.setRow b (a_ cur off vv.cells.toList).toArray):=by
 have M:vv.cells.size=ti.size:=by simpa using hsz
 have:=k7.run (P:=P) b off fC bG vv.cells.toList 0 cur.toArray w hg hz (by simpa using c4) h1
 simp only[storeVar,Sem.run_bind,cf.L1 h hn,Result.andThen_ok,M,ne_eq,not_true_eq_false,if_false];rw[this];simp[a_]
variable {D:Oper}
theorem qW{aB:Nat->Value}{w':World}{us:List (Nat×Site)}(S:ah L J X aB {st with sites:=aW st.sites us} tm w')(Y:b6 st D.dst=true)
  (h:(execOp (Act.eval ⟨tm,[]⟩) D).run P w=.ok .skip w'):cz P L J X st tm w D (bP (.cB undef)) us:=
 fun _ _ bC=>aco h (bC _ _ _ (ah.cu S Y rfl))
theorem io{aB:Nat->Value}{w':World}{us:List (Nat×Site)}{v:aL}{vv:Value}(S:ah L J X aB {st with sites:=aW st.sites us} tm w')(Y:b6 st D.dst=true)
  (h:(execOp (Act.eval ⟨tm,[]⟩) D).run P w=.ok (.value vv) w') (hv:b_ aB (aW st.sites us) w' (an X aB (aW st.sites us)) v vv):cz P L J X st tm w D v us:=
 fun _ _ bC=>mr h (bC _ _ _ (ah.cu S Y hv))
theorem mi{aD:Type}(a:List aD)(off:Nat)(b:List aD)(h:off+b.length<=a.length):(a_ a off b).length=a.length:=by
 unfold a_;simp only[List.length_append,List.length_take,List.length_drop];omega
theorem BI{aD:Type}(a:List aD)(off n:Nat)(b:List aD)(h:off+b.length<=n)(hn:n<=a.length):(a_ a off b).take n=a_ (a.take n) off b:=by
 unfold a_;apply List.ext_getElem?;intro j;simp only[List.getElem?_take,List.getElem?_append,List.length_append,List.length_take,List.getElem?_drop];have m1:min off a.length=off:=by omega
 have m2:min off (min n a.length)=off:=by omega
 simp only[m1,m2];by_cases c1:j<off
 ·have c2:j<n:=by omega
  have c3:j<off+b.length:=by omega
  simp[c1,c2,c3]
 ·by_cases c3:j<off+b.length
  ·have c2:j<n:=by omega
   simp[c1,c2,c3]
  ·have e:off+b.length+(j-(off+b.length))=j:=by omega
   simp[c1,c3,e]
theorem XB{cells U:List aw}{T:TypeId}{cur vs:List Value}{b off:Nat}(h:mJ cells T cur b)(hl:vs.length=U.length)(fO:gj U=true):mJ (a_ cells off U) T (a_ cur off vs) b:=by
 intro bQ;unfold a_ at bQ ⊢;cases off with
 |zero=>
  cases U with
  |nil=>
   cases vs with
   |nil=>simpa using h (by simpa using bQ)
   |cons=>cases hl
  |cons l U=>
   simp only[List.take_zero,List.nil_append,List.cons_append,List.head?_cons,Option.some.injEq] at bQ;subst bQ;cases fO
 |succ n=>
  cases cells with
  |nil=>
   cases U with
   |nil=>simp at bQ
   |cons l U=>
    simp only[List.take_nil,List.nil_append,List.cons_append,List.head?_cons,Option.some.injEq] at bQ;subst bQ;cases fO
  |cons c cells=>
   simp only[List.take_succ_cons,List.cons_append,List.head?_cons,Option.some.injEq] at bQ;subst bQ;have:=h rfl;cases cur with
   |nil=>simp at this
   |cons v cur=>simpa using this
theorem ah._w(S:ah L J X B st tm w){o s off:Nat}{cells U:List aw}{v:Value}{vs:List Value}(hb:look st.sites o=some (.box s cells))(hv:dk B st.sites w (an X B st.sites) (.ptr o s off) v)
  (hl:ck B st.sites w (an X B st.sites) U vs) (c4:off+U.length<=cells.length) (h1:∀u∈vs,u.oneCell'=true) (fO:gj U=true):
  ∃b T cur,v=.pointer (some ⟨b,off,none⟩)/\w.heap[b]? =some (.cells (List.toArray cur) T (0,0))/\off+vs.length<=cur.length/\
   ah L J X B {st with sites:=b8 st.sites o (.box s (a_ cells off U))} tm (w.setRow b (a_ cur off vs).toArray):=by
 obtain⟨b,T,cur,bW,nY,hg,ht,kl⟩:=S.box hb hv;have iC:off+vs.length<=cur.length:=by rw[hl.1,kl.1];exact c4
 refine⟨b,T,cur,nY,hg,iC,?_⟩;have gd:mJ cells T cur b:=by
  obtain⟨aJ,dA,QW,aC,ao,_,_,bv,_⟩:=S.sites o _ hb;rw[bW] at aC;cases aC;rw[hg] at ao;cases ao;exact bv
 refine S.write hb rfl rfl rfl (fW (by rw[bW];rfl)) hg (fun M hw kq go=>?_)
 have QJ:=y6 go (kl.a_ off hl);refine⟨b,T,_,bW,kq,QJ.1,fun u hu=>?_,XB gd hl.1 fO,QJ.2⟩
 unfold a_ at hu;simp only[List.mem_append] at hu;rcases hu with(hu|hu)|hu
 ·exact ht u (List.mem_of_mem_take hu)
 ·exact h1 u hu
 ·exact ht u (List.mem_of_mem_drop hu)
theorem ir{B:Nat->Value}{sites:List (Nat×Site)}{w:World}{av:Nat->Prop}{ds:List aM}{vs:List Value}(h:ck B sites w av (cC ds) vs):ch w av ds vs:=
 ⟨by simpa[cC] using h.1,fun j g1 g2=>by
  have:=h.2 j (by simpa[cC] using g1) g2
  simp only[cC,List.getElem_map] at this;exact this⟩
theorem Wf{w:World}{av:Nat->Prop}{t:aG}{xs:List (den t)}{k:Nat}{cW:den t}{cs aA:List Value}(ag:k<xs.length)(h:ch w av (flat t xs) cs)(ab:ch w av (enc t cW) aA):
  ch w av (flat t (xs.set k cW)) (a_ cs (k*ax t) aA):=by
 have e:flat t (xs.set k cW)=a_ (flat t xs) (k*ax t) (enc t cW):=by
  rw[aak,if_pos ag];unfold a_;rw[fc,Nat.add_mul,Nat.one_mul]
 rw[e];have a:=gX (B:=fun _=>undef) (sites:=[]) h.1 h.2
 have b:=gX (B:=fun _=>undef) (sites:=[]) ab.1 ab.2
 have c:=a.a_ (k*ax t) b;have e2:a_ (cC (flat t xs)) (k*ax t) (cC (enc t cW))=cC (a_ (flat t xs) (k*ax t) (enc t cW)):=by
  simp[a_,cC,List.map_append,List.map_take,List.map_drop]
 rw[e2] at c;exact ir c
theorem ah._v(S:ah L J X B st tm w){o s k off:Nat}{t:aG}{xs:List (den t)}{x cW:den t}{v:Value}{ds:List aM}{vs:List Value}(hb:look st.sites o=some (.row s t xs))
  (hv:dk B st.sites w (an X B st.sites) (.ek o s t k off) v) (hx:xs[k]? =some x) (kg:enc t cW=a_ (enc t x) off ds)
  (hl:ch w (an X B st.sites) ds vs) (c4:off+ds.length<=ax t) (h1:∀u∈vs,u.oneCell'=true):
  ∃b T cur bG,v=.pointer (some ⟨b,k*ax t+off,none⟩)/\w.heap[b]? =some (.cells (List.toArray cur) T bG)/\k7 t.en T cur.toArray bG/\k*ax t+off+vs.length<=cur.length/\
   ah L J X B {st with sites:=b8 st.sites o (.row s t (xs.set k cW))} tm (w.setRow b (a_ cur (k*ax t+off) vs).toArray):=by
 obtain⟨b,nY,jM⟩:=hv;obtain⟨n,c,bW⟩:=Ref.at jM hb rfl;obtain⟨e,cs,iB,dH⟩:=S.sites o _ hb;rw[(iv iB).1] at bW;have ag:k<xs.length:=by
  rcases Nat.lt_or_ge k xs.length with h|h
  ·exact h
  ·rw[List.getElem?_eq_none h] at hx;cases hx
 obtain⟨qo,h⟩:=iB;rcases h with⟨hn,_⟩|⟨g,cap,cur,bG,gu,l4,hg,hnc,gv,hcs,jN⟩
 ·rw[bW] at hn;cases hn
 ·rw[bW] at gu;cases gu;have l2:(k+1)*ax t<=xs.length*ax t:=Nat.mul_le_mul_right _ ag;have hU:xs.length*ax t<=c*ax t:=Nat.mul_le_mul_right _ hnc;rw[Nat.add_mul,Nat.one_mul] at l2;have kh:vs.length=ds.length:=hl.1;have ht:cur.toList.length=c*ax t:=by simpa using hcs
  have iC:k*ax t+off+vs.length<=cur.toList.length:=by omega
  refine⟨b,e,cur.toList,bG,nY,by simpa using hg,by simpa using l4,iC,?_⟩
  refine S.write hb rfl rfl rfl (fW (by rw[bW];rfl)) hg (fun M hw kq go=>?_)
  have aol:cs.length=xs.length*ax t:=qo;refine⟨e,a_ cs (k*ax t+off) vs,⟨?_,.inr ⟨b,c,_,bG,?_,?_,kq,?_,gv,?_,?_⟩⟩,?_⟩
  ·rw[mi _ _ _ (by omega),List.length_set];exact qo
  ·rw[bW,List.length_set]
  ·refine⟨l4.1,?_⟩;rcases l4.2 with h|⟨h,ab⟩
   ·exact .inl h
   ·refine .inr ⟨h,?_⟩;rw[List.size_toArray,mi _ _ _ iC];simpa using ab
  ·rw[List.length_set];exact hnc
  ·rw[List.size_toArray,mi _ _ _ iC];exact ht
  ·rw[<-jN,List.length_set,List.toList_toArray];exact BI _ _ _ _ (by omega) (by rw[ht];omega)
  ·have r0:ch w (an X B st.sites) (flat t xs) cs:=⟨by rw[dR];exact qo,dH⟩
   have gd:=tx t xs k x hx;have r1:ch w (an X B st.sites) (enc t x) ((cs.drop (k*ax t)).take (ax t)):=by
    have a:=gX (B:=fun _=>undef) (sites:=[]) r0.1 r0.2
    have a':=(a.drop (k*ax t)).take (ax t);have e2:((cC (flat t xs)).drop (k*ax t)).take (ax t)=cC (enc t x):=by
     rw[<-gd];simp[cC,List.map_drop,List.map_take]
    rw[e2] at a';exact ir a'
   have r2:ch w (an X B st.sites) (enc t cW) (a_ ((cs.drop (k*ax t)).take (ax t)) off vs):=by
    rw[kg];have a:=gX (B:=fun _=>undef) (sites:=[]) r1.1 r1.2
    have a':=gX (B:=fun _=>undef) (sites:=[]) hl.1 hl.2
    have fq:=a.a_ off a';have e2:a_ (cC (enc t x)) off (cC ds)=cC (a_ (enc t x) off ds):=by
     simp[a_,cC,List.map_append,List.map_take,List.map_drop]
    rw[e2] at fq;exact ir fq
   have g9:=Wf ag r0 r2;have bK:a_ cs (k*ax t) (a_ ((cs.drop (k*ax t)).take (ax t)) off vs)=a_ cs (k*ax t+off) vs:=by
    unfold a_;apply List.ext_getElem?;intro j;simp only[List.getElem?_append,List.length_append,List.length_take,List.length_drop,List.getElem?_take,List.getElem?_drop];have m1:min (k*ax t) cs.length=k*ax t:=by omega
    have m2:min (k*ax t+off) cs.length=k*ax t+off:=by omega
    have m3:min (ax t) (cs.length-k*ax t)=ax t:=by omega
    have m4:min off (ax t)=off:=by omega
    simp only[m1,m2,m3,m4];by_cases c1:j<k*ax t
    ·have c2:j<k*ax t+off:=by omega
     have c3:j<k*ax t+off+vs.length:=by omega
     have dV:j<k*ax t+(off+vs.length+(ax t-(off+vs.length))):=by omega
     simp[c1,c2,c3,dV]
    ·by_cases c2:j<k*ax t+off
     ·have d1:j-k*ax t<off:=by omega
      have d2:j-k*ax t<off+vs.length:=by omega
      have d3:j-k*ax t<ax t:=by omega
      have c3:j<k*ax t+off+vs.length:=by omega
      have dV:j<k*ax t+(off+vs.length+(ax t-(off+vs.length))):=by omega
      have fh:k*ax t+(j-k*ax t)=j:=by omega
      simp[c1,c2,c3,dV,d1,d2,d3,fh]
     ·by_cases c3:j<k*ax t+off+vs.length
      ·have d1:¬j-k*ax t<off:=by omega
       have d2:j-k*ax t<off+vs.length:=by omega
       have dV:j<k*ax t+(off+vs.length+(ax t-(off+vs.length))):=by omega
       have fh:j-k*ax t-off=j-(k*ax t+off):=by omega
       simp[c1,c2,c3,dV,d1,d2,fh]
      ·by_cases dV:j<k*ax t+(off+vs.length+(ax t-(off+vs.length)))
       ·have d2:¬j-k*ax t<off+vs.length:=by omega
        have d1:¬j-k*ax t<off:=by omega
        have d5:off+vs.length+(j-k*ax t-(off+vs.length))<ax t:=by omega
        have fh:k*ax t+(off+vs.length+(j-k*ax t-(off+vs.length)))=k*ax t+off+vs.length+(j-(k*ax t+off+vs.length)):=by omega
        simp[c1,c2,c3,dV,d1,d2,d5,fh]
       ·have fh:k*ax t+(off+vs.length+(ax t-(off+vs.length)))+(j-(k*ax t+(off+vs.length+(ax t-(off+vs.length)))))=k*ax t+off+vs.length+(j-(k*ax t+off+vs.length)):=by omega
        simp[c1,c2,c3,dV,fh]
   rw[bK] at g9;exact fun j g1 g2=>jB go (g9.2 j g1 g2)
end
section
variable {P:Program}{L:World}{J:List Nat}{X:Nat->Prop}{B:Nat->Value}{st:ad}{tm:Array Value}{w:World}
theorem jv{o:Nat}{O:Site}(h:look st.sites o=some O):O.b2<aZ st o:=by
 unfold aZ ad.O;rw[h];exact Nat.lt_succ_self _
theorem ah.make(S:ah L J X B st tm w){o:Nat}{bH:Site}{nv:Value}{w':World}
  (hw:∀b,b<w.heap.size->w'.heap[b]? =w.heap[b]?) (hos:w'.os=w.os) (Ft:w'.tape=w.tape) (uV:w'.output=w.output) (kY:w.heap.size<=w'.heap.size)
  (mw:∀O,look st.sites o=some O->O.b2<bH.b2) (gq:∀b,b∈bI nv->w.heap.size<=b/\b<w'.heap.size)
  (ff:∀{bp:List (Nat×Site)} {aB:Nat->Value},bp=b8 st.sites o bH->aB o=nv->(∀{a v},b_ B st.sites w (an X B st.sites) a v->b_ aB bp w' (an X aB bp) a v)->
   (∀b,w.heap.size<=b->b∉bI nv->¬an X aB bp b)->(bH.live=false->∀b,b∈bI nv->¬an X aB bp b)->iw aB bp w' (an X aB bp) o bH):
  ah L J X (fun F=>if F=o then nv else B F) {st with sites:=b8 st.sites o bH} tm w':=by
 have cr:∀F,bX (b8 st.sites o bH) F->(F=o/\bH.live=true)\/(F≠o/\bX st.sites F):=by
  rintro F ⟨O,h1,h2⟩;rw[cn] at h1;by_cases e:o=F
  ·subst e;simp at h1;subst h1;exact .inl ⟨rfl,h2⟩
  ·simp only[e,if_false] at h1;exact .inr ⟨fun h=>e h.symm,O,h1,h2⟩
 have b1:∀b,an X (fun F=>if F=o then nv else B F) (b8 st.sites o bH) b->an X B st.sites b\/(b∈bI nv/\bH.live=true):=by
  rintro b (h|⟨F,h1,h2⟩)
  ·exact .inl (.inl h)
  ·rcases cr F h1 with⟨rfl,aa⟩|⟨aa,aH⟩
   ·simp at h2;exact .inr ⟨h2,aa⟩
   ·simp only[aa,if_false] at h2;exact .inl (.inr ⟨F,aH,h2⟩)
 have aX:∀b,an X B st.sites b->b<w.heap.size:=by
  rintro b (h|⟨F,h1,h2⟩)
  ·exact S.old b h
  ·exact S.dX h1 h2
 refine S.oS (fun F O bB=>?_) (fun b _ hb=>hw b hb) (fun b h hb ab=>?_) (fun go F O bB=>?_) (fun F aO b h1 h2 g1 g2=>?_) (fun F b h1 g1=>?_) (fun F b h1 g1=>?_) ?_ kY
 ·rw[cn];by_cases e:o=F
  ·subst e;exact⟨bH,by simp,Nat.le_of_lt (mw O bB),fun h=>by have:=mw O bB;omega⟩
  ·have b4:¬F=o:=fun h=>e h.symm
   exact⟨O,by simp[e,bB],Nat.le_refl _,fun _=>by simp[b4]⟩
 ·rcases b1 b ab with ab|⟨ab,_⟩
  ·exact h ab
  ·have:=(gq b ab).1;omega
 ·rw[cn] at bB;by_cases e:o=F
  ·subst e;simp only[if_true,Option.some.injEq] at bB;subst bB;refine .inr (ff rfl (by simp) go (fun b hb hne ab=>?_) (fun hl b hb ab=>?_))
   ·rcases b1 b ab with ab|⟨ab,_⟩
    ·have:=aX b ab;omega
    ·exact hne ab
   ·rcases b1 b ab with ab|⟨_,ab⟩
    ·have:=aX b ab;have:=(gq b hb).1;omega
    ·rw[hl] at ab;cases ab
  ·have b4:¬F=o:=fun h=>e h.symm
   simp only[e,if_false] at bB;exact .inl ⟨bB,by simp[b4],fun hl b hb=>hw b (S.dX ⟨O,bB,hl⟩ hb)⟩
 ·rcases cr F h1 with⟨rfl,_⟩|⟨n1,cY⟩<;>rcases cr aO h2 with⟨rfl,_⟩|⟨n2,gh⟩
  ·rfl
  ·simp only[if_true] at g1;simp only[n2,if_false] at g2;have:=S.dX gh g2;have:=(gq b g1).1;omega
  ·simp only[if_true] at g2;simp only[n1,if_false] at g1;have:=S.dX cY g1;have:=(gq b g2).1;omega
  ·simp only[n1,if_false] at g1;simp only[n2,if_false] at g2;exact S.df F aO b cY gh g1 g2
 ·rcases cr F h1 with⟨rfl,_⟩|⟨n1,cY⟩
  ·simp only[if_true] at g1;have hb:=(gq b g1).1;exact⟨fun hx=>by have:=S.old b hx;have:=S.frame.size;omega,.inr (Nat.le_trans S.frame.size hb)⟩
  ·simp only[n1,if_false] at g1;exact S.b7 F b cY g1
 ·rcases cr F h1 with⟨rfl,_⟩|⟨n1,cY⟩
  ·simp only[if_true] at g1;exact(gq b g1).2
  ·simp only[n1,if_false] at g1;exact Nat.lt_of_lt_of_le (S.dX cY g1) kY
 ·have aR:=S.frame;exact⟨hos.trans aR.os,Ft.trans aR.tape,uV.trans aR.output,Nat.le_trans aR.size kY,fun b h1 h2=>(hw b (Nat.lt_of_lt_of_le h1 aR.size)).trans (aR.block b h1 h2)⟩
theorem ah.append(S:ah L J X B st tm w){o dst s:Nat}{t:aG}{xs r:List (den t)}(hl:look st.sites o=some (.row s t xs)){nv:Value}{w':World}
  (hg:w.grownBy w' (B o).ownBlock) (gq:∀b,b∈bI nv->b<w'.heap.size/\(b∈bI (B o)\/w.heap.size<=b))
  (ff:∀{bp:List (Nat×Site)} {aB:Nat->Value},aB dst=nv->(∀{a v},b_ B st.sites w (an X B st.sites) a v->b_ aB bp w' (an X aB bp) a v)->
   iw aB bp w' (an X aB bp) dst (.row (aZ (st.dp o (.dead s)) dst) t r)):
  ah L J X (fun F=>if F=dst then nv else B F) {st with sites:=aW st.sites [(o,.dead s),(dst,.row (aZ (st.dp o (.dead s)) dst) t r)]} tm w':=by
 have bh:bX st.sites o:=⟨_,hl,rfl⟩;have iW:∀F,look (aW st.sites [(o,.dead s),(dst,.row (aZ (st.dp o (.dead s)) dst) t r)]) F=
   if dst=F then some (.row (aZ (st.dp o (.dead s)) dst) t r) else if o=F then some (.dead s) else look st.sites F:=by
  intro F;simp only[aW,cn]
 have mw:∀O,look st.sites dst=some O->O.b2<aZ (st.dp o (.dead s)) dst:=by
  intro O h;unfold aZ;rw[ad.mj];by_cases e:o=dst
  ·subst e;rw[hl] at h;cases h;simp[Site.b2]
  ·simp only[e,if_false,ad.O,h];exact Nat.lt_succ_self _
 have cr:∀F,bX (aW st.sites [(o,.dead s),(dst,.row (aZ (st.dp o (.dead s)) dst) t r)]) F->F=dst\/(F≠dst/\F≠o/\bX st.sites F):=by
  rintro F ⟨O,h1,h2⟩;rw[iW] at h1;by_cases e:dst=F
  ·exact .inl e.symm
  ·simp only[e,if_false] at h1;by_cases e2:o=F
   ·simp only[e2,if_true,Option.some.injEq] at h1;subst h1;cases h2
   ·simp only[e2,if_false] at h1;exact .inr ⟨fun h=>e h.symm,fun h=>e2 h.symm,O,h1,h2⟩
 have af9:∀b,(B o).ownBlock=some b->b∈bI (B o):=by
  intro b hb;refine fW ?_
  cases hv:B o<;>rw[hv] at hb<;>first|cases hb|skip
  rename_i a n c;cases a<;>first|exact hb|cases hb
 have uG:∀b,b<w.heap.size->b∉bI (B o)->w'.heap[b]? =w.heap[b]? :=fun b hb hne=>hg.block b hb (fun e=>hne (af9 b e.symm))
 refine S.oS (fun F O bB=>?_) (fun b h hb=>uG b hb (fun e=>h (.inr ⟨o,bh,e⟩))) (fun b h hb ab=>?_) (fun go F O bB=>?_) (fun F aO b h1 h2 g1 g2=>?_) (fun F b h1 g1=>?_) (fun F b h1 g1=>?_) ?_ hg.size
 ·rw[iW];by_cases e:dst=F
  ·subst e;refine⟨.row (aZ (st.dp o (.dead s)) dst) t r,by simp,?_,fun h=>?_⟩
   ·exact Nat.le_of_lt (mw O bB)
   ·have:=mw O bB;simp only[Site.b2] at h this;omega
  ·have b4:¬F=dst:=fun h=>e h.symm
   by_cases e2:o=F
   ·subst e2;rw[hl] at bB;cases bB;exact⟨.dead s,by simp[e],Nat.le_refl _,fun _=>by simp[b4]⟩
   ·exact⟨O,by simp[e,e2,bB],Nat.le_refl _,fun _=>by simp[b4]⟩
 ·rcases ab with ab|⟨F,h1,h2⟩
  ·exact h (.inl ab)
  ·rcases cr F h1 with rfl|⟨n1,_,cY⟩
   ·simp only[if_true] at h2;rcases(gq b h2).2 with aa|aa
    ·exact h (.inr ⟨o,bh,aa⟩)
    ·omega
   ·simp only[n1,if_false] at h2;exact h (.inr ⟨F,cY,h2⟩)
 ·rw[iW] at bB;by_cases e:dst=F
  ·subst e;simp only[if_true,Option.some.injEq] at bB;subst bB;exact .inr (ff (by simp) go)
  ·have b4:¬F=dst:=fun h=>e h.symm
   simp only[e,if_false] at bB;by_cases e2:o=F
   ·simp only[e2,if_true,Option.some.injEq] at bB;subst bB;exact .inr trivial
   ·simp only[e2,if_false] at bB;refine .inl ⟨bB,by simp[b4],fun fy b hb=>?_⟩
    have Te:bX st.sites F:=⟨O,bB,fy⟩;exact uG b (S.dX Te hb) (fun h=>e2 (S.df o F b bh Te h hb))
 ·have key:∀F b,F≠dst->F≠o->bX st.sites F->b∈bI (B F)->b∉bI nv:=by
   intro F b n1 n2 cY hb hn;rcases(gq b hn).2 with aa|aa
   ·exact n2 (S.df F o b cY bh hb aa)
   ·have:=S.dX cY hb;omega
  rcases cr F h1 with rfl|⟨n1,m1,cY⟩<;>rcases cr aO h2 with rfl|⟨n2,m2,gh⟩
  ·rfl
  ·simp only[if_true] at g1;simp only[n2,if_false] at g2;exact absurd g1 (key aO b n2 m2 gh g2)
  ·simp only[if_true] at g2;simp only[n1,if_false] at g1;exact absurd g2 (key F b n1 m1 cY g1)
  ·simp only[n1,if_false] at g1;simp only[n2,if_false] at g2;exact S.df F aO b cY gh g1 g2
 ·rcases cr F h1 with rfl|⟨n1,_,cY⟩
  ·simp only[if_true] at g1;rcases(gq b g1).2 with aa|aa
   ·exact S.b7 o b bh aa
   ·exact⟨fun hx=>by have:=S.old b hx;have:=S.frame.size;omega,.inr (Nat.le_trans S.frame.size aa)⟩
  ·simp only[n1,if_false] at g1;exact S.b7 F b cY g1
 ·rcases cr F h1 with rfl|⟨n1,_,cY⟩
  ·simp only[if_true] at g1;exact(gq b g1).1
  ·simp only[n1,if_false] at g1;exact Nat.lt_of_lt_of_le (S.dX cY g1) hg.size
 ·have aR:=S.frame;refine⟨hg.os.trans aR.os,hg.tape.trans aR.tape,hg.output.trans aR.output,Nat.le_trans aR.size hg.size,fun b h1 h2=>?_⟩
  rw[uG b (Nat.lt_of_lt_of_le h1 aR.size) (fun e=>?_)]
  ·exact aR.block b h1 h2
  ·rcases(S.b7 o b bh e).2 with h|h
   ·exact h2 h
   ·omega
end
def Src(w:World)(size:Nat)(x:Value)(m:Nat)(news:List Value):Prop:=
 news.length=m*size/\(∀u∈news,u.oneCell'=true)/\((x=.slice none 0 0/\m=0)\/(∃a c,x=.slice (some a) m c/\∀j u,news[j]? =some u->w.cell? (a.add j)=some u)\/∃s:ByteArray,x=.string s/\m=s.size/\size=1/\news=s.data.toList.map fun b=>Value.int .u8 b.toNat)
theorem Src.run{P:Program}{w w2:World}{size m:Nat}{x:Value}{news:List Value}(h:Src w size x m news)(hw:w2.heap=w.heap):(Builtin.firstCells size m x).run P w2=.ok news.toArray w2:=by
 obtain⟨h1,_,h2⟩:=h;rcases h2 with⟨rfl,rfl⟩|⟨a,c,rfl,aa⟩|⟨s,rfl,rfl,rfl,rfl⟩
 ·have:news=[]:=List.eq_nil_of_length_eq_zero (by simpa using h1)
  subst this;exact run_firstCells_none w2 size 0 0 0
 ·refine run_firstCells_some w2 size m a m c news h1 (fun j u hu=>?_)
  have:=aa j u hu;unfold World.cell? at this ⊢;rw[hw];exact this
 ·have e:s.extract 0 s.size=s:=by simp
  show Result.ok ((s.extract 0 s.size).data.map fun b=>Value.int .u8 b.toNat) w2=_
  rw[e];congr 1
  apply Array.ext';simp
theorem Src.len{P:Program}{w w2:World}{size m:Nat}{x:Value}{news:List Value}(h:Src w size x m news):(Builtin.lenOf x).run P w2=.ok m w2:=by
 obtain⟨_,_,h2⟩:=h;rcases h2 with⟨rfl,rfl⟩|⟨a,c,rfl,_⟩|⟨s,rfl,rfl,_⟩<;>rfl
theorem tp{P:Program}{u:Bool}(w:World)(T IG ty e:TypeId)(ez:u=true->e=lh)(i:TypeInfo)(z:Value)(size bytes:Nat)(aE:P.underlying T=some (.slice e))(iJ:(∃ex,P.underlying IG=some (.slice ex))\/P.underlying IG=some .string)(hi:P.info? e=some i)
  (hz:i.zero=some z) (kY:i.size=size) (l8:i.bytes=bytes) (hzs:z.cells.size=size) (hsz:0<size)
  (v:Value) (n:Nat) (xs:List Value) (iB:∃b4,rowAt w u b4 size v n xs) (x:Value) (m:Nat) (news:List Value) (hsrc:Src w size x m news)
  (H7:n+m<=maxLen) (NQ:(n+m)*bytes<=140737488355328):
  ∃v' w',(Builtin.append_ #[T,IG] ty #[v,x]).run P w=.ok v' w'/\(∃b4,rowAt w' u b4 size v' (n+m) (xs++news))/\w.grownBy w' v.ownBlock/\
   ∀b,a7 v'=some b->b<w'.heap.size/\(a7 v=some b\/w.heap.size<=b):=by
 subst kY l8;obtain⟨b4,o',iB⟩:=iB;have uo:n+m<=9223372036854775807:=by simp only[maxLen] at H7;omega
 have hlen:(xs++news).length=(n+m)*i.size:=by rw[List.length_append,o',hsrc.1,Nat.add_mul]
 have grown:∀(old:Nat),old<n+m->∀(row:Option Nat),
   rowAt (w.drew.alloc (.cells (xs.toArray++news.toArray++Builtin.zeroCells z.cells (grownCap w (n+m) old e-(n+m))) e)) u e i.size
    (.slice (some ⟨w.heap.size,0,none⟩) (n+m) (grownCap w (n+m) old e)) (n+m) (xs++news)/\
   w.grownBy (w.drew.alloc (.cells (xs.toArray++news.toArray++Builtin.zeroCells z.cells (grownCap w (n+m) old e-(n+m))) e)) row:=by
  intro old au row;have mW:=grownCap_ge w (n+m) old e;have gv:grownCap w (n+m) old e<=maxLen:=grownCap_le_maxLen w (n+m) old e H7;refine⟨⟨hlen,.inr ⟨w.heap.size,_,_,(0,0),rfl,⟨ez,.inl rfl⟩,heap_alloc_new w.drew _,mW,gv,?_,?_⟩⟩,⟨rfl,rfl,rfl,by simp,fun k ag _=>RowKit.Below.heap_alloc w.drew _ k ag⟩⟩
  ·simp only[Array.size_append,List.size_toArray,size_zeroCells,hzs,o',hsrc.1,<-Nat.add_mul];congr 1
   omega
  ·simp only[Array.toList_append,List.append_assoc];rw[<-List.append_assoc,<-hlen];exact List.take_left
 have Nz:∀{c:Nat} {D:Obj} {v:Value} b,a7 (.slice (some ⟨w.heap.size,0,none⟩) (n+m) c)=some b->b<(w.drew.alloc D).heap.size/\(a7 v=some b\/w.heap.size<=b):=by
  intro c D v b hb;cases hb;exact⟨by simp,.inr (Nat.le_refl _)⟩
 rcases iB with⟨rfl,rfl⟩|⟨g,cap,cur,bG,rfl,hD,hg,hnc,gv,hcs,lC⟩
 ·have hx:xs=[]:=List.eq_nil_of_length_eq_zero (by simpa using o')
  subst hx;by_cases hm:m=0
  ·subst hm;have hn:news=[]:=List.eq_nil_of_length_eq_zero (by simpa using hsrc.1)
   subst hn;refine⟨.slice none 0 0,w,?_,⟨e,tB w u e i.size⟩,⟨rfl,rfl,rfl,Nat.le_refl _,fun _ _ _=>rfl⟩,fun b hb=>by cases hb⟩
   rcases iJ with⟨ex,iJ⟩|iJ<;>simp[Builtin.append_,run_underlying aE,run_underlying iJ,sizeOf,typeInfo,hi,hsrc.len,hsrc.run (w2:=w) rfl]
  ·have vS:=grown 0 (by omega) (Value.ownBlock (.slice none 0 0))
   refine⟨_,_,?_,⟨e,vS.1⟩,vS.2,Nz⟩;have Gv:¬(9223372036854775807<(m:Int)):=by omega
   have hb:=NQ;simp only[Nat.zero_add] at hb;have Gw:¬(281474976710656<Builtin.nextslicecap m 0*i.bytes):=by rw[nextslicecap_zero (by omega)];omega
   rcases iJ with⟨ex,iJ⟩|iJ<;>simp[Builtin.append_,run_underlying aE,run_underlying iJ,sizeOf,typeInfo,zeroValue,hi,hz,hsrc.len,hm,Gv,Gw,Question.forced,run_firstCells_none,hsrc.run (w2:=w.drew) rfl,newRow,grownCap]
 ·by_cases hroom:n+m<=cap
  ·have iD:n*i.size+news.length<=cur.size:=by rw[hsrc.1,hcs,<-Nat.add_mul];exact Nat.mul_le_mul_right _ hroom
   have c':=k7.run (P:=P) g (n*i.size) b4 bG news 0 cur w hg hD (by simpa using iD) hsrc.2.1
   simp only[Nat.add_zero] at c';refine⟨.slice (some ⟨g,0,none⟩) (n+m) cap,w.setRow g (cur.toList.take (n*i.size)++news++cur.toList.drop (n*i.size+news.length)).toArray,?_,
    ⟨b4,hlen,.inr ⟨g,cap,_,bG,rfl,⟨hD.1,hD.2.imp id (fun h=>⟨h.1,?_⟩)⟩,setRow_heap w g cur _ b4 _ hg,hroom,gv,?_,?_⟩⟩,⟨rfl,rfl,rfl,by simp,fun k _ ag=>setRow_other w g k _ (fun e=>ag (by simp[Value.ownBlock,e]))⟩,fun b hb=>?_⟩
   ·rcases iJ with⟨ex,iJ⟩|iJ<;>simp[Builtin.append_,run_underlying aE,run_underlying iJ,sizeOf,typeInfo,hi,hsrc.len,hroom,hsrc.run (w2:=w) rfl,Addr.add_lit,c']
   ·have:=h.2;simp only[List.size_toArray,List.length_append,List.length_take,List.length_drop,Array.length_toList];omega
   ·simp only[List.size_toArray,List.length_append,List.length_take,List.length_drop,Array.length_toList];omega
   ·rw[lC,<-hlen];exact List.take_left
   ·cases hb;exact⟨by rw[setRow_size];exact(Array.getElem?_eq_some_iff.1 hg).1,.inl rfl⟩
  ·have vS:=grown cap (by omega) (Value.ownBlock (.slice (some ⟨g,0,none⟩) n cap))
   refine⟨_,_,?_,⟨e,vS.1⟩,vS.2,Nz⟩;have holds:∀j u,xs[j]? =some u->w.drew.cell? ((⟨g,0,none⟩:Addr).add j)=some u:=by
    intro j u hu;rw[gl,Nat.zero_add,World.cell?_drew,cell_of_row w g j cur b4 bG hg];rw[<-lC,List.getElem?_take] at hu;split at hu
    ·simpa using hu
    ·cases hu
   have Gv:¬(9223372036854775807<((n:Int)+(m:Int))):=by omega
   have iD:=growslice_fits (need:=n+m) (old:=cap) (bytes:=i.bytes) (by omega) NQ
   have Gw:¬(281474976710656<Builtin.nextslicecap (n+m) cap*i.bytes):=by omega
   have AX:=run_firstCells_some (P:=P) w.drew i.size n ⟨g,0,none⟩ n cap xs o' holds;rcases iJ with⟨ex,iJ⟩|iJ<;>simp[Builtin.append_,run_underlying aE,run_underlying iJ,sizeOf,typeInfo,zeroValue,hi,hz,hsrc.len,hroom,Gv,Gw,Question.forced,hsrc.run (w2:=w.drew) rfl,AX,newRow,grownCap]
   all_goals
    congr 2
    apply Array.ext';simp[List.append_assoc]
section
variable {P:Program}{L:World}{J:List Nat}{X:Nat->Prop}{B:Nat->Value}{st:ad}{tm:Array Value}{w:World}{D:Oper}
theorem _y(S:ah L J X B st tm w){x:aL}{v:Value}{t:aG}{ys:List (den t)}(hx:b_ B st.sites w (an X B st.sites) x v)(h:rV st x=some (.sl t ys)):
  ∃news,Src w (ax t) v ys.length news/\ch w (an X B st.sites) (flat t ys) news:=by
 have one:∀{news:List Value},ck B st.sites w (an X B st.sites) (cC (flat t ys)) news->(∀u∈news,u.oneCell'=true):=by
  intro news h;refine h.h4 ?_
  unfold cC;generalize flat t ys=l;induction l with
  |nil=>rfl
  |cons d l ih=>simpa[gj,aw.storable] using ih
 unfold rV at h;split at h
 ·rename_i bk hB;cases h;have hx:bj w (an X B st.sites) (.sl t ys) v:=hx;cases hx with
  |nil t=>exact⟨[],⟨by simp,fun u hu=>by simp at hu,.inl ⟨rfl,rfl⟩⟩,rfl,fun j h=>by simp[flat] at h⟩
  |sl t xs a cap cs n hn hcap hb hl hc hr=>
   subst hn;have kl:=gX (B:=B) (sites:=st.sites) hl hr;exact⟨cs,⟨by rw[hl,dR],one kl,.inr (.inl ⟨a,cap,rfl,hc⟩)⟩,hl,hr⟩
 ·cases h
 ·rename_i bk;cases h;rw[show v=_ from hx]
  exact⟨[],⟨by simp,fun u hu=>by simp at hu,.inl ⟨rfl,rfl⟩⟩,rfl,fun j h=>by simp[flat] at h⟩
 ·rename_i o s;split at h
  ·rename_i bk hB hr;cases h;obtain⟨cs,hl,hc⟩:=S.row hr;have hv:v=bY (B o):=by
    rcases jw hr with h1|h1<;>exact Ref.at hx.2 h1 rfl
   have cN:=ir hl;refine⟨cs,⟨by rw[cN.1,dR],one hl,?_⟩,cN⟩
   rw[hv];rcases hc with⟨h1,h2⟩|⟨b,c,h1,h2,_⟩
   ·subst h2;exact .inl ⟨h1,rfl⟩
   ·exact .inr (.inl ⟨⟨b,0,none⟩,c,h1,fun j u hu=>by rw[gl];exact h2 j u hu⟩)
  ·cases h
 ·cases h
theorem Ky(S:ah L J X B st tm w){C:Ctx}(az:CtxOk P C){T ed:TypeId}{s x:Operand}{e:TypeId}{t:aG}{bytes:Nat}{dst:Nat}(a0:C.tt T=.slice e t bytes)(uE:(∃ex,P.underlying ed=some (.slice ex))\/P.underlying ed=some .string)
  (au:D.op=.call {callee:=.builtin .append,args:=#[s,x],argTypes:=#[T,ed]}) (db:D.dst=some dst) (Y:b6 st D.dst=true) {ys:List (den t)} {news:List Value} (hsrc:Src w (ax t) (Act.eval ⟨tm,[]⟩ x) ys.length news)
  (dH:ch w (an X B st.sites) (flat t ys) news):Holds (pI bytes t dst st (aP C st T s) ys) (cz P L J X st tm w D):=by
 have bL:=az.tt T;rw[a0] at bL;obtain⟨⟨dZ,_⟩,z,hinfo,hzs,ez⟩:=bL;obtain⟨i,hi,pb⟩:∃i,P.info? e=some i/\(i.size,i.bytes,i.zero)=(ax t,bytes,some z):=by
  cases ay:P.info? e with
  |none=>simp[ay] at hinfo
  |some i=>exact⟨i,rfl,by simpa[ay] using hinfo⟩
 simp only[Prod.mk.injEq] at pb;obtain⟨pb,vR,sZ⟩:=pb;have nQ:=cV S C T s;have runs:∀{v':Value} {w':World},(Builtin.append_ #[T,ed] D.type #[Act.eval ⟨tm,[]⟩ s,Act.eval ⟨tm,[]⟩ x]).run P w=.ok v' w'->
   (execOp (Act.eval ⟨tm,[]⟩) D).run P w=.ok (.value v') w':=by
  intro v' w' h;unfold execOp;simp only[au,resolve,invoke,builtin,Sem.run_bind,Sem.run_pure,Result.andThen_ok,List.map_toArray,List.map_cons,List.map_nil,h]
 have one:∀{u:Bool} {b4:TypeId} {v':Value} {n m:Nat} {l:List Value} {w':World},rowAt w' u b4 n v' m l->v'.oneCell'=true:=by
  intro u b4 v' n m l w' h;rcases h.2 with⟨rfl,_⟩|⟨g,cap,cur,bG,rfl,_⟩<;>rfl
 unfold pI;split
 ·-- a nil slice
  rename_i t2 bV;rw[bV] at nQ;have oV:Act.eval ⟨tm,[]⟩ s=.slice none 0 0:=nQ;refine Holds.e4 fun r hr=>?_
  have cN:dv bytes [] ys=some r:=hr;unfold dv at cN;split at cN
  ·rename_i hb;cases cN;simp only[List.length_nil,Nat.zero_add,room] at hb;obtain⟨v',w',h1,⟨b4,h2⟩,aa,aH⟩:=tp (P:=P) (u:=t.en) w T ed D.type e ez i z (ax t) bytes dZ uE hi sZ pb vR hzs (iS _) (.slice none 0 0) 0 [] ⟨e,tB w _ e _⟩ _ _ news hsrc
    (by rw[Nat.zero_add];exact hb.2) (by rw[Nat.zero_add];exact hb.1)
   rw[Nat.zero_add,List.nil_append] at h2;have bZ:=S.make (o:=dst) (bH:=.row (aZ st dst) t ([]++ys)) (nv:=v') (w':=w') (fun b hb=>aa.block b hb (by simp[Value.ownBlock])) aa.os aa.tape aa.output aa.size
    (fun O M=>jv M) (fun b hb=>by
     obtain⟨g1,g2⟩:=aH b (tV h2 hb);rcases g2 with g2|g2
     ·cases g2
     ·exact⟨g2,g1⟩) (fun M bW go _ _=>by
     refine⟨b4,news,by rw[bW];simpa using h2,?_⟩
     intro j g1 g2;have akJ:j<(flat t ys).length:=by simpa using g1
     simpa using jB go (dH.2 j akJ g2))
   refine io (us:=[(dst,.row (aZ st dst) t ([]++ys))]) bZ Y (runs (by rw[oV];exact h1)) ?_
   refine⟨one h2,Ref.mk (O:=.row (aZ st dst) t ([]++ys)) ?_ rfl (by simp[(iv h2).1])⟩
   simp only[aW,cn];simp
  ·cases cN
 ·-- a row of r3 own
  rename_i o s2 bV;rw[bV] at nQ;split
  ·rename_i hI t2 xs fj;have nF:look st.sites o=some (.row hI t2 xs):=fj;cases A1:hI.beq s2 with
   |false=>simp only[cond_false];exact .fail
   |true=>
    have jO:=Nat.eq_of_beq_eq_true A1;subst jO;simp only[cond_true];split
    ·rename_i g8;subst g8;refine Holds.e4 fun r hr=>?_
     have cN:dv bytes xs ys=some r:=hr;unfold dv at cN;split at cN
     ·rename_i hb;cases cN;simp only[room] at hb;have hv:Act.eval ⟨tm,[]⟩ s=bY (B o):=Ref.at nQ.2 nF rfl;obtain⟨mf,cs,iB,hcs⟩:=S.sites o _ nF;rw[(iv iB).1] at hv;obtain⟨v',w',h1,⟨b4,h2⟩,aa,aH⟩:=tp (P:=P) w T ed D.type e ez i z (ax t2) bytes dZ uE hi sZ pb vR hzs (iS _) (B o) xs.length cs ⟨mf,iB⟩ _ _ news hsrc hb.2 hb.1;have bZ:=S.append (dst:=dst) (r:=xs++ys) nF (nv:=v') (w':=w') aa (fun b hb=>by
       obtain⟨aC,ao⟩:=aH b (tV h2 hb);exact⟨aC,ao.imp fW id⟩) (fun bW go=>by
       refine⟨b4,cs++news,by rw[bW,List.length_append];exact h2,?_⟩
       have nX:ch w (an X B st.sites) (flat t2 xs) cs:=⟨by rw[dR];exact iB.1,hcs⟩
       have mN:=ir ((gX (B:=B) (sites:=st.sites) nX.1 nX.2).append (gX (B:=B) (sites:=st.sites) dH.1 dH.2)|>fun h=>by
        rw[show cC (flat t2 xs)++cC (flat t2 ys)=cC (flat t2 (xs++ys)) from by simp[cC,kL]] at h
        exact h)
       intro j g1 g2;exact jB go (mN.2 j g1 g2))
      refine io (us:=[(o,.dead hI),(dst,.row (aZ (st.dp o (.dead hI)) dst) t2 (xs++ys))]) bZ Y (runs (by rw[hv];exact h1)) ?_
      refine⟨one h2,Ref.mk (O:=.row (aZ (st.dp o (.dead hI)) dst) t2 (xs++ys)) ?_ rfl (by simp[(iv h2).1])⟩
      simp only[aW,cn];simp
     ·cases cN
    ·exact .fail
  ·exact .fail
 ·exact .fail
theorem Z0(S:ah L J X B st tm w){C:Ctx}(az:CtxOk P C){T ed:TypeId}{s x:Operand}{e ex:TypeId}{t u:aG}{bytes aJ:Nat}{dst:Nat}(a0:C.tt T=.slice e t bytes)(ez:C.tt ed=.slice ex u aJ)
  (au:D.op=.call {callee:=.builtin .append,args:=#[s,x],argTypes:=#[T,ed]}) (db:D.dst=some dst) (Y:b6 st D.dst=true):
  Holds (ry bytes t dst st (aP C st T s) (aP C st ed x)) (cz P L J X st tm w D):=by
 have pf:=az.tt ed;rw[ez] at pf;unfold ry;split
 ·exact .fail
 ·rename_i d l7;split
  ·rename_i bk ys;split
   ·rename_i g8;subst g8;obtain⟨news,hsrc,dH⟩:=_y S (cV S C ed x) l7;exact Ky S az a0 (.inl ⟨_,pf.1.1⟩) au db Y hsrc dH
   ·exact .fail
  ·exact .fail
theorem Yp(S:ah L J X B st tm w){C:Ctx}(az:CtxOk P C){T ed:TypeId}{s x:Operand}{e:TypeId}{t:aG}{bytes:Nat}{dst:Nat}(a0:C.tt T=.slice e t bytes)(ez:C.tt ed=.str)
  (au:D.op=.call {callee:=.builtin .append,args:=#[s,x],argTypes:=#[T,ed]}) (db:D.dst=some dst) (Y:b6 st D.dst=true):
  Holds (rz bytes t dst st (aP C st T s) (aP C st ed x)) (cz P L J X st tm w D):=by
 have pf:=az.tt ed;rw[ez] at pf;have bo:=cV S C ed x;unfold rz;split
 ·rename_i y hx;rw[hx] at bo;split
  ·rename_i g8;subst g8;have bo:bj w (an X B st.sites) (.str y) (Act.eval ⟨tm,[]⟩ x):=bo;generalize hv:Act.eval ⟨tm,[]⟩ x=v at bo;cases bo with
   |str _ b hb=>
    subst hb;refine Ky S az a0 (.inr pf.1) au db Y (news:=b.data.toList.map fun b=>Value.int .u8 b.toNat) ?_ ?_
    ·rw[hv];refine⟨by simp[bytesOf,ax],fun u hu=>?_,.inr (.inr ⟨b,rfl,?_,rfl,rfl⟩)⟩
     ·obtain⟨c,_,rfl⟩:=List.mem_map.1 hu;rfl
     ·simp only[bytesOf,List.length_map,Array.length_toList];rfl
    ·have e1:flat .u8 (bytesOf b.data.toList)=(b.data.toList.map fun b=>aM.int .u8 b.toNat):=by
      unfold flat bytesOf;rw[List.flatMap_map];generalize b.data.toList=l;induction l with
      |nil=>rfl
      |cons a l ih=>simp only[List.flatMap_cons,List.map_cons,ih];rfl
     rw[e1];refine⟨by simp,fun j g1 g2=>?_⟩
     simp only[List.getElem_map];exact .int _ _
  ·exact .fail
 ·exact .fail
end
theorem foldl_set:∀(vs:List Value) (off k:Nat) (arr:Array Value),off+k+vs.length<=arr.size->
  (vs.zipIdx k).foldl (fun cs (x:Value×Nat)=>cs.setIfInBounds (off+x.2) x.1) arr=(a_ arr.toList (off+k) vs).toArray:=by
 intro vs;induction vs with
 |nil=>intro off k arr h;simp[a_]
 |cons v vs ih=>
  intro off k arr h;simp only[List.zipIdx_cons,List.foldl_cons];rw[ih off (k+1) _ (by simp at h ⊢;omega)]
  congr 1
  simp only[List.length_cons] at h;unfold a_;rw[Array.toList_setIfInBounds];apply List.ext_getElem?;intro j;simp only[List.getElem?_append,List.length_append,List.length_take,List.length_set,List.getElem?_take,List.getElem?_drop,List.getElem?_set,List.length_cons,Array.length_toList];have m1:min (off+k) arr.size=off+k:=by omega
  have m2:min (off+(k+1)) arr.size=off+(k+1):=by omega
  simp only[m1,m2];by_cases c1:j<off+k
  ·have c2:j<off+(k+1):=by omega
   have c3:j<off+(k+1)+vs.length:=by omega
   have dV:j<off+k+(vs.length+1):=by omega
   have js:¬off+k=j:=by omega
   simp[c1,c2,c3,dV,js]
  ·by_cases c0:j=off+k
   ·subst c0;have c2:off+k<off+(k+1):=by omega
    have c3:off+k<off+(k+1)+vs.length:=by omega
    have dV:off+k<off+k+(vs.length+1):=by omega
    have js:off+k<arr.size:=by omega
    simp[c2,c3,dV,js]
   ·by_cases dV:j<off+k+(vs.length+1)
    ·have c2:¬j<off+(k+1):=by omega
     have c3:j<off+(k+1)+vs.length:=by omega
     have e:j-(off+k)=(j-(off+(k+1)))+1:=by omega
     simp[c1,c2,c3,dV,e]
    ·have c3:¬j<off+(k+1)+vs.length:=by omega
     have js:¬off+k=off+(k+1)+vs.length+(j-(off+(k+1)+vs.length)):=by omega
     have e:off+(k+1)+vs.length+(j-(off+(k+1)+vs.length))=off+k+(vs.length+1)+(j-(off+k+(vs.length+1))):=by omega
     simp[c3,dV,js,e];try(intro bD;exfalso;omega)
theorem JZ(v:Value)(off:Nat)(arr:Array Value)(h:off+v.cells.size<=arr.size):
  v.cells.zipIdx.foldl (fun cs (x:Value×Nat)=>cs.setIfInBounds (off+x.2) x.1) arr=(a_ arr.toList off v.cells.toList).toArray:=by
 rw[<-Array.foldl_toList,Array.toList_zipIdx];exact foldl_set v.cells.toList off 0 arr (by simpa using h)
theorem Kt(s:Nat):∀(vs:List (Nat×Value)) (n:Nat) (cells:Array Value),(∀j (h:j<vs.length),(vs[j]).1=n+j)->(∀p,p∈vs->p.2.cells.size=s)->(n+vs.length)*s<=cells.size->
  Instr.fill (fun i=>some (i*s,s)) cells vs=some (a_ cells.toList (n*s) (vs.flatMap fun p=>p.2.cells.toList)).toArray:=by
 intro vs;induction vs with
 |nil=>intro n cells _ _ _;simp[Instr.fill,a_]
 |cons p vs ih=>
  obtain⟨i,v⟩:=p;intro n cells hi M c4;have h0:i=n:=hi 0 (Nat.zero_lt_succ _);subst h0;have hv:v.cells.size=s:=M (i,v) (by simp)
  have iC:i*s+s<=cells.size:=by
   have:(i+1)*s<=(i+(vs.length+1))*s:=Nat.mul_le_mul_right _ (by omega)
   simp only[List.length_cons] at c4;rw[Nat.add_mul,Nat.one_mul] at this;omega
  simp only[Instr.fill,hv];rw[if_neg (by simp;omega)]
  have oO:=JZ v (i*s) cells (by omega)
  rw[oO];have hlen:v.cells.toList.length=s:=by simpa using hv
  have af3:(a_ cells.toList (i*s) v.cells.toList).length=cells.toList.length:=mi _ _ _ (by simp;omega)
  rw[ih (i+1) _ (fun j h=>by have:=hi (j+1) (by simpa using h);simp at this;omega) (fun p aj=>M p (by simp[aj])) (by
   simp only[List.length_cons] at c4;simp only[List.size_toArray,af3,Array.length_toList];have e:i+1+vs.length=i+(vs.length+1):=by omega
   rw[e];exact c4)]
  congr 2
  simp only[List.flatMap_cons,List.toList_toArray];have mX:(vs.flatMap fun p=>p.2.cells.toList).length=vs.length*s:=by
   clear ih hi c4;induction vs with
   |nil=>simp
   |cons q vs Hv=>
    have:q.2.cells.toList.length=s:=by simpa using M q (by simp)
    rw[List.flatMap_cons,List.length_append,this,Hv (fun p aj=>M p (by rcases List.mem_cons.1 aj with h|h<;>simp[h])),List.length_cons,Nat.add_mul];omega
  have agj:(i+(vs.length+1))*s<=cells.size:=by simpa using c4
  rw[Nat.add_mul,Nat.add_mul] at agj;unfold a_;apply List.ext_getElem?;intro j;have e1:(i+1)*s=i*s+s:=by rw[Nat.add_mul,Nat.one_mul]
  simp only[List.getElem?_append,List.length_append,List.length_take,List.getElem?_take,List.getElem?_drop,List.length_drop,Array.length_toList,hlen,mX,e1];have m1:min (i*s) cells.size=i*s:=by omega
  have m2:min (i*s+s) (i*s+s+(cells.size-(i*s+s)))=i*s+s:=by omega
  simp only[m1,m2];by_cases c1:j<i*s
  ·have c2:j<i*s+s:=by omega
   have c3:j<i*s+s+vs.length*s:=by omega
   have dV:j<i*s+(s+vs.length*s):=by omega
   simp[c1,c2,c3,dV]
  ·by_cases c2:j<i*s+s
   ·have c3:j<i*s+s+vs.length*s:=by omega
    have dV:j<i*s+(s+vs.length*s):=by omega
    have js:j-i*s<s:=by omega
    simp[c1,c2,c3,dV,js]
   ·by_cases c3:j<i*s+s+vs.length*s
    ·have dV:j<i*s+(s+vs.length*s):=by omega
     have js:¬j-i*s<s:=by omega
     have e:j-i*s-s=j-(i*s+s):=by omega
     simp[c1,c2,c3,dV,js,e]
    ·have dV:¬j<i*s+(s+vs.length*s):=by omega
     have js:¬i*s+s+vs.length*s+(j-(i*s+s+vs.length*s))<i*s:=by omega
     have c6:¬i*s+s+vs.length*s+(j-(i*s+s+vs.length*s))<i*s+s:=by omega
     have e:i*s+s+(i*s+s+vs.length*s+(j-(i*s+s+vs.length*s))-(i*s+s))=i*s+(s+vs.length*s)+(j-(i*s+(s+vs.length*s))):=by omega
     simp[c3,dV,js,c6,e]
theorem X4:∀(l:List (Nat×Operand)) (n:Nat),oE n l=true->∀j (h:j<l.length),(l[j]).1=n+j:=by
 intro l;induction l with
 |nil=>intro n _ j h;simp at h
 |cons p l ih=>
  obtain⟨i,x⟩:=p;intro n h j hj;simp only[oE,Bool.and_eq_true] at h;cases j with
  |zero=>simpa using Nat.eq_of_beq_eq_true h.1
  |succ j=>have:=ih (n+1) h.2 j (by simpa using hj);simp;omega
section
variable {P:Program}{L:World}{J:List Nat}{X:Nat->Prop}{B:Nat->Value}{st:ad}{tm:Array Value}{w:World}{D:Oper}
theorem VE{U:List aw}(h:gj U=true):U.head?≠some .ew:=by
 intro bQ;cases U with
 |nil=>cases bQ
 |cons l r=>
  simp only[List.head?_cons,Option.some.injEq] at bQ;subst bQ;cases h
theorem ah.MO(S:ah L J X B st tm w){o:Nat}{cells:List aw}{vs:List Value}{T:TypeId}(hl:ck B st.sites w (an X B st.sites) cells vs)(h1:∀u∈vs,u.oneCell'=true)(fO:mJ cells T vs w.heap.size):
  ah L J X (fun F=>if F=o then .pointer (some ⟨w.heap.size,0,none⟩) else B F) {st with sites:=b8 st.sites o (.box (aZ st o) cells)} tm (w.alloc (.cells vs.toArray T (0,0))):=
 S.make (fun b hb=>RowKit.Below.heap_alloc w _ b hb) rfl rfl rfl (by simp) (fun O M=>jv M) (fun b hb=>by have hb:=List.mem_singleton.1 hb;subst hb;exact⟨Nat.le_refl _,by simp⟩)
  (fun M bW go _ _=>⟨w.heap.size,T,vs,bW,heap_alloc_new w _,hl.1,h1,fO,fun j g1 g2=>(y6 go hl).2 j g1 g2⟩)
theorem _D{B:Nat->Value}{sites:List (Nat×Site)}{av:Nat->Prop}{cells:List aw}{T:TypeId}{cur:List Value}{b:Nat}(a0:T=qy)(h:ck B sites w av cells cur)(M:cells.head?≠some .ew):ck B sites w av (uw cells) cur/\mJ (uw cells) T cur b:=by
 unfold uw;split
 ·obtain⟨v,vs,rfl,h1,h2⟩:=h.inv;exact⟨.cons (show dk B sites w av .ew v from trivial) h2,fun _=>⟨a0,.inl (by rw[show v=_ from h1];rfl)⟩⟩
 ·exact⟨h,fun ab=>absurd ab M⟩
theorem aaE(S:ah L J X B st tm w){C:Ctx}(az:CtxOk P C){elem:TypeId}{z:List aw}{o:Nat}(au:D.op=.alloc elem)(db:D.dst=some o)(hz:(C.tt elem).zero=some z)(Y:b6 st D.dst=true):
  cz P L J X st tm w D (bP (.ptr o (aZ st o) 0)) [(o,.box (aZ st o) (bif elem.beq qy then uw z else z))]:=by
 obtain⟨v,hv,hzv⟩:=cf.xn (w:=w) (az.tt elem) hz;obtain⟨h1,h2,aa⟩:=qV hzv;have fO:z.head?≠some .ew:=by
  intro bQ;cases z with
  |nil=>cases bQ
  |cons l r=>
   simp only[List.head?_cons,Option.some.injEq] at bQ;subst bQ;simp[kP,pD] at hzv
 have cI:(execOp (Act.eval ⟨tm,[]⟩) D).run P w=.ok (.value (.pointer (some ⟨w.heap.size,0,none⟩))) (w.alloc (.cells v.cells.toList.toArray elem (0,0))):=by
  unfold execOp;simp[au,Instr.alloc,hv,newVar,newRow]
 have key:∀cells,ck B st.sites w (an X B st.sites) cells v.cells.toList->mJ cells elem v.cells.toList w.heap.size->
   cz P L J X st tm w D (bP (.ptr o (aZ st o) 0)) [(o,.box (aZ st o) cells)]:=by
  intro cells hl M;have bZ:=S.MO (o:=o) (T:=elem) hl h2 M;refine io (us:=[(o,.box (aZ st o) cells)]) bZ Y (vv:=.pointer (some ⟨w.heap.size,0,none⟩)) cI ?_
  refine⟨_,rfl,Ref.mk (O:=.box (aZ st o) cells) ?_ rfl (by simp[bY])⟩
  simp only[aW,cn];simp
 cases a0:elem.beq qy with
 |false=>exact key z ⟨h1,aa _ _ _ _⟩ fun h=>absurd h fO
 |true=>
  obtain⟨aC,ao⟩:=_D (b:=w.heap.size) (Nat.eq_of_beq_eq_true a0) (⟨h1,aa B st.sites w (an X B st.sites)⟩:ck B st.sites w (an X B st.sites) z v.cells.toList) fO;exact key _ aC ao
theorem adf(S:ah L J X B st tm w){elem:TypeId}{x:Operand}{a:bA}{o:Nat}(au:D.op=.box elem x)(db:D.dst=some o)(a3:f_ B st.sites w (an X B st.sites) a (Act.eval ⟨tm,[]⟩ x))
  (c':gj a.cells=true) (Y:b6 st D.dst=true):cz P L J X st tm w D (bP (.ptr o (aZ st o) 0)) [(o,.box (aZ st o) a.cells)]:=by
 have hl:=a3.cells c';have bZ:=S.MO (o:=o) (T:=elem) hl (hl.h4 c') (fun h=>absurd h (VE c'))
 refine io (us:=[(o,.box (aZ st o) a.cells)]) bZ Y (vv:=.pointer (some ⟨w.heap.size,0,none⟩)) ?_ ?_
 ·unfold execOp;simp[au,Instr.box,newVar,newRow]
 ·refine⟨_,rfl,Ref.mk (O:=.box (aZ st o) a.cells) ?_ rfl (by simp[bY])⟩
  simp only[aW,cn];simp
theorem ah.DN(S:ah L J X B st tm w){o:Nat}{t:aG}{xs:List (den t)}{cs rest:List Value}{T:TypeId}{cap:Nat}(hl:ch w (an X B st.sites) (flat t xs) cs)(hcap:cs.length+rest.length=cap*ax t)(hm:cap<=maxLen)(ez:t.en=true->T=lh):
  ah L J X (fun F=>if F=o then .slice (some ⟨w.heap.size,0,none⟩) xs.length cap else B F) {st with sites:=b8 st.sites o (.row (aZ st o) t xs)} tm (w.alloc (.cells (cs++rest).toArray T (0,0))):=by
 have hcl:cs.length=xs.length*ax t:=by rw[hl.1,dR]
 have c4:xs.length<=cap:=by
  have:xs.length*ax t<=cap*ax t:=by omega
  exact Nat.le_of_mul_le_mul_right this (iS t)
 refine S.make (fun b hb=>RowKit.Below.heap_alloc w _ b hb) rfl rfl rfl (by simp) (fun O M=>jv M) (fun b hb=>by have hb:=List.mem_singleton.1 hb;subst hb;exact⟨Nat.le_refl _,by simp⟩)
  (fun M bW go _ _=>⟨T,cs,⟨hcl,.inr ⟨w.heap.size,cap,_,(0,0),bW,⟨ez,.inl rfl⟩,heap_alloc_new w _,c4,hm,?_,?_⟩⟩,fun j g1 g2=>jB go (hl.2 j g1 g2)⟩)
 ·simp[hcap]
 ·rw[<-hcl];simp
theorem abY:∀{as:List bA} {t:aG} {xs:List (den t)} {us vs:List (Nat×Site)} {ws:List Value},k6 t st as=some (xs,us)->ws.length=as.length->
  (∀j (h:j<as.length) (ab:j<ws.length),f_ B st.sites w (an X B st.sites) (as[j]) (ws[j]))->kI L J X B st tm w vs->(∀p,p∈us->p∈vs)->
  xs.length=as.length/\ch w (an X B (aW st.sites vs)) (flat t xs) (ws.flatMap fun v=>v.cells.toList)/\∀v,v∈ws->v.cells.size=ax t:=by
 intro as;induction as with
 |nil=>
  intro t xs us vs ws h hl _ _ _;simp only[k6] at h;cases h;have:ws=[]:=List.eq_nil_of_length_eq_zero hl;subst this;exact⟨rfl,⟨rfl,fun j h=>by simp[flat] at h⟩,fun v hv=>by simp at hv⟩
 |cons a as ih=>
  intro t xs us vs ws h hl ff aR dB;match ws,hl with
  |v::ws,hl=>
  simp only[k6] at h;split at h
  ·rename_i ds u1 lM;split at h
   ·rename_i x hB u2 d_ mG;cases h;have b1:=ff 0 (by simp) (by simp)
    simp only[List.getElem_cons_zero] at b1;have c':gj a.cells=true:=by
     clear mG ih ff b1 hl d_;generalize a.cells=U at lM;induction U generalizing ds u1 with
     |nil=>rfl
     |cons l U ih=>
      simp only[g5] at lM;split at lM
      ·rename_i d UQ gg ob h1 h2;simp only[gj,Bool.and_eq_true];refine⟨?_,ih _ _ (fun p aj=>dB p (by cases lM;rcases List.mem_append.1 aj with h|h<;>simp[h])) h2⟩
       unfold jk at h1;split at h1<;>first|rfl|cases h1
      ·cases lM
    have hl1:=b1.cells c';have qn:=yI lM hl1 aR (fun p aj=>dB p (List.mem_append.2 (.inl aj)))
    obtain⟨g1,g2,g3⟩:=ih mG (by simpa using hl) (fun j h1 h2=>ff (j+1) (by simpa using h1) (by simpa using h2)) aR (fun p aj=>dB p (List.mem_append.2 (.inr aj)))
    have nR:=nD _ _ _ d_;refine⟨by simp[g1],?_,fun u hu=>?_⟩
    ·simp only[flat,List.flatMap_cons];rw[nR];have:=ir ((gX (B:=B) (sites:=st.sites) qn.1 qn.2).append (gX (B:=B) (sites:=st.sites) g2.1 g2.2)|>fun h=>by
      rw[show cC ds++cC (flat t hB)=cC (ds++flat t hB) from by simp[cC]] at h
      exact h)
     exact this
    ·rcases List.mem_cons.1 hu with rfl|hu
     ·have:u.cells.toList.length=ds.length:=qn.1;rw[<-nR,fc] at this;simpa using this
     ·exact g3 u hu
   ·cases h
  ·cases h
theorem abZ:∀{as:List bA} {t:aG} {xs:List (den t)} {us:List (Nat×Site)},k6 t st as=some (xs,us)->dq st.sites us:=by
 intro as;induction as with
 |nil=>intro t xs us h;simp only[k6] at h;cases h;exact .nil
 |cons a as ih=>
  intro t xs us h;simp only[k6] at h;split at h
  ·rename_i ds u1 lM;split at h
   ·rename_i x hB u2 d_ mG;cases h;exact(Eo lM).append (ih mG)
   ·cases h
  ·cases h
theorem Vo{us:List (Nat×Site)}(h:dq st.sites us)(o:Nat):aZ {st with sites:=aW st.sites us} o=aZ st o:=by
 unfold aZ ad.O;simp only;rcases lq h o with h1|⟨s,t,xs,h1,h2⟩
 ·rw[h1]
 ·rw[h2];rcases h1 with h1|h1|h1<;>rw[h1]<;>rfl
end
section
variable {P:Program}{L:World}{J:List Nat}{X:Nat->Prop}{B:Nat->Value}{st:ad}{tm:Array Value}{w:World}{D:Oper}
theorem px{v:aL}{a:bA}(h:lR v=some a):v=.av a:=by
 cases v with
 |av b=>cases h;rfl
 |je _=>cases h
theorem Kv:∀{vs:List aL} {as:List bA},mI vs=some as->vs.length=as.length/\∀j (h:j<vs.length) (ab:j<as.length),vs[j]=.av (as[j]):=by
 intro vs;induction vs with
 |nil=>intro as h;simp only[mI] at h;cases h;exact⟨rfl,fun j h=>by simp at h⟩
 |cons v vs ih=>
  intro as h;simp only[mI] at h;split at h
  ·rename_i a jm h1 h2;cases h;obtain⟨g1,g2⟩:=ih h2;refine⟨by simp[g1],fun j aC ao=>?_⟩
   cases j with
   |zero=>exact px h1
   |succ j=>exact g2 j (by simpa using aC) (by simpa using ao)
  ·cases h
theorem oq{C:Ctx}(az:CtxOk P C){T e:TypeId}{t:aG}{bytes:Nat}(a0:C.tt T=.slice e t bytes):
  P.underlying T=some (.slice e)/\∃i z,P.info? e=some i/\i.size=ax t/\i.bytes=bytes/\i.zero=some z/\z.cells.size=ax t/\(t.en=true->e=lh):=by
 have bL:=az.tt T;rw[a0] at bL;obtain⟨⟨dZ,_⟩,z,hinfo,hzs⟩:=bL;refine⟨dZ,?_⟩;cases ay:P.info? e with
 |none=>simp[ay] at hinfo
 |some i=>
  simp only[ay,Option.map_some,Option.some.injEq,Prod.mk.injEq] at hinfo;exact⟨i,z,rfl,hinfo.1,hinfo.2.1,hinfo.2.2,hzs⟩
theorem Jo{C:Ctx}(az:CtxOk P C){T e:TypeId}{t:aG}{bytes len:Nat}{parts:Array (Nat×Operand)}(a0:C.tt T=.slice e t bytes)(hlen:parts.toList.length=len)(lJ:oE 0 parts.toList=true)(uo:len*ax t<=1000)
  {ws:List Value} (HE:ws=parts.toList.map fun p=>Act.eval ⟨tm,[]⟩ p.2) (hcs:∀v,v∈ws->v.cells.size=ax t) (hcl:(ws.flatMap fun v=>v.cells.toList).length=len*ax t):
  (Instr.buildSlice T len (parts.map fun(x:Nat×Operand)=>(x.1,Act.eval ⟨tm,[]⟩ x.2))).run P w=
   .ok (.slice (some ⟨w.heap.size,0,none⟩) len len) (w.alloc (.cells (ws.flatMap fun v=>v.cells.toList).toArray e)):=by
 obtain⟨dZ,i,z,hi,gF,n6,kp,hzs,ez⟩:=oq az a0;have ac0:(parts.map fun(x:Nat×Operand)=>(x.1,Act.eval ⟨tm,[]⟩ x.2)).toList=parts.toList.map fun p=>(p.1,Act.eval ⟨tm,[]⟩ p.2):=by simp
 have aeg:((parts.toList.map fun p=>(p.1,Act.eval ⟨tm,[]⟩ p.2)).flatMap fun p:Nat×Value=>p.2.cells.toList)=ws.flatMap fun v=>v.cells.toList:=by
  simp[HE,List.flatMap_map]
 by_cases h0:len*i.size=0
 ·have o':len=0:=by
   rcases Nat.mul_eq_zero.1 h0 with h|h
   ·exact h
   ·have:=iS t;omega
  subst o';have n4:parts.toList=[]:=List.eq_nil_of_length_eq_zero hlen;have ajF:ws=[]:=by simp[HE,n4]
  have ajS:parts=#[]:=by simpa using n4
  rw[ajF];have iK:∀f:Nat->Value,Array.map f (Array.range 0)=#[]:=fun f=>by apply Array.ext';simp
  simp[Instr.buildSlice,run_underlying dZ,sizeOf,typeInfo,hi,ajS,Instr.fill,newRow,iK]
 ·refine run_buildSlice w T e len _ _ i z dZ hi kp (by rw[gF];omega) h0 ?_
  rw[ac0];have ad6:(((Array.range (len*i.size)).map fun x=>z.cells[x%z.cells.size]!)).size=len*i.size:=by simp
  have:=Kt (ax t) (parts.toList.map fun p=>(p.1,Act.eval ⟨tm,[]⟩ p.2)) 0 ((Array.range (len*i.size)).map fun x=>z.cells[x%z.cells.size]!)
   (fun j h=>by have:=X4 _ 0 lJ j (by simpa using h);simpa using this)
   (fun p aj=>by
    obtain⟨q,ay,rfl⟩:=List.mem_map.1 aj;exact hcs _ (by rw[HE];exact List.mem_map.2 ⟨q,ay,rfl⟩))
   (by rw[ad6,gF];simp[hlen])
  rw[gF] at this ⊢;rw[this,aeg];congr 2
  unfold a_;rw[Nat.zero_mul,List.take_zero,List.nil_append,Nat.zero_add,hcl,List.drop_eq_nil_of_le (by simp),List.append_nil]
theorem VU(S:ah L J X B st tm w){C:Ctx}(az:CtxOk P C){T e:TypeId}{t:aG}{bytes len o:Nat}{parts:Array (Nat×Operand)}(a0:C.tt T=.slice e t bytes)(au:D.op=.buildSlice T len parts)
  (db:D.dst=some o) (Y:b6 st D.dst=true) (hlen:parts.toList.length=len) (lJ:oE 0 parts.toList=true) (uo:len*ax t<=1000) {as:List bA} {xs:List (den t)} {us:List (Nat×Site)}
  (has:mI (parts.toList.map fun p=>aP C st e p.2)=some as) (d_:k6 t st as=some (xs,us)):
  cz P L J X st tm w D (bP (.own o (aZ st o))) (us++[(o,.row (aZ st o) t xs)]):=by
 obtain⟨dZ,i,z,hi,gF,n6,kp,hzs,ez⟩:=oq az a0;have hD:=abZ d_;have aR:kI L J X B st tm w us:=⟨S,hD⟩;obtain⟨vZ,kt⟩:=Kv has;let ws:List Value:=parts.toList.map fun p=>Act.eval ⟨tm,[]⟩ p.2
 have qg:ws.length=as.length:=by rw[<-vZ];simp[ws]
 have Gc:∀j (h:j<as.length) (ab:j<ws.length),f_ B st.sites w (an X B st.sites) (as[j]) (ws[j]):=by
  intro j h1 h2;have hj:j<(parts.toList.map fun p=>aP C st e p.2).length:=by rw[vZ];exact h1
  have:=kt j hj h1;simp only[List.getElem_map] at this;have bo:=cV S C e (parts.toList[j]'(by simpa using hj)).2
  rw[this] at bo;have aa:b_ B st.sites w (an X B st.sites) (.av (as[j])) (ws[j]):=by simpa[ws] using bo
  exact aa
 obtain⟨vw,dH,hcs⟩:=abY d_ qg Gc aR (fun p aj=>aj)
 have pU:xs.length=len:=by rw[vw,<-qg];simpa[ws] using hlen
 have hcl:(ws.flatMap fun v=>v.cells.toList).length=len*ax t:=by rw[dH.1,dR,pU]
 have hm:len<=maxLen:=by
  have:len*1<=len*ax t:=Nat.mul_le_mul_left _ (iS t);unfold maxLen;omega
 have bZ:=aR.new.DN (o:=o) (xs:=xs) (cs:=ws.flatMap fun v=>v.cells.toList) (rest:=[]) (T:=e) (cap:=len) (by exact dH) (by simp[hcl]) hm ez
 rw[Vo hD,pU,List.append_nil] at bZ;have oI:aW st.sites (us++[(o,.row (aZ st o) t xs)])=b8 (aW st.sites us) o (.row (aZ st o) t xs):=by rw[hZ];rfl
 have cI:(Instr.buildSlice T len (parts.map fun(x:Nat×Operand)=>(x.1,Act.eval ⟨tm,[]⟩ x.2))).run P w=
   .ok (.slice (some ⟨w.heap.size,0,none⟩) len len) (w.alloc (.cells (ws.flatMap fun v=>v.cells.toList).toArray e)):=Jo az a0 hlen lJ uo rfl hcs hcl
 refine io (us:=us++[(o,.row (aZ st o) t xs)]) (by rw[oI];exact bZ) Y (vv:=.slice (some ⟨w.heap.size,0,none⟩) len len) ?_ ?_
 ·unfold execOp;simp only[au,Sem.run_bind];have Fv:=cI;simp only[Fv,Result.andThen_ok,Sem.run_pure]
 ·rw[oI];refine⟨rfl,Ref.mk (O:=.row (aZ st o) t xs) ?_ rfl (by simp[bY])⟩
  simp only[cn];simp
theorem VH{w:World}{av:Nat->Prop}{t:aG}{z:den t}{fQ:List Value}(h:ch w av (enc t z) fQ)(n:Nat):ch w av (flat t (List.replicate n z)) ((List.replicate n fQ).flatten):=by
 induction n with
 |zero=>exact⟨rfl,fun j h=>by simp[flat] at h⟩
 |succ n ih=>
  have:=ir ((gX (B:=fun _=>undef) (sites:=[]) h.1 h.2).append (gX (B:=fun _=>undef) (sites:=[]) ih.1 ih.2)|>fun h=>by
   rw[show cC (enc t z)++cC (flat t (List.replicate n z))=cC (enc t z++flat t (List.replicate n z)) from by simp[cC]] at h
   exact h)
  simpa[List.replicate_succ,flat,List.flatMap_cons] using this
theorem Zd(z:Array Value)(n:Nat)(hz:0<z.size):((Array.range (n*z.size)).map fun x=>z[x%z.size]!).toList=(List.replicate n z.toList).flatten:=by
 induction n with
 |zero=>simp
 |succ n ih=>
  rw[List.replicate_succ',List.flatten_append];rw[<-ih];apply List.ext_getElem?;intro j;have e:(n+1)*z.size=n*z.size+z.size:=by rw[Nat.add_mul,Nat.one_mul]
  simp only[Array.toList_map,Array.toList_range,List.getElem?_map,List.getElem?_append,List.length_map,List.length_range,List.flatten_cons,List.flatten_nil,List.append_nil,e];by_cases h1:j<n*z.size
  ·rw[List.getElem?_range (by omega)];simp[h1]
  ·by_cases h2:j<n*z.size+z.size
   ·rw[List.getElem?_range h2];have aa:j-n*z.size<z.size:=by omega
    have aH:j%z.size=j-n*z.size:=by
     have:j=z.size*n+(j-n*z.size):=by rw[Nat.mul_comm];omega
     conv=>lhs;rw[this]
     rw[Nat.mul_add_mod,Nat.mod_eq_of_lt aa]
    simp[h1,aH,aa]
   ·rw[List.getElem?_eq_none (by simp;omega)]
    have aa:¬j-n*z.size<z.size:=by omega
    simp[h1,aa]
theorem Wz{l:aw}{v:Value}{d:aM}{us:List (Nat×Site)}(h:pD l=some v)(k:jk st l=some (d,us)):us=[]:=by
 cases l with
 |d x=>simp[jk] at k;exact k.2
 |nil t=>simp[jk] at k;exact k.2
 |own o s=>simp[pD] at h
 |clo g bE=>simp[pD] at h
 |_=>simp[jk] at k
theorem Jr{C:Ctx}{T e:TypeId}{t:aG}{bytes:Nat}{kn km:IntKind}{n m:Int}{i:TypeInfo}{v:Value}(dZ:P.underlying T=some (.slice e))(hi:P.info? e=some i)(gF:i.size=ax t)(n6:i.bytes=bytes)
  (kp:i.zero=some v) (hzs:v.cells.size=ax t) (aT:0<=n) (aJ:n<=m) (bR:m*bytes<=room) (jt:m<=maxLen):
  (Instr.makeSlice T (.int kn n) (.int km m)).run P w=.ok (.slice (some ⟨w.heap.size,0,none⟩) n.toNat m.toNat) (w.alloc (.cells ((List.replicate m.toNat v.cells.toList).flatten).toArray e)):=by
 unfold maxLen at jt;have b5:IntKind.i64.wrap n=n:=IntWalk.i64_in n (by omega)
 have w2:IntKind.i64.wrap m=m:=IntWalk.i64_in m (by omega)
 have Gj:(decide (m<0)||decide (((i.bytes:Nat):Int)*m>2^48))=false:=by
  unfold room at bR;rw[n6];have:(bytes:Int)*m<=140737488355328:=by rw[Int.mul_comm];exact bR
  simp;omega
 have my:((Array.range (m.toNat*i.size)).map fun x=>v.cells[x%v.cells.size]!)=((List.replicate m.toNat v.cells.toList).flatten).toArray:=by
  rw[<-Zd v.cells m.toNat (by rw[hzs];exact iS t),hzs,gF]
 have HS:¬n<0:=by omega
 have hT:¬n>m:=by omega
 unfold Instr.makeSlice;simp only[Sem.run_bind,run_underlying dZ,Result.andThen_ok,asInt,asIntOf,Sem.run_pure,kJ hi,b5,w2,Gj,Bool.false_eq_true,HS,hT,decide_false,Bool.or_false,Bool.or_self,if_false,
  run_askRoom,sizeOf]
 by_cases hz0:m.toNat*i.size=0
 ·have sW:m.toNat=0:=by
   rcases Nat.mul_eq_zero.1 hz0 with h|h
   ·exact h
   ·have:=iS t;omega
  have iK:∀f:Nat->Value,Array.map f (Array.range 0)=#[]:=fun f=>by apply Array.ext';simp
  simp[sW,newRow,iK]
 ·simp[hz0,kp,zeroValue,kJ hi,newRow,my]
theorem Wi(S:ah L J X B st tm w){C:Ctx}(az:CtxOk P C){T e:TypeId}{t:aG}{bytes o:Nat}{l c:Operand}{kn km:IntKind}{n m:Int}{z:List aw}{ds:List aM}{us:List (Nat×Site)}{ea:den t}(a0:C.tt T=.slice e t bytes)(au:D.op=.makeSlice T l c)
  (db:D.dst=some o) (Y:b6 st D.dst=true) (hl:aP C st 0 l=.av (.ai (.d (.int kn n)))) (hc:aP C st 0 c=.av (.ai (.d (.int km m)))) (hz:(C.tt e).zero=some z) (ef:g5 st z=some (ds,us)) (d_:dec t ds=some ea):
  ∀r,lU bytes n m ea=some r->cz P L J X st tm w D (bP (.own o (aZ st o))) [(o,.row (aZ st o) t r)]:=by
 intro r hr;obtain⟨dZ,i,fm,hi,gF,n6,kp,hzs,ez⟩:=oq az a0;obtain⟨v,hv,hzv⟩:=cf.xn (w:=w) (az.tt e) hz;have HF:v=fm:=by
  simp[zeroValue,typeInfo,hi,kp] at hv;exact hv.symm
 subst HF;obtain⟨h1,h2,aa⟩:=qV hzv;have dO:us=[]:=by
  clear d_ hz aa h2 h1;have key:∀{U:List aw} {vs:List Value} {ds:List aM} {us:List (Nat×Site)},kP U=some vs->g5 st U=some (ds,us)->us=[]:=by
   intro U;induction U with
   |nil=>intro vs ds us _ h;simp only[g5] at h;cases h;rfl
   |cons l U ih=>
    intro vs ds us h1 h2;simp only[kP] at h1;split at h1
    ·rename_i v cq g1 g2;simp only[g5] at h2;split at h2
     ·rename_i d UQ gg ob aC ao;cases h2;rw[ih g2 ao,List.append_nil];exact Wz g1 aC
     ·cases h2
    ·cases h1
  exact key hzv ef
 subst dO;have aR:kI L J X B st tm w []:=⟨S,.nil⟩;have hrz:ch w (an X B st.sites) ds v.cells.toList:=yI ef ⟨h1,aa _ _ _ _⟩ aR (fun p aj=>aj)
 rw[<-nD _ _ _ d_] at hrz;unfold lU at hr;split at hr
 ·rename_i hb;obtain⟨aT,aJ,bR,jt⟩:=hb;cases hr;have e1:Act.eval ⟨tm,[]⟩ l=.int kn n:=by
   have:=cV S C 0 l;rw[hl] at this;have this:bj _ _ (.int kn n) _:=this;generalize Act.eval ⟨tm,[]⟩ l=u at this;cases this;rfl
  have e2:Act.eval ⟨tm,[]⟩ c=.int km m:=by
   have:=cV S C 0 c;rw[hc] at this;have this:bj _ _ (.int km m) _:=this;generalize Act.eval ⟨tm,[]⟩ c=u at this;cases this;rfl
  have uU:=VH hrz n.toNat;have hlen:((List.replicate n.toNat v.cells.toList).flatten).length=n.toNat*ax t:=by
   rw[uU.1,dR,List.length_replicate]
  have mx:(List.replicate m.toNat v.cells.toList).flatten=(List.replicate n.toNat v.cells.toList).flatten++(List.replicate (m.toNat-n.toNat) v.cells.toList).flatten:=by
   rw[<-List.flatten_append,List.replicate_append_replicate];congr 2;omega
  have hcap:((List.replicate n.toNat v.cells.toList).flatten).length+((List.replicate (m.toNat-n.toNat) v.cells.toList).flatten).length=m.toNat*ax t:=by
   rw[<-List.length_append,<-mx];simp[hzs]
  have uW:m.toNat<=maxLen:=by omega
  have bZ:=S.DN (o:=o) (T:=e) uU hcap uW ez;rw[List.length_replicate,<-mx] at bZ;refine io (us:=[(o,.row (aZ st o) t (List.replicate n.toNat ea))]) bZ Y (vv:=.slice (some ⟨w.heap.size,0,none⟩) n.toNat m.toNat) ?_ ?_
  ·unfold execOp;simp only[au,e1,e2,Sem.run_bind];have cI:=Jr (C:=C) (w:=w) (kn:=kn) (km:=km) dZ hi gF n6 kp hzs aT aJ bR jt;simp only[cI,Result.andThen_ok,Sem.run_pure]
  ·refine⟨rfl,Ref.mk (O:=.row (aZ st o) t (List.replicate n.toNat ea)) ?_ rfl (by simp[bY])⟩
   simp only[aW,cn];simp
 ·cases hr
end
theorem ZB{aD jR:Type}(g:aD->Option jR):∀{l:List aD} {r:List jR},l.mapM g=some r->∀{i:Nat} {y:jR},r[i]? =some y->∃x,l[i]? =some x/\g x=some y:=by
 intro l;induction l with
 |nil=>intro r h i y ak;simp at h;subst h;simp at ak
 |cons x l ih=>
  intro r h i y ak;simp only[List.mapM_cons,Option.bind_eq_bind,Option.pure_def] at h;cases hx:g x with
  |none=>simp[hx] at h
  |some z=>
   cases hl:l.mapM g with
   |none=>simp[hx,hl] at h
   |some iN=>
    simp only[hx,hl,Option.bind_some,Option.some.injEq] at h;subst h;cases i with
    |zero=>simp at ak;subst ak;exact⟨x,by simp,hx⟩
    |succ i=>simp at ak;simpa using ih hl ak
section
variable {P:Program}{L:World}{J:List Nat}{X:Nat->Prop}{B:Nat->Value}{st:ad}{tm:Array Value}{w:World}{D:Oper}
theorem hq{k:IntKind}{n:Int}{v:Value}{av:Nat->Prop}(h:bj w av (.int k n) v):v=.int k n:=by cases h;rfl
theorem iT{b:Bool}{v:Value}{av:Nat->Prop}(h:bj w av (.bool b) v):v=.bool b:=by cases h;rfl
theorem hp{s:al}{v:Value}{av:Nat->Prop}(h:bj w av (.str s) v):∃b:ByteArray,v=.string b/\b.data.toList=s:=by
 cases h with
 |str l s h=>exact⟨s,rfl,h⟩
theorem jA(S:ah L J X B st tm w){C:Ctx}{T:TypeId}{x:Operand}{k:IntKind}{n:Int}(h:aP C st T x=.av (.ai (.d (.int k n)))):Act.eval ⟨tm,[]⟩ x=.int k n:=by
 have:=cV S C T x;rw[h] at this;exact hq this
theorem Em(S:ah L J X B st tm w){C:Ctx}{T:TypeId}{x:Operand}{b:Bool}(h:aP C st T x=.av (.ai (.d (.bool b)))):Act.eval ⟨tm,[]⟩ x=.bool b:=by
 have:=cV S C T x;rw[h] at this;exact iT this
theorem ac9(S:ah L J X B st tm w){C:Ctx}{T:TypeId}{x:Operand}{s:al}(h:aP C st T x=.av (.ai (.d (.str s)))):∃b:ByteArray,Act.eval ⟨tm,[]⟩ x=.string b/\b.data.toList=s:=by
 have:=cV S C T x;rw[h] at this;exact hp this
theorem WP{C:Ctx}(az:CtxOk P C){T:TypeId}{bM:List (Nat×Nat)}{n:Nat}{z:List aw}{eq:Bool}(a0:C.tt T=.struct bM n z eq):(cf.struct bM n z eq).ok P T:=by
 have:=az.tt T;rwa[a0] at this
theorem Wv(S:ah L J X B st tm w){C:Ctx}(az:CtxOk P C){T:TypeId}{x:Operand}{f off II:Nat}{bM:List (Nat×Nat)}{n:Nat}{z:List aw}{eq:Bool}(a0:C.tt T=.struct bM n z eq)(au:D.op=.fieldAddr T x f)
  (Y:b6 st D.dst=true) (hf:bM[f]? =some (off,II)):Holds (B0 off (aP C st 0 x)) (cz P L J X st tm w D):=by
 obtain⟨fields,dZ,⟨agd,vL⟩,_⟩:=WP az a0;obtain⟨U4,h1,h2⟩:=ZB _ agd hf;have h1':fields[f]? =some U4:=by simpa using h1
 cases hi:P.info? U4.type with
 |none=>simp[hi] at h2
 |some i=>
  simp only[hi,Option.map_some,Option.some.injEq,Prod.mk.injEq] at h2;have hsz:i.size≠0:=by rw[h2.2];exact vL (off,II) (List.mem_of_getElem? hf)
  have bo:=cV S C 0 x;have run:∀{b p:Nat},Act.eval ⟨tm,[]⟩ x=.pointer (some ⟨b,p,none⟩)->(execOp (Act.eval ⟨tm,[]⟩) D).run P w=.ok (.value (.pointer (some ⟨b,p+off,none⟩))) w:=by
   intro b p hx;unfold execOp;simp only[au,hx,Instr.fieldAt,Instr.sureAddr,Sem.run_bind,run_underlying dZ,Result.andThen_ok,h1',Sem.run_pure,fieldPlace,sizeOf,kJ hi,hsz,if_false,h2.1,gl]
  unfold B0;split
  ·rename_i o s p bV;rw[bV] at bo;obtain⟨b,aC,ao⟩:=bo;exact Holds.ok (dx S Y (run aC) ⟨b,rfl,ao⟩)
  ·rename_i cells p bV;rw[bV] at bo;obtain⟨b,q,aC,ao⟩:=bo;refine Holds.ok (dx S Y (run aC) ⟨b,q,by rw[Nat.add_assoc],ao⟩)
  ·rename_i o s t k p bV;rw[bV] at bo;obtain⟨b,aC,ao⟩:=bo;exact Holds.ok (dx S Y (run aC) ⟨b,by rw[Nat.add_assoc],ao⟩)
  ·exact .fail
end
theorem tN(n:Nat)(l:List Nat):fI n l=true <-> n∈l:=by
 induction l with
 |nil=>simp[fI]
 |cons m l ih=>
  simp only[fI,Bool.or_eq_true,ih,List.mem_cons];constructor
  ·rintro(h|h)
   ·exact .inl (Nat.eq_of_beq_eq_true h)
   ·exact .inr h
  ·rintro(rfl|h)
   ·exact .inl (Nat.beq_refl n)
   ·exact .inr h
theorem ou(l:List Nat):eJ l=true <-> l.Nodup:=by
 induction l with
 |nil=>simp[eJ]
 |cons n l ih=>
  simp only[eJ,Bool.and_eq_true,ih,List.nodup_cons,Bool.not_eq_true'];constructor
  ·rintro⟨h1,h2⟩;exact⟨fun h=>(by rw[(tN n l).2 h] at h1;cases h1),h2⟩
  ·rintro⟨h1,h2⟩;refine⟨?_,h2⟩;cases h:fI n l with
   |false=>rfl
   |true=>exact absurd ((tN n l).1 h) h1
theorem kK{sites us:List (Nat×Site)}{o:Nat}(h:o∉keys us):look (aW sites us) o=look sites o:=by
 induction us generalizing sites with
 |nil=>rfl
 |cons p us ih=>
  obtain⟨n,s⟩:=p;simp only[keys,List.mem_cons,not_or] at h;simp only[aW];rw[ih h.2,cn];have:¬n=o:=fun e=>h.1 e.symm
  simp[this]
theorem CP{aD:Type}{us:List (Nat×aD)}{o:Nat}{s:aD}(h:(o,s)∈us):o∈keys us:=by
 induction us with
 |nil=>simp at h
 |cons p us ih=>
  rcases List.mem_cons.1 h with rfl|h
  ·exact List.mem_cons_self
  ·exact List.mem_cons_of_mem _ (ih h)
theorem ox{aD:Type}{us:List (Nat×aD)}{o:Nat}(h:o∈keys us):∃s,(o,s)∈us:=by
 induction us with
 |nil=>simp[keys] at h
 |cons p us ih=>
  obtain⟨n,s⟩:=p;rcases List.mem_cons.1 h with h|h
  ·exact⟨s,by rw[h];exact List.mem_cons_self⟩
  ·obtain⟨am,ab⟩:=ih h;exact⟨am,List.mem_cons_of_mem _ ab⟩
theorem gi{aD:Type}(a b:List (Nat×aD)):keys (a++b)=keys a++keys b:=by
 induction a with
 |nil=>rfl
 |cons p a ih=>simp[keys,ih]
section
variable {P:Program}{L:World}{J:List Nat}{X:Nat->Prop}{B:Nat->Value}{st:ad}{tm:Array Value}{w:World}{D:Oper}
def cp(B:Nat->Value)(ks:List Nat):List Nat:=ks.flatMap fun o=>bI (B o)
theorem jY(a b:List Nat):cp B (a++b)=cp B a++cp B b:=by simp[cp]
def eP(sites:List (Nat×Site))(us:List (Nat×Site)):Prop:=∀o am,(o,am)∈us->∃O,look sites o=some O/\O.live=true/\am=.dead O.b2
theorem eP.nil{sites:List (Nat×Site)}:eP sites []:=fun _ _ h=>by simp at h
theorem eP.append{sites us vs:List (Nat×Site)}(h:eP sites us)(ab:eP sites vs):eP sites (us++vs):=by
 intro o s hm;rcases List.mem_append.1 hm with hm|hm
 ·exact h o s hm
 ·exact ab o s hm
theorem X5:∀{us:List (Nat×Site)} {sites:List (Nat×Site)},eP sites us->∀F,(F∉keys us/\look (aW sites us) F=look sites F)\/(F∈keys us/\∃O,look sites F=some O/\O.live=true/\look (aW sites us) F=some (.dead O.b2)):=by
 intro us;induction us with
 |nil=>intro sites _ F;exact .inl ⟨by simp[keys],rfl⟩
 |cons p us ih=>
  obtain⟨o,s⟩:=p;intro sites h F;obtain⟨O,h1,h2,rfl⟩:=h o s List.mem_cons_self;by_cases hm:F∈keys us
  ·obtain⟨am,gK⟩:=ox hm;obtain⟨bH,aC,ao,rfl⟩:=h F am (List.mem_cons_of_mem _ gK);refine .inr ⟨List.mem_cons_of_mem _ hm,bH,aC,ao,?_⟩;have:∀(us:List (Nat×Site)) (sites:List (Nat×Site)),(∀s,(F,s)∈us->s=.dead bH.b2)->F∈keys us->look (aW sites us) F=some (.dead bH.b2):=by
    intro us;induction us with
    |nil=>intro _ _ h;simp[keys] at h
    |cons q us Hv=>
     obtain⟨aO,r⟩:=q;intro sites M ag;simp only[aW];by_cases hU:F∈keys us
     ·exact Hv _ (fun s eT=>M s (List.mem_cons_of_mem _ eT)) hU
     ·rw[kK hU,cn];rcases List.mem_cons.1 ag with rfl|ag
      ·rw[M r List.mem_cons_self];simp
      ·exact absurd ag hU
   simp only[aW];refine this us _ (fun s M=>?_) hm
   obtain⟨s2,g1,g2,g3⟩:=h F s (List.mem_cons_of_mem _ M);rw[aC] at g1;cases g1;exact g3
  ·simp only[aW];rw[kK hm,cn];by_cases e:o=F
   ·subst e;exact .inr ⟨List.mem_cons_self,O,h1,h2,by simp⟩
   ·exact .inl ⟨fun ag=>(List.mem_cons.1 ag).elim (fun h=>e h.symm) hm,by simp[e]⟩
theorem Deep.len{av:Nat->Prop}{ds:List aM}{cs aA:List Value}(h:Deep w av ds cs aA):cs.length=ds.length:=by
 induction h with
 |nil=>rfl
 |row _ _ _ _ _ _ _ _ ih=>simp[ih]
 |leaf _ _ _ ih=>simp[ih]
theorem Deep.cu{av:Nat->Prop}{ds gg:List aM}{cs jl aA Ta:List Value}(h:Deep w av ds cs aA)(ab:Deep w av gg jl Ta):Deep w av (ds++gg) (cs++jl) (aA++Ta):=by
 induction h with
 |nil=>exact ab
 |row u ys e U aj h hr _ ih=>exact .row u ys e U aj h hr ih
 |leaf aj h _ ih=>exact .leaf aj h ih
theorem Deep.inv{av:Nat->Prop}:∀{ds gg:List aM} {cs aA:List Value},Deep w av (ds++gg) cs aA->∃qA TP gJ AC,cs=qA++TP/\aA=gJ++AC/\Deep w av ds qA gJ/\Deep w av gg TP AC:=by
 intro ds;induction ds with
 |nil=>intro gg cs aA h;exact⟨[],cs,[],aA,rfl,rfl,.nil,h⟩
 |cons d ds ih=>
  intro gg cs aA h;cases h with
  |row u ys e U aj h hr k=>
   obtain⟨c1,c2,n1,n2,rfl,rfl,aC,ao⟩:=ih k;exact⟨_::c1,c2,_::n1,n2,rfl,rfl,.row u ys e U aj h hr aC,ao⟩
  |leaf aj h k=>
   obtain⟨c1,c2,n1,n2,rfl,rfl,aC,ao⟩:=ih k;exact⟨_::c1,c2,n1,n2,rfl,rfl,.leaf aj h aC,ao⟩
theorem Deep.map{w':World}{av bT:Nat->Prop}{ds:List aM}{cs aA:List Value}(h:Deep w av ds cs aA)(go:∀{d v},bj w av d v->bj w' bT d v):
  (∀n,n∈aA->∀b,a7 n=some b->w'.heap[b]? =w.heap[b]?)->Deep w' bT ds cs aA:=by
 induction h with
 |nil=>intro _;exact .nil
 |row u ys e U aj h hr _ ih=>intro ag;exact .row u ys e U aj (pw h (ag _ List.mem_cons_self)) ⟨hr.1,fun j g1 g2=>go (hr.2 j g1 g2)⟩ (ih fun n hn=>ag n (List.mem_cons_of_mem _ hn))
 |leaf aj h _ ih=>intro ag;exact .leaf aj (go h) (ih ag)
theorem Deep.one{av:Nat->Prop}{ds:List aM}{cs aA:List Value}(h:Deep w av ds cs aA):∀u∈cs,u.oneCell'=true:=by
 induction h with
 |nil=>intro u hu;cases hu
 |row u ys e U _ h _ _ ih=>
  intro v hv;rcases List.mem_cons.1 hv with rfl|hv
  ·rcases h.2 with⟨h,_⟩|⟨_,_,_,_,h,_⟩<;>rw[h]<;>rfl
  ·exact ih v hv
 |leaf _ h _ ih=>
  intro v hv;rcases List.mem_cons.1 hv with rfl|hv
  ·exact h.h4
  ·exact ih v hv
theorem Yr{o s:Nat}{t:aG}{xs:List (den t)}(h:oR st o s=some ⟨t,xs⟩):rowOf st o s=some ⟨t,xs⟩\/ly st o s=some ⟨t,xs⟩:=by
 unfold oR at h;split at h
 ·rename_i x hx;cases h;exact .inl hx
 ·exact .inr h
theorem ah.any(S:ah L J X B st tm w){o s:Nat}{t:aG}{xs:List (den t)}(h:oR st o s=some ⟨t,xs⟩):
  (∃O,look st.sites o=some O/\O.b2=s)/\((bY (B o)=.slice none 0 0/\xs=[])\/∃b c,bY (B o)=.slice (some ⟨b,0,none⟩) xs.length c):=by
 rcases Yr h with h|h
 ·obtain⟨cs,_,hc⟩:=S.row h;refine⟨by rcases jw h with h|h<;>exact⟨_,h,rfl⟩,hc.imp id fun⟨b,c,h,_⟩=>⟨b,c,h⟩⟩
 ·have hl:=ts h;obtain⟨e,v,aA,cs,h1,_,h2,_⟩:=S.sites o _ hl;refine⟨⟨_,hl,rfl⟩,?_⟩;rw[h1];show(v=_/\_)\/∃b c,v=_;rcases h2.2 with⟨hv,h0⟩|⟨g,cap,cur,bG,hv,_⟩
  ·exact .inl ⟨hv,List.eq_nil_of_length_eq_zero h0⟩
  ·exact .inr ⟨g,cap,hv⟩
theorem ah.Ny(S:ah L J X B st tm w){o:Nat}(h:bX st.sites o):(bI (B o)).Nodup:=by
 obtain⟨O,h1,h2⟩:=h;have:=S.sites o O h1;cases O with
 |box s cells=>obtain⟨b,T,cur,g,_⟩:=this;rw[g];simp[bI,a7]
 |row s t xs=>
  obtain⟨e,cs,g,_⟩:=this;rw[(iv g).2];cases a7 (B o)<;>simp
 |map s t es=>obtain⟨b,g,_⟩:=this;rw[g];simp[bI,a7]
 |deep s t xs=>obtain⟨e,v,aA,cs,g1,g2,_⟩:=this;exact g2
 |cS=>cases h2
 |dead=>cases h2
theorem ah.Nx(S:ah L J X B st tm w):∀{ks:List Nat},(∀F,F∈ks->bX st.sites F)->ks.Nodup->(cp B ks).Nodup:=by
 intro ks;induction ks with
 |nil=>intro _ _;simp[cp]
 |cons k ks ih=>
  intro hl hn;obtain⟨n1,n2⟩:=List.nodup_cons.1 hn;unfold cp;rw[List.flatMap_cons];refine List.nodup_append.2 ⟨S.Ny (hl k List.mem_cons_self),ih (fun F h=>hl F (List.mem_cons_of_mem _ h)) n2,fun a a3 b hb e=>?_⟩
  subst e;obtain⟨F,bB,hb⟩:=List.mem_flatMap.1 hb;exact n1 (S.df k F a (hl k List.mem_cons_self) (hl F (List.mem_cons_of_mem _ bB)) a3 hb▸bB)
theorem ah.u5(S:ah L J X B st tm w){o:Nat}{bH:Site}{nv:Value}{w':World}{ks:List (Nat×Site)}{K:List Nat}(pa:eP st.sites ks)(bC:∀F,F∈K <-> F∈keys ks\/F=o/\bX st.sites o)
  (hw:∀b,b<w.heap.size->(∀F,F∈K->b∉bI (B F))->w'.heap[b]? =w.heap[b]?) (hos:w'.os=w.os) (Ft:w'.tape=w.tape) (uV:w'.output=w.output) (kY:w.heap.size<=w'.heap.size)
  (fF:bH.live=true) (mw:∀O,look st.sites o=some O->O.b2<bH.b2\/(O.b2=bH.b2/\bY nv=bY (B o)))
  (gq:∀b,b∈bI nv->b<w'.heap.size/\((∃F,F∈K/\b∈bI (B F))\/w.heap.size<=b))
  (ff:∀{bp:List (Nat×Site)} {aB:Nat->Value},aB o=nv->(∀{a v},b_ B st.sites w (an X B st.sites) a v->b_ aB bp w' (an X aB bp) a v)->
   iw aB bp w' (an X aB bp) o bH):
  ah L J X (fun F=>if F=o then nv else B F) {st with sites:=b8 (aW st.sites ks) o bH} tm w':=by
 have o9:=X5 pa;have hold:∀F,F∈K->bX st.sites F:=by
  intro F h;rcases(bC F).1 h with h|⟨rfl,h⟩
  ·rcases o9 F with⟨ab,_⟩|⟨_,O,h1,h2,_⟩
   ·exact absurd h ab
   ·exact⟨O,h1,h2⟩
  ·exact h
 have cr:∀F,bX (b8 (aW st.sites ks) o bH) F->F=o\/(F≠o/\F∉K/\bX st.sites F):=by
  rintro F ⟨O,h1,h2⟩;rw[cn] at h1;by_cases e:o=F
  ·exact .inl e.symm
  ·simp only[e,if_false] at h1;rcases o9 F with⟨aC,ao⟩|⟨aC,s,ao,bv,ca⟩
   ·exact .inr ⟨fun h=>e h.symm,fun h=>((bC F).1 h).elim aC fun h=>e h.1.symm,O,ao▸h1,h2⟩
   ·rw[ca] at h1;cases h1;cases h2
 have uG:∀F b,F∉K->bX st.sites F->b∈bI (B F)->w'.heap[b]? =w.heap[b]? :=fun F b h1 h2 aa=>hw b (S.dX h2 aa) fun aO vr hb=>h1 (S.df F aO b h2 (hold aO vr) aa hb▸vr)
 refine S.oS (fun F O bB=>?_) (fun b h hb=>hw b hb fun F bB ab=>h (.inr ⟨F,hold F bB,ab⟩)) (fun b h hb ab=>?_) (fun go F O bB=>?_) (fun F aO b h1 h2 g1 g2=>?_) (fun F b h1 g1=>?_) (fun F b h1 g1=>?_) ?_ kY
 ·rw[cn];by_cases e:o=F
  ·subst e;refine⟨bH,by simp,?_,fun h=>?_⟩
   ·rcases mw O bB with h|⟨h,_⟩<;>omega
   ·rcases mw O bB with ab|⟨_,ab⟩
    ·omega
    ·simpa using ab
  ·have b4:¬F=o:=fun h=>e h.symm
   rcases o9 F with⟨aC,ao⟩|⟨aC,s,ao,bv,ca⟩
   ·exact⟨O,by simp[e,ao,bB],Nat.le_refl _,fun _=>by simp[b4]⟩
   ·rw[bB] at ao;cases ao;exact⟨.dead O.b2,by simp[e,ca],Nat.le_refl _,fun _=>by simp[b4]⟩
 ·rcases ab with ab|⟨F,h1,h2⟩
  ·exact h (.inl ab)
  ·rcases cr F h1 with rfl|⟨n1,n2,cY⟩
   ·simp only[if_true] at h2;rcases(gq b h2).2 with⟨aO,aa,aH⟩|aa
    ·exact h (.inr ⟨aO,hold aO aa,aH⟩)
    ·omega
   ·simp only[n1,if_false] at h2;exact h (.inr ⟨F,cY,h2⟩)
 ·rw[cn] at bB;by_cases e:o=F
  ·subst e;simp only[if_true,Option.some.injEq] at bB;subst bB;exact .inr (ff (by simp) go)
  ·have b4:¬F=o:=fun h=>e h.symm
   simp only[e,if_false] at bB;rcases o9 F with⟨aC,ao⟩|⟨aC,s,ao,bv,ca⟩
   ·exact .inl ⟨ao▸bB,by simp[b4],fun hl b hb=>uG F b (fun h=>((bC F).1 h).elim aC fun h=>e h.1.symm) ⟨O,ao▸bB,hl⟩ hb⟩
   ·rw[ca] at bB;cases bB;exact .inr trivial
 ·have key:∀F b,F∉K->bX st.sites F->b∈bI (B F)->b∉bI nv:=by
   intro F b n2 cY hb hn;rcases(gq b hn).2 with⟨aO,aa,aH⟩|aa
   ·exact n2 (S.df F aO b cY (hold aO aa) hb aH▸aa)
   ·have:=S.dX cY hb;omega
  rcases cr F h1 with rfl|⟨n1,m1,cY⟩<;>rcases cr aO h2 with rfl|⟨n2,m2,gh⟩
  ·rfl
  ·simp only[if_true] at g1;simp only[n2,if_false] at g2;exact absurd g1 (key aO b m2 gh g2)
  ·simp only[if_true] at g2;simp only[n1,if_false] at g1;exact absurd g2 (key F b m1 cY g1)
  ·simp only[n1,if_false] at g1;simp only[n2,if_false] at g2;exact S.df F aO b cY gh g1 g2
 ·rcases cr F h1 with rfl|⟨n1,_,cY⟩
  ·simp only[if_true] at g1;rcases(gq b g1).2 with⟨aO,aa,aH⟩|aa
   ·exact S.b7 aO b (hold aO aa) aH
   ·exact⟨fun hx=>by have:=S.old b hx;have:=S.frame.size;omega,.inr (Nat.le_trans S.frame.size aa)⟩
  ·simp only[n1,if_false] at g1;exact S.b7 F b cY g1
 ·rcases cr F h1 with rfl|⟨n1,_,cY⟩
  ·simp only[if_true] at g1;exact(gq b g1).1
  ·simp only[n1,if_false] at g1;exact Nat.lt_of_lt_of_le (S.dX cY g1) kY
 ·have aR:=S.frame;refine⟨hos.trans aR.os,Ft.trans aR.tape,uV.trans aR.output,Nat.le_trans aR.size kY,fun b h1 h2=>?_⟩
  rw[hw b (Nat.lt_of_lt_of_le h1 aR.size) (fun F bB hb=>?_)]
  ·exact aR.block b h1 h2
  ·rcases(S.b7 F b (hold F bB) hb).2 with h|h
   ·exact h2 h
   ·omega
theorem Yd{t:aG}(h:t.gW=false)(x:den t):∀d,d∈enc t x->d.plain=true:=by
 cases t<;>first|(cases h;done)|(intro d Y;simp only[enc,List.mem_cons,List.not_mem_nil,or_false] at Y;(rcases Y with rfl|rfl|rfl|rfl|rfl);all_goals rfl)|skip
 all_goals(intro d Y;simp only[enc,List.mem_cons,List.not_mem_nil,or_false] at Y)
 all_goals first|(subst Y;rfl)|(rcases Y with rfl|rfl<;>rfl)|(rcases Y with rfl|rfl|rfl<;>rfl)|(rcases Y with rfl|rfl|rfl|rfl<;>rfl)
theorem BZ{t:aG}(h:t.gW=false){xs:List (den t)}:∀d,d∈flat t xs->d.plain=true:=by
 intro d Y;simp only[flat,List.mem_flatMap] at Y;obtain⟨x,_,hx⟩:=Y;exact Yd h x d hx
theorem CN(S:ah L J X B st tm w):∀{U:List aw} {ds:List aM} {us:List (Nat×Site)} {vs:List Value},sinks st U=some (ds,us)->ck B st.sites w (an X B st.sites) U vs->
  eP st.sites us/\∃aA,Deep w (an X B st.sites) ds vs aA/\(aA.flatMap fun v=>(a7 v).toList)=cp B (keys us):=by
 intro U;induction U with
 |nil=>intro ds us vs h hl;simp only[sinks] at h;cases h;rw[hl.kR];exact⟨.nil,[],.nil,rfl⟩
 |cons l U ih=>
  intro ds us vs h hl;simp only[sinks] at h;split at h
  ·rename_i d u1 gg u2 h1 h2;cases h;obtain⟨v,cq,rfl,hv,hvs⟩:=hl.inv;obtain⟨g2,aA,ao,bv⟩:=ih h2 hvs;unfold sink at h1;split at h1
   ·cases h1;exact⟨g2,aA,.leaf rfl hv ao,bv⟩
   ·cases h1;exact⟨g2,aA,.leaf rfl hv ao,bv⟩
   ·cases h1;exact⟨g2,aA,.leaf rfl hv ao,bv⟩
   ·rename_i t;cases h1;have hv:v=.slice none 0 0:=hv;subst hv;exact⟨g2,_::aA,.row t [] 0 [] (fun d h=>by simp[flat] at h) (tB w _ _ _) ⟨rfl,fun j h=>by simp[flat] at h⟩ ao,by rw[List.flatMap_cons,bv];rfl⟩
   ·rename_i o s;split at h1
    ·rename_i am t xs fj;cases hb:(am.beq s&&!t.gW) with
     |false=>rw[hb] at h1;cases h1
     |true=>
      rw[hb] at h1;simp only[Bool.and_eq_true,Bool.not_eq_true'] at hb;have:=Nat.eq_of_beq_eq_true hb.1;subst this;cases h1;have ay:look st.sites o=some (.row am t xs):=fj;obtain⟨e,cs,r1,r2⟩:=S.sites o _ ay;have iI:v=B o:=(Ref.at hv.2 ay rfl).trans (iv r1).1;subst iI;refine⟨fun F am hm=>?_,B o::aA,.row t xs e cs (BZ hb.2) r1 ⟨by rw[dR];exact r1.1,r2⟩ ao,?_⟩
      ·rcases List.mem_cons.1 hm with hm|hm
       ·cases hm;exact⟨_,ay,rfl,rfl⟩
       ·exact g2 F am hm
      ·rw[List.flatMap_cons,bv,<-(iv r1).2];rfl
    ·cases h1
   ·cases h1
  ·cases h
theorem Jm{U:List aw}:∀{ds:List aM} {us:List (Nat×Site)},sinks st U=some (ds,us)->gj U=true:=by
 induction U with
 |nil=>intro ds us _;rfl
 |cons l U ih=>
  intro ds us h;simp only[sinks] at h;split at h
  ·rename_i d u1 gg u2 h1 h2;simp only[gj,Bool.and_eq_true];refine⟨?_,ih h2⟩;unfold sink at h1;split at h1<;>first|rfl|cases h1
  ·cases h
theorem Y7(S:ah L J X B st tm w):∀{as:List bA} {t:aG} {xs:List (den t)} {us:List (Nat×Site)} {ws:List Value},ms t st as=some (xs,us)->ws.length=as.length->
  (∀j (h:j<as.length) (ab:j<ws.length),f_ B st.sites w (an X B st.sites) (as[j]) (ws[j]))->
  xs.length=as.length/\eP st.sites us/\(∃aA,Deep w (an X B st.sites) (flat t xs) (ws.flatMap fun v=>v.cells.toList) aA/\(aA.flatMap fun v=>(a7 v).toList)=cp B (keys us))/\∀v,v∈ws->v.cells.size=ax t:=by
 intro as;induction as with
 |nil=>
  intro t xs us ws h hl _;simp only[ms] at h;cases h;have:ws=[]:=List.eq_nil_of_length_eq_zero hl;subst this;exact⟨rfl,.nil,⟨[],.nil,rfl⟩,fun v hv=>by simp at hv⟩
 |cons a as ih=>
  intro t xs us ws h hl ff;match ws,hl with
  |v::ws,hl=>
  simp only[ms] at h;split at h
  ·rename_i ds u1 lM;split at h
   ·rename_i x hB u2 d_ mG;cases h;have b1:=ff 0 (by simp) (by simp)
    simp only[List.getElem_cons_zero] at b1;have hl1:=b1.cells (Jm lM);obtain⟨g1,gJ,d1,aT⟩:=CN S lM hl1;obtain⟨g2,g3,⟨AC,d2,aJ⟩,eH⟩:=ih mG (by simpa using hl) (fun j h1 h2=>ff (j+1) (by simpa using h1) (by simpa using h2))
    have nR:=nD _ _ _ d_;refine⟨by simp[g2],g1.append g3,⟨gJ++AC,?_,?_⟩,fun u hu=>?_⟩
    ·simp only[flat,List.flatMap_cons];rw[nR];exact d1.cu d2
    ·rw[List.flatMap_append,aT,aJ,gi,jY]
    ·rcases List.mem_cons.1 hu with rfl|hu
     ·have:u.cells.toList.length=ds.length:=d1.len;rw[<-nR,fc] at this;simpa using this
     ·exact eH u hu
   ·cases h
  ·cases h
theorem JU{aD:Type}{us:List (Nat×aD)}{o:Nat}(h:(look us o).isNone=true):o∉keys us:=by
 induction us with
 |nil=>simp[keys]
 |cons p us ih=>
  obtain⟨n,s⟩:=p;simp only[look] at h;cases hb:n.beq o with
  |true=>rw[hb] at h;cases h
  |false=>
   rw[hb] at h;intro hm;rcases List.mem_cons.1 hm with rfl|hm
   ·rw[Nat.beq_refl] at hb;cases hb
   ·exact ih h hm
theorem xf(t:aG){xs:List (den t)}{k:Nat}(ag:k<xs.length)(cW:den t):flat t (xs.set k cW)=flat t (xs.take k)++(enc t cW++flat t (xs.drop (k+1))):=by
 rw[List.set_eq_take_append_cons_drop,if_pos ag,kL];rfl
theorem C_(t:aG){xs:List (den t)}{k:Nat}{x:den t}(hx:xs[k]? =some x):flat t xs=flat t (xs.take k)++(enc t x++flat t (xs.drop (k+1))):=by
 have ag:k<xs.length:=(List.getElem?_eq_some_iff.1 hx).1;have:=xf t ag x;rw[<-this];congr 1
 have kg:xs[k]=x:=(List.getElem?_eq_some_iff.1 hx).2;rw[<-kg,List.set_getElem_self]
theorem ah.Y0(S:ah L J X B st tm w){o s k:Nat}{t:aG}{xs:List (den t)}{x cW:den t}{v:Value}{us:List (Nat×Site)}{vs aA:List Value}(hb:look st.sites o=some (.deep s t xs))
  (hv:dk B st.sites w (an X B st.sites) (.ek o s t k 0) v) (hx:xs[k]? =some x) (dO:eP st.sites us) (hn:(keys us).Nodup) (bh:o∉keys us)
  (Y:Deep w (an X B st.sites) (enc t cW) vs aA) (fO:(aA.flatMap fun v=>(a7 v).toList)=cp B (keys us)):
  ∃b T cur bG nv,v=.pointer (some ⟨b,k*ax t,none⟩)/\w.heap[b]? =some (.cells (List.toArray cur) T bG)/\k7 t.en T cur.toArray bG/\k*ax t+vs.length<=cur.length/\
   ah L J X (fun F=>if F=o then nv else B F) {st with sites:=b8 (aW st.sites us) o (.deep s t (xs.set k cW))} tm (w.setRow b (a_ cur (k*ax t) vs).toArray):=by
 obtain⟨b,nY,jM⟩:=hv;obtain⟨n,c,bW⟩:=Ref.at jM hb rfl;obtain⟨e,v0,ia,cs,h0,dn,cJ,kZ⟩:=S.sites o _ hb;have ag:k<xs.length:=(List.getElem?_eq_some_iff.1 hx).1;rw[h0] at bW;replace bW:v0=.slice (some ⟨b,0,none⟩) n c:=bW
 obtain⟨qo,h⟩:=cJ;rcases h with⟨e',_⟩|⟨g,cap,cur,bG,gu,l4,hg,hnc,gv,hcs,jN⟩
 ·rw[bW] at e';cases e'
 ·rw[bW] at gu;cases gu;have l2:(k+1)*ax t<=xs.length*ax t:=Nat.mul_le_mul_right _ ag;have hU:xs.length*ax t<=c*ax t:=Nat.mul_le_mul_right _ hnc;rw[Nat.add_mul,Nat.one_mul] at l2;have kh:vs.length=ax t:=by rw[Y.len,fc]
  have ht:cur.toList.length=c*ax t:=by simpa using hcs
  have iC:k*ax t+vs.length<=cur.toList.length:=by omega
  rw[C_ t hx] at kZ;obtain⟨c1,TQ,n1,g7,rfl,rfl,d1,d23⟩:=kZ.inv;obtain⟨c2,c3,n2,jU,rfl,rfl,d2,d3⟩:=d23.inv;have cY:c1.length=k*ax t:=by rw[d1.len,dR,List.length_take,Nat.min_eq_left (Nat.le_of_lt ag)]
  have gh:c2.length=ax t:=by rw[d2.len,fc]
  have fF:bX st.sites o:=⟨_,hb,rfl⟩;have sC:b∈bI (B o):=by rw[h0];exact iq.2 (.inl (by rw[bW];rfl))
  have OQ:a7 v0=some b:=by rw[bW];rfl
  have old:∀F,F∈keys us->bX st.sites F:=fun F h=>by
   obtain⟨am,ab⟩:=ox h;obtain⟨O,aC,ao,_⟩:=dO F am ab;exact⟨O,aC,ao⟩
  have aoc:∀y,y∈n1++(n2++jU)->∀a',a7 y=some a'->a'∈bI (B o):=fun y ak a' b9=>by rw[h0];exact iq.2 (.inr ⟨y,ak,b9⟩)
  have AG:∀y,y∈aA->∀a',a7 y=some a'->∃F,F∈keys us/\a'∈bI (B F):=fun y ak a' b9=>by
   have:a'∈aA.flatMap fun v=>(a7 v).toList:=List.mem_flatMap.2 ⟨y,ak,by rw[b9];simp⟩
   rw[fO] at this;exact List.mem_flatMap.1 this
  have zN:bI (.tuple (v0::(n1++(aA++jU))).toArray)=b::((n1.flatMap fun v=>(a7 v).toList)++(cp B (keys us)++jU.flatMap fun v=>(a7 v).toList)):=by
   simp[bI,OQ,fO]
  have sf:bI (B o)=b::((n1.flatMap fun v=>(a7 v).toList)++((n2.flatMap fun v=>(a7 v).toList)++jU.flatMap fun v=>(a7 v).toList)):=by
   rw[h0];simp[bI,OQ]
  refine⟨b,e,cur.toList,bG,.tuple (v0::(n1++(aA++jU))).toArray,by simpa using nY,by simpa using hg,by simpa using l4,iC,?_⟩
  refine S.u5 (K:=o::keys us) dO (fun F=>?_) (fun a' b9 hne=>setRow_other w b a' _ ?_) rfl rfl rfl (by rw[setRow_size];exact Nat.le_refl _) rfl (fun O M=>?_) (fun a' b9=>?_) (fun {bp aB} dK go=>?_)
  ·constructor
   ·intro h;rcases List.mem_cons.1 h with rfl|h
    ·exact .inr ⟨rfl,fF⟩
    ·exact .inl h
   ·rintro(h|⟨rfl,_⟩)
    ·exact List.mem_cons_of_mem _ h
    ·exact List.mem_cons_self
  ·rintro rfl;exact hne o List.mem_cons_self sC
  ·rw[hb] at M;cases M;exact .inr ⟨rfl,by rw[h0];rfl⟩
  ·rw[setRow_size];rw[zN] at b9;have:(∃F,F∈o::keys us/\a'∈bI (B F)):=by
    simp only[List.mem_cons,List.mem_append] at b9;rcases b9 with rfl|b9|b9|b9
    ·exact⟨o,List.mem_cons_self,sC⟩
    ·exact⟨o,List.mem_cons_self,by rw[sf];simp only[List.mem_cons,List.mem_append];exact .inr (.inl b9)⟩
    ·obtain⟨F,h1,h2⟩:=List.mem_flatMap.1 b9;exact⟨F,List.mem_cons_of_mem _ h1,h2⟩
    ·exact⟨o,List.mem_cons_self,by rw[sf];simp only[List.mem_cons,List.mem_append];exact .inr (.inr (.inr b9))⟩
   refine⟨?_,.inl this⟩;obtain⟨F,h1,h2⟩:=this;rcases List.mem_cons.1 h1 with rfl|h1
   ·exact S.dX fF h2
   ·exact S.dX (old F h1) h2
  ·have kq:=setRow_heap w b cur (a_ cur.toList (k*ax t) vs).toArray e bG hg;have hb1:b∉(n1.flatMap fun v=>(a7 v).toList)++((n2.flatMap fun v=>(a7 v).toList)++jU.flatMap fun v=>(a7 v).toList):=by
    have:=dn;rw[sf] at this;exact(List.nodup_cons.1 this).1
   have jF:∀y,y∈n1++(aA++jU)->∀a',a7 y=some a'->(w.setRow b (a_ cur.toList (k*ax t) vs).toArray).heap[a']? =w.heap[a']? :=by
    intro y ak a' b9;refine setRow_other w b a' _ ?_
    rintro rfl;simp only[List.mem_append] at ak;rcases ak with ak|ak|ak
    ·exact hb1 (List.mem_append.2 (.inl (List.mem_flatMap.2 ⟨y,ak,by rw[b9];simp⟩)))
    ·obtain⟨F,h1,h2⟩:=AG y ak _ b9;exact bh (S.df o F _ fF (old F h1) sC h2▸h1)
    ·exact hb1 (List.mem_append.2 (.inr (List.mem_append.2 (.inr (List.mem_flatMap.2 ⟨y,ak,by rw[b9];simp⟩)))))
   refine⟨e,v0,n1++(aA++jU),c1++(vs++c3),dK,?_,⟨?_,.inr ⟨b,c,_,bG,?_,?_,kq,?_,gv,?_,?_⟩⟩,?_⟩
   ·rw[dK,zN];have hu:=S.Nx old hn;rw[sf] at dn;obtain⟨m1,m2⟩:=List.nodup_cons.1 dn;obtain⟨m3,m4,m5⟩:=List.nodup_append.1 m2;obtain⟨UU,wk,ao5⟩:=List.nodup_append.1 m4;have apart:∀a,a∈cp B (keys us)->a∉bI (B o):=by
     intro a a3 lg;obtain⟨F,h1,h2⟩:=List.mem_flatMap.1 a3;exact bh (S.df o F a fF (old F h1) lg h2▸h1)
    refine List.nodup_cons.2 ⟨fun h=>?_,List.nodup_append.2 ⟨m3,List.nodup_append.2 ⟨hu,wk,fun a a3 a' b9 e=>?_⟩,fun a a3 a' b9 e=>?_⟩⟩
    ·simp only[List.mem_append] at h;rcases h with h|h|h
     ·exact m1 (List.mem_append.2 (.inl h))
     ·exact apart _ h sC
     ·exact m1 (List.mem_append.2 (.inr (List.mem_append.2 (.inr h))))
    ·subst e;exact apart a a3 (by rw[sf];simp only[List.mem_cons,List.mem_append];exact .inr (.inr (.inr b9)))
    ·subst e;rcases List.mem_append.1 b9 with b9|b9
     ·exact apart a b9 (by rw[sf];simp only[List.mem_cons,List.mem_append];exact .inr (.inl a3))
     ·exact m5 a a3 a (List.mem_append.2 (.inr b9)) rfl
   ·rw[List.length_set];simp only[List.length_append] at qo ⊢;omega
   ·rw[bW,List.length_set]
   ·refine⟨l4.1,?_⟩;rcases l4.2 with h|⟨h,ab⟩
    ·exact .inl h
    ·refine .inr ⟨h,?_⟩;rw[List.size_toArray,mi _ _ _ iC];simpa using ab
   ·rw[List.length_set];exact hnc
   ·rw[List.size_toArray,mi _ _ _ iC];exact ht
   ·rw[List.length_set,List.toList_toArray,BI _ _ _ _ (by omega) (by rw[ht];omega),jN]
    unfold a_;rw[<-cY,List.take_left' rfl,kh,<-gh,<-List.append_assoc,<-List.append_assoc,<-List.length_append,List.drop_left' rfl]
   ·rw[xf t ag];have jj:∀{d v},bj w (an X B st.sites) d v->bj _ (an X aB bp) d v:=jB go;exact(d1.map jj fun y ak=>jF y (List.mem_append.2 (.inl ak))).cu ((Y.map jj fun y ak=>jF y (List.mem_append.2 (.inr (List.mem_append.2 (.inl ak))))).cu (d3.map jj fun y ak=>jF y (List.mem_append.2 (.inr (List.mem_append.2 (.inr ak))))))
theorem ZU(t:aG)(x cW:den t):(enc t x).map aM.plain=(enc t cW).map aM.plain:=by cases t<;>rfl
theorem J0{d:aM}(h:d.hR=true):d.plain=true:=by cases d<;>first|rfl|cases h
theorem NU{t:aG}{x:den t}{off:Nat}(h:off<ax t):∃d,(enc t x)[off]? =some d/\enc t x=(enc t x).take off++d::(enc t x).drop (off+1):=by
 have hl:off<(enc t x).length:=by rw[fc];exact h
 refine⟨(enc t x)[off],List.getElem?_eq_getElem hl,?_⟩;rw[List.getElem_cons_drop,List.take_append_drop]
theorem Kh{aD:Type}{l:List aD}{off:Nat}{d:aD}:a_ l off [d]=l.take off++d::l.drop (off+1):=by simp[a_]
theorem V8{aD:Type}{a b c:List aD}{y z:aD}{p:Nat}(h:p=a.length+b.length):a_ (a++((b++y::c))) p [z]=a++(b++z::c):=by
 subst h;unfold a_;rw[<-List.append_assoc,<-List.length_append,List.take_left' rfl];have:(a++b++y::c).drop ((a++b).length+[z].length)=c:=by
  rw[List.drop_append,List.drop_eq_nil_of_le (by simp)]
  simp
 rw[this];simp
theorem ah.Xy(S:ah L J X B st tm w){o s k off:Nat}{t:aG}{xs:List (den t)}{x cW:den t}{v u:Value}{d:aM}(hb:look st.sites o=some (.deep s t xs))
  (hv:dk B st.sites w (an X B st.sites) (.ek o s t k off) v) (hx:xs[k]? =some x) (Y:dec t (a_ (enc t x) off [d])=some cW) (aj:d.hR=true) (au:off<ax t) (hu:bj w (an X B st.sites) d u):
  ∃b T cur bG,v=.pointer (some ⟨b,k*ax t+off,none⟩)/\w.heap[b]? =some (.cells (List.toArray cur) T bG)/\k7 t.en T cur.toArray bG/\k*ax t+off+1<=cur.length/\
   ah L J X B {st with sites:=b8 st.sites o (.deep s t (xs.set k cW))} tm (w.setRow b (a_ cur (k*ax t+off) [u]).toArray):=by
 obtain⟨b,nY,jM⟩:=hv;obtain⟨n,c,bW⟩:=Ref.at jM hb rfl;obtain⟨e,v0,ia,cs,h0,dn,cJ,kZ⟩:=S.sites o _ hb;have ag:k<xs.length:=(List.getElem?_eq_some_iff.1 hx).1;rw[h0] at bW;replace bW:v0=.slice (some ⟨b,0,none⟩) n c:=bW
 obtain⟨qo,h⟩:=cJ;rcases h with⟨e',_⟩|⟨g,cap,cur,bG,gu,l4,hg,hnc,gv,hcs,jN⟩
 ·rw[bW] at e';cases e'
 ·rw[bW] at gu;cases gu;have l2:(k+1)*ax t<=xs.length*ax t:=Nat.mul_le_mul_right _ ag;have hU:xs.length*ax t<=c*ax t:=Nat.mul_le_mul_right _ hnc;rw[Nat.add_mul,Nat.one_mul] at l2;have ht:cur.toList.length=c*ax t:=by simpa using hcs
  have iC:k*ax t+off+[u].length<=cur.toList.length:=by simp only[List.length_singleton];omega
  rw[C_ t hx] at kZ;obtain⟨c1,TQ,n1,g7,rfl,rfl,d1,d23⟩:=kZ.inv;obtain⟨c2,c3,n2,jU,rfl,rfl,d2,d3⟩:=d23.inv;have cY:c1.length=k*ax t:=by rw[d1.len,dR,List.length_take,Nat.min_eq_left (Nat.le_of_lt ag)]
  have gh:c2.length=ax t:=by rw[d2.len,fc]
  obtain⟨d0,AZ,nR⟩:=NU (x:=x) au;have zL:enc t cW=(enc t x).take off++d::(enc t x).drop (off+1):=by rw[nD _ _ _ Y,Kh]
  have n4:d0.plain=true:=by
   have h1:=congrArg (fun l=>l[off]?) (ZU t x cW)
   simp only[List.getElem?_map,AZ,Option.map_some] at h1;have h2:(enc t cW)[off]? =some d:=by
    rw[zL,List.getElem?_append_right (by simp[fc];omega)]
    simp[fc,Nat.min_eq_left (Nat.le_of_lt au)]
   rw[h2] at h1;simp only[Option.map_some,Option.some.injEq] at h1;rw[h1];exact J0 aj
  rw[nR] at d2;obtain⟨wx,akW,kz,vk,rfl,rfl,ln,akU⟩:=d2.inv;have ao6:wx.length=off:=by rw[ln.len,List.length_take,fc];omega
  have fF:bX st.sites o:=⟨_,hb,rfl⟩;have sC:b∈bI (B o):=by rw[h0];exact iq.2 (.inl (by rw[bW];rfl))
  obtain⟨c0,ha,rfl,akS⟩:∃c0 ha,akW=c0::ha/\Deep w (an X B st.sites) ((enc t x).drop (off+1)) ha vk:=by
   cases akU with
   |row u ys e U n5 h hr k'=>cases n4
   |leaf n5 h k'=>exact⟨_,_,rfl,k'⟩
  have Fu:(fun F=>if F=o then B o else B F)=B:=by funext F;by_cases e:F=o<;>simp[e]
  have G:=S.u5 (o:=o) (bH:=.deep s t (xs.set k cW)) (nv:=B o) (w':=w.setRow b (a_ cur.toList (k*ax t+off) [u]).toArray) (ks:=[]) (K:=[o]) .nil (fun F=>by simp[keys];intro e;subst e;exact fF)
   (fun a' b9 hne=>setRow_other w b a' _ (by rintro rfl;exact hne o (by simp) sC)) rfl rfl rfl (by rw[setRow_size];exact Nat.le_refl _) rfl (fun O M=>by rw[hb] at M;cases M;exact .inr ⟨rfl,rfl⟩)
   (fun a' b9=>⟨by rw[setRow_size];exact S.dX fF b9,.inl ⟨o,by simp,b9⟩⟩) (fun {bp aB} dK go=>?_)
  ·rw[Fu] at G;exact⟨b,e,cur.toList,bG,nY,by simpa using hg,by simpa using l4,by simpa using iC,G⟩
  ·have kq:=setRow_heap w b cur (a_ cur.toList (k*ax t+off) [u]).toArray e bG hg;have hb1:∀y,y∈n1++(kz++vk++jU)->∀a',a7 y=some a'->a'≠b:=by
    rintro y ak a' b9 rfl;have:=dn;rw[h0] at this;simp only[bI,List.flatMap_cons] at this;rw[bW] at this;exact(List.nodup_append.1 this).2.2 a' (by simp[a7]) a' (List.mem_flatMap.2 ⟨y,ak,by rw[b9];simp⟩) rfl
   have jF:∀y,y∈n1++(kz++vk++jU)->∀a',a7 y=some a'->(w.setRow b (a_ cur.toList (k*ax t+off) [u]).toArray).heap[a']? =w.heap[a']? :=fun y ak a' b9=>setRow_other w b a' _ (hb1 y ak a' b9)
   have jj:∀{d v},bj w (an X B st.sites) d v->bj _ (an X aB bp) d v:=jB go;refine⟨e,v0,n1++(kz++vk++jU),c1++((wx++u::ha)++c3),dK.trans h0,by rw[dK];exact dn,⟨?_,.inr ⟨b,c,_,bG,?_,?_,kq,?_,gv,?_,?_⟩⟩,?_⟩
   ·rw[List.length_set];simp only[List.length_append,List.length_cons] at qo ⊢;omega
   ·rw[bW,List.length_set]
   ·refine⟨l4.1,?_⟩;rcases l4.2 with h|⟨h,ab⟩
    ·exact .inl h
    ·refine .inr ⟨h,?_⟩;rw[List.size_toArray,mi _ _ _ iC];simpa using ab
   ·rw[List.length_set];exact hnc
   ·rw[List.size_toArray,mi _ _ _ iC];exact ht
   ·rw[List.length_set,List.toList_toArray,BI _ _ _ _ (by simp only[List.length_singleton];omega) (by rw[ht];omega),jN]
    simp only[List.append_assoc,List.cons_append];exact V8 (by omega)
   ·rw[xf t ag,zL];exact(d1.map jj fun y ak=>jF y (List.mem_append.2 (.inl ak))).cu ((((ln.map jj fun y ak=>jF y (by simp[ak])).cu (.leaf (J0 aj) (jj hu) (akS.map jj fun y ak=>jF y (by simp[ak])))):Deep _ _ _ _ (kz++vk)).cu
     (d3.map jj fun y ak=>jF y (by simp[ak])))
theorem ah.L5(S:ah L J X B st tm w){o:Nat}{t:aG}{xs:List (den t)}{us:List (Nat×Site)}{cs aA rest:List Value}{T:TypeId}{cap:Nat}(dO:eP st.sites us)(hn:(keys us).Nodup)(bh:o∉keys us)
  (Y:Deep w (an X B st.sites) (flat t xs) cs aA) (fO:(aA.flatMap fun v=>(a7 v).toList)=cp B (keys us)) (hcap:cs.length+rest.length=cap*ax t) (hm:cap<=maxLen) (ez:t.en=true->T=lh):
  ah L J X (fun F=>if F=o then .tuple (.slice (some ⟨w.heap.size,0,none⟩) xs.length cap::aA).toArray else B F) {st with sites:=b8 (aW st.sites us) o (.deep (aZ st o) t xs)} tm (w.alloc (.cells (cs++rest).toArray T (0,0))):=by
 have hcl:cs.length=xs.length*ax t:=by rw[Y.len,dR]
 have c4:xs.length<=cap:=by
  have:xs.length*ax t<=cap*ax t:=by omega
  exact Nat.le_of_mul_le_mul_right this (iS t)
 have old:∀F,F∈keys us->bX st.sites F:=fun F h=>by
  obtain⟨am,ab⟩:=ox h;obtain⟨O,aC,ao,_⟩:=dO F am ab;exact⟨O,aC,ao⟩
 obtain⟨K,bC⟩:∃K:List Nat,∀F,F∈K <-> F∈keys us\/F=o/\bX st.sites o:=by
  by_cases h:bX st.sites o
  ·exact⟨o::keys us,fun F=>by simp[h,or_comm]⟩
  ·exact⟨keys us,fun F=>by simp[h]⟩
 have AG:∀y,y∈aA->∀a',a7 y=some a'->∃F,F∈keys us/\a'∈bI (B F):=fun y ak a' b9=>by
  have:a'∈aA.flatMap fun v=>(a7 v).toList:=List.mem_flatMap.2 ⟨y,ak,by rw[b9];simp⟩
  rw[fO] at this;exact List.mem_flatMap.1 this
 have zN:bI (.tuple (.slice (some ⟨w.heap.size,0,none⟩) xs.length cap::aA).toArray)=w.heap.size::cp B (keys us):=by
  simp only[bI,List.flatMap_cons,fO];rfl
 refine S.u5 (K:=K) dO bC (fun b hb _=>RowKit.Below.heap_alloc w _ b hb) rfl rfl rfl (by simp) rfl (fun O M=>.inl (jv M)) (fun b hb=>?_) (fun {bp aB} dK go=>?_)
 ·rcases iq.1 hb with hb|⟨n,e',hb⟩
  ·have hb:w.heap.size=b:=Option.some.inj hb;subst hb;exact⟨by simp,.inr (Nat.le_refl _)⟩
  ·obtain⟨F,h1,h2⟩:=AG n e' b hb;have:=S.dX (old F h1) h2;exact⟨by simp;omega,.inl ⟨F,(bC F).2 (.inl h1),h2⟩⟩
 ·refine⟨T,_,aA,cs,dK,?_,⟨hcl,.inr ⟨w.heap.size,cap,_,(0,0),rfl,⟨ez,.inl rfl⟩,heap_alloc_new w _,c4,hm,by simp[hcap],by rw[<-hcl];simp⟩⟩,?_⟩
  ·rw[dK,zN,List.nodup_cons];refine⟨fun h=>?_,S.Nx old hn⟩
   obtain⟨F,h1,h2⟩:=List.mem_flatMap.1 h;have:=S.dX (old F h1) h2;omega
  ·refine Y.map (fun h=>jB go h) fun n e' b hb=>?_
   obtain⟨F,h1,h2⟩:=AG n e' b hb;exact RowKit.Below.heap_alloc w _ b (S.dX (old F h1) h2)
theorem Vx(S:ah L J X B st tm w){C:Ctx}(az:CtxOk P C){T e:TypeId}{t:aG}{bytes len o:Nat}{parts:Array (Nat×Operand)}(a0:C.tt T=.slice e t bytes)(au:D.op=.buildSlice T len parts)
  (Y:b6 st D.dst=true) (hlen:parts.toList.length=len) (lJ:oE 0 parts.toList=true) (uo:len*ax t<=1000) {as:List bA} {xs:List (den t)} {us:List (Nat×Site)}
  (has:mI (parts.toList.map fun p=>aP C st e p.2)=some as) (d_:ms t st as=some (xs,us)) (hn:(keys us).Nodup) (bh:o∉keys us):
  cz P L J X st tm w D (bP (.own o (aZ st o))) (us++[(o,.deep (aZ st o) t xs)]):=by
 obtain⟨dZ,i,z,hi,gF,n6,kp,hzs,ez⟩:=oq az a0;obtain⟨vZ,kt⟩:=Kv has;let ws:List Value:=parts.toList.map fun p=>Act.eval ⟨tm,[]⟩ p.2
 have qg:ws.length=as.length:=by rw[<-vZ];simp[ws]
 have Gc:∀j (h:j<as.length) (ab:j<ws.length),f_ B st.sites w (an X B st.sites) (as[j]) (ws[j]):=by
  intro j h1 h2;have hj:j<(parts.toList.map fun p=>aP C st e p.2).length:=by rw[vZ];exact h1
  have:=kt j hj h1;simp only[List.getElem_map] at this;have bo:=cV S C e (parts.toList[j]'(by simpa using hj)).2
  rw[this] at bo;have aa:b_ B st.sites w (an X B st.sites) (.av (as[j])) (ws[j]):=by simpa[ws] using bo
  exact aa
 obtain⟨vw,dO,⟨aA,vV,fO⟩,hcs⟩:=Y7 S d_ qg Gc;have pU:xs.length=len:=by rw[vw,<-qg];simpa[ws] using hlen
 have hcl:(ws.flatMap fun v=>v.cells.toList).length=len*ax t:=by rw[vV.len,dR,pU]
 have hm:len<=maxLen:=by
  have:len*1<=len*ax t:=Nat.mul_le_mul_left _ (iS t);unfold maxLen;omega
 have bZ:=S.L5 (o:=o) (rest:=[]) (T:=e) (cap:=len) dO hn bh vV fO (by simp[hcl]) hm ez
 rw[pU,List.append_nil] at bZ;have oI:aW st.sites (us++[(o,.deep (aZ st o) t xs)])=b8 (aW st.sites us) o (.deep (aZ st o) t xs):=by rw[hZ];rfl
 have cI:=Jo (tm:=tm) (w:=w) az a0 hlen lJ uo (ws:=ws) rfl hcs hcl;refine io (us:=us++[(o,.deep (aZ st o) t xs)]) (by rw[oI];exact bZ) Y (vv:=.slice (some ⟨w.heap.size,0,none⟩) len len) ?_ ?_
 ·unfold execOp;simp only[au,Sem.run_bind];have Fv:=cI;simp only[Fv,Result.andThen_ok,Sem.run_pure]
 ·rw[oI];refine⟨rfl,Ref.mk (O:=.deep (aZ st o) t xs) ?_ rfl (by simp[bY])⟩
  simp only[cn];simp
theorem Vw{av:Nat->Prop}{t:aG}{z:den t}{fQ aA:List Value}(h:Deep w av (enc t z) fQ aA)(n:Nat):Deep w av (flat t (List.replicate n z)) ((List.replicate n fQ).flatten) ((List.replicate n aA).flatten):=by
 induction n with
 |zero=>exact .nil
 |succ n ih=>
  have:=h.cu ih;simpa[List.replicate_succ,flat,List.flatMap_cons] using this
theorem VK(S:ah L J X B st tm w){C:Ctx}(az:CtxOk P C){T e:TypeId}{t:aG}{bytes o:Nat}{l c:Operand}{kn km:IntKind}{n m:Int}{z:List aw}{ds:List aM}{us:List (Nat×Site)}{ea:den t}(a0:C.tt T=.slice e t bytes)(au:D.op=.makeSlice T l c)
  (Y:b6 st D.dst=true) (hl:aP C st 0 l=.av (.ai (.d (.int kn n)))) (hc:aP C st 0 c=.av (.ai (.d (.int km m)))) (hz:(C.tt e).zero=some z) (ef:sinks st z=some (ds,us)) (dO:us.isEmpty=true) (d_:dec t ds=some ea):
  ∀r,lU bytes n m ea=some r->cz P L J X st tm w D (bP (.own o (aZ st o))) [(o,.deep (aZ st o) t r)]:=by
 intro r hr;obtain⟨dZ,i,fm,hi,gF,n6,kp,hzs,ez⟩:=oq az a0;obtain⟨v,hv,hzv⟩:=cf.xn (w:=w) (az.tt e) hz;have HF:v=fm:=by
  simp[zeroValue,typeInfo,hi,kp] at hv;exact hv.symm
 subst HF;obtain⟨h1,h2,aa⟩:=qV hzv;have dO:us=[]:=List.isEmpty_iff.1 dO;subst dO;obtain⟨_,aA,Tx,vL⟩:=CN S ef ⟨h1,aa _ _ _ _⟩;rw[<-nD _ _ _ d_] at Tx;have vL:(aA.flatMap fun v=>(a7 v).toList)=[]:=vL
 unfold lU at hr;split at hr
 ·rename_i hb;obtain⟨aT,aJ,bR,jt⟩:=hb;cases hr;have e1:Act.eval ⟨tm,[]⟩ l=.int kn n:=by
   have:=cV S C 0 l;rw[hl] at this;have this:bj _ _ (.int kn n) _:=this;generalize Act.eval ⟨tm,[]⟩ l=u at this;cases this;rfl
  have e2:Act.eval ⟨tm,[]⟩ c=.int km m:=by
   have:=cV S C 0 c;rw[hc] at this;have this:bj _ _ (.int km m) _:=this;generalize Act.eval ⟨tm,[]⟩ c=u at this;cases this;rfl
  have uU:=Vw Tx n.toNat;have hlen:((List.replicate n.toNat v.cells.toList).flatten).length=n.toNat*ax t:=by
   rw[uU.len,dR,List.length_replicate]
  have mx:(List.replicate m.toNat v.cells.toList).flatten=(List.replicate n.toNat v.cells.toList).flatten++(List.replicate (m.toNat-n.toNat) v.cells.toList).flatten:=by
   rw[<-List.flatten_append,List.replicate_append_replicate];congr 2;omega
  have hcap:((List.replicate n.toNat v.cells.toList).flatten).length+((List.replicate (m.toNat-n.toNat) v.cells.toList).flatten).length=m.toNat*ax t:=by
   rw[<-List.length_append,<-mx];simp[hzs]
  have uW:m.toNat<=maxLen:=by omega
  have fO:(((List.replicate n.toNat aA).flatten).flatMap fun v=>(a7 v).toList)=cp B (keys ([]:List (Nat×Site))):=by
   have:∀k,(((List.replicate k aA).flatten).flatMap fun v=>(a7 v).toList)=[]:=fun k=>by
    induction k with
    |zero=>rfl
    |succ k ih=>rw[List.replicate_succ,List.flatten_cons,List.flatMap_append,vL,ih];rfl
   exact this _
  have bZ:=S.L5 (o:=o) (T:=e) (us:=[]) .nil List.nodup_nil (by simp[keys]) uU fO hcap uW ez
  rw[List.length_replicate,<-mx] at bZ;refine io (us:=[(o,.deep (aZ st o) t (List.replicate n.toNat ea))]) bZ Y (vv:=.slice (some ⟨w.heap.size,0,none⟩) n.toNat m.toNat) ?_ ?_
  ·unfold execOp;simp only[au,e1,e2,Sem.run_bind];have cI:=Jr (C:=C) (w:=w) (kn:=kn) (km:=km) dZ hi gF n6 kp hzs aT aJ bR jt;simp only[cI,Result.andThen_ok,Sem.run_pure]
  ·refine⟨rfl,Ref.mk (O:=.deep (aZ st o) t (List.replicate n.toNat ea)) ?_ rfl (by simp[bY])⟩
   simp only[aW,cn];simp
 ·cases hr
theorem Src.acV{u:Bool}{e:TypeId}{size n:Nat}{v:Value}{cs:List Value}(h:rowAt w u e size v n cs)(hone:∀x∈cs,x.oneCell'=true):Src w size v n cs:=by
 refine⟨h.1,hone,?_⟩;rcases h.2 with⟨h1,h2⟩|⟨g,cap,cur,bG,h1,_,hg,_,_,_,jN⟩
 ·exact .inl ⟨h1,h2⟩
 ·refine .inr (.inl ⟨⟨g,0,none⟩,cap,h1,fun j u hu=>?_⟩)
  rw[gl,Nat.zero_add,cell_of_row w g j cur e bG hg];rw[<-jN,List.getElem?_take] at hu;split at hu
  ·simpa using hu
  ·cases hu
theorem MG{v:Value}{b:Nat}(h:v.ownBlock=some b):a7 v=some b:=by
 cases v<;>first|cases h|skip
 rename_i a n c;cases a<;>first|exact h|cases h
theorem ah.Kz(S:ah L J X B st tm w){dst b2:Nat}{t:aG}{xs ys:List (den t)}{ks:List (Nat×Site)}{v0 v':Value}{A6 qA ia gJ:List Value}{w':World}{b4:TypeId}(pa:eP st.sites ks)
  (d0:Deep w (an X B st.sites) (flat t xs) A6 ia) (d1:Deep w (an X B st.sites) (flat t ys) qA gJ) (hA:(bI (.tuple (v0::(ia++gJ)).toArray)).Nodup) (Aa:∀b,b∈bI (.tuple (v0::(ia++gJ)).toArray)->∃F,F∈keys ks/\b∈bI (B F))
  (h2:rowAt w' t.en b4 (ax t) v' (xs.length+ys.length) (A6++qA)) (aa:w.grownBy w' v0.ownBlock) (aH:∀b,a7 v'=some b->b<w'.heap.size/\(a7 v0=some b\/w.heap.size<=b)) (mw:∀O,look st.sites dst=some O->O.b2<b2):
  ah L J X (fun F=>if F=dst then .tuple (v'::(ia++gJ)).toArray else B F) {st with sites:=b8 (aW st.sites ks) dst (.deep b2 t (xs++ys))} tm w':=by
 have old:∀F,F∈keys ks->bX st.sites F:=fun F h=>by
  obtain⟨am,ab⟩:=ox h;obtain⟨O,aC,ao,_⟩:=pa F am ab;exact⟨O,aC,ao⟩
 obtain⟨K,bC⟩:∃K:List Nat,∀F,F∈K <-> F∈keys ks\/F=dst/\bX st.sites dst:=by
  by_cases h:bX st.sites dst
  ·exact⟨dst::keys ks,fun F=>by simp[h,or_comm]⟩
  ·exact⟨keys ks,fun F=>by simp[h]⟩
 have Ti:∀b,a7 v0=some b->b∈bI (.tuple (v0::(ia++gJ)).toArray):=fun b h=>iq.2 (.inl h)
 have vq:∀n,n∈ia++gJ->∀b,a7 n=some b->b∈bI (.tuple (v0::(ia++gJ)).toArray):=fun n hn b h=>iq.2 (.inr ⟨n,hn,h⟩)
 have lt:∀b,b∈bI (.tuple (v0::(ia++gJ)).toArray)->b<w.heap.size:=fun b hb=>by
  obtain⟨F,aC,ao⟩:=Aa b hb;exact S.dX (old F aC) ao
 have Bt:bI (.tuple (v0::(ia++gJ)).toArray)=(a7 v0).toList++(ia++gJ).flatMap fun v=>(a7 v).toList:=by simp only[bI,List.flatMap_cons]
 have am5:bI (.tuple (v'::(ia++gJ)).toArray)=(a7 v').toList++(ia++gJ).flatMap fun v=>(a7 v).toList:=by simp only[bI,List.flatMap_cons]
 rw[Bt] at hA;obtain⟨a1,a2,fr⟩:=List.nodup_append.1 hA;have jF:∀n,n∈ia++gJ->∀b,a7 n=some b->w'.heap[b]? =w.heap[b]? :=fun n hn b hb=>aa.block b (lt b (vq n hn b hb)) fun e=>
  fr b (by rw[MG e.symm];simp) b (List.mem_flatMap.2 ⟨n,hn,by rw[hb];simp⟩) rfl
 refine S.u5 (K:=K) pa bC (fun b hb hne=>aa.block b hb fun e=>?_) aa.os aa.tape aa.output aa.size rfl (fun O M=>.inl (mw O M)) (fun b hb=>?_) (fun {bp aB} dK go=>?_)
 ·obtain⟨F,aC,ao⟩:=Aa b (Ti b (MG e.symm));exact hne F ((bC F).2 (.inl aC)) ao
 ·rcases iq.1 hb with hb|⟨n,hn,hb⟩
  ·obtain⟨aC,ao⟩:=aH b hb;refine⟨aC,ao.imp (fun h=>?_) id⟩
   obtain⟨F,aC,ao⟩:=Aa b (Ti b h);exact⟨F,(bC F).2 (.inl aC),ao⟩
  ·have hm:=vq n hn b hb;obtain⟨F,aC,ao⟩:=Aa b hm;exact⟨Nat.lt_of_lt_of_le (lt b hm) aa.size,.inl ⟨F,(bC F).2 (.inl aC),ao⟩⟩
 ·refine⟨b4,v',ia++gJ,A6++qA,dK,?_,by rw[List.length_append];exact h2,?_⟩
  ·rw[dK,am5];refine List.nodup_append.2 ⟨by cases a7 v'<;>simp,a2,fun b hb c hc e=>?_⟩
   subst e;have hb:=Option.mem_toList.1 hb;rcases(aH b hb).2 with h|h
   ·exact fr b (by rw[h];simp) b hc rfl
   ·have:=lt b (by rw[Bt];exact List.mem_append.2 (.inr hc))
    omega
  ·have jj:∀{d:aM} {v:Value},bj w (an X B st.sites) d v->bj w' (an X aB bp) d v:=fun h=>jB go h
   rw[kL];exact(d0.map jj fun n hn=>jF n (List.mem_append.2 (.inl hn))).cu (d1.map jj fun n hn=>jF n (List.mem_append.2 (.inr hn)))
theorem Jq{o s dst:Nat}{O:Site}(h:look st.sites o=some O)(M:O.b2=s):aZ (st.dp o (.dead s)) dst=aZ st dst:=by
 unfold aZ;rw[ad.mj];by_cases e:o=dst
 ·subst e;simp only[if_true,ad.O,h,M];rfl
 ·simp only[e,if_false]
theorem Yq(S:ah L J X B st tm w){C:Ctx}(az:CtxOk P C){T ed:TypeId}{s x:Operand}{e ex:TypeId}{t u:aG}{bytes aJ:Nat}{dst:Nat}(a0:C.tt T=.slice e t bytes)(ez:C.tt ed=.slice ex u aJ)
  (au:D.op=.call {callee:=.builtin .append,args:=#[s,x],argTypes:=#[T,ed]}) (db:D.dst=some dst) (Y:b6 st D.dst=true):
  Holds (rA bytes t dst st (aP C st T s) (aP C st ed x)) (cz P L J X st tm w D):=by
 have pf:=az.tt ed;rw[ez] at pf;have uE:(∃ex,P.underlying ed=some (.slice ex))\/P.underlying ed=some .string:=.inl ⟨_,pf.1.1⟩;obtain⟨dZ,i,z,hi,pb,vR,sZ,hzs,TD⟩:=oq az a0;have nQ:=cV S C T s;have oY:=cV S C ed x;have runs:∀{v':Value} {w':World},(Builtin.append_ #[T,ed] D.type #[Act.eval ⟨tm,[]⟩ s,Act.eval ⟨tm,[]⟩ x]).run P w=.ok v' w'->
   (execOp (Act.eval ⟨tm,[]⟩) D).run P w=.ok (.value v') w':=by
  intro v' w' h;unfold execOp;simp only[au,resolve,invoke,builtin,Sem.run_bind,Sem.run_pure,Result.andThen_ok,List.map_toArray,List.map_cons,List.map_nil,h]
 have one:∀{u:Bool} {b4:TypeId} {v':Value} {n m:Nat} {l:List Value} {w':World},rowAt w' u b4 n v' m l->v'.oneCell'=true:=by
  intro u b4 v' n m l w' h;rcases h.2 with⟨rfl,_⟩|⟨g,cap,cur,bG,rfl,_⟩<;>rfl
 unfold rA;split
 ·rename_i F s1 ags;rw[ags] at oY;split
  ·rename_i bk ys af6;split
   ·rename_i g8;subst g8;have sA:=ts af6;obtain⟨aoN,Sb,uR,GC,OO,Qs,adM,Fe⟩:=S.sites F _ sA;have AI:Act.eval ⟨tm,[]⟩ x=Sb:=(Ref.at oY.2 sA rfl:_=bY (B F)).trans (by rw[OO];rfl)
    have hsrc:Src w (ax bk) (Act.eval ⟨tm,[]⟩ x) ys.length GC:=by rw[AI];exact .acV adM Fe.one
    have Ad:bI (B F)=(a7 Sb).toList++uR.flatMap fun v=>(a7 v).toList:=by rw[OO];simp only[bI,List.flatMap_cons]
    rw[Ad] at Qs;obtain⟨_,OC,_⟩:=List.nodup_append.1 Qs;have z':∀d,aZ (st.dp F (.dead s1)) d=aZ st d:=fun d=>Jq sA rfl
    split
    ·-- Bn nothing
     rename_i t2 bV;rw[bV] at nQ;have oV:Act.eval ⟨tm,[]⟩ s=.slice none 0 0:=nQ;refine Holds.e4 fun r hr=>?_
     have cN:dv bytes [] ys=some r:=hr;unfold dv at cN;split at cN
     ·rename_i hb;cases cN;simp only[List.length_nil,Nat.zero_add,room] at hb;obtain⟨v',w',h1,⟨b4,h2⟩,aa,aH⟩:=tp (P:=P) (u:=bk.en) w T ed D.type e TD i z (ax bk) bytes dZ uE hi sZ pb vR hzs (iS _) (.slice none 0 0) 0 [] ⟨e,tB w _ e _⟩ _ _ GC hsrc
       (by rw[Nat.zero_add];exact hb.2) (by rw[Nat.zero_add];exact hb.1)
      have hY:bI (.tuple (Value.slice none 0 0::([]++uR)).toArray)=uR.flatMap fun v=>(a7 v).toList:=by simp only[bI,List.flatMap_cons,List.nil_append];rfl
      have bZ:=S.Kz (dst:=dst) (b2:=aZ (st.dp F (.dead s1)) dst) (ks:=[(F,.dead s1)]) (xs:=[]) (ys:=ys) (v0:=.slice none 0 0) (ia:=[]) (A6:=[]) (fun aO am hm=>by
       simp only[List.mem_singleton,Prod.mk.injEq] at hm;obtain⟨rfl,rfl⟩:=hm;exact⟨_,sA,rfl,rfl⟩) .nil Fe (by rw[hY];exact OC) (fun b hb=>⟨F,by simp[keys],by rw[hY] at hb;rw[Ad];exact List.mem_append.2 (.inr hb)⟩) h2 aa aH (fun O M=>by rw[z'];exact jv M)
      refine io (us:=[(F,.dead s1),(dst,.deep (aZ (st.dp F (.dead s1)) dst) bk ([]++ys))]) bZ Y (runs (by rw[oV];exact h1)) ?_
      refine⟨one h2,Ref.mk (O:=.deep (aZ (st.dp F (.dead s1)) dst) bk ([]++ys)) ?_ rfl (by simp[bY])⟩
      simp only[aW,cn];simp
     ·cases cN
    ·-- Bn a deep row
     rename_i o s2 bV;rw[bV] at nQ;split
     ·rename_i t2 xs af7;split
      ·rename_i g8;subst g8;cases A1:o.beq F with
       |true=>exact .fail
       |false=>
        have hne:o≠F:=fun e=>by subst e;rw[Nat.beq_refl] at A1;cases A1
        simp only[cond_false];refine Holds.e4 fun r hr=>?_
        have cN:dv bytes xs ys=some r:=hr;unfold dv at cN;split at cN
        ·rename_i hb;cases cN;simp only[room] at hb;have uX:=ts af7;obtain⟨aoO,sL,F6,agN,OP,Qt,adN,ade⟩:=S.sites o _ uX;have HL:Act.eval ⟨tm,[]⟩ s=sL:=(Ref.at nQ.2 uX rfl:_=bY (B o)).trans (by rw[OP];rfl)
         have Gz:bI (B o)=(a7 sL).toList++F6.flatMap fun v=>(a7 v).toList:=by rw[OP];simp only[bI,List.flatMap_cons]
         rw[Gz] at Qt;obtain⟨v',w',h1,⟨b4,h2⟩,aa,aH⟩:=tp (P:=P) (u:=t2.en) w T ed D.type e TD i z (ax t2) bytes dZ uE hi sZ pb vR hzs (iS _) sL xs.length agN ⟨_,adN⟩ _ _ GC hsrc hb.2 hb.1;have hY:bI (.tuple (sL::(F6++uR)).toArray)=((a7 sL).toList++F6.flatMap fun v=>(a7 v).toList)++uR.flatMap fun v=>(a7 v).toList:=by
          simp only[bI,List.flatMap_cons,List.flatMap_append,List.append_assoc]
         have af2:aZ ((st.dp F (.dead s1)).dp o (.dead s2)) dst=aZ st dst:=by
          have:(st.dp F (.dead s1)).O o=some (.deep s2 t2 xs):=by
           rw[ad.mj,if_neg (fun e=>hne e.symm)]
           exact uX
          exact(Jq (st:=st.dp F (.dead s1)) (s:=s2) this rfl).trans (z' dst)
         have bZ:=S.Kz (dst:=dst) (b2:=aZ ((st.dp F (.dead s1)).dp o (.dead s2)) dst) (ks:=[(F,.dead s1),(o,.dead s2)]) (xs:=xs) (ys:=ys) (v0:=sL) (fun aO am hm=>by
          simp only[List.mem_cons,List.not_mem_nil,or_false,Prod.mk.injEq] at hm;rcases hm with⟨rfl,rfl⟩|⟨rfl,rfl⟩
          ·exact⟨_,sA,rfl,rfl⟩
          ·exact⟨_,uX,rfl,rfl⟩) ade Fe (by
           rw[hY];refine List.nodup_append.2 ⟨Qt,OC,fun b hb c hc e=>?_⟩
           subst e;exact hne (S.df o F b ⟨_,uX,rfl⟩ ⟨_,sA,rfl⟩ (by rw[Gz];exact hb) (by rw[Ad];exact List.mem_append.2 (.inr hc)))) (fun b hb=>by
           rw[hY] at hb;rcases List.mem_append.1 hb with hb|hb
           ·exact⟨o,by simp[keys],by rw[Gz];exact hb⟩
           ·exact⟨F,by simp[keys],by rw[Ad];exact List.mem_append.2 (.inr hb)⟩) h2 aa aH (fun O M=>by rw[af2];exact jv M)
         refine io (us:=[(F,.dead s1),(o,.dead s2),(dst,.deep (aZ ((st.dp F (.dead s1)).dp o (.dead s2)) dst) t2 (xs++ys))]) bZ Y (runs (by rw[HL];exact h1)) ?_
         refine⟨one h2,Ref.mk (O:=.deep (aZ ((st.dp F (.dead s1)).dp o (.dead s2)) dst) t2 (xs++ys)) ?_ rfl (by simp[bY])⟩
         simp only[aW,cn];simp
        ·cases cN
      ·exact .fail
     ·exact .fail
    ·exact .fail
   ·exact .fail
  ·exact .fail
 ·exact .fail
end
section
variable {P:Program}{L:World}{J:List Nat}{X:Nat->Prop}{B:Nat->Value}{st:ad}{tm:Array Value}{w:World}{D:Oper}
theorem _u(S:ah L J X B st tm w){C:Ctx}(az:CtxOk P C){T:TypeId}{a x:Operand}{v:bA}(au:D.op=.store T a x)(Y:b6 st D.dst=true)(ag:(C.tt T).known=true)(hv:lR (aP C st T x)=some v):
  Holds (rC (C.tt T).size st (aP C st T a) v) (cz P L J X st tm w D):=by
 have hn:=CW ag;have n7:=cV S C T a;have hex:=cV S C T x;rw[px hv] at hex;have hex:f_ B st.sites w (an X B st.sites) v (Act.eval ⟨tm,[]⟩ x):=hex;have run:∀{b p:Nat} {cur:List Value} {fC:TypeId} {u:Bool} {bG:Nat×Nat},Act.eval ⟨tm,[]⟩ a=.pointer (some ⟨b,p,none⟩)->w.heap[b]? =some (.cells cur.toArray fC bG)->k7 u fC cur.toArray bG->(Act.eval ⟨tm,[]⟩ x).cells.toList.length=(C.tt T).size->
   p+(Act.eval ⟨tm,[]⟩ x).cells.toList.length<=cur.length->(∀u∈(Act.eval ⟨tm,[]⟩ x).cells.toList,u.oneCell'=true)->
   (execOp (Act.eval ⟨tm,[]⟩) D).run P w=.ok .skip (w.setRow b (a_ cur p (Act.eval ⟨tm,[]⟩ x).cells.toList).toArray):=by
  intro b p cur fC u bG h1 h2 hz aa aH bD;unfold execOp;simp only[au,h1,Instr.storeAt,Instr.sureAddr,Sem.run_bind,Sem.run_pure,Result.andThen_ok,Jj (az.tt T) hn h2 hz aa aH bD]
 unfold rC;cases hlen:v.cells.length.beq (C.tt T).size with
 |false=>simp only[cond_false];exact .fail
 |true=>
  have pT:=Nat.eq_of_beq_eq_true hlen;simp only[cond_true];split
  ·rename_i o s off bV;rw[bV] at n7;split
   ·rename_i cells hb;cases hc:(Nat.ble (off+(C.tt T).size) cells.length&&gj v.cells) with
    |false=>simp only[cond_false];exact .fail
    |true=>
     simp only[cond_true];simp only[Bool.and_eq_true] at hc;have c4:=Nat.le_of_ble_eq_true hc.1;have hl:=hex.cells hc.2;obtain⟨b,fC,cur,h1,h2,aa,bZ⟩:=S._w (gy hb) n7 hl (by rw[pT];exact c4) (hl.h4 hc.2) hc.2
     exact Holds.e9 (qW (us:=[(o,.box s (a_ cells off v.cells))]) bZ Y (run (u:=false) h1 h2 ⟨(fun h=>by cases h),.inl rfl⟩ (by rw[hl.1];exact pT) aa (hl.h4 hc.2)))
   ·exact .fail
  ·rename_i o s u k off bV;rw[bV] at n7;split
   ·rename_i am t xs fj;have nF:look st.sites o=some (.row am t xs):=fj;cases hc:(am.beq s&&Nat.ble (off+(C.tt T).size) (ax t)&&decide (t=u)) with
    |false=>simp only[cond_false];exact .fail
    |true=>
     simp only[cond_true];simp only[Bool.and_eq_true,decide_eq_true_eq] at hc;obtain⟨⟨n8,kr⟩,rfl⟩:=hc;have:=Nat.eq_of_beq_eq_true n8;subst this;have c4:=Nat.le_of_ble_eq_true kr;split
     ·rename_i ds us ef;cases hT:(look us o).isNone with
      |false=>simp only[cond_false];exact .fail
      |true=>
       simp only[cond_true];refine Holds.e4 fun cW kg=>?_
       have iZ:((xs[k]?).bind fun x=>dec t (a_ (enc t x) off ds))=some cW:=kg
       cases lW:xs[k]? with
       |none=>rw[lW] at iZ;cases iZ
       |some po=>
        rw[lW] at iZ;have d_:dec t (a_ (enc t po) off ds)=some cW:=iZ;have hD:=Eo ef;have aR:kI L J X B st tm w us:=⟨S,hD⟩;have c':gj v.cells=true:=by
         clear hlen pT kg iZ d_ hT hD aR;revert ef
         generalize v.cells=U;intro ef;induction U generalizing ds us with
         |nil=>rfl
         |cons l U ih=>
          simp only[g5] at ef;split at ef
          ·rename_i d UQ gg ob h1 h2;simp only[gj,Bool.and_eq_true];refine⟨?_,ih _ _ h2⟩;unfold jk at h1;split at h1<;>first|rfl|cases h1
          ·cases ef
        have hl:=hex.cells c';have hr:=yI ef hl aR (fun p aj=>aj)
        have hdl:ds.length=(C.tt T).size:=by
         have:=hr.1;rw[hl.1] at this;omega
        have Gj:look (aW st.sites us) o=some (.row am t xs):=by
         rcases lq hD o with h|⟨s2,t2,aou,h,ab⟩
         ·rw[h];exact nF
         ·exfalso
          have:∀(us:List (Nat×Site)) (sites:List (Nat×Site)),look us o=none->look (aW sites us) o=look sites o:=by
           intro us;induction us with
           |nil=>intro sites _;rfl
           |cons p us ih=>
            obtain⟨F,O⟩:=p;intro sites zK;simp only[look] at zK;cases hb:F.beq o with
            |true=>simp[hb] at zK
            |false=>
             simp only[hb,cond_false] at zK;simp only[aW];rw[ih _ zK,cn,if_neg];rintro rfl;simp at hb
          have aa:=this us st.sites (by simpa using hT)
          rw[ab,nF] at aa;cases aa
        have agt:=aR.go (a:=.av (.ai (.ek o am t k off))) n7;obtain⟨b,fC,cur,bG,h1,h2,hz,aa,bZ⟩:=aR.new._v Gj agt lW (nD _ _ _ d_) hr (by rw[hdl];exact c4) (hl.h4 c')
        refine qW (aB:=B) (us:=us++[(o,.row am t (xs.set k cW))]) ?_ Y (run h1 h2 hz (by rw[hl.1];exact pT) aa (hl.h4 c'))
        rw[hZ];exact bZ
     ·exact .fail
   ·rename_i am t xs fj;have nF:look st.sites o=some (.deep am t xs):=fj;cases hc:(am.beq s&&decide (t=u)) with
    |false=>simp only[cond_false];exact .fail
    |true=>
    simp only[cond_true];simp only[Bool.and_eq_true,decide_eq_true_eq] at hc;obtain⟨n8,rfl⟩:=hc;have:=Nat.eq_of_beq_eq_true n8;subst this;cases hc:(off.beq 0&&(C.tt T).size.beq (ax t)) with
    |false=>
     simp only[cond_false];split
     ·rename_i d my;cases ay:(d.hR&&Nat.blt off (ax t)) with
      |false=>simp only[cond_false];exact .fail
      |true=>
       simp only[cond_true];simp only[Bool.and_eq_true] at ay;have ajV:off<ax t:=Nat.le_of_ble_eq_true ay.2;refine Holds.e4 fun cW kg=>?_
       have iZ:((xs[k]?).bind fun x=>dec t (a_ (enc t x) off [d]))=some cW:=kg
       cases lW:xs[k]? with
       |none=>rw[lW] at iZ;cases iZ
       |some po=>
        rw[lW] at iZ;have d_:dec t (a_ (enc t po) off [d])=some cW:=iZ;have hl:=hex.cells (by rw[my];rfl)
        rw[my] at hl;obtain⟨jp,r0,hu,sR,vB⟩:=hl.inv;have iK:r0=[]:=vB.kR;subst iK;obtain⟨b,fC,cur,bG,h1,h2,hz,aa,bZ⟩:=S.Xy nF n7 lW d_ ay.1 ajV sR;have HR:(C.tt T).size=1:=by rw[<-pT,my];rfl
        have cI:=run h1 h2 hz (by rw[hu,HR];rfl) (by rw[hu];exact aa) (by rw[hu];intro v hv;rw[List.mem_singleton.1 hv];exact bj.h4 sR)
        rw[hu] at cI;refine qW (aB:=B) (us:=[(o,.deep am t (xs.set k cW))]) ?_ Y cI;exact bZ
     ·exact .fail
    |true=>
     simp only[cond_true];simp only[Bool.and_eq_true] at hc;obtain⟨pd,kr⟩:=hc;have:=Nat.eq_of_beq_eq_true pd;subst this;split
     ·rename_i ds us ef;cases hT:((look us o).isNone&&eJ (keys us)) with
      |false=>simp only[cond_false];exact .fail
      |true=>
       simp only[cond_true];rw[Bool.and_eq_true] at hT;refine Holds.e4 fun cW kg=>?_
       have iZ:((xs[k]?).bind fun _=>dec t ds)=some cW:=kg
       cases lW:xs[k]? with
       |none=>rw[lW] at iZ;cases iZ
       |some po=>
        rw[lW] at iZ;have d_:dec t ds=some cW:=iZ;have hl:=hex.cells (Jm ef);obtain⟨g1,aA,g2,g3⟩:=CN S ef hl;rw[<-nD _ _ _ d_] at g2;obtain⟨b,fC,cur,bG,nv,h1,h2,hz,aa,bZ⟩:=S.Y0 nF n7 lW g1 ((ou _).1 hT.2) (JU hT.1) g2 g3;refine qW (aB:=fun F=>if F=o then nv else B F) (us:=us++[(o,.deep am t (xs.set k cW))]) ?_ Y (run h1 h2 hz (by rw[hl.1];exact pT) aa g2.one)
        rw[hZ];exact bZ
     ·exact .fail
   ·exact .fail
  ·exact .fail
theorem Wr(S:ah L J X B st tm w){C:Ctx}(az:CtxOk P C){T e:TypeId}{t:aG}{bytes:Nat}{x i:Operand}{k:IntKind}{n:Int}(a0:C.tt T=.slice e t bytes)(hi:aP C st 0 i=.av (.ai (.d (.int k n))))(au:D.op=.indexAddr T x i)
  (Y:b6 st D.dst=true):
  Holds (qX t st (aP C st T x) n) (cz P L J X st tm w D):=by
 obtain⟨dZ,inf,z,ka,gF,n6,kp,hzs,_⟩:=oq az a0;have u0:=jA S hi;have bo:=cV S C T x;have run:∀{a:Addr} {len cap:Nat},Act.eval ⟨tm,[]⟩ x=.slice (some a) len cap->0<=n->n<len->(execOp (Act.eval ⟨tm,[]⟩) D).run P w=.ok (.value (.pointer (some (a.add (n.toNat*ax t))))) w:=by
  intro a len cap hx h0 h1;unfold execOp;simp[au,hx,u0,Instr.indexAt,asIntOf,run_underlying dZ,h0,h1,sizeOf,kJ ka,gF]
 unfold qX;split
 ·rename_i u xs bV;split;case isFalse=>exact .fail
  rename_i nZ;subst nZ;rw[bV] at bo;have bo:bj w (an X B st.sites) (.sl u xs) (Act.eval ⟨tm,[]⟩ x):=bo;refine Holds.d' fun y ak=>?_
  have dN:bl xs n=some y:=ak;unfold bl at dN;split at dN
  ·rename_i h0;have aX:n.toNat<xs.length:=by
    rcases Nat.lt_or_ge n.toNat xs.length with h|h
    ·exact h
    ·rw[List.getElem?_eq_none h] at dN;cases dN
   generalize hx:Act.eval ⟨tm,[]⟩ x=v at bo;cases bo with
   |nil=>simp at aX
   |sl _ _ a cap cs m hm hcap hb hl hc hr=>
    subst hm;have hne:xs≠[]:=by rintro rfl;simp at aX
    have cJ:ch w (an X B st.sites) (flat u xs) cs:=⟨hl,hr⟩;have lY:a.spot=none:=by
     have nP:0<cs.length:=by rw[hl,dR];exact Nat.mul_pos (List.length_pos_iff.mpr hne) (iS u)
     have h1:=hc 0 cs[0] (List.getElem?_eq_getElem nP);have h2:a.add 0=a:=by unfold Addr.add;simp
     rw[h2] at h1;unfold World.cell? at h1;split at h1
     ·cases M:a.spot with
      |none=>rfl
      |some _=>simp[M] at h1
     ·cases h1
    obtain⟨oi,Bv,akZ⟩:=a;simp only at lY;subst lY;have hcs:ho w oi Bv cs:=fun j v hv=>by have:=hc j v hv;rwa[gl] at this
    refine dx S Y (run hx h0 (by omega)) ?_
    rw[gl];have gd:=tx u xs n.toNat y dN;have aec:=(hcs.drop (n.toNat*ax u)).take (ax u);have kl:=((gX (B:=B) (sites:=st.sites) hl hr).drop (n.toNat*ax u)).take (ax u);have e2:((cC (flat u xs)).drop (n.toNat*ax u)).take (ax u)=cC (enc u y):=by
     rw[<-gd];simp[cC,List.map_drop,List.map_take]
    rw[e2] at kl;have dH:=ir kl;have i':oi<w.heap.size:=by
     have nP:0<cs.length:=by rw[hl,dR];exact Nat.mul_pos (List.length_pos_iff.mpr hne) (iS u)
     exact World.block_lt_of_cell? w _ (hcs 0 cs[0] (List.getElem?_eq_getElem nP))
    exact⟨oi,Bv+n.toNat*ax u,by rw[Nat.add_zero],hb hne,i',_,dH.1,aec,dH.2⟩
  ·cases dN
 ·rename_i o s bV;rw[bV] at bo;split
  ·rename_i u xs cJ;split;case isFalse=>exact .fail
   rename_i nZ;subst nZ;refine Holds.d' fun y ak=>?_
   have dN:e_ xs.length n=some y:=ak;unfold e_ at dN;split at dN
   ·rename_i hb;cases dN;obtain⟨⟨O,gd,jO⟩,iX⟩:=S.any cJ;have hv:Act.eval ⟨tm,[]⟩ x=bY (B o):=Ref.at bo.2 gd jO;rcases iX with⟨hn,AJ⟩|⟨b,c,bW⟩
    ·subst AJ;simp at hb;omega
    ·refine dx S Y (run (by rw[hv];exact bW) hb.1 hb.2) ?_
     rw[gl,Nat.zero_add];exact⟨b,by rw[Nat.add_zero],Ref.mk gd jO ⟨_,_,bW⟩⟩
   ·cases dN
  ·exact .fail
 ·exact .fail
end
section
variable {P:Program}{L:World}{J:List Nat}{X:Nat->Prop}{B:Nat->Value}{st:ad}{tm:Array Value}{w:World}{D:Oper}
theorem Me(S:ah L J X B st tm w){C:Ctx}{cG:Option Operand}{k5 l:Int}(h:h7 k5 (cG.map (aP C st 0))=some l):
  (cG=none/\l=k5)\/∃x k,cG=some x/\Act.eval ⟨tm,[]⟩ x=.int k l:=by
 cases cG with
 |none=>simp only[Option.map_none,h7,Option.some.injEq] at h;exact .inl ⟨rfl,h.symm⟩
 |some x=>
  simp only[Option.map_some] at h;generalize hx:aP C st 0 x=v at h;unfold h7 at h;split at h
  ·rename_i bV;cases bV
  ·rename_i k n bV;cases h;cases bV;exact .inr ⟨x,k,rfl,jA S hx⟩
  ·cases h
theorem Cw(t:aG)(xs:List (den t))(n:Nat):flat t (xs.take n)=(flat t xs).take (n*ax t):=by
 rcases Nat.lt_or_ge xs.length n with h|h
 ·rw[List.take_of_length_le (Nat.le_of_lt h),List.take_of_length_le (by rw[dR];exact Nat.mul_le_mul_right _ (Nat.le_of_lt h))]
 ·have:=kL t (xs.take n) (xs.drop n);rw[List.take_append_drop] at this;rw[this,List.take_left' (by rw[dR,List.length_take,Nat.min_eq_left h])]
theorem Le(t:aG)(xs:List (den t))(n:Nat):flat t (xs.drop n)=(flat t xs).drop (n*ax t):=by
 rcases Nat.lt_or_ge xs.length n with h|h
 ·rw[List.drop_eq_nil_of_le (Nat.le_of_lt h),List.drop_eq_nil_of_le (by rw[dR];exact Nat.mul_le_mul_right _ (Nat.le_of_lt h))]
  rfl
 ·have:=kL t (xs.take n) (xs.drop n);rw[List.take_append_drop] at this;rw[this,List.drop_left' (by rw[dR,List.length_take,Nat.min_eq_left h])]
theorem BS{P:Program}{w:World}(isSlice:Bool)(len cap:Nat)(cG hi:Option Value)(l h:Int)(fP:(cG=none/\l=0)\/∃k,cG=some (.int k l))(iL:(hi=none/\h=len)\/∃k,hi=some (.int k h))
  (h0:0<=l) (h1:l<=h) (h2:h<=len) (hc:len<=cap):(Instr.sliceBounds isSlice len cap cG hi none).run P w=.ok (l.toNat,h.toNat,cap) w:=by
 have bQ:0<=h:=by omega
 have Tu:h<=cap:=by omega
 have ajJ:((h.toNat:Nat):Int)=h:=Int.toNat_of_nonneg bQ;rcases fP with⟨rfl,rfl⟩|⟨k,rfl⟩<;>rcases iL with⟨rfl,rfl⟩|⟨k',rfl⟩
 ·simp[Instr.sliceBounds]
 ·simp[Instr.sliceBounds,Instr.sliceBound,asIntOf,bQ,Tu]
 ·simp[Instr.sliceBounds,Instr.sliceBound,asIntOf,h0,h1]
 ·simp[Instr.sliceBounds,Instr.sliceBound,asIntOf,bQ,Tu,h0,ajJ,h1]
theorem _t(s:ByteArray)(l h:Nat)(h2:h<=s.size):(s.extract l h).data.toList=(s.data.toList.take h).drop l:=by
 rw[ByteArray.data_extract,Array.toList_extract];simp[List.extract_eq_take_drop,List.drop_take]
theorem Nh{w:World}{av:Nat->Prop}{t:aG}{xs:List (den t)}{b D:Nat}{cs:List Value}(hb:xs≠[]->¬av b)(hr:ch w av (flat t xs) cs)(hc:ho w b D cs)(l h:Nat)(h1:l<=h)(h2:h<=xs.length)(a:Addr)(fq:Nat)(TA:h-l<=fq)
  (a3:a=⟨b,D+l*ax t,none⟩\/l=h) (TB:a.block=b):bj w av (.sl t ((xs.take h).drop l)) (.slice (some a) (h-l) fq):=by
 have hlen:((xs.take h).drop l).length=h-l:=by simp;omega
 by_cases Tp:l=h
 ·subst Tp;have:(xs.take l).drop l=[]:=List.eq_nil_of_length_eq_zero (by rw[hlen];omega)
  rw[this];exact .sl t [] a fq [] _ (by simp) TA (fun hx=>absurd rfl hx) rfl (fun j u hu=>by simp at hu) (fun j h=>by simp[flat] at h)
 ·rcases a3 with a3|a3
  ·subst a3;have hf:flat t ((xs.take h).drop l)=((flat t xs).take (h*ax t)).drop (l*ax t):=by
    rw[Le,Cw]
   have kl:=((gX (B:=fun _=>undef) (sites:=[]) hr.1 hr.2).take (h*ax t)).drop (l*ax t)
   have e2:((cC (flat t xs)).take (h*ax t)).drop (l*ax t)=cC (flat t ((xs.take h).drop l)):=by
    rw[hf];simp[cC,List.map_drop,List.map_take]
   rw[e2] at kl;have cN:=ir kl;refine .sl t _ _ fq _ _ hlen.symm TA (fun hx=>hb ?_) cN.1 (fun j u hu=>?_) cN.2
   ·rintro rfl;simp at hx
   ·rw[gl];exact((hc.take (h*ax t)).drop (l*ax t)) j u hu
  ·exact absurd a3 Tp
theorem DM{w:World}{av:Nat->Prop}{t:aG}{xs:List (den t)}{a:Addr}{cs:List Value}(hb:xs≠[]->¬av a.block)(hr:ch w av (flat t xs) cs)(hc:∀j u,cs[j]? =some u->w.cell? (a.add j)=some u)
  (l h cap:Nat) (h1:l<=h) (h2:h<=xs.length) (hcap:xs.length<=cap):
  bj w av (.sl t ((xs.take h).drop l)) (.slice (if cap=l then some a else(some a).map (·.add (l*ax t))) (h-l) (cap-l)):=by
 by_cases hx:xs=[]
 ·subst hx;have:h=0:=by simpa using h2
  subst this;have o':l=0:=by omega
  subst o';have:((if cap=0 then some a else(some a).map (·.add (0*ax t))):Option Addr)=some a:=by
   split
   ·rfl
   ·simp[Addr.add]
  rw[this];exact .sl t [] a (cap-0) [] 0 rfl (by omega) (fun hx=>absurd rfl hx) rfl (fun j u hu=>by simp at hu) (fun j h=>by simp[flat] at h)
 ·have lY:a.spot=none:=by
   have nP:0<cs.length:=by rw[hr.1,dR];exact Nat.mul_pos (List.length_pos_iff.mpr hx) (iS t)
   have h1:=hc 0 cs[0] (List.getElem?_eq_getElem nP);have h2:a.add 0=a:=by unfold Addr.add;simp
   rw[h2] at h1;unfold World.cell? at h1;split at h1
   ·cases M:a.spot with
    |none=>rfl
    |some _=>simp[M] at h1
   ·cases h1
  obtain⟨oi,Bv,akZ⟩:=a;simp only at lY;subst lY;have hcs:ho w oi Bv cs:=fun j v hv=>by have:=hc j v hv;rwa[gl] at this
  split
  ·rename_i e;exact Nh hb hr hcs l h h1 h2 _ _ (by omega) (.inr (by omega)) rfl
  ·simp only[Option.map_some,gl];exact Nh hb hr hcs l h h1 h2 _ _ (by omega) (.inl rfl) rfl
theorem KR{v:aL}{us jd:List (Nat×Site)}(e:aW st.sites us=aW st.sites jd)(h:cz P L J X st tm w D v us):cz P L J X st tm w D v jd:=by
 have:st.cu D.dst v jd=st.cu D.dst v us:=by cases D.dst<;>simp only[ad.cu,ad.tR,e]
 intro K Q bC;rw[this] at bC;exact h K Q bC
theorem _A(S:ah L J X B st tm w){C:Ctx}(az:CtxOk P C){T:TypeId}{x:Operand}{cG hi:Option Operand}(au:D.op=.slice T x cG hi none)(Y:b6 st D.dst=true):
  Holds (rF (C.tt T) st (aP C st T x) (cG.map (aP C st 0)) (hi.map (aP C st 0))) (cz P L J X st tm w D):=by
 have bo:=cV S C T x;have p4:∀{cG:Option Operand} {k5 l:Int},h7 k5 (cG.map (aP C st 0))=some l->(cG.map (Act.eval ⟨tm,[]⟩)=none/\l=k5)\/∃k,cG.map (Act.eval ⟨tm,[]⟩)=some (.int k l):=by
  intro cG k5 l h;rcases Me S h with⟨rfl,ab⟩|⟨x,k,rfl,ab⟩
  ·exact .inl ⟨rfl,ab⟩
  ·exact .inr ⟨k,by simp[ab]⟩
 have runs:∀{vv:Value},(Instr.sliceAt T (Act.eval ⟨tm,[]⟩ x) (cG.map (Act.eval ⟨tm,[]⟩)) (hi.map (Act.eval ⟨tm,[]⟩)) none).run P w=.ok vv w->(execOp (Act.eval ⟨tm,[]⟩) D).run P w=.ok (.value vv) w:=by
  intro vv h;unfold execOp;simp only[au,Option.map_none,Sem.run_bind,h,Result.andThen_ok,Sem.run_pure]
 have ux:∀{e:TypeId} {t:aG} {bytes:Nat} {a:Option Addr} {len cap:Nat} {l h:Int},C.tt T=.slice e t bytes->Act.eval ⟨tm,[]⟩ x=.slice a len cap->h7 0 (cG.map (aP C st 0))=some l->h7 len (hi.map (aP C st 0))=some h->
   0<=l->l<=h->h<=len->len<=cap->(execOp (Act.eval ⟨tm,[]⟩) D).run P w=.ok (.value (.slice (if cap=l.toNat then a else a.map (·.add (l.toNat*ax t))) (h.toNat-l.toNat) (cap-l.toNat))) w:=by
  intro e t bytes a len cap l h a0 hx fP iL h0 h1 h2 hc;obtain⟨dZ,inf,z,ka,gF,_⟩:=oq az a0;refine runs ?_
  have hb:=BS (P:=P) (w:=w) true len cap (cG.map (Act.eval ⟨tm,[]⟩)) (hi.map (Act.eval ⟨tm,[]⟩)) l h (p4 fP) (p4 iL) h0 h1 h2 hc;simp only[Instr.sliceAt,Instr.slice,Sem.run_bind,run_underlying dZ,Result.andThen_ok,hx,hb,sizeOf,kJ ka,gF,Sem.run_pure]
 unfold rF;split
 ·rename_i s bV;rw[bV] at bo;obtain⟨b,hx,M⟩:=hp bo;split
  ·rename_i l h a0 fP iL;have bL:=az.tt T;rw[a0] at bL;refine Holds.d' fun r hr=>?_
   have cN:dy s l h=some r:=hr;unfold dy at cN;split at cN
   ·rename_i hb;obtain⟨h0,h1,h2⟩:=hb;cases cN;have hsz:s.length=b.size:=by rw[<-M];rfl
    rw[hsz] at h2 iL;refine dx S Y (vv:=.string (b.extract l.toNat h.toNat)) (runs ?_) (.str _ _ ?_)
    ·have hb:=BS (P:=P) (w:=w) false b.size b.size (cG.map (Act.eval ⟨tm,[]⟩)) (hi.map (Act.eval ⟨tm,[]⟩)) l h (p4 fP) (p4 iL) h0 h1 h2 (Nat.le_refl _);simp[Instr.sliceAt,Instr.slice,run_underlying bL.1,hx,hb]
    ·rw[_t b _ _ (by omega),M]
   ·cases cN
  ·exact .fail
 ·rename_i t xs bV;rw[bV] at bo;have bo:bj w (an X B st.sites) (.sl t xs) (Act.eval ⟨tm,[]⟩ x):=bo;split
  ·rename_i e u bytes l h a0 fP iL;split;case isFalse=>exact .fail
   rename_i nZ;subst nZ;refine Holds.d' fun r hr=>?_
   have cN:dy xs l h=some r:=hr;unfold dy at cN;split at cN
   ·rename_i hb;obtain⟨h0,h1,h2⟩:=hb;cases cN;generalize hx:Act.eval ⟨tm,[]⟩ x=v at bo;cases bo with
    |nil=>
     have bQ:h=0:=by simp at h2;omega
     have hl:l=0:=by omega
     subst bQ hl;refine dx S Y (ux a0 hx fP iL h0 h1 h2 (Nat.le_refl _)) ?_
     simp only[List.take_nil,List.drop_nil];exact bj.nil t
    |sl _ _ a cap cs m hm hcap hb hl hc hr=>
     subst hm;refine dx S Y (ux a0 hx fP iL h0 h1 h2 hcap) ?_
     exact DM hb ⟨hl,hr⟩ hc l.toNat h.toNat cap (by omega) (by omega) hcap
   ·cases cN
  ·exact .fail
 ·rename_i t bV;rw[bV] at bo;have hx:Act.eval ⟨tm,[]⟩ x=.slice none 0 0:=bo;split
  ·rename_i e u bytes l h a0 fP iL;refine Holds.d' fun r hr=>?_
   have cN:dy ([]:List (den t)) l h=some r:=hr;unfold dy at cN;split at cN
   ·rename_i hb;obtain⟨h0,h1,h2⟩:=hb;cases cN;have bQ:h=0:=by simp at h2;omega
    have hl:l=0:=by omega
    subst bQ hl;refine dx S Y (ux a0 hx fP iL h0 h1 h2 (Nat.le_refl _)) ?_
    simp only[List.take_nil,List.drop_nil];exact bj.nil t
   ·cases cN
  ·exact .fail
 ·rename_i o s bV;rw[bV] at bo;split
  ·rename_i t xs cJ;split
   ·rename_i e u bytes l h a0 fP iL;split;case isFalse=>exact .fail
    rename_i nZ;subst nZ;refine Holds.e4 fun r hr=>?_
    have cN:dy xs l h=some r:=hr;unfold dy at cN;split at cN
    ·rename_i hb;obtain⟨h0,h1,h2⟩:=hb;cases cN;refine KR (us:=[(o,.cS s t xs)]) (L_ cJ).symm ?_
     have hD:dq st.sites [(o,.cS s t xs)]:=by
      intro F O hm;simp only[List.mem_singleton,Prod.mk.injEq] at hm;obtain⟨rfl,rfl⟩:=hm;exact⟨s,t,xs,rfl,(jw cJ).imp id .inl⟩
     have aR:kI L J X B st tm w [(o,.cS s t xs)]:=⟨S,hD⟩;have o9:=wE hD (List.mem_singleton.2 rfl);obtain⟨dH,OU⟩:=aR.new.sites o _ o9;have hv:Act.eval ⟨tm,[]⟩ x=bY (B o):=by
      rcases jw cJ with h1|h1<;>exact Ref.at bo.2 h1 rfl
     generalize hx:bY (B o)=v at dH OU;rw[hx] at hv;cases dH with
     |nil=>
      have bQ:h=0:=by simp at h2;omega
      have hl:l=0:=by omega
      subst bQ hl;refine io (us:=[(o,.cS s t [])]) aR.new Y (ux a0 hv fP iL h0 h1 h2 (Nat.le_refl _)) ?_
      simp only[List.take_nil,List.drop_nil];exact bj.nil t
     |sl _ _ a cap cs m hm hcap hb hl hc hr=>
      subst hm;refine io (us:=[(o,.cS s t xs)]) aR.new Y (ux a0 hv fP iL h0 h1 h2 hcap) ?_
      exact DM hb ⟨hl,hr⟩ hc l.toNat h.toNat cap (by omega) (by omega) hcap
    ·cases cN
   ·exact .fail
  ·exact .fail
 ·exact .fail
end
section
variable {P:Program}{L:World}{J:List Nat}{X:Nat->Prop}{B:Nat->Value}{st:ad}{tm:Array Value}{w:World}{D:Oper}
theorem abB{av:Nat->Prop}{o s:Nat}{t:aG}{xs:List (den t)}{v:Value}(h:b_ B st.sites w av (bP (.own o s)) v)(hr:rowOf st o s=some ⟨t,xs⟩):v=bY (B o):=by
 rcases jw hr with h1|h1<;>exact Ref.at h.2 h1 rfl
theorem MN(S:ah L J X B st tm w){l:aw}{v:Value}{t:aG}{es:List (al×den t)}(h:dk B st.sites w (an X B st.sites) l v)(hm:mapOf st l=some ⟨t,es⟩):
  (v=.map none/\es=[])\/∃b,v=.map (some b)/\lF w b t es:=by
 unfold mapOf at hm;split at hm
 ·cases hm;have h:bj w (an X B st.sites) (.map t es) v:=h;cases h with
  |sx=>exact .inl ⟨rfl,rfl⟩
  |map _ _ b hb hm=>exact .inr ⟨b,rfl,hm⟩
 ·rename_i o s;split at hm
  ·rename_i am u s6 hl;cases hb:am.beq s with
   |false=>rw[hb] at hm;cases hm
   |true=>
    rw[hb] at hm;have M:=Nat.eq_of_beq_eq_true hb;subst M;cases hm;have hl:look st.sites o=some (.map am _ es):=hl;have hv:v=bY (B o):=Ref.at h.2 hl rfl;obtain⟨b,h1,h2⟩:=S.sites o _ hl;exact .inr ⟨b,by rw[hv,h1];rfl,h2⟩
  ·cases hm
 ·cases hm
theorem lF.size{b:Nat}{t:aG}{es:List (al×den t)}{arr:Array MapEntry}(h:mz arr=jC t es):arr.size=es.length:=by
 have:=congrArg List.length h;simpa[mz,jC] using this
theorem acY(S:ah L J X B st tm w){C:Ctx}(az:CtxOk P C){T:TypeId}{x:Operand}(au:D.op=.call {callee:=.builtin .len,args:=#[x],argTypes:=#[T]})(Y:b6 st D.dst=true):
  Holds (sy (C.tt T) st (aP C st T x)) (cz P L J X st tm w D):=by
 have bo:=cV S C T x;have bL:=az.tt T;have run:∀{vv:Value},(Builtin.len_ #[T] D.type #[Act.eval ⟨tm,[]⟩ x]).run P w=.ok vv w->(execOp (Act.eval ⟨tm,[]⟩) D).run P w=.ok (.value vv) w:=by
  intro vv h;unfold execOp;simp only[au,resolve,invoke,builtin,Sem.run_bind,Sem.run_pure,Result.andThen_ok,List.map_toArray,List.map_cons,List.map_nil,h]
 unfold sy;split
 ·rename_i s a0 bV;rw[bV] at bo;rw[a0] at bL;obtain⟨b,hx,M⟩:=hp bo;refine Holds.ok (dx S Y (run (vv:=.int .i64 s.length) ?_) (.int _ _));have:s.length=b.size:=by rw[<-M];rfl
  simp[Builtin.len_,hx,run_underlying bL.1,goInt,this]
 ·rename_i e t b u xs a0 bV;rw[bV] at bo;rw[a0] at bL;have bo:bj w (an X B st.sites) (.sl u xs) (Act.eval ⟨tm,[]⟩ x):=bo;refine Holds.ok (dx S Y (run (vv:=.int .i64 xs.length) ?_) (.int _ _));generalize Act.eval ⟨tm,[]⟩ x=v at bo;cases bo with
  |nil=>simp[Builtin.len_,run_underlying bL.1.1,goInt]
  |sl _ _ a cap cs n hn hcap hb hl hc hr=>simp[Builtin.len_,run_underlying bL.1.1,goInt,hn]
 ·rename_i e t b u a0 bV;rw[bV] at bo;rw[a0] at bL;have hx:Act.eval ⟨tm,[]⟩ x=.slice none 0 0:=bo;exact Holds.ok (dx S Y (run (vv:=.int .i64 0) (by simp[Builtin.len_,hx,run_underlying bL.1.1,goInt])) (.int _ _))
 ·rename_i e t b o s a0 bV;rw[bV] at bo;rw[a0] at bL;split
  ·rename_i u xs cJ;obtain⟨⟨O,gd,jO⟩,hc⟩:=S.any cJ;have hv:Act.eval ⟨tm,[]⟩ x=bY (B o):=Ref.at bo.2 gd jO;refine Holds.ok (dx S Y (run (vv:=.int .i64 xs.length) ?_) (.int _ _));rcases hc with⟨h1,h2⟩|⟨a',c,h1⟩
   ·subst h2;simp[Builtin.len_,hv,h1,run_underlying bL.1.1,goInt]
   ·simp[Builtin.len_,hv,h1,run_underlying bL.1.1,goInt]
  ·exact .fail
 ·rename_i g' kC u l a0 bV;rw[bV] at bo;rw[a0] at bL;split
  ·rename_i bF es hm;refine Holds.ok (dx S Y (run (vv:=.int .i64 es.length) ?_) (.int _ _));rcases MN S bo hm with⟨h1,rfl⟩|⟨b,h1,arr,c,h2,aa⟩
   ·simp[Builtin.len_,h1,run_underlying bL.1.1,goInt]
   ·have hsz:=lF.size (b:=b) aa;simp[Builtin.len_,h1,run_underlying bL.1.1,goInt,MapKept.run_getObj_map h2,hsz,Result.andThen]
  ·exact .fail
 ·exact .fail
theorem aah(S:ah L J X B st tm w){C:Ctx}(az:CtxOk P C){T:TypeId}{x i:Operand}{s:al}{k:IntKind}{n:Int}(au:D.op=.index T x i)(Y:b6 st D.dst=true)(a0:C.tt T=.str)
  (hx:aP C st T x=.av (.ai (.d (.str s)))) (hi:aP C st 0 i=.av (.ai (.d (.int k n)))):Holds (.d' (bl s n) fun b=>one (.int .u8 b.toNat)) (cz P L J X st tm w D):=by
 have bL:=az.tt T;rw[a0] at bL;obtain⟨b,hb,M⟩:=ac9 S hx;have hn:=jA S hi;refine Holds.d' fun y ak=>?_
 have dN:bl s n=some y:=ak;unfold bl at dN;split at dN
 ·rename_i h0;refine dx S Y (vv:=.int .u8 y.toNat) ?_ (.int _ _);have oX:b[n.toNat]? =some y:=by
   have:n.toNat<s.length:=by
    rcases Nat.lt_or_ge n.toNat s.length with h|h
    ·exact h
    ·rw[List.getElem?_eq_none h] at dN;cases dN
   rw[<-M] at dN this;have hsz:n.toNat<b.size:=this;rw[getElem?_pos b n.toNat hsz];rw[List.getElem?_eq_getElem this] at dN;have aa:b.data[n.toNat]=y:=by simpa using dN
   rw[<-aa];rfl
  unfold execOp;simp[au,hb,hn,Instr.index,asIntOf,run_underlying bL.1,h0,oX]
 ·cases dN
theorem bytes_beq(x y:ByteArray):(x==y)=(x.data.toList==y.data.toList):=by
 obtain⟨a⟩:=x;obtain⟨b⟩:=y;have h:((⟨a⟩:ByteArray)==⟨b⟩)=(a==b):=rfl;rw[h,Bool.eq_iff_iff];simp
theorem aal:∀{z U:List aw} {vs:List Value},p_ z U=true->ck B st.sites w (an X B st.sites) U vs->o4 z vs=true:=by
 intro z;induction z with
 |nil=>
  intro U vs h h1;cases U with
  |nil=>rw[h1.kR];rfl
  |cons l U=>cases h
 |cons c z ih=>
  intro U vs h h1;unfold p_ at h;split at h
  ·rename_i hz;cases hz
  ·rename_i bV;cases bV;obtain⟨v,cq,rfl,a1,a2⟩:=h1.inv;rw[hq a1];exact ih h a2
  ·rename_i bV;cases bV;obtain⟨v,cq,rfl,a1,a2⟩:=h1.inv;rw[iT a1];exact ih h a2
  ·rename_i bV;cases bV;obtain⟨v,cq,rfl,a1,a2⟩:=h1.inv;obtain⟨x,rfl,hx⟩:=hp a1;exact ih h a2
  ·cases h
theorem Xj:∀{U ik:List aw} {vs us:List Value} {b:Bool},ug U ik=some b->ck B st.sites w (an X B st.sites) U vs->ck B st.sites w (an X B st.sites) ik us->iQ vs us=some b:=by
 have leaf:∀{d e:aM} {v u:Value} {b:Bool} {av:Nat->Prop},y7 d e=some b->bj w av d v->bj w av e u->nA v u=some b:=by
  intro d e v u b av h h1 h2;unfold y7 at h;split at h
  ·rw[hq h1,hq h2];exact h
  ·rw[iT h1,iT h2];exact h
  ·obtain⟨x,rfl,hx⟩:=hp h1;obtain⟨y,rfl,ak⟩:=hp h2;subst hx ak;cases h;show some (x==y)=some (x.data.toList==y.data.toList);rw[bytes_beq]
  ·cases h
 intro U;induction U with
 |nil=>intro ik vs us b h _ _;cases ik<;>simp[ug] at h
 |cons l U ih=>
  intro ik vs us b h h1 h2;obtain⟨v,cq,rfl,a1,a2⟩:=h1.inv;unfold ug at h;split at h
  ·rename_i d e bV;cases bV;obtain⟨u,jd,rfl,aT,aJ⟩:=h2.inv;rw[a2.kR,aJ.kR];exact leaf h a1 aT
  ·rename_i d ds e es hne bV;cases bV;obtain⟨u,jd,rfl,aT,aJ⟩:=h2.inv;split at h
   ·rename_i x y hx ak;cases h;have e1:=leaf hx a1 aT;have e2:=ih ak a2 aJ;match cq,jd,e2 with
    |[],[],e2=>simp[iQ] at e2
    |[],_::_,e2=>simp[iQ] at e2
    |_::_,[],e2=>simp[iQ] at e2
    |v2::aov,u2::aox,e2=>rw[iQ,e1,e2];simp
   ·cases h
  ·cases h
theorem run_equal_bool{T:TypeId}(h:P.underlying T=some .bool)(a b:Bool):(Op.equal T (.bool a) (.bool b)).run P w=.ok (a==b) w:=by
 have e:Op.maxDepth=9999+1:=rfl;unfold Op.equal;rw[e];unfold Op.equalIn;simp only[Sem.run_bind,run_underlying h,Result.andThen_ok,Sem.run_pure]
theorem run_eql_bool{T:TypeId}(h:P.underlying T=some .bool)(a b:Bool):(binOp .eql T (.bool a) (.bool b)).run P w=.ok (.bool (a==b)) w:=by
 show((do pure (.bool (<-Op.equal T (.bool a) (.bool b)))):Sem Value).run P w=_
 simp only[Sem.run_bind,run_equal_bool h,Result.andThen_ok,Sem.run_pure]
theorem run_neq_bool{T:TypeId}(h:P.underlying T=some .bool)(a b:Bool):(binOp .neq T (.bool a) (.bool b)).run P w=.ok (.bool (!(a==b))) w:=by
 show((do pure (.bool (!(<-Op.equal T (.bool a) (.bool b))))):Sem Value).run P w=_
 simp only[Sem.run_bind,run_equal_bool h,Result.andThen_ok,Sem.run_pure]
theorem ab4(S:ah L J X B st tm w){C:Ctx}(az:CtxOk P C){op:BinOp}{T m8:TypeId}{x y:Operand}(au:D.op=.binOp op T x y m8)(Y:b6 st D.dst=true):
  Holds (GF op (C.tt T) (aP C st T x) (aP C st T y)) (cz P L J X st tm w D):=by
 have hx:=cV S C T x;have ak:=cV S C T y;have bL:=az.tt T;have run:∀{vv:Value},(eqGuard op T x y (Act.eval ⟨tm,[]⟩ x) (Act.eval ⟨tm,[]⟩ y)).run P w=.ok () w->(binOp op T (Act.eval ⟨tm,[]⟩ x) (Act.eval ⟨tm,[]⟩ y)).run P w=.ok vv w->
   (execOp (Act.eval ⟨tm,[]⟩) D).run P w=.ok (.value vv) w:=by
  intro vv h1 h2;unfold execOp;simp only[au,Sem.run_bind,h1,h2,Result.andThen_ok,Sem.run_pure]
 have plain:∀{r:c8},(eqGuard op T x y (Act.eval ⟨tm,[]⟩ x) (Act.eval ⟨tm,[]⟩ y)).run P w=.ok () w->Holds r (Plain P w (binOp op T (Act.eval ⟨tm,[]⟩ x) (Act.eval ⟨tm,[]⟩ y)))->Holds r (cz P L J X st tm w D):=by
  intro r h1 h2 z hz hc;obtain⟨vv,d,g1,g2,g3,eH⟩:=h2 z hz hc;rw[g2,g3];exact dx S Y (run h1 g1) (eH _)
 unfold GF;split
 ·rename_i k a k' b kf mT;rw[kf] at hx;rw[mT] at ak;refine plain (by rw[hq hx,hq ak];exact Vs _ _ _ _ _ _ _ _) ?_
  rw[hq hx,hq ak];unfold NC;split
  ·refine Holds.d' fun n hn=>?_
   have e':FQ k a b=some n:=hn;unfold FQ at e';split at e'
   ·cases e'
   ·rename_i hb;cases e';exact .mk (by simp[binOp,Op.shift,hb]) fun av=>.int _ _
  ·refine Holds.d' fun n hn=>?_
   have e':nK k a b=some n:=hn;unfold nK at e';split at e'
   ·cases e'
   ·rename_i hb;cases e';exact .mk (by simp[binOp,Op.shift,hb]) fun av=>.int _ _
  ·rename_i h1 h2;split
   ·rename_i ag;subst ag;exact Y' _ T k a b h1 h2
   ·exact .fail
 ·rename_i s t kf mT;rw[kf] at hx;rw[mT] at ak;obtain⟨a,a3,M⟩:=hp hx;obtain⟨b,hb,aE⟩:=hp ak;subst M aE;refine plain (by rw[a3,hb];exact Vl _ _ _ _ _ _) ?_
  rw[a3,hb];exact Y9 op T a b
 ·rename_i a b kf mT;rw[kf] at hx;rw[mT] at ak;unfold NY;split
  ·rename_i a0;rw[a0] at bL;split
   ·refine plain (by rw[iT hx,iT ak];exact Jh _ _ _ _ _ _) (Holds.ok ?_)
    rw[iT hx,iT ak];exact .mk (run_eql_bool bL.1 _ _) fun av=>.bool _
   ·refine plain (by rw[iT hx,iT ak];exact Jh _ _ _ _ _ _) (Holds.ok ?_)
    rw[iT hx,iT ak];exact .mk (run_neq_bool bL.1 _ _) fun av=>.bool _
   ·exact .fail
  ·exact .fail
 ·rename_i xs ys kf mT;rw[kf] at hx;rw[mT] at ak;unfold OZ;split
  ·rename_i bM n z a0;rw[a0] at bL;cases hl:xs.length.beq n&&p_ z xs with
   |false=>exact .fail
   |true=>
    simp only[cond_true];simp only[Bool.and_eq_true] at hl;have fy:=Nat.eq_of_beq_eq_true hl.1;split
    ·rename_i b hb;obtain⟨vs,hv,jg,jM⟩:=hx;obtain⟨us,hu,sR,vB⟩:=ak;have A0:=Xj hb ⟨jg,jM⟩ ⟨sR,vB⟩;obtain⟨fields,dZ,_,⟨fm,hz,_,_⟩,bV⟩:=bL;obtain⟨hg,Gl⟩:=bV rfl;have:=Gl vs us b w A0 (aal hl.2 ⟨jg,jM⟩);split
     ·refine plain ?_ (Holds.ok ?_)
      ·rw[hv,hu];simp[eqGuard,hg]
      ·rw[hv,hu];refine .mk (vv:=.bool b) ?_ fun av=>.bool _
       show((do pure (.bool (<-Op.equal T (.agg vs.toArray) (.agg us.toArray)))):Sem Value).run P w=_
       simp only[Sem.run_bind,this,Result.andThen_ok,Sem.run_pure]
     ·refine plain ?_ (Holds.ok ?_)
      ·rw[hv,hu];simp[eqGuard,hg]
      ·rw[hv,hu];refine .mk (vv:=.bool (!b)) ?_ fun av=>.bool _
       show((do pure (.bool (!(<-Op.equal T (.agg vs.toArray) (.agg us.toArray))))):Sem Value).run P w=_
       simp only[Sem.run_bind,this,Result.andThen_ok,Sem.run_pure]
     ·exact .fail
    ·exact .fail
  ·exact .fail
 ·exact .fail
theorem Wb{T:TypeId}{ik:Array (String×TypeId)}(aE:P.underlying T=some (.interface ik))(fC:TypeId)(c5:Option Int)(v:Value)(hv:v=match c5 with|none=>.nilIface|some n=>.iface fC (.agg #[.int .i64 n])):
  (Op.equal T v .nilIface).run P w=.ok c5.isNone w:=by
 have h:∀d:Nat,(Op.equalIn (d+1) T v .nilIface).run P w=.ok c5.isNone w:=fun d=>by
  subst hv;cases c5<;>simp[Op.equalIn,run_underlying aE]
 exact h 9999
theorem ZR(S:ah L J X B st tm w){C:Ctx}(az:CtxOk P C){op:BinOp}{T m8:TypeId}{x y:Operand}(au:D.op=.binOp op T x y m8)(Y:b6 st D.dst=true)(hn:y9 y=true):
  Holds (Fa op (C.tt T) (aP C st T x)) (cz P L J X st tm w D):=by
 have ak:y=.const .nilIface:=by
  unfold y9 at hn;split at hn
  ·rfl
  ·cases hn
 subst ak;have hx:=cV S C T x;have bL:=az.tt T;have key:∀(fC:TypeId) (c5:Option Int),(Act.eval ⟨tm,[]⟩ x=match c5 with|none=>.nilIface|some n=>.iface fC (.agg #[.int .i64 n]))->Holds (zQ op (C.tt T) c5) (cz P L J X st tm w D):=by
  intro fC c5 hv;unfold zQ;split
  ·rename_i a0;rw[a0] at bL;obtain⟨ik,bL⟩:=bL;have he:=Wb (P:=P) (w:=w) bL.1 fC c5 _ hv;have hg:(eqGuard op T x (.const .nilIface) (Act.eval ⟨tm,[]⟩ x) .nilIface).run P w=.ok () w:=by
    rw[hv];cases c5<;>cases op<;>simp[eqGuard]
   split
   ·refine Holds.ok (dx S Y (vv:=.bool c5.isNone) ?_ (.bool _));unfold execOp;simp only[au,Act.eval,Sem.run_bind,Result.andThen_ok,Sem.run_pure] at hg ⊢;rw[hg];simp only[Result.andThen_ok];have:(binOp .eql T (Act.eval ⟨tm,[]⟩ x) .nilIface).run P w=.ok (.bool c5.isNone) w:=by
     have e:binOp .eql T (Act.eval ⟨tm,[]⟩ x) .nilIface=(do pure (.bool (<-Op.equal T (Act.eval ⟨tm,[]⟩ x) .nilIface))):=by rw[hv];cases c5<;>rfl
     rw[e];simp only[Sem.run_bind,he,Result.andThen_ok,Sem.run_pure]
    simp only[Act.eval] at this;rw[this];rfl
   ·refine Holds.ok (dx S Y (vv:=.bool c5.isSome) ?_ (.bool _));unfold execOp;simp only[au,Act.eval,Sem.run_bind,Result.andThen_ok,Sem.run_pure] at hg ⊢;rw[hg];simp only[Result.andThen_ok];have:(binOp .neq T (Act.eval ⟨tm,[]⟩ x) .nilIface).run P w=.ok (.bool c5.isSome) w:=by
     have e:binOp .neq T (Act.eval ⟨tm,[]⟩ x) .nilIface=(do pure (.bool (!(<-Op.equal T (Act.eval ⟨tm,[]⟩ x) .nilIface)))):=by rw[hv];cases c5<;>rfl
     rw[e];simp only[Sem.run_bind,he,Result.andThen_ok,Sem.run_pure];cases c5<;>rfl
    simp only[Act.eval] at this;rw[this];rfl
   ·exact .fail
  ·exact .fail
 unfold Fa;split
 ·rename_i fC c5 kf;rw[kf] at hx;have hx:bj w (an X B st.sites) (.err fC c5) (Act.eval ⟨tm,[]⟩ x):=hx;exact key fC c5 (by revert hx;generalize Act.eval ⟨tm,[]⟩ x=vv;intro hx;cases hx<;>rfl)
 ·rename_i kf;rw[kf] at hx;exact key 0 none hx
 ·exact .fail
theorem Vp(S:ah L J X B st tm w){C:Ctx}(az:CtxOk P C){T:TypeId}{x:Operand}{n:Int}{bM z q e}(au:D.op=.makeInterface T x)(Y:b6 st D.dst=true)(a0:C.tt T=.struct bM q z e)
  (hx:aP C st T x=.av (.agg [.d (.int .i64 n)])):cz P L J X st tm w D (one (.err T (some n))) []:=by
 have bL:=az.tt T;rw[a0] at bL;obtain⟨fields,hu,_⟩:=bL;have bo:=cV S C T x;rw[hx] at bo;obtain⟨vs,h1,h2,aa⟩:=bo;match vs,h2,h1,aa with
 |[v],_,h1,aa=>
  have hv:=hq (aa 0 (by simp) (by simp))
  simp only[List.getElem_cons_zero] at hv;subst hv;refine dx S Y (vv:=.iface T (.agg #[.int .i64 n])) ?_ (.err _ _);unfold execOp;simp[au,Instr.makeInterface,run_underlying hu,h1]
end
section
variable {P:Program}{L:World}{J:List Nat}{X:Nat->Prop}{B:Nat->Value}{st:ad}{tm:Array Value}{w:World}{D:Oper}
theorem rr(xs:List Int):flat .u8 xs=xs.map (aM.int .u8):=by
 unfold flat;induction xs with
 |nil=>rfl
 |cons x xs ih=>simp only[List.flatMap_cons,List.map_cons,ih];rfl
theorem Ng{w:World}{av:Nat->Prop}{xs:List Int}{cs:List Value}(h:ch w av (flat .u8 xs) cs):cs=xs.map (Value.int .u8):=by
 obtain⟨h1,h2⟩:=h;rw[rr] at h1;apply List.ext_getElem
 ·rw[h1];simp
 ·intro j g1 g2;have g3:j<xs.length:=by simpa using g2
  have:=h2 j (by rw[rr];simpa using g3) g1
  have e:(flat .u8 xs)[j]'(by rw[rr];simpa using g3)=aM.int .u8 xs[j]:=by simp[rr]
  rw[e] at this;rw[hq this];simp
theorem Jz{src dst e:TypeId}{a:Addr}{len cap:Nat}{xs:List Int}(M:P.underlying src=some (.slice e))(he:P.underlying e=some (.int .u8))(Y:P.underlying dst=some .string)
  (hlen:xs.length=len) (hc:∀j u,(xs.map (Value.int .u8))[j]? =some u->w.cell? (a.add j)=some u):
  ∃b:ByteArray,(convert src dst (.slice (some a) len cap)).run P w=.ok (.string b) w/\b.data.toList=strOf xs:=by
 have hl:(loadCells a len).run P w=.ok (xs.map (Value.int .u8)).toArray w:=by
  have:=run_loadCells_list (P:=P) w a (xs.map (Value.int .u8)) hc;simpa[hlen] using this
 rw[run_convert_bytes_string w src dst e _ len cap M he Y,run_bytesToString w a len cap xs hl,foldl_push_bytes];exact⟨_,rfl,by simp[strOf]⟩
theorem wN{ti:cf}(h:isByte ti=true):ti=.int .u8:=by
 unfold isByte at h;split at h
 ·rfl
 ·cases h
theorem ZX(s:al):(bytesOf s).length=s.length:=by simp[bytesOf]
theorem aax(S:ah L J X B st tm w){C:Ctx}(az:CtxOk P C){src dst:TypeId}{x:Operand}{o:Nat}(au:D.op=.convert src dst x)(db:D.dst=some o)(Y:b6 st D.dst=true):
  Holds (si C src dst o st (aP C st src x)) (cz P L J X st tm w D):=by
 have bo:=cV S C src x;have M:=az.tt src;have aE:=az.tt dst;have run:∀{vv:Value} {w':World},(convert src dst (Act.eval ⟨tm,[]⟩ x)).run P w=.ok vv w'->(execOp (Act.eval ⟨tm,[]⟩) D).run P w=.ok (.value vv) w':=by
  intro vv w' h;unfold execOp;simp only[au,Sem.run_bind,h,Result.andThen_ok,Sem.run_pure]
 have qb:∀{ti:cf},ti.ok P src->ti≠.none->∃d,P.underlying src=some d:=by
  intro ti h hn;cases ti with
  |none=>exact absurd rfl hn
  |int k=>exact⟨_,h.1⟩
  |bool=>exact⟨_,h.1⟩
  |str=>exact⟨_,h.1⟩
  |ptr=>obtain⟨_,h⟩:=h;exact⟨_,h.1⟩
  |func=>obtain⟨_,_,_,h⟩:=h;exact⟨_,h.1⟩
  |iface=>obtain⟨_,h⟩:=h;exact⟨_,h.1⟩
  |slice e t b=>exact⟨_,h.1.1⟩
  |map k e t=>exact⟨_,h.1.1⟩
  |struct bM n z eq=>obtain⟨f,h,_⟩:=h;exact⟨_,h⟩
  |arr e t n=>exact⟨_,h.1⟩
 unfold si;split
 ·exact .fail
 ·rename_i k k' n ag hx hn;rw[hx] at bo;rw[ag] at aE;obtain⟨d,l7⟩:=qb M (by rintro h;exact absurd h (by simpa using hn))
  refine Holds.ok (dx S Y (run (vv:=.int k (k.wrap n)) ?_) (.int _ _));rw[hq bo];simp[convert,run_underlying l7,run_underlying aE.1,Conv.intToInt]
 ·rename_i s ag hx hn;rw[hx] at bo;rw[ag] at aE;obtain⟨b,hb,dh⟩:=hp bo;obtain⟨d,l7⟩:=qb M (by rintro h;exact absurd h (by simpa using hn))
  refine Holds.ok (dx S Y (run (vv:=.string b) ?_) (.str _ _ dh));rw[hb];simp[convert,run_underlying l7,run_underlying aE.1]
 ·rename_i e b xs hsrc pV hx;cases l8:isByte (C.tt e) with
  |false=>exact .fail
  |true=>
   rw[hx] at bo;rw[pV] at aE;rw[hsrc] at M;have he:=az.tt e;rw[wN l8] at he;have bo:bj w (an X B st.sites) (.sl .u8 xs) (Act.eval ⟨tm,[]⟩ x):=bo;have:∃b:ByteArray,(convert src dst (Act.eval ⟨tm,[]⟩ x)).run P w=.ok (.string b) w/\b.data.toList=strOf xs:=by
    generalize Act.eval ⟨tm,[]⟩ x=v at bo;cases bo with
    |nil=>exact⟨_,run_convert_bytes_nil w src e M.1.1 he.1 _ _ dst aE.1,rfl⟩
    |sl _ _ a cap cs n hn hcap hb hl hc hr=>
     have:=Ng (xs:=xs) ⟨hl,hr⟩;subst this;exact Jz M.1.1 he.1 aE.1 hn.symm hc
   obtain⟨b,h1,h2⟩:=this;exact Holds.ok (dx S Y (run h1) (.str _ _ h2))
 ·rename_i e b u hsrc pV hx;cases l8:isByte (C.tt e) with
  |false=>exact .fail
  |true=>
   rw[hx] at bo;rw[pV] at aE;rw[hsrc] at M;have he:=az.tt e;rw[wN l8] at he;have bo:Act.eval ⟨tm,[]⟩ x=.slice none 0 0:=bo;refine Holds.ok (dx S Y (run (vv:=.string ByteArray.empty) ?_) (.str _ _ rfl));rw[bo];exact run_convert_bytes_nil w src e M.1.1 he.1 _ _ dst aE.1
 ·rename_i e b F s hsrc pV hx;split
  ·rename_i xs cJ;cases l8:isByte (C.tt e) with
   |false=>exact .fail
   |true=>
    rw[hx] at bo;rw[pV] at aE;rw[hsrc] at M;have he:=az.tt e;rw[wN l8] at he;have hv:=abB bo cJ;have:∃b:ByteArray,(convert src dst (Act.eval ⟨tm,[]⟩ x)).run P w=.ok (.string b) w/\b.data.toList=strOf xs:=by
     rw[hv];obtain⟨cs,h1,hc⟩:=S.row cJ;rcases hc with⟨h2,aa⟩|⟨a',c,h2,aa,aH⟩
     ·subst aa;rw[h2];exact⟨_,run_convert_bytes_nil w src e M.1.1 he.1 _ _ dst aE.1,rfl⟩
     ·have:=Ng (xs:=xs) (ir h1);subst this;rw[h2];exact Jz M.1.1 he.1 aE.1 rfl (fun j u hu=>by rw[gl];exact aa j u hu)
    obtain⟨b,h1,h2⟩:=this;exact Holds.ok (dx S Y (run h1) (.str _ _ h2))
  ·exact .fail
 ·rename_i e b s hsrc pV hx;cases l8:isByte (C.tt e) with
  |false=>exact .fail
  |true=>
   rw[hx] at bo;rw[pV] at aE;rw[hsrc] at M;have he:=az.tt e;rw[wN l8] at he;obtain⟨gw,hb,dh⟩:=hp bo;have cI:(convert src dst (Act.eval ⟨tm,[]⟩ x)).run P w=.ok (.slice (some ⟨w.heap.size,0,none⟩) gw.size (grownCap w gw.size 0 e)) (Go.Lib.bytesWorld w e gw):=by
    rw[hb];exact Go.Lib.run_convert_string_bytes w src dst e gw M.1 aE.1.1 he.1
   have hcap:gw.size<=grownCap w gw.size 0 e:=grownCap_ge w gw.size 0 e;refine Holds.e4 fun r hr=>?_
   have uW:gw.size<=maxLen:=by
    have hr:(if s.length<=maxLen then some () else none)=some r:=hr
    split at hr
    ·rename_i h;rw[<-dh] at h;simpa using h
    ·cases hr
   have hsz:(Go.Lib.bytesCells w e gw).size=grownCap w gw.size 0 e:=by
    simp only[Go.Lib.bytesCells,Array.size_append,Array.size_map,Array.size_replicate];have:gw.data.size=gw.size:=rfl;omega
   have hlen:gw.size=(bytesOf s).length:=by rw[ZX,<-dh];rfl
   have gS:ah L J X (fun F=>if F=o then .slice (some ⟨w.heap.size,0,none⟩) gw.size (grownCap w gw.size 0 e) else B F) {st with sites:=b8 st.sites o (.row (aZ st o) .u8 (bytesOf s))} tm (Go.Lib.bytesWorld w e gw):=by
    refine S.make (fun b hb=>Go.Lib.bytesWorld_at_old w e gw b hb) rfl rfl rfl (by rw[Go.Lib.bytesWorld_size];omega) (fun O M=>jv M)
     (fun b hb=>by have hb:=List.mem_singleton.1 hb;subst hb;exact⟨Nat.le_refl _,by rw[Go.Lib.bytesWorld_size];exact Nat.lt_succ_self _⟩) ?_
    intro bp aB eT dK go anO anW;refine⟨e,gw.data.toList.map fun b=>Value.int .u8 b.toNat,⟨?_,.inr ⟨_,_,Go.Lib.bytesCells w e gw,_,dK.trans (by rw[hlen]),⟨(fun h=>by obtain⟨_,z,_,_,ez⟩:=aE;exact ez h),.inr ⟨rfl,Nat.le_refl _⟩⟩,Go.Lib.bytesWorld_at_new w e gw,by rw[<-hlen];exact hcap,grownCap_le_maxLen w gw.size 0 e uW,?_,?_⟩⟩,fun j g1 g2=>?_⟩
    ·rw[List.length_map,<-hlen];exact(Nat.mul_one _).symm
    ·rw[hsz];exact(Nat.mul_one _).symm
    ·have h1:(bytesOf s).length*ax .u8=(gw.data.toList.map fun b=>Value.int .u8 b.toNat).length:=by rw[List.length_map,<-hlen];exact Nat.mul_one _
     rw[h1];simp only[Go.Lib.bytesCells,Array.toList_append,Array.toList_map];exact List.take_left
    ·subst dh;simp only[rr,bytesOf,List.getElem_map];exact .int _ _
   refine io (us:=[(o,.row (aZ st o) .u8 (bytesOf s))]) gS Y (run cI) ?_
   refine⟨rfl,Ref.mk (O:=.row (aZ st o) .u8 (bytesOf s)) ?_ rfl (by simp[bY])⟩
   simp only[aW,cn];simp
 ·exact .fail
end
section
variable {P:Program}{L:World}{J:List Nat}{X:Nat->Prop}{B:Nat->Value}{st:ad}{tm:Array Value}{w:World}{D:Oper}
theorem ML(S:ah L J X B st tm w){C:Ctx}{x:Operand}(au:D.op=.move x\/D.op=.assign x)(Y:b6 st D.dst=true)(T:TypeId):cz P L J X st tm w D (aP C st T x) []:=by
 refine dx S Y (vv:=Act.eval ⟨tm,[]⟩ x) ?_ (cV S C T x);unfold execOp;rcases au with h|h<;>simp only[h,Sem.run_pure]
theorem MD(S:ah L J X B st tm w){C:Ctx}{c a b:Operand}{t:Bool}{T:TypeId}(au:D.op=.pick c a b)(Y:b6 st D.dst=true)(hc:aP C st T c=.av (.ai (.d (.bool t)))):
  cz P L J X st tm w D (aP C st T (if t then a else b)) []:=by
 refine dx S Y (vv:=Act.eval ⟨tm,[]⟩ (if t then a else b)) ?_ (cV S C T _)
 unfold execOp;have:=Em S hc;cases t<;>simp[au,this,asBool]
theorem WL(S:ah L J X B st tm w){C:Ctx}{x:Operand}{t:Bool}{T ed:TypeId}(au:D.op=.unOp .not ed x)(Y:b6 st D.dst=true)(hc:aP C st T x=.av (.ai (.d (.bool t)))):
  cz P L J X st tm w D (one (.bool (!t))) []:=by
 refine dx S Y (vv:=.bool (!t)) ?_ (.bool _);unfold execOp;simp[au,Em S hc,Op.unary]
theorem WM(S:ah L J X B st tm w){C:Ctx}{x:Operand}{k:IntKind}{n:Int}{T ed:TypeId}(au:D.op=.unOp .neg ed x)(Y:b6 st D.dst=true)(hc:aP C st T x=.av (.ai (.d (.int k n)))):
  cz P L J X st tm w D (one (.int k (k.wrap (0-n)))) []:=by
 refine dx S Y (vv:=.int k (k.wrap (0-n))) ?_ (.int _ _);unfold execOp;simp[au,jA S hc,Op.unary,Op.intArith]
theorem BM(S:ah L J X B st tm w){C:Ctx}{x:Operand}{v:aL}{T:TypeId}(au:D.op=.nilCheck x)(Y:b6 st D.dst=true)(hc:aP C st T x=v)
  (hv:∀vv,b_ B st.sites w (an X B st.sites) v vv->∃a,vv=.pointer (some a)):cz P L J X st tm w D v []:=by
 have:=cV S C T x;rw[hc] at this;obtain⟨a,a3⟩:=hv _ this;refine dx S Y (vv:=Act.eval ⟨tm,[]⟩ x) ?_ this;unfold execOp;simp[au,a3]
theorem X_(S:ah L J X B st tm w){C:Ctx}{x:Operand}{i:Nat}{as:List bA}{a:bA}{T:TypeId}(au:D.op=.extract x i)(Y:b6 st D.dst=true)(hc:aP C st T x=.je as)(a3:as[i]? =some a):
  cz P L J X st tm w D (.av a) []:=by
 have bo:=cV S C T x;rw[hc] at bo;obtain⟨vs,h1,h2,aa⟩:=bo;obtain⟨hi,aj9⟩:=List.getElem?_eq_some_iff.1 a3;have hV:i<vs.length:=by omega
 refine dx S Y (vv:=vs[i]) ?_ (by rw[<-aj9];exact aa i hi hV)
 unfold execOp;simp[au,h1,Instr.extract,hV]
theorem K5(S:ah L J X B st tm w){C:Ctx}{x y:Operand}{k k':IntKind}{a b:Int}{T:TypeId}{sb:Bool}{cK:Array TypeId}(au:D.op=.call {callee:=.builtin (if sb then .max else .min),args:=#[x,y],argTypes:=cK})(Y:b6 st D.dst=true)
  (hx:aP C st T x=.av (.ai (.d (.int k a)))) (ak:aP C st T y=.av (.ai (.d (.int k' b)))):cz P L J X st tm w D (one (.int k (if sb then gE a b else z4 a b))) []:=by
 refine dx S Y (vv:=.int k (if sb then gE a b else z4 a b)) ?_ (.int _ _)
 unfold execOp;cases sb<;>simp[au,resolve,invoke,builtin,jA S hx,jA S ak,Builtin.max_,Builtin.min_,Builtin.max2,Builtin.min2,gE,z4]
theorem abG(S:ah L J X B st tm w){C:Ctx}{x y z u v:Operand}{k aC ao bv ca:IntKind}{a b c d e:Int}{T:TypeId}{cK:Array TypeId}(au:D.op=.call {callee:=.builtin .max,args:=#[x,y,z,u,v],argTypes:=cK})(Y:b6 st D.dst=true)
  (hx:aP C st T x=.av (.ai (.d (.int k a)))) (ak:aP C st T y=.av (.ai (.d (.int aC b)))) (hz:aP C st T z=.av (.ai (.d (.int ao c)))) (hu:aP C st T u=.av (.ai (.d (.int bv d)))) (hv:aP C st T v=.av (.ai (.d (.int ca e)))):
  cz P L J X st tm w D (one (.int k (gE (gE (gE (gE a b) c) d) e))) []:=by
 refine dx S Y (vv:=.int k (gE (gE (gE (gE a b) c) d) e)) ?_ (.int _ _);unfold execOp;simp[au,resolve,invoke,builtin,jA S hx,jA S ak,jA S hz,jA S hu,jA S hv,Builtin.max_,Builtin.max2,gE]
theorem aay(S:ah L J X B st tm w){C:Ctx}:∀{xs:List Operand} {bE:List (Nat×Nat)},step.nI C st xs=some bE->xs.length=bE.length/\
  ∀i (h:i<bE.length) (ab:i<xs.length),Ref st.sites (bE[i]).1 (bE[i]).2 (Act.eval ⟨tm,[]⟩ (xs[i])=bY (B (bE[i]).1)):=by
 intro xs;induction xs with
 |nil=>intro bE h;simp only[step.nI] at h;cases h;exact⟨rfl,fun i h=>by simp at h⟩
 |cons x xs ih=>
  intro bE h;simp only[step.nI] at h;split at h
  ·rename_i o s l hx hl;cases h;obtain⟨h1,h2⟩:=ih hl;refine⟨by simp[h1],fun i g1 g2=>?_⟩
   cases i with
   |zero=>
    have:=cV S C 0 x;rw[hx] at this;obtain⟨b,hb,O,r1,r2,g9⟩:=this;exact⟨O,r1,r2,fun e=>by simp only[List.getElem_cons_zero];rw[g9 e];exact hb⟩
   |succ i=>simpa using h2 i (by simpa using g1) (by simpa using g2)
  ·cases h
theorem W6(S:ah L J X B st tm w){C:Ctx}{g:FuncId}{first captured:Array Operand}{bE:List (Nat×Nat)}(au:D.op=.makeFunc (.func g) first captured)(Y:b6 st D.dst=true)(hf:first.toList.isEmpty=true)
  (hc:step.nI C st captured.toList=some bE):cz P L J X st tm w D (bP (.clo g bE)) []:=by
 obtain⟨h1,h2⟩:=aay S hc;refine dx S Y (vv:=.func (.func g) #[] (captured.toList.map (Act.eval ⟨tm,[]⟩)).toArray) ?_ ⟨captured.toList.map (Act.eval ⟨tm,[]⟩),rfl,by simpa using h1,fun i g1 g2=>?_⟩
 ·have:first=#[]:=by simpa using hf
  unfold execOp;simp only[au,Instr.makeFunc,Sem.run_bind,Sem.run_pure,Result.andThen_ok,this];simp;apply Array.ext';simp
 ·have:=h2 i g1 (by simpa using g2)
  simpa using this
theorem Lm(S:ah L J X B st tm w){C:Ctx}{bM:List (Nat×Nat)}:∀(parts:List (Nat×Operand)) (z:List aw) (cells:Array Value),ck B st.sites w (an X B st.sites) z cells.toList->
  Holds (step.mB C st bM z parts) (fun v us=>us=[]/\∃iU,Instr.fill (bM.toArray[·]?) cells (parts.map fun p=>(p.1,Act.eval ⟨tm,[]⟩ p.2))=some iU/\b_ B st.sites w (an X B st.sites) v (.agg iU)):=by
 intro parts;induction parts with
 |nil=>intro z cells h;exact Holds.ok ⟨rfl,cells,rfl,cells.toList,by simp,h.1,h.2⟩
 |cons p parts ih=>
  obtain⟨i,x⟩:=p;intro z cells h;simp only[step.mB];split
  ·rename_i off n a hf a3;cases hb:(a.cells.length.beq n&&gj a.cells&&Nat.ble (off+n) z.length) with
   |false=>exact .fail
   |true=>
    simp only[cond_true];simp only[Bool.and_eq_true] at hb;obtain⟨⟨aT,aJ⟩,bR⟩:=hb;have aT:=Nat.eq_of_beq_eq_true aT;have bR:=Nat.le_of_ble_eq_true bR;have bo:=cV S C 0 x;rw[px a3] at bo;have my:=f_.cells (bo:f_ B st.sites w _ a _) aJ;have hsz:(Act.eval ⟨tm,[]⟩ x).cells.size=n:=by rw[<-aT,<-my.1];simp
    have c4:off+(Act.eval ⟨tm,[]⟩ x).cells.size<=cells.size:=by
     have:=h.1;simp at this;omega
    have:=ih (Jk.a_ z off a.cells) (Jk.a_ cells.toList off (Act.eval ⟨tm,[]⟩ x).cells.toList).toArray (by simpa using ck.a_ off h my)
    intro y ak hc;obtain⟨g1,iU,g2,g3⟩:=this y ak hc;refine⟨g1,iU,?_,g3⟩;simp only[List.map_cons,Instr.fill];have HY:bM.toArray[i]? =some (off,n):=by simpa using hf
    simp only[HY];have c1:¬((Act.eval ⟨tm,[]⟩ x).cells.size≠n\/off+(Act.eval ⟨tm,[]⟩ x).cells.size>cells.size):=by omega
    have c2:(decide ((Act.eval ⟨tm,[]⟩ x).cells.size≠n)||decide (off+(Act.eval ⟨tm,[]⟩ x).cells.size>cells.size))=false:=by
     simp;omega
    have iC:off+n<=cells.size:=by omega
    rw[JZ _ _ _ c4];simp only[Bool.decide_or,hsz] at*;simpa[c2,iC] using g2
  ·exact .fail
theorem aaA(S:ah L J X B st tm w){C:Ctx}(az:CtxOk P C){T:TypeId}{parts:Array (Nat×Operand)}{bM:List (Nat×Nat)}{n:Nat}{z:List aw}{eq:Bool}(a0:C.tt T=.struct bM n z eq)(au:D.op=.build T parts)
  (Y:b6 st D.dst=true):Holds (step.mB C st bM z parts.toList) (cz P L J X st tm w D):=by
 have bL:=az.tt T;rw[a0] at bL;obtain⟨fields,dZ,⟨hf,_⟩,⟨fm,hz,hzz,hzl⟩,_⟩:=bL;obtain⟨aC,ao,bv⟩:=qV hzz;intro y ak hc;obtain⟨g1,iU,g2,g3⟩:=Lm S parts.toList z fm ⟨aC,fun j h ab=>bv _ _ _ _ j h ab⟩ y ak hc
 rw[g1];refine dx S Y (vv:=.agg iU) ?_ g3;cases hi:P.info? T with
 |none=>simp[hi] at hz
 |some UY=>
  simp only[hi,Option.map_some,Option.some.injEq,Prod.mk.injEq] at hz;have hb:P.built T (parts.toList.map fun p=>(p.1,Act.eval ⟨tm,[]⟩ p.2))=some iU:=by
   unfold Program.built;simp only[hi,dZ,hz.2,hf];exact g2
  have b9:P.built T (parts.map fun p=>(p.1,Act.eval ⟨tm,[]⟩ p.2)).toList=some iU:=by simpa using hb
  unfold execOp;simp only[au,Sem.run_bind,run_build w T _ iU b9,Result.andThen_ok,Sem.run_pure]
end
def mu(w:World)(b:Nat)(D:Obj):World:={w with heap:=w.heap.setIfInBounds b D}
theorem Mt{b:ByteArray}{l:al}(h:b.data.toList=l):Value.string b=gD l:=by
 subst h;rfl
def kX{aD:Type}:List (al×aD)->al->Nat->Option (Nat×aD)
 |[],_,_=>none
 |(k,v)::r,n,i=>bif k==n then some (i,v) else kX r n (i+1)
theorem ZC{aD:Type}(n:al):∀(es:List (al×aD)) (i:Nat),(kX es n i).map (·.2)=j3 es n:=by
 intro es;induction es with
 |nil=>intro i;rfl
 |cons p es ih=>
  intro i;simp only[kX,j3];cases p.1==n with
  |true=>rfl
  |false=>exact ih (i+1)
theorem W5{aD:Type}(n:al)(v:aD):∀(es:List (al×aD)) (i:Nat),kX es n i=none->oH es n v=es++[(n,v)]:=by
 intro es;induction es with
 |nil=>intro i _;rfl
 |cons p es ih=>
  intro i h;simp only[kX] at h;simp only[oH];cases aj:(p.1==n) with
  |true=>rw[aj] at h;cases h
  |false=>rw[aj] at h;simp only[cond_false,ih (i+1) h,List.cons_append]
theorem X0{aD:Type}(n:al)(v:aD):∀(es:List (al×aD)) (i j:Nat) (v0:aD),kX es n i=some (j,v0)->i<=j/\(∃p,es[j-i]? =some p/\p.1=n)/\oH es n v=es.modify (j-i) fun p=>(p.1,v):=by
 intro es;induction es with
 |nil=>intro i j v0 h;cases h
 |cons p es ih=>
  intro i j v0 h;simp only[kX] at h;simp only[oH];cases aj:(p.1==n) with
  |true=>
   rw[aj] at h;cases h;refine⟨Nat.le_refl _,⟨p,by simp,eq_of_beq aj⟩,?_⟩
   simp
  |false=>
   rw[aj] at h;obtain⟨h1,⟨q,h2,aa⟩,aH⟩:=ih (i+1) j v0 h;have e:j-i=(j-(i+1))+1:=by omega
   refine⟨by omega,⟨q,by rw[e];simpa using h2,aa⟩,?_⟩
   rw[e,cond_false,aH,List.modify_succ_cons]
theorem J1{t:aG}(n:al):∀(es:List (al×den t)) (ik:List MapEntry) (i:Nat),ik.map (fun e=>(e.key,e.val))=jC t es->
  Instr.findNow .string (gD n) ik i=some ((kX es n i).map fun p=>(p.1,nb t p.2))
 |[],ik,i,h=>by
  have:ik=[]:=by simpa[jC] using h
  subst this;rfl
 |(k,v)::es,[],i,h=>by simp[jC] at h
 |(k,v)::es,m::ik,i,h=>by
  simp only[jC,List.map_cons,List.cons.injEq,Prod.mk.injEq] at h;obtain⟨⟨h1,h2⟩,aa⟩:=h;have ih:=J1 n es ik (i+1) aa;have M:Instr.sameNow .string (gD n) m.key=some (k==n):=by
   rw[h1];show some ((⟨n.toArray⟩:ByteArray)==⟨k.toArray⟩)=_;rw[bytes_beq];congr 1
   rw[Bool.eq_iff_iff];simp only[beq_iff_eq];exact eq_comm
  unfold Instr.findNow kX;rw[M];cases k==n with
  |true=>simp only[cond_true,Option.map_some,h2]
  |false=>simp only[cond_false];exact ih
section
variable {P:Program}{w:World}{g' kC T:TypeId}{t:aG}
theorem XG{g':TypeId}(ag:P.underlying g'=some .string)(c:Bool)(s:al)(n:Nat):(Instr.checkKey c (n+1) g' (gD s)).run P w=.ok () w:=by
 simp[Instr.checkKey,run_underlying ag,gD,Result.andThen]
theorem tA{g':TypeId}(ag:P.underlying g'=some .string)(c:Bool)(s:al):(Instr.checkKey c 10000 g' (gD s)).run P w=.ok () w:=XG ag c s 9999
theorem xo{g':TypeId}(ag:P.underlying g'=some .string){es:List (al×den t)}{arr:Array MapEntry}(h:mz arr=jC t es)(n:al):
  (Instr.findKey g' (gD n) arr.toList).run P w=.ok ((kX es n 0).map fun p=>(p.1,nb t p.2)) w:=by
 simp[Instr.findKey,run_underlying ag,J1 n es arr.toList 0 h,Result.andThen]
theorem Y_(s:al):(Instr.keyThatStays (gD s) (gD s)).run P w=.ok (gD s) w:=by
 have:Instr.sameBits 10000 (gD s) (gD s)=true:=by
  show((⟨s.toArray⟩:ByteArray)==⟨s.toArray⟩)=true;rw[bytes_beq];simp
 simp[Instr.keyThatStays,this]
theorem adX{t:aG}{d:aM}{x:den t}{v:Value}{av:Nat->Prop}(h:FO t d=some x)(hr:bj w av d v):v=nb t x:=by
 unfold FO at h;split at h
 ·cases h;cases hr;rfl
 ·cases h;cases hr;rfl
 ·cases h
theorem XE(a0:P.underlying T=some (.map g' kC))(ag:P.underlying g'=some .string){b:Nat}{arr:Array MapEntry}{clock:Nat}{es:List (al×den t)}(hb:w.heap[b]? =some (.map arr clock))(he:mz arr=jC t es)(n:al)(x:den t):
  ∃o6 oJ,(Instr.mapUpdate T (.map (some b)) (gD n) (nb t x)).run P w=.ok () (mu w b (.map o6 oJ))/\mz o6=jC t (oH es n x):=by
 cases hm:kX es n 0 with
 |none=>
  refine⟨arr.push ⟨gD n,nb t x,clock⟩,clock+1,?_,?_⟩
  ·have hf:=xo (w:=w) ag he n;rw[hm] at hf;simp[Instr.mapUpdate,run_underlying a0,MapKept.run_getObj_map hb,tA ag,hf,MapKept.run_setObj_map _ hb,Result.andThen,mu]
  ·rw[W5 n x es 0 hm];unfold mz jC at he ⊢;simp[he]
 |some p=>
  obtain⟨j,v0⟩:=p;obtain⟨_,⟨q,h2,aa⟩,aH⟩:=X0 n x es 0 j v0 hm;rw[Nat.sub_zero] at h2 aH;have hlen:arr.size=es.length:=lF.size (b:=b) he;have hj:j<arr.size:=by rw[hlen];exact(List.getElem?_eq_some_iff.1 h2).1
  have agm:((arr[j]?).map (·.key)).getD (gD n)=gD n:=by
   have bD:=congrArg (fun l=>l[j]?) he
   simp only[mz,jC,List.getElem?_map,h2,Option.map_some,Array.getElem?_toList] at bD;cases a3:arr[j]? with
   |none=>rfl
   |some e=>
    rw[a3] at bD;simp only[Option.map_some,Option.some.injEq,Prod.mk.injEq] at bD;simp[bD.1,aa]
  refine⟨arr.modify j fun e=>{e with key:=gD n,val:=nb t x},clock,?_,?_⟩
  ·have hf:=xo (w:=w) ag he n;rw[hm] at hf;simp[Instr.mapUpdate,run_underlying a0,MapKept.run_getObj_map hb,tA ag,hf,MapKept.run_setObj_map _ hb,Result.andThen,mu,agm,Y_]
  ·rw[aH];unfold mz jC at he ⊢;apply List.ext_getElem?;intro i;have bD:=congrArg (fun l=>l[i]?) he
   simp only[List.getElem?_map,Array.getElem?_toList] at bD;simp only[List.getElem?_map,Array.getElem?_toList,Array.getElem?_modify,List.getElem?_modify];by_cases hij:j=i
   ·subst hij;simp only[if_true,h2,Option.map_some,<-aa];cases a3:arr[j]? with
    |none=>rw[a3,h2] at bD;cases bD
    |some e=>rfl
   ·simp only[hij,if_false];cases a3:arr[i]? <;>cases b9:es[i]? <;>rw[a3,b9] at bD<;>simp_all
end
section
variable {P:Program}{L:World}{J:List Nat}{X:Nat->Prop}{B:Nat->Value}{st:ad}{tm:Array Value}{w:World}{D:Oper}
theorem BU(w:World)(b a':Nat)(D:Obj)(h:a'≠b):(mu w b D).heap[a']? =w.heap[a']? :=by
 simp only[mu,Array.getElem?_setIfInBounds];rw[if_neg (fun e=>h e.symm)]
theorem Vt(w:World)(b:Nat)(D c5:Obj)(h:w.heap[b]? =some c5):(mu w b D).heap[b]? =some D:=by
 have:=(Array.getElem?_eq_some_iff.1 h).1;simp[mu,Array.getElem?_setIfInBounds,this]
theorem ah.acQ(S:ah L J X B st tm w){o s b:Nat}{t:aG}{es s6:List (al×den t)}{D:Obj}{o6:Array MapEntry}{oJ:Nat}(hl:look st.sites o=some (.map s t es))(bW:B o=.map (some b))(hg:w.heap[b]? =some D)
  (he:mz o6=jC t s6):ah L J X B {st with sites:=b8 st.sites o (.map s t s6)} tm (mu w b (.map o6 oJ)):=by
 have vY:b∈bI (B o):=fW (by rw[bW];rfl)
 have cr:bX st.sites o:=⟨_,hl,rfl⟩;have lL:∀F,bX (b8 st.sites o (.map s t s6)) F <-> bX st.sites F:=Kp hl rfl;have b1:∀a',an X B (b8 st.sites o (.map s t s6)) a' <-> an X B st.sites a':=by
  intro a';unfold an;simp only[lL]
 have hne:∀a',¬an X B st.sites a'->a'≠b:=by
  rintro a' h rfl;exact h (.inr ⟨o,cr,vY⟩)
 have hsz:(mu w b (.map o6 oJ)).heap.size=w.heap.size:=by simp[mu]
 refine S.oS (fun F am bB=>?_) (fun a' h _=>BU w b a' _ (hne a' h)) (fun a' h _=>by rw[b1];exact h) (fun go F am bB=>?_) (fun F aO a' h1 h2=>S.df F aO a' ((lL F).1 h1) ((lL aO).1 h2))
  (fun F a' h=>S.b7 F a' ((lL F).1 h)) (fun F a' h hb=>by rw[hsz];exact S.dX ((lL F).1 h) hb) ?_ (by rw[hsz];exact Nat.le_refl _)
 ·rw[cn];by_cases e:o=F
  ·subst e;rw[hl] at bB;cases bB;exact⟨.map s t s6,by simp,Nat.le_refl _,fun _=>rfl⟩
  ·exact⟨am,by simp[e,bB],Nat.le_refl _,fun _=>rfl⟩
 ·rw[cn] at bB;by_cases e:o=F
  ·subst e;simp only[if_true,Option.some.injEq] at bB;subst bB;exact .inr ⟨b,bW,o6,oJ,Vt w b _ _ hg,he⟩
  ·simp only[e,if_false] at bB;refine .inl ⟨bB,rfl,fun sB a' b9=>BU w b a' _ ?_⟩
   rintro rfl;exact e (S.df o F _ cr ⟨am,bB,sB⟩ vY b9)
 ·have aR:=S.frame;refine⟨aR.os,aR.tape,aR.output,by rw[hsz];exact aR.size,fun a' h1 h2=>?_⟩
  rw[BU w b a' _ ?_]
  ·exact aR.block a' h1 h2
  ·rintro rfl;rcases(S.b7 o _ cr vY).2 with h|h
   ·exact h2 h
   ·omega
theorem ah.makeMap(S:ah L J X B st tm w){o:Nat}{t:aG}:
  ah L J X (fun F=>if F=o then .map (some w.heap.size) else B F) {st with sites:=b8 st.sites o (.map (aZ st o) t [])} tm (w.alloc (.map #[] 0)):=
 S.make (fun b hb=>RowKit.Below.heap_alloc w _ b hb) rfl rfl rfl (by simp) (fun O M=>jv M) (fun b hb=>by have hb:=List.mem_singleton.1 hb;subst hb;exact⟨Nat.le_refl _,by simp⟩)
  (fun M bW go _ _=>⟨w.heap.size,bW,#[],0,heap_alloc_new w _,rfl⟩)
end
end Go.Jk
