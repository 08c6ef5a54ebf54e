/- Needers is the inverse of Closure: of drawn packs, and a name, who needs it has it in its closure, nobody else does, and the two Needers agree. (part 1 of 6: JnCore, JnGlob, JnState, JnExec, JnFoot, JnCode, JnTurn, JnOps1, JnOps2, JnOps3, JnOps4, JnOps5, JnOps6, JnOps7, JnOps8, JnOps9, JnOps10, JnOpsD, JnOps11, JnOps12, JnOps13) Conditions: none beyond the statement. -/
import Derived.Calls
import Derived.Below
import Derived.WalkKit
import Derived.Laws.AppendOwn
import Derived.Great.BuildSlice
import Derived.IntWalk
import Derived.Laws.Tables
import Derived.MapKept
set_option linter.unusedSimpArgs false
set_option linter.unusedVariables false
namespace Go.Jk
abbrev E:=List UInt8
structure bu where
 path:E
 kind:Int
 mode:Int
 text:E
structure dq where
 name:E
 kind:Int
 cK:E
structure a6 where
 name:E
 cK:E
 b_:List dq
 ei:List bu
structure afh where
 name:E
 text:E
structure SZ where
 name:E
 text:E
structure Source where
 name:E
 sum:E
structure Piece where
 name:E
 fY:E
structure aaR where
 name:E
 cK:E
 lets:List SZ
 builds:List dq
 runs:List dq
 sources:List Source
 pieces:List Piece
 steps:List E
structure aeV where
 at_:Int
 lines:List E
inductive aG where
 |i64|u8|u32|bool|str|entry|need|pack|file|lt|source|piece|recipe|hunk|sh|strs
 deriving DecidableEq
@[reducible] def den:aG->Type
 |.i64|.u8|.u32=>Int
 |.bool=>Bool
 |.str=>E
 |.entry=>bu
 |.need=>dq
 |.pack=>a6
 |.file=>afh
 |.lt=>SZ
 |.source=>Source
 |.piece=>Piece
 |.recipe=>aaR
 |.hunk=>aeV
 |.sh=>List Bool
 |.strs=>List E
inductive aR:Type where
 |int (k:IntKind) (n:Int)
 |bool (b:Bool)
 |str (s:E)
 |sl (t:aG) (xs:List (den t))
 |fn (g:FuncId) (bG:List (List aR))
 |map (t:aG) (es:List (E×den t))
 |err (T:Nat) (D:Option Int)
def enc:(t:aG)->den t->List aR
 |.i64,n=>[.int .i64 n]
 |.u8,n=>[.int .u8 n]
 |.u32,n=>[.int .u32 n]
 |.bool,b=>[.bool b]
 |.str,s=>[.str s]
 |.entry,e=>[.str e.path,.int .i64 e.kind,.int .i64 e.mode,.str e.text]
 |.need,n=>[.str n.name,.int .i64 n.kind,.str n.cK]
 |.pack,p=>[.str p.name,.str p.cK,.sl .need p.b_,.sl .entry p.ei]
 |.file,f=>[.str f.name,.str f.text]
 |.lt,f=>[.str f.name,.str f.text]
 |.source,f=>[.str f.name,.str f.sum]
 |.piece,f=>[.str f.name,.str f.fY]
 |.recipe,r=>[.str r.name,.str r.cK,.sl .lt r.lets,.sl .need r.builds,.sl .need r.runs,.sl .source r.sources,.sl .piece r.pieces,.sl .str r.steps]
 |.hunk,h=>[.int .i64 h.at_,.sl .str h.lines]
 |.sh,b=>[.sl .bool b]
 |.strs,b=>[.sl .str b]
def ax:aG->Nat
 |.i64|.u8|.u32|.bool|.str|.sh|.strs=>1
 |.entry=>4
 |.need=>3
 |.pack=>4
 |.file|.lt|.source|.piece|.hunk=>2
 |.recipe=>8
def dec:(t:aG)->List aR->Option (den t)
 |.i64,[.int .i64 n]=>some n
 |.u8,[.int .u8 n]=>some n
 |.u32,[.int .u32 n]=>some n
 |.bool,[.bool b]=>some b
 |.str,[.str s]=>some s
 |.entry,[.str a,.int .i64 k,.int .i64 m,.str b]=>some ⟨a,k,m,b⟩
 |.need,[.str a,.int .i64 k,.str b]=>some ⟨a,k,b⟩
 |.pack,[.str a,.str b,.sl .need ao,.sl .entry es]=>some ⟨a,b,ao,es⟩
 |.file,[.str a,.str b]=>some ⟨a,b⟩
 |.lt,[.str a,.str b]=>some ⟨a,b⟩
 |.source,[.str a,.str b]=>some ⟨a,b⟩
 |.piece,[.str a,.str b]=>some ⟨a,b⟩
 |.recipe,[.str a,.str b,.sl .lt U,.sl .need bs,.sl .need kZ,.sl .source aS,.sl .piece ps,.sl .str dj]=>some ⟨a,b,U,bs,kZ,aS,ps,dj⟩
 |.hunk,[.int .i64 n,.sl .str U]=>some ⟨n,U⟩
 |.sh,[.sl .bool b]=>some b
 |.strs,[.sl .str b]=>some b
 |_,_=>none
theorem fy:∀(t:aG) (x:den t),(enc t x).length=ax t:=by
 intro t x;cases t<;>rfl
theorem jh(t:aG):0<ax t:=by cases t<;>decide
theorem nM:∀(t:aG) (ds:List aR) (x:den t),dec t ds=some x->enc t x=ds:=by
 intro t ds x h;unfold dec at h;split at h<;>first|(cases h;rfl)|cases h
def flat(t:aG)(xs:List (den t)):List aR:=xs.flatMap (enc t)
theorem dM(t:aG)(xs:List (den t)):(flat t xs).length=xs.length*ax t:=by
 unfold flat;induction xs with
 |nil=>simp
 |cons x xs ih=>simp[List.flatMap_cons,fy,ih,Nat.add_mul,Nat.add_comm]
theorem nA(t:aG)(xs ys:List (den t)):flat t (xs++ys)=flat t xs++flat t ys:=by
 simp[flat,List.flatMap_append]
theorem flat_get(t:aG)(xs:List (den t))(i j:Nat)(x:den t)(hx:xs[i]? =some x)(bv:j<ax t):
  (flat t xs)[i*ax t+j]? =(enc t x)[j]? :=by
 induction xs generalizing i with
 |nil=>simp at hx
 |cons y ys ih=>
  cases i with
  |zero=>
   simp only[List.getElem?_cons_zero,Option.some.injEq] at hx;subst hx;simp only[Nat.zero_mul,Nat.zero_add,flat,List.flatMap_cons];rw[List.getElem?_append_left (by rw[fy];exact bv)]
  |succ i=>
   simp only[List.getElem?_cons_succ] at hx;have:=ih i hx;simp only[flat,List.flatMap_cons] at this ⊢;rw[List.getElem?_append_right (by rw[fy,Nat.add_mul];omega),fy]
   rw[<-this];congr 1
   rw[Nat.add_mul];omega
theorem YS(t:aG)(xs:List (den t))(i:Nat)(x:den t):
  flat t (xs.set i x)=(flat t xs).take (i*ax t)++(if i<xs.length then enc t x else [])++(flat t xs).drop ((i+1)*ax t):=by
 induction xs generalizing i with
 |nil=>simp[flat]
 |cons y ys ih=>
  cases i with
  |zero=>
   simp only[List.set_cons_zero,flat,List.flatMap_cons,Nat.zero_mul,List.take_zero,List.nil_append,List.length_cons,Nat.zero_lt_succ,if_true,Nat.zero_add,Nat.one_mul];rw[List.drop_append_of_le_length (by rw[fy];omega)]
   rw[show List.drop (ax t) (enc t y)=[] from List.drop_eq_nil_of_le (by rw[fy];exact Nat.le_refl _)]
   rfl
  |succ i=>
   have h:=ih i;simp only[flat] at h;simp only[List.set_cons_succ,flat,List.flatMap_cons,List.length_cons];rw[h];have e1:List.take ((i+1)*ax t) (enc t y++ys.flatMap (enc t))=enc t y++(ys.flatMap (enc t)).take (i*ax t):=by
    rw[List.take_append,List.take_of_length_le (by rw[fy,Nat.add_mul];omega),fy]
    congr 2
    rw[Nat.add_mul];omega
   have e2:List.drop ((i+1+1)*ax t) (enc t y++ys.flatMap (enc t))=(ys.flatMap (enc t)).drop ((i+1)*ax t):=by
    rw[List.drop_append,List.drop_eq_nil_of_le (by rw[fy,Nat.add_mul,Nat.add_mul];omega),fy,List.nil_append]
    congr 1
    rw[Nat.add_mul (i+1) 1];omega
   rw[e1,e2];simp only[Nat.add_lt_add_iff_right,List.append_assoc]
def qJ:TypeId:=999999
def lH:TypeId:=5
def oo:List Nat:=[]
def pv(w:World):Prop:=True
theorem ab9{w w':World}(h:∀b,b∈oo->w'.heap[b]? =w.heap[b]?)(k:pv w):pv w':=trivial
theorem ahp{w:World}(k:pv w)(b:Nat)(h:b∈oo):b<w.heap.size:=by
 unfold oo at h;cases h
inductive ay:Type where
 |d (v:aR)
 |nil (t:aG) -- m9 nil slice
 |own (o s:Nat) -- m9 whole of a row of oY own
 |ptr (o s off:Nat) -- a pointer ajL a box of oY own
 |e8 (cells:List aR) (off:Nat) -- a pointer GO cells qe Gx only read
 |eI (o s:Nat) (t:aG) (k off:Nat) -- a pointer GO ajl k of a row of oY own,vi cell 'o9
 |clo (g:FuncId) (bG:List (Nat×Nat)) -- a closure over boxes of oY own
 |cL (v:Value) -- ajJ this value
 |fresh (t:aG) (xs:List (den t)) -- a row qe ajr else holds (_K caller and callee alone)
 |iq (t:aG) (xs:List (den t)) -- m9 same,with m9 rows in vi elements
 |eN -- in a acd first cell:nil,or m9 acd own address (strings.ajn)
 |any
inductive bF:Type where
 |aq (l:ay)
 |agg (U:List ay)
inductive aL:Type where
 |av (a:bF)
 |ju (as:List bF)
inductive Site:Type where
 |box (s:Nat) (cells:List ay)
 |row (s:Nat) (t:aG) (xs:List (den t))
 |c' (s:Nat) (t:aG) (xs:List (den t))
 |map (s:Nat) (t:aG) (es:List (E×den t))
 |deep (s:Nat) (t:aG) (xs:List (den t)) -- a row of oY own with m9 rows in vi elements
 |ey (s:Nat) (es:List (E×Option (List E))) -- a map of oY own,with vi rows;none:a row qe g_ taken out
 |tail (s:Nat) (t:aG) (xs:List (den t)) -- a row of oY own qe need not begin where vi block ajR
 |dead (s:Nat)
def Site.b2:Site->Nat
 |.box s _|.row s _ _|.c' s _ _|.map s _ _|.deep s _ _|.ey s _|.tail s _ _|.dead s=>s
def Site.live:Site->Bool
 |.box _ _|.row _ _ _|.map _ _ _|.deep _ _ _|.ey _ _|.tail _ _ _=>true
 |_=>false
def look{aJ:Type}:List (Nat×aJ)->Nat->Option aJ
 |[],_=>none
 |(k,v)::r,n=>bif k.beq n then some v else look r n
def cd{aJ:Type}:List (Nat×aJ)->Nat->aJ->List (Nat×aJ)
 |[],n,v=>[(n,v)]
 |(k,w)::r,n,v=>bif k.beq n then(k,v)::r else(k,w)::cd r n v
theorem mf{a b:Nat}(h:¬a=b):a.beq b=false:=by
 cases e:a.beq b
 ·rfl
 ·exact absurd (Nat.eq_of_beq_eq_true e) h
theorem cr{aJ:Type}(l:List (Nat×aJ))(n m:Nat)(v:aJ):look (cd l n v) m=if n=m then some v else look l m:=by
 induction l with
 |nil=>
  simp only[cd,look];by_cases h:n=m
  ·subst h;simp
  ·have:n.beq m=false:=mf h;simp[this,h]
 |cons p l ih=>
  obtain⟨k,w⟩:=p;simp only[cd];by_cases h:k=n
  ·subst h;simp only[Nat.beq_refl,cond_true,look];by_cases hm:k=m
   ·subst hm;simp
   ·have:k.beq m=false:=mf hm;simp[this,hm]
  ·have hb:k.beq n=false:=mf h;simp only[hb,cond_false,look];by_cases hm:k=m
   ·subst hm;have:¬n=k:=fun e=>h e.symm
    simp[this]
   ·have:k.beq m=false:=mf hm;simp[this,ih]
structure ae where
 c4:List (Nat×aL)
 sites:List (Nat×Site)
 bl:Nat
def ae.get(st:ae)(t:Nat):aL:=match look st.c4 t with|some v=>v|none=>.av (.aq .any)
def ae.O(st:ae)(o:Nat):Option Site:=look st.sites o
def ae.set(st:ae)(t:Nat)(v:aL):ae:={st with c4:=cd st.c4 t v}
def ae.df(st:ae)(o:Nat)(s:Site):ae:={st with sites:=cd st.sites o s}
@[simp] theorem ae.Dm(st:ae)(t u:Nat)(v:aL):(st.set t v).get u=if t=u then v else st.get u:=by
 unfold ae.set ae.get;rw[cr];by_cases h:t=u<;>simp[h]
@[simp] theorem ae.X0(st:ae)(t o:Nat)(v:aL):(st.set t v).O o=st.O o:=rfl
@[simp] theorem ae.aaq(st:ae)(t:Nat)(v:aL):(st.set t v).bl=st.bl:=rfl
@[simp] theorem ae.UF(st:ae)(o u:Nat)(s:Site):(st.df o s).get u=st.get u:=rfl
@[simp] theorem ae.k6(st:ae)(o F:Nat)(s:Site):(st.df o s).O F=if o=F then some s else st.O F:=by
 unfold ae.df ae.O;simp only[cr]
@[simp] theorem ae.Vn(st:ae)(o:Nat)(s:Site):(st.df o s).bl=st.bl:=rfl
def nt:(t:aG)->den t->Value
 |.i64,n=>.int .i64 n
 |.bool,b=>.bool b
 |_,_=>undef
def eo(l:E):Value:=.string ⟨l.toArray⟩
def ir(arr:Array MapEntry):List (Value×Value):=arr.toList.map fun e=>(e.key,e.val)
def iT(ps:List (E×Value)):List (Value×Value):=ps.map fun p=>(eo p.1,p.2)
def nR(t:aG)(es:List (E×den t)):List (Value×Value):=es.map fun p=>(eo p.1,nt t p.2)
def l6(w:World)(b:Nat)(t:aG)(es:List (E×den t)):Prop:=∃arr clock,w.heap[b]? =some (.map arr clock)/\ir arr=nR t es
theorem l6.of{w w':World}{b:Nat}{t:aG}{es:List (E×den t)}(h:w'.heap[b]? =w.heap[b]?)(m:l6 w b t es):l6 w' b t es:=by
 obtain⟨arr,c,h1,h2⟩:=m;exact⟨arr,c,h.trans h1,h2⟩
theorem l6.lt{w:World}{b:Nat}{t:aG}{es:List (E×den t)}(m:l6 w b t es):b<w.heap.size:=by
 obtain⟨arr,c,h1,h2⟩:=m;rcases Nat.lt_or_ge b w.heap.size with h|h
 ·exact h
 ·rw[Array.getElem?_eq_none h] at h1;cases h1
inductive Rd(w:World)(av:Nat->Prop):aR->Value->Prop where
 |int (k:IntKind) (n:Int):Rd w av (.int k n) (.int k n)
 |bool (b:Bool):Rd w av (.bool b) (.bool b)
 |str (l:E) (s:ByteArray) (h:s.data.toList=l):Rd w av (.str l) (.string s)
 |nil (t:aG):Rd w av (.sl t []) (.slice none 0 0)
 |sl (t:aG) (xs:List (den t)) (a:Addr) (cap:Nat) (cs:List Value) (n:Nat) (hn:n=xs.length) (hcap:n<=cap) (hb:xs≠[]->¬av a.block)
   (hl:cs.length=(flat t xs).length)
   (hc:∀j u,cs[j]? =some u->w.cell? (a.add j)=some u)
   (hr:∀j (h:j<(flat t xs).length) (af:j<cs.length),Rd w av ((flat t xs)[j]) (cs[j])):Rd w av (.sl t xs) (.slice (some a) n cap)
 |fn (g:FuncId) (bG:List (List aR)) (bs:List Nat) (je:Nat->List Value) (pD:Array Value) (Ax:pD=(bs.map fun b=>Value.pointer (some ⟨b,0,none⟩)).toArray) (gY:bs.length=bG.length)
   (hb:∀b,b∈bs->¬av b) (bb:∀b,b∈bs->b<w.heap.size)
   (hl:∀i (h:i<bG.length),(je i).length=(bG[i]).length)
   (hc:∀i (h:i<bs.length) j u,(je i)[j]? =some u->w.cell? ⟨bs[i],j,none⟩=some u)
   (hr:∀i (h:i<bG.length) j (h1:j<(bG[i]).length) (h2:j<(je i).length),Rd w av ((bG[i])[j]) ((je i)[j])):
   Rd w av (.fn g bG) (.func (.func g) #[] pD)
 |qi (t:aG):Rd w av (.map t []) (.map none)
 |map (t:aG) (es:List (E×den t)) (b:Nat) (aC:t≠.strs) (hb:¬av b) (hm:l6 w b t es):Rd w av (.map t es) (.map (some b))
 |maps (es:List (E×List E)) (b:Nat) (arr:Array MapEntry) (clock:Nat) (ps:List (E×Value)) (hb:¬av b) (hm:w.heap[b]? =some (.map arr clock)) (ak:ir arr=iT ps) (hn:ps.map (·.1)=es.map (·.1))
   (hl:ps.length=es.length) (hr:∀i (h:i<es.length) (af:i<ps.length),Rd w av (.sl .str (es[i]).2) (ps[i]).2):Rd w av (.map .strs es) (.map (some b))
 |ql (T:TypeId):Rd w av (.err T none) .nilIface
 |err (T:TypeId) (n:Int):Rd w av (.err T (some n)) (.iface T (.agg #[.int .i64 n]))
theorem Rd.iJ{w:World}{av:Nat->Prop}{d:aR}{v:Value}(r:Rd w av d v):v.oneCell'=true:=by
 cases r<;>rfl
def u'(v:Value):Prop:=v=.slice none 0 0\/∃b n c,v=.slice (some ⟨b,0,none⟩) n c
def ba:Value->Option Nat
 |.slice (some a) _ _=>some a.block
 |.pointer (some a)=>some a.block
 |.map (some b)=>some b
 |_=>none
def bO:Value->Value
 |.tuple vs=>vs.toList.headD undef
 |v=>v
def bf:Value->List Nat
 |.tuple vs=>vs.toList.flatMap fun v=>(ba v).toList
 |v=>(ba v).toList
theorem fS{v:Value}{b:Nat}(h:ba v=some b):b∈bf v:=by
 cases v<;>first|(show b∈(ba _).toList;rw[h];simp)|cases h
section
variable (B:Nat->Value)(sites:List (Nat×Site))(w:World)(av:Nat->Prop)
def Ref(o s:Nat)(p:Prop):Prop:=∃O,look sites o=some O/\s<=O.b2/\(O.b2=s->p)
def dv:ay->Value->Prop
 |.d x,v=>Rd w av x v
 |.nil _,v=>v=.slice none 0 0
 |.own o s,v=>v.oneCell'=true/\Ref sites o s (v=bO (B o))
 |.ptr o s off,v=>∃b,v=.pointer (some ⟨b,off,none⟩)/\Ref sites o s (bO (B o)=.pointer (some ⟨b,0,none⟩))
 |.e8 cells off,v=>∃b D,v=.pointer (some ⟨b,D+off,none⟩)/\¬av b/\b<w.heap.size/\∃cs:List Value,cs.length=cells.length/\(∀j u,cs[j]? =some u->w.cell? ⟨b,D+j,none⟩=some u)/\
   ∀j (h:j<cells.length) (af:j<cs.length),Rd w av (cells[j]) (cs[j])
 |.eI o s t k off,v=>∃b D,v=.pointer (some ⟨b,D+(k*ax t+off),none⟩)/\Ref sites o s (∃n c,bO (B o)=.slice (some ⟨b,D,none⟩) n c)
 |.clo g bG,v=>∃vs:List Value,v=.func (.func g) #[] vs.toArray/\vs.length=bG.length/\∀i (h:i<bG.length) (af:i<vs.length),Ref sites (bG[i]).1 (bG[i]).2 (vs[i]=bO (B (bG[i]).1))
 |.cL u,v=>v=u
 |.fresh _ _,_=>False
 |.iq _ _,_=>False
 |.eN,_=>True
 |.any,_=>True
def aG.ft:aG->Bool
 |.u8=>true
 |_=>false
def lw(u:Bool)(e:TypeId)(cur:Array Value)(bC:Nat×Nat):Prop:=(u=true->e=lH)/\(bC=(0,0)\/u=true/\cur.size<=bC.1)
def rowAt(w:World)(u:Bool)(e:TypeId)(size:Nat)(v:Value)(n:Nat)(xs:List Value):Prop:=
 xs.length=n*size/\((v=.slice none 0 0/\n=0)\/
  ∃g cap cur bC,v=.slice (some ⟨g,0,none⟩) n cap/\lw u e cur bC/\w.heap[g]? =some (.cells cur e bC)/\n<=cap/\cap<=maxLen/\cur.size=cap*size/\cur.toList.take (n*size)=xs)
theorem pJ(w:World)(u:Bool)(e:TypeId)(size:Nat):rowAt w u e size (.slice none 0 0) 0 []:=⟨by simp,.inl ⟨rfl,rfl⟩⟩
theorem hK{w:World}{u:Bool}{e:TypeId}{size:Nat}{v:Value}{n:Nat}{xs:List Value}(h:rowAt w u e size v n xs):bO v=v/\bf v=(ba v).toList:=by
 rcases h.2 with⟨rfl,_⟩|⟨g,cap,cur,bC,rfl,_⟩<;>exact⟨rfl,rfl⟩
theorem tO{w:World}{u:Bool}{e:TypeId}{size:Nat}{v:Value}{n:Nat}{xs:List Value}{b:Nat}(h:rowAt w u e size v n xs)(hb:b∈bf v):ba v=some b:=by
 rw[(hK h).2] at hb;simpa using hb
theorem nD{w w':World}{u:Bool}{e:TypeId}{size:Nat}{v:Value}{n:Nat}{xs:List Value}(h:rowAt w u e size v n xs)(hb:∀b,ba v=some b->w'.heap[b]? =w.heap[b]?):rowAt w' u e size v n xs:=by
 refine⟨h.1,?_⟩;rcases h.2 with hn|⟨g,cap,cur,bC,ab,cy,b',dy⟩
 ·exact .inl hn
 ·refine .inr ⟨g,cap,cur,bC,ab,cy,?_,dy⟩;rw[hb g (by rw[ab];rfl)];exact b'
def cp(w:World)(av:Nat->Prop)(ds:List aR)(vs:List Value):Prop:=vs.length=ds.length/\∀j (h:j<ds.length) (af:j<vs.length),Rd w av (ds[j]) (vs[j])
def aR.plain:aR->Bool
 |.sl _ _|.fn _ _|.map _ _=>false
 |_=>true
inductive Deep(w:World)(av:Nat->Prop):List aR->List Value->List Value->Prop where
 |nil:Deep w av [] [] []
 |row (u:aG) (ys:List (den u)) (e:TypeId) (U:List Value) (ai:∀d,d∈flat u ys->d.plain=true) {c:Value} {ds:List aR} {cs ao:List Value} (h:rowAt w u.ft e (ax u) c ys.length U) (hr:cp w av (flat u ys) U) (k:Deep w av ds cs ao):Deep w av (.sl u ys::ds) (c::cs) (c::ao)
 |leaf {d:aR} {c:Value} {ds:List aR} {cs ao:List Value} (ai:d.plain=true) (h:Rd w av d c) (k:Deep w av ds cs ao):Deep w av (d::ds) (c::cs) ao
def nP(w:World)(e:TypeId)(size:Nat)(v:Value)(n:Nat)(xs:List Value):Prop:=
 xs.length=n*size/\((v=.slice none 0 0/\n=0)\/
  ∃g D cap cur,v=.slice (some ⟨g,D,none⟩) n cap/\w.heap[g]? =some (.cells cur e (0,0))/\n<=cap/\cap<=maxLen/\D+cap*size<=cur.size/\(cur.toList.drop D).take (n*size)=xs)
inductive fM(w:World)(av:Nat->Prop):List (E×Value)->List (E×Option (List E))->List Value->Prop where
 |nil:fM w av [] [] []
 |lr (k:E) (v:Value) {ps:List (E×Value)} {es:List (E×Option (List E))} {ao:List Value} (r:fM w av ps es ao):fM w av ((k,v)::ps) ((k,none)::es) ao
 |row (k:E) (v:Value) (xs:List E) (e:TypeId) (U:List Value) (h:rowAt w false e 1 v xs.length U) (hr:cp w av (flat .str xs) U) {ps:List (E×Value)} {es:List (E×Option (List E))} {ao:List Value} (r:fM w av ps es ao):
   fM w av ((k,v)::ps) ((k,some xs)::es) (v::ao)
def mX(cells:List ay)(T:TypeId)(cur:List Value)(b:Nat):Prop:=cells.head?=some .eN->T=qJ/\(cur.head?=some (.pointer none)\/cur.head?=some (.pointer (some ⟨b,0,none⟩)))
def gE:bF->Value->Prop
 |.aq l,v=>dv B sites w av l v
 |.agg U,v=>∃vs:List Value,v=.agg vs.toArray/\vs.length=U.length/\∀j (h:j<U.length) (af:j<vs.length),dv B sites w av (U[j]) (vs[j])
def cc:aL->Value->Prop
 |.av a,v=>gE B sites w av a v
 |.ju as,v=>∃vs:List Value,v=.tuple vs.toArray/\vs.length=as.length/\∀j (h:j<as.length) (af:j<vs.length),gE B sites w av (as[j]) (vs[j])
def hW(o:Nat):Site->Prop
 |.box _ cells=>∃b T,∃cur:List Value,B o=.pointer (some ⟨b,0,none⟩)/\w.heap[b]? =some (.cells cur.toArray T (0,0))/\cur.length=cells.length/\
   (∀u∈cur,u.oneCell'=true)/\mX cells T cur b/\∀j (h:j<cells.length) (af:j<cur.length),dv B sites w av (cells[j]) (cur[j])
 |.row _ t xs=>∃e,∃cs:List Value,rowAt w t.ft e (ax t) (B o) xs.length cs/\∀j (h:j<(flat t xs).length) (af:j<cs.length),Rd w av ((flat t xs)[j]) (cs[j])
 |.c' _ t xs=>Rd w av (.sl t xs) (bO (B o))/\u' (bO (B o))
 |.map _ t es=>∃b,B o=.map (some b)/\l6 w b t es
 |.deep _ t xs=>∃e v,∃ao cs:List Value,B o=.tuple (v::ao).toArray/\(bf (B o)).Nodup/\rowAt w t.ft e (ax t) v xs.length cs/\Deep w av (flat t xs) cs ao
 |.ey _ es=>∃b arr clock,∃ao:List Value,B o=.tuple (.map (some b)::ao).toArray/\(bf (B o)).Nodup/\w.heap[b]? =some (.map arr clock)/\∃ps,ir arr=iT ps/\fM w av ps es ao
 |.tail _ t xs=>t.ft=false/\∃e,∃cs:List Value,nP w e (ax t) (B o) xs.length cs/\cp w av (flat t xs) cs
 |.dead _=>True
end
theorem hH{v:Value}{ao:List Value}{b:Nat}:b∈bf (.tuple (v::ao).toArray) <-> ba v=some b\/∃n,n∈ao/\ba n=some b:=by
 simp[bf]
def bT(sites:List (Nat×Site))(o:Nat):Prop:=∃O,look sites o=some O/\O.live=true
def au(X:Nat->Prop)(B:Nat->Value)(sites:List (Nat×Site))(b:Nat):Prop:=X b\/∃o,bT sites o/\b∈bf (B o)
structure Fr(J:List Nat)(M w:World):Prop where
 os:w.os=M.os
 tape:w.tape=M.tape
 output:w.output=M.output
 size:M.heap.size<=w.heap.size
 block:∀b,b<M.heap.size->b∉J->w.heap[b]? =M.heap[b]?
theorem Fr.refl(J:List Nat)(w:World):Fr J w w:=⟨rfl,rfl,rfl,Nat.le_refl _,fun _ _ _=>rfl⟩
structure iN(w:World)(J:List Nat)(X:Nat->Prop):Prop where
 ok:pv w
 J:∀b,b∈oo->b∉J
 X:∀b,b∈oo->¬X b
 lt:∀b,b∈oo->b<w.heap.size
theorem iN.less{w:World}{J:List Nat}{X X':Nat->Prop}(bN:iN w J X)(h:∀b,b∈oo->X' b->X b):iN w J X':=⟨bN.ok,bN.J,fun b hb hx=>bN.X b hb (h b hb hx),bN.lt⟩
theorem iN.abM{w:World}{J:List Nat}{X X':Nat->Prop}(bN:iN w J X)(h:∀b,X' b->X b\/b∈J):iN w J X':=⟨bN.ok,bN.J,fun b hb hx=>(h b hx).elim (bN.X b hb) (bN.J b hb),bN.lt⟩
structure ag(M:World)(J:List Nat)(X:Nat->Prop)(B:Nat->Value)(st:ae)(tm:Array Value)(w:World):Prop where
 bl:tm.size=st.bl
 c4:∀t,cc B st.sites w (au X B st.sites) (st.get t) (tm.getD t undef)
 sites:∀o O,look st.sites o=some O->hW B st.sites w (au X B st.sites) o O
 dp:∀o F b,bT st.sites o->bT st.sites F->b∈bf (B o)->b∈bf (B F)->o=F
 ci:∀o b,bT st.sites o->b∈bf (B o)->¬X b/\(b∈J\/M.heap.size<=b)
 frame:Fr J M w
 old:∀b,X b->b<w.heap.size
 fY:iN M J X
inductive cj:Type where
 |none
 |int (k:IntKind)
 |bool
 |str
 |ptr
 |func
 |slice (e:TypeId) (t:aG) (bytes:Nat)
 |struct (bR:List (Nat×Nat)) (n:Nat) (z:List ay) (eq:Bool)
 |map (k e:TypeId) (t:aG)
 |arr (e:TypeId) (t:aG) (n:Nat)
 |iface
def v7:(t:aG)->Option (den t)
 |.i64|.u8|.u32=>some (0:Int)
 |.bool=>some false
 |.str=>some ([]:E)
 |_=>none
def sG:aG->Option ay
 |.i64=>some (.d (.int .i64 0))
 |.u8=>some (.d (.int .u8 0))
 |.u32=>some (.d (.int .u32 0))
 |.bool=>some (.d (.bool false))
 |.str=>some (.d (.str []))
 |_=>none
def cj.agg:cj->Bool
 |.struct _ _ _ _|.arr _ _ _=>true
 |_=>false
def cj.known:cj->Bool
 |.none=>false
 |_=>true
def cj.size:cj->Nat
 |.struct _ n _ _=>n
 |.arr _ _ n=>n
 |_=>1
def cj.zero:cj->Option (List ay)
 |.none=>Option.none
 |.int k=>some [.d (.int k 0)]
 |.bool=>some [.d (.bool false)]
 |.str=>some [.d (.str [])]
 |.ptr=>some [.cL (.pointer Option.none)]
 |.func=>some [.cL .nilFunc]
 |.slice _ t _=>some [.nil t]
 |.struct _ _ z _=>some z
 |.map _ _ _=>some [.cL (.map Option.none)]
 |.arr _ t n=>(sG t).map (List.replicate n)
 |.iface=>some [.cL .nilIface]
inductive Arg:Type where
 |av (a:bF)
 |dZ (cells:List ay)
structure u_:Type 1 where
 G:Type
 comp:Option G
 dZ:G->List (List ay)
 e_:G->List bF
 eP:G->List ay -- rows qe ajC ab7,as ajD ajU back
abbrev bg:=List Arg->u_
def u_.fail:u_:=⟨Unit,Option.none,fun _=>[],fun _=>[],fun _=>[]⟩
structure Ctx:Type 1 where
 tt:TypeId->cj
 bR:FuncId->Option bg
 lO:FuncId->Option FuncId:=fun _=>none
 nw:FuncId->Bool:=fun _=>false
 op:FuncId->Bool:=fun _=>false
 iF:FuncId->Bool:=fun _=>false -- a XA copy check
 bs:FuncId->Bool:=fun _=>false -- a XA String
 gt:Nat->Option ((t:aG)×List (den t)):=fun _=>none -- m9 ajh tables
 ek:Bool:=false -- rows of rows Gx made as oY own,whole
structure dk:Type 1 where
 G:Type
 comp:Option G
 val:G->aL
 us:G->List (Nat×Site)
 qL:G->Bool
def dk.fail:dk:=⟨Unit,Option.none,fun _=>.av (.aq .any),fun _=>[],fun _=>false⟩
def dk.ok(v:aL):dk:=⟨Unit,some (),fun _=>v,fun _=>[],fun _=>true⟩
def dk.e'(v:aL)(us:List (Nat×Site)):dk:=⟨Unit,some (),fun _=>v,fun _=>us,fun _=>true⟩
def dk.eA{G:Type}(c:Option G)(f:G->aL):dk:=⟨G,c,f,fun _=>[],fun _=>true⟩
def dk.ew{G:Type}(c:Option G)(f:G->aL)(us:G->List (Nat×Site)):dk:=⟨G,c,f,us,fun _=>true⟩
def bd{aJ:Type}(xs:List aJ)(i:Int):Option aJ:=if 0<=i then xs[i.toNat]? else none
def hy(n:Nat)(i:Int):Option Nat:=if 0<=i/\i<n then some i.toNat else none
def cB{aJ:Type}(xs:List aJ)(cl am:Int):Option (List aJ):=if 0<=cl/\cl<=am/\am<=xs.length then some ((xs.take am.toNat).drop cl.toNat) else none
def room:Nat:=140737488355328
def cT{aJ:Type}(bytes:Nat)(xs ys:List aJ):Option (List aJ):=if(xs.length+ys.length)*bytes<=room/\xs.length+ys.length<=maxLen then some (xs++ys) else none
def lJ(s t:E):Option E:=if((s.length+t.length:Nat):Int)>IntKind.i64.max then none else some (s++t)
def o8(k:IntKind)(x y:Int):Option Int:=if y=0 then none else some (k.wrap (x.tdiv y))
def lq(x y:Int):Option Int:=if y=0 then none else some (x.tmod y)
def EM(k:IntKind)(x y:Int):Option Int:=if y<0 then none else some (k.wrap (x*2^(min y.toNat k.bits)))
def qf(k:IntKind)(x y:Int):Option Int:=if y<0 then none else some (x.fdiv (2^(min y.toNat k.bits)))
def oa{aJ:Type}(bytes:Nat)(n c:Int)(z:aJ):Option (List aJ):=if 0<=n/\n<=c/\c*bytes<=room/\c<=maxLen then some (List.replicate n.toNat z) else none
def hp(x y:Int):Int:=if y>x then y else x
def zK(x y:Int):Int:=if y<x then y else x
def PI(k:IntKind)(x y:Int):Int:=k.wrap (BitVec.ofInt k.bits x &&& BitVec.ofInt k.bits y).toNat
def QU(k:IntKind)(x y:Int):Int:=k.wrap (BitVec.ofInt k.bits x ||| BitVec.ofInt k.bits y).toNat
def mY(k:IntKind)(x y:Int):Int:=k.wrap (BitVec.ofInt k.bits x ^^^ BitVec.ofInt k.bits y).toNat
def bytesOf(s:E):List Int:=s.map fun b=>(b.toNat:Int)
def strOf(xs:List Int):E:=xs.map fun n=>UInt8.ofNat n.toNat
abbrev one(d:aR):aL:=.av (.aq (.d d))
abbrev b0(l:ay):aL:=.av (.aq l)
def tZ(ti:cj):Value->aL
 |.int k n=>one (.int k n)
 |.bool b=>one (.bool b)
 |.string s=>one (.str s.data.toList)
 |.slice none 0 0=>match ti with|.slice _ t _=>b0 (.nil t)|_=>b0 (.cL (.slice none 0 0))
 |.map none=>match ti with|.map _ _ t=>one (.map t [])|_=>b0 (.cL (.map none))
 |.agg _|.tuple _=>b0 .any
 |v=>b0 (.cL v)
def aP(C:Ctx)(st:ae)(T:TypeId):Operand->aL
 |.tmp t=>st.get t
 |.const v=>tZ (C.tt T) v
 |.global g=>b0 (.cL (.pointer (some ⟨g,0,none⟩)))
 |.func f=>b0 (.clo f [])
def rowOf(st:ae)(o s:Nat):Option ((t:aG)×List (den t)):=
 match st.O o with
 |some (.row ap t xs)=>bif ap.beq s then some ⟨t,xs⟩ else none
 |some (.c' ap t xs)=>bif ap.beq s then some ⟨t,xs⟩ else none
 |_=>none
def lZ(st:ae)(o s:Nat):Option ((t:aG)×List (den t)):=
 match st.O o with
 |some (.deep ap t xs)=>bif ap.beq s then some ⟨t,xs⟩ else none
 |_=>none
def qb(st:ae)(o s:Nat):Option ((t:aG)×List (den t)):=match rowOf st o s with
 |some x=>some x
 |none=>lZ st o s
def nO(st:ae)(o s:Nat):Option ((t:aG)×List (den t)):=
 match st.O o with
 |some (.tail ap t xs)=>bif ap.beq s then some ⟨t,xs⟩ else none
 |_=>none
def nZ(st:ae)(o s:Nat):Option ((t:aG)×List (den t)):=match rowOf st o s with
 |some x=>some x
 |none=>nO st o s
def qc(st:ae)(o s:Nat):Option ((t:aG)×List (den t)):=match qb st o s with
 |some x=>some x
 |none=>nO st o s
def fV(st:ae)(o s:Nat):Option (List ay):=
 match st.O o with
 |some (.box ap cells)=>bif ap.beq s then some cells else none
 |_=>none
def aG.vj:aG->Bool
 |.strs=>true
 |_=>false
theorem aG.MA{t:aG}(h:t.vj=false):t≠.strs:=by rintro rfl;cases h
def mapOf(st:ae):ay->Option ((t:aG)×List (E×den t))
 |.d (.map t es)=>some ⟨t,es⟩
 |.own o s=>match st.O o with
  |some (.map ap t es)=>bif ap.beq s&&!t.vj then some ⟨t,es⟩ else none
  |_=>none
 |_=>none
def cU{aJ:Type}:List (E×aJ)->E->Option aJ
 |[],_=>none
 |(k,v)::r,n=>bif k==n then some v else cU r n
def c3{aJ:Type}:List (E×aJ)->E->aJ->List (E×aJ)
 |[],n,v=>[(n,v)]
 |(k,w)::r,n,v=>bif k==n then(k,v)::r else(k,w)::c3 r n v
def EK:(t:aG)->aR->Option (den t)
 |.i64,.int .i64 n=>some n
 |.bool,.bool b=>some b
 |_,_=>none
def si:(t:aG)->Option (den t)->Option aR
 |.i64,D=>some (.int .i64 (D.getD 0))
 |.bool,D=>some (.bool (D.getD false))
 |.strs,D=>some (.sl .str (D.getD []))
 |_,_=>none
def oU(st:ae):ay->Option (Nat×Nat×List (E×Option (List E)))
 |.own o s=>match st.O o with
  |some (.ey ap es)=>bif ap.beq s then some (o,s,es) else none
  |_=>none
 |_=>none
def pS(es:List (E×Option (List E)))(n:E):Option (List (E×Option (List E))×List E):=match cU es n with
 |none=>some (es,[])
 |some none=>none
 |some (some xs)=>some (c3 es n none,xs)
def nW:List (E×Option (List E))->Option (List (E×List E))
 |[]=>some []
 |(k,some xs)::r=>match nW r with
  |some l=>some ((k,xs)::l)
  |none=>none
 |(_,none)::_=>none
def yM(s:Nat):aG->Site
 |.strs=>.ey s []
 |t=>.map s t []
def aU(st:ae)(o:Nat):Nat:=match st.O o with|some x=>x.b2+1|none=>0
def me(st:ae)(o s:Nat)(t:aG)(xs:List (den t)):List (Nat×Site):=match st.O o with
 |some (.c' _ _ _)=>[]
 |_=>[(o,.c' s t xs)]
def jS(st:ae):ay->Option (aR×List (Nat×Site))
 |.d v=>some (v,[])
 |.nil t=>some (.sl t [],[])
 |.own o s=>match rowOf st o s with
  |some ⟨t,xs⟩=>some (.sl t xs,me st o s t xs)
  |none=>match lZ st o s with
   |some ⟨t,xs⟩=>some (.sl t xs,[(o,.c' s t xs)])
   |none=>none
 |.clo g []=>some (.fn g [],[])
 |_=>none
def hN(st:ae):List ay->Option (List aR×List (Nat×Site))
 |[]=>some ([],[])
 |l::U=>match jS st l,hN st U with
  |some (d,us),some (ds,vs)=>some (d::ds,us++vs)
  |_,_=>none
def aG.hJ:aG->Bool
 |.pack|.recipe|.hunk|.sh|.strs=>true
 |_=>false
def sink(st:ae):ay->Option (aR×List (Nat×Site))
 |.d (.int k n)=>some (.int k n,[])
 |.d (.bool b)=>some (.bool b,[])
 |.d (.str s)=>some (.str s,[])
 |.nil t=>some (.sl t [],[])
 |.own o s=>match st.O o with
  |some (.row ap t xs)=>bif ap.beq s&&!t.hJ then some (.sl t xs,[(o,.dead s)]) else none
  |_=>none
 |_=>none
def sinks(st:ae):List ay->Option (List aR×List (Nat×Site))
 |[]=>some ([],[])
 |l::U=>match sink st l,sinks st U with
  |some (d,us),some (ds,vs)=>some (d::ds,us++vs)
  |_,_=>none
def bF.cells:bF->List ay
 |.aq l=>[l]
 |.agg U=>U
def ay.storable:ay->Bool
 |.any|.eN|.fresh _ _|.iq _ _|.e8 _ _|.eI _ _ _ _ _=>false
 |.cL (.agg _)|.cL (.tuple _)=>false
 |_=>true
def gR:List ay->Bool
 |[]=>true
 |l::U=>l.storable&&gR U
def cut(agg:Bool)(off n:Nat)(U:List ay):Option aL:=
 bif agg then(bif Nat.ble (off+n) U.length then some (.av (.agg ((U.drop off).take n))) else none)
 else match U.drop off with|l::_=>some (b0 l)|[]=>none
def cq(ds:List aR):List ay:=ds.map .d
def cg{aJ:Type}(old:List aJ)(off:Nat)(new:List aJ):List aJ:=old.take off++new++old.drop (off+new.length)
def yO:aR->aR->Option Bool
 |.int k a,.int k' b=>if k=k' then some (a==b) else none
 |.bool a,.bool b=>some (a==b)
 |.str a,.str b=>some (a==b)
 |_,_=>none
def t':List ay->List ay->Option Bool
 |[.d a],[.d b]=>yO a b
 |.d a::as,.d b::bs=>match yO a b,t' as bs with
  |some x,some y=>some (x&&y)
  |_,_=>none
 |_,_=>none
def NE(op:BinOp)(k:IntKind)(x y:Int):dk:=
 match op with
 |.add=>.ok (one (.int k (k.wrap (x+y))))
 |.sub=>.ok (one (.int k (k.wrap (x-y))))
 |.mul=>.ok (one (.int k (k.wrap (x*y))))
 |.quo=>.eA (o8 k x y) fun n=>one (.int k n)
 |.rem=>.eA (lq x y) fun n=>one (.int k n)
 |.and=>.ok (one (.int k (PI k x y)))
 |.or=>.ok (one (.int k (QU k x y)))
 |.xor=>.ok (one (.int k (mY k x y)))
 |.eql=>.ok (one (.bool (x==y)))
 |.neq=>.ok (one (.bool (x !=y)))
 |.lss=>.ok (one (.bool (decide (x<y))))
 |.leq=>.ok (one (.bool (decide (x<=y))))
 |.gtr=>.ok (one (.bool (decide (x>y))))
 |.geq=>.ok (one (.bool (decide (x>=y))))
 |_=>.fail
def Np(op:BinOp)(s t:E):dk:=
 match op with
 |.add=>.eA (lJ s t) fun r=>one (.str r)
 |.eql=>.ok (one (.bool (s==t)))
 |.neq=>.ok (one (.bool (!(s==t))))
 |.lss=>.ok (one (.bool (Op.bytesLess s t)))
 |.leq=>.ok (one (.bool (Op.bytesLess s t||s==t)))
 |.gtr=>.ok (one (.bool (!(Op.bytesLess s t||s==t))))
 |.geq=>.ok (one (.bool (!(Op.bytesLess s t))))
 |_=>.fail
def MC(op:BinOp)(k:IntKind)(a:Int)(k':IntKind)(b:Int):dk:=
 match op with
 |.shl=>.eA (EM k a b) fun n=>one (.int k n)
 |.shr=>.eA (qf k a b) fun n=>one (.int k n)
 |op=>if k=k' then NE op k a b else .fail
def M3(op:BinOp)(ti:cj)(a b:Bool):dk:=
 match ti with
 |.bool=>match op with
  |.eql=>.ok (one (.bool (a==b)))
  |.neq=>.ok (one (.bool (!(a==b))))
  |_=>.fail
 |_=>.fail
def qk:List ay->List ay->Bool
 |[],[]=>true
 |.d (.int _ _)::z,.d (.int _ _)::l=>qk z l
 |.d (.bool _)::z,.d (.bool _)::l=>qk z l
 |.d (.str _)::z,.d (.str _)::l=>qk z l
 |_,_=>false
def NT(op:BinOp)(ti:cj)(xs ys:List ay):dk:=
 match ti with
 |.struct _ n z true=>bif xs.length.beq n&&qk z xs then
   match t' xs ys with
   |some b=>match op with
    |.eql=>.ok (one (.bool b))
    |.neq=>.ok (one (.bool (!b)))
    |_=>.fail
   |none=>.fail
  else .fail
 |_=>.fail
def zA(op:BinOp)(ti:cj)(D:Option Int):dk:=
 match ti with
 |.iface=>match op with
  |.eql=>.ok (one (.bool D.isNone))
  |.neq=>.ok (one (.bool D.isSome))
  |_=>.fail
 |_=>.fail
def yS:Operand->Bool
 |.const .nilIface=>true
 |_=>false
def D_(op:BinOp)(ti:cj):aL->dk
 |.av (.aq (.d (.err _ D)))=>zA op ti D
 |.av (.aq (.cL .nilIface))=>zA op ti none
 |_=>.fail
def Fm(op:BinOp)(ti:cj)(x y:aL):dk:=
 match x,y with
 |.av (.aq (.d (.int k a))),.av (.aq (.d (.int k' b)))=>MC op k a k' b
 |.av (.aq (.d (.str s))),.av (.aq (.d (.str t)))=>Np op s t
 |.av (.aq (.d (.bool a))),.av (.aq (.d (.bool b)))=>M3 op ti a b
 |.av (.agg xs),.av (.agg ys)=>NT op ti xs ys
 |_,_=>.fail
def r'(agg:Bool)(n:Nat)(st:ae)(a:aL):dk:=
 match a with
 |.av (.aq (.ptr o s off))=>match fV st o s with
  |some cells=>match cut agg off n cells with|some v=>.ok v|none=>.fail
  |none=>.fail
 |.av (.aq (.e8 cells off))=>match cut agg off n (cq cells) with|some v=>.ok v|none=>.fail
 |.av (.aq (.eI o s u k off))=>match nZ st o s with
  |some ⟨t,xs⟩=>if t=u/\off+n<=ax t then .eA (xs[k]?) fun x=>match cut agg off n (cq (enc t x)) with|some v=>v|none=>b0 .any else .fail
  |none=>.fail
 |_=>.fail
def keys{aJ:Type}:List (Nat×aJ)->List Nat
 |[]=>[]
 |p::r=>p.1::keys r
def fX(n:Nat):List Nat->Bool
 |[]=>false
 |m::r=>n.beq m||fX n r
def e4:List Nat->Bool
 |[]=>true
 |n::r=>!fX n r&&e4 r
def aR.hM:aR->Bool
 |.int _ _|.bool _|.str _=>true
 |_=>false
def rH(n:Nat)(st:ae)(a:aL)(v:bF):dk:=
 bif v.cells.length.beq n then
 match a with
 |.av (.aq (.ptr o s off))=>match fV st o s with
  |some cells=>bif Nat.ble (off+n) cells.length&&gR v.cells then .e' (b0 (.cL undef)) [(o,.box s (cg cells off v.cells))] else .fail
  |none=>.fail
 |.av (.aq (.eI o s u k off))=>match st.O o with
  |some (.row ap t xs)=>bif ap.beq s&&Nat.ble (off+n) (ax t)&&decide (t=u) then
    match hN st v.cells with
    |some (ds,us)=>bif(look us o).isNone then .ew ((xs[k]?).bind fun x=>dec t (cg (enc t x) off ds)) (fun _=>b0 (.cL undef)) fun x=>us++[(o,.row s t (xs.set k x))] else .fail
    |none=>.fail
   else .fail
  |some (.deep ap t xs)=>bif ap.beq s&&decide (t=u) then(bif off.beq 0&&n.beq (ax t) then
    match sinks st v.cells with
    |some (ds,us)=>bif(look us o).isNone&&e4 (keys us) then .ew ((xs[k]?).bind fun _=>dec t ds) (fun _=>b0 (.cL undef)) fun x=>us++[(o,.deep s t (xs.set k x))] else .fail
    |none=>.fail
   else match v.cells with
    |[.d d]=>bif d.hM&&Nat.blt off (ax t) then .ew ((xs[k]?).bind fun x=>dec t (cg (enc t x) off [d])) (fun _=>b0 (.cL undef)) fun x=>[(o,.deep s t (xs.set k x))] else .fail
    |_=>.fail)
   else .fail
  |_=>.fail
 |_=>.fail
 else .fail
def q'(u:aG)(st:ae)(x:aL)(i:Int):dk:=
 match x with
 |.av (.aq (.d (.sl t xs)))=>if t=u then .eA (bd xs i) fun x=>b0 (.e8 (enc t x) 0) else .fail
 |.av (.aq (.own o s))=>match qc st o s with
  |some ⟨t,xs⟩=>if t=u then .eA (hy xs.length i) fun k=>b0 (.eI o s t k 0) else .fail
  |none=>.fail
 |_=>.fail
def Bp(off:Nat):aL->dk
 |.av (.aq (.ptr o s D))=>.ok (b0 (.ptr o s (D+off)))
 |.av (.aq (.e8 cells D))=>.ok (b0 (.e8 cells (D+off)))
 |.av (.aq (.eI o s t k D))=>.ok (b0 (.eI o s t k (D+off)))
 |_=>.fail
def h3(jq:Int):Option aL->Option Int
 |none=>some jq
 |some (.av (.aq (.d (.int _ n))))=>some n
 |some _=>none
def rL(ti:cj)(st:ae)(x:aL)(cl am:Option aL):dk:=
 match x with
 |.av (.aq (.d (.str s)))=>match ti,h3 0 cl,h3 s.length am with
  |.str,some l,some h=>.eA (cB s l h) fun r=>one (.str r)
  |_,_,_=>.fail
 |.av (.aq (.d (.sl t xs)))=>match ti,h3 0 cl,h3 xs.length am with
  |.slice _ u _,some l,some h=>if t=u then .eA (cB xs l h) fun r=>one (.sl t r) else .fail
  |_,_,_=>.fail
 |.av (.aq (.nil t))=>match ti,h3 0 cl,h3 0 am with
  |.slice _ _ _,some l,some h=>.eA (cB ([]:List (den t)) l h) fun r=>one (.sl t r)
  |_,_,_=>.fail
 |.av (.aq (.own o s))=>match rowOf st o s with
  |some ⟨t,xs⟩=>match ti,h3 0 cl,h3 xs.length am with
   |.slice _ u _,some l,some h=>if t=u then .ew (cB xs l h) (fun r=>one (.sl t r)) fun _=>me st o s t xs else .fail
   |_,_,_=>.fail
  |none=>.fail
 |_=>.fail
def rT(st:ae):aL->Bool
 |.av (.aq (.own o s))=>(nO st o s).isSome
 |_=>false
def rM(ti:cj)(dst:Nat)(st:ae)(x:aL)(cl am:Option aL):dk:=
 match x with
 |.av (.aq (.own o s))=>match nO st o s with
  |some ⟨t,xs⟩=>match ti,h3 0 cl,am with
   |.slice _ u _,some l,none=>if t=u then .ew (cB xs l xs.length) (fun _=>b0 (.own dst (aU (st.df o (.dead s)) dst)))
     (fun r=>[(o,.dead s),(dst,.tail (aU (st.df o (.dead s)) dst) t r)]) else .fail
   |_,_,_=>.fail
  |none=>.fail
 |_=>.fail
def ss(ti:cj)(st:ae)(x:aL):dk:=
 match ti,x with
 |.str,.av (.aq (.d (.str s)))=>.ok (one (.int .i64 s.length))
 |.slice _ _ _,.av (.aq (.d (.sl _ xs)))=>.ok (one (.int .i64 xs.length))
 |.slice _ _ _,.av (.aq (.nil _))=>.ok (one (.int .i64 0))
 |.slice _ _ _,.av (.aq (.own o s))=>match qc st o s with
  |some ⟨_,xs⟩=>.ok (one (.int .i64 xs.length))
  |none=>.fail
 |.map _ _ _,.av (.aq l)=>match mapOf st l with
  |some ⟨_,es⟩=>.ok (one (.int .i64 es.length))
  |none=>.fail
 |_,_=>.fail
def r2(st:ae):aL->Option aR
 |.av (.aq (.d (.sl t xs)))=>some (.sl t xs)
 |.av (.aq (.d (.str s)))=>some (.str s)
 |.av (.aq (.nil t))=>some (.sl t [])
 |.av (.aq (.own o s))=>match rowOf st o s with|some ⟨t,xs⟩=>some (.sl t xs)|none=>none
 |_=>none
def pW(bytes:Nat)(t:aG)(dst:Nat)(st:ae)(s:aL)(ys:List (den t)):dk:=
 match s with
 |.av (.aq (.nil _))=>.ew (cT bytes [] ys) (fun _=>b0 (.own dst (aU st dst))) fun r=>[(dst,.row (aU st dst) t r)]
 |.av (.aq (.own o s))=>match st.O o with
  |some (.row ap bj xs)=>bif ap.beq s then
    if af:bj=t then .ew (cT bytes (af▸xs:List (den t)) ys) (fun _=>b0 (.own dst (aU (st.df o (.dead s)) dst)))
     fun r=>[(o,.dead s),(dst,.row (aU (st.df o (.dead s)) dst) t r)]
    else .fail
   else .fail
  |some (.tail ap bj xs)=>bif ap.beq s then
    if af:bj=t then .ew (cT bytes (af▸xs:List (den t)) ys) (fun _=>b0 (.own dst (aU (st.df o (.dead s)) dst)))
     fun r=>[(o,.dead s),(dst,.tail (aU (st.df o (.dead s)) dst) t r)]
    else .fail
   else .fail
  |_=>.fail
 |_=>.fail
def rD(bytes:Nat)(t:aG)(dst:Nat)(st:ae)(s x:aL):dk:=
 match r2 st x with
 |none=>.fail
 |some d=>match d with
  |.sl u ys=>if h:u=t then pW bytes t dst st s (h▸ys:List (den t)) else .fail
  |_=>.fail
def rF(bytes:Nat)(t:aG)(dst:Nat)(st:ae)(s x:aL):dk:=
 match x with
 |.av (.aq (.own F u))=>match lZ st F u with
  |some ⟨bj,ys⟩=>if h:bj=t then(match s with
   |.av (.aq (.nil _))=>.ew (cT bytes [] (h▸ys:List (den t))) (fun _=>b0 (.own dst (aU (st.df F (.dead u)) dst))) fun r=>[(F,.dead u),(dst,.deep (aU (st.df F (.dead u)) dst) t r)]
   |.av (.aq (.own o s))=>match lZ st o s with
    |some ⟨t2,xs⟩=>if h2:t2=t then(bif o.beq F then .fail else
      .ew (cT bytes (h2▸xs:List (den t)) (h▸ys)) (fun _=>b0 (.own dst (aU ((st.df F (.dead u)).df o (.dead s)) dst)))
       fun r=>[(F,.dead u),(o,.dead s),(dst,.deep (aU ((st.df F (.dead u)).df o (.dead s)) dst) t r)]) else .fail
    |none=>.fail
   |_=>.fail) else .fail
  |none=>.fail
 |_=>.fail
def uf(st:ae):aL->Bool
 |.av (.aq (.own o s))=>(lZ st o s).isSome
 |_=>false
def rE(bytes:Nat)(t:aG)(dst:Nat)(st:ae)(s x:aL):dk:=
 match x with
 |.av (.aq (.d (.str y)))=>if h:t=.u8 then pW bytes t dst st s (h▸(bytesOf y:List (den .u8))) else .fail
 |_=>.fail
def qh(ek:Bool)(bytes o:Nat)(st:ae)(ty:aG)(n m:Int)(z:List ay):dk:=match bif ek&&ty.hJ then sinks st z else none with
 |some (ds,us)=>match dec ty ds with
  |some eB=>bif us.isEmpty then .ew (oa bytes n m eB) (fun _=>b0 (.own o (aU st o))) fun r=>[(o,.deep (aU st o) ty r)] else .fail
  |none=>.fail
 |none=>match hN st z with
  |some (ds,_)=>match dec ty ds with
   |some eB=>.ew (oa bytes n m eB) (fun _=>b0 (.own o (aU st o))) fun r=>[(o,.row (aU st o) ty r)]
   |none=>.fail
  |none=>.fail
def lu(t:aG)(st:ae):List bF->Option (List (den t)×List (Nat×Site))
 |[]=>some ([],[])
 |a::as=>match hN st a.cells with
  |some (ds,us)=>match dec t ds,lu t st as with
   |some x,some (xs,vs)=>some (x::xs,us++vs)
   |_,_=>none
  |none=>none
def mO(t:aG)(st:ae):List bF->Option (List (den t)×List (Nat×Site))
 |[]=>some ([],[])
 |a::as=>match sinks st a.cells with
  |some (ds,us)=>match dec t ds,mO t st as with
   |some x,some (xs,vs)=>some (x::xs,us++vs)
   |_,_=>none
  |none=>none
def mg:aL->Option bF
 |.av a=>some a
 |.ju _=>none
def mW:List aL->Option (List bF)
 |[]=>some []
 |v::vs=>match mg v,mW vs with|some a,some as=>some (a::as)|_,_=>none
def oP:Nat->List (Nat×Operand)->Bool
 |_,[]=>true
 |n,(i,_)::r=>i.beq n&&oP (n+1) r
def isByte:cj->Bool
 |.int .u8=>true
 |_=>false
def sg(C:Ctx)(src dst:TypeId)(o:Nat)(st:ae)(x:aL):dk:=
 match C.tt src,C.tt dst,x with
 |.none,_,_=>.fail
 |_,.int k,.av (.aq (.d (.int _ n)))=>.ok (one (.int k (k.wrap n)))
 |_,.str,.av (.aq (.d (.str s)))=>.ok (one (.str s))
 |.slice e .u8 _,.str,.av (.aq (.d (.sl .u8 xs)))=>bif isByte (C.tt e) then .ok (one (.str (strOf xs))) else .fail
 |.slice e .u8 _,.str,.av (.aq (.nil _))=>bif isByte (C.tt e) then .ok (one (.str [])) else .fail
 |.slice e .u8 _,.str,.av (.aq (.own F s))=>match rowOf st F s with
  |some ⟨.u8,xs⟩=>bif isByte (C.tt e) then .ok (one (.str (strOf xs))) else .fail
  |_=>.fail
 |.str,.slice e .u8 _,.av (.aq (.d (.str s)))=>bif isByte (C.tt e) then .ew (if s.length<=maxLen then some () else none) (fun _=>b0 (.own o (aU st o))) fun _=>[(o,.row (aU st o) .u8 (bytesOf s))] else .fail
 |_,_,_=>.fail
def lh(st:ae):List (Nat×Nat)->Option (List (List aR)×List (Nat×Site)×List Nat)
 |[]=>some ([],[],[])
 |(o,s)::r=>match fV st o s with
  |some cells=>match hN st cells,lh st r with
   |some (ds,us),some (rest,vs,bs)=>some (ds::rest,us++vs,o::bs)
   |_,_=>none
  |none=>none
def m3(st:ae):ay->Option (ay×List (Nat×Site)×List Nat)
 |.e8 cells 0=>some (.e8 cells 0,[],[])
 |.clo g (c::cs)=>match lh st (c::cs) with|some (ds,us,bs)=>some (.d (.fn g ds),us,bs)|none=>none
 |l=>match jS st l with|some (d,us)=>some (.d d,us,[])|none=>none
def l2(st:ae):List ay->Option (List ay×List (Nat×Site)×List Nat)
 |[]=>some ([],[],[])
 |l::U=>match m3 st l,l2 st U with
  |some (a,us,bs),some (as,vs,cs)=>some (a::as,us++vs,bs++cs)
  |_,_=>none
def mV(st:ae):ay->Option (ay×List (Nat×Site))
 |.d v=>some (.d v,[])
 |.nil t=>some (.fresh t [],[])
 |.own o s=>match st.O o with
  |some (.row ap t xs)=>bif ap.beq s then some (.fresh t xs,[(o,.dead s)]) else none
  |some (.c' ap t xs)=>bif ap.beq s then some (.d (.sl t xs),[]) else none
  |some (.deep ap t xs)=>bif ap.beq s then some (.iq t xs,[(o,.dead s)]) else none
  |_=>none
 |.eN=>some (.eN,[])
 |.cL v=>some (.cL v,[])
 |_=>none
def uw:List ay->List ay
 |.cL (.pointer none)::r=>.eN::r
 |l=>l
def j_(st:ae):List ay->Option (List ay×List (Nat×Site))
 |[]=>some ([],[])
 |l::U=>match mV st l,j_ st U with
  |some (a,us),some (as,vs)=>some (a::as,us++vs)
  |_,_=>none
structure ka where
 as:List Arg
 eL:List (Nat×Site) -- rows qe Gx eL,as ajp akH frozen
 fU:List Nat -- boxes qe Gx eL
 gone:List (Nat×Site) -- boxes qe go over,and rows in ajE
 boxes:List (Nat×Nat) -- m9 boxes:O,b2
 rows:List (Option (Nat×Nat)) -- m9 cells of ajB holds ab7 rows:a ajw O,b2
def jj(st:ae):List aL->Option ka
 |[]=>some ⟨[],[],[],[],[],[]⟩
 |.av (.aq (.ptr o s 0))::vs=>match fV st o s,jj st vs with
  |some cells,some r=>match j_ st cells with
   |some (cs,gone)=>some ⟨.dZ cs::r.as,r.eL,r.fU,((o,.dead s)::gone)++r.gone,(o,s)::r.boxes,r.rows⟩
   |none=>none
  |_,_=>none
 |.av (.aq l)::vs=>match m3 st l,jj st vs with
  |some (a,us,bs),some r=>some ⟨.av (.aq a)::r.as,us++r.eL,bs++r.fU,r.gone,r.boxes,[]⟩
  |_,_=>none
 |.av (.agg U)::vs=>match l2 st U,jj st vs with
  |some (as,us,bs),some r=>some ⟨.av (.agg as)::r.as,us++r.eL,bs++r.fU,r.gone,r.boxes,[]⟩
  |_,_=>none
 |_::_=>none
def lY(st:ae):ay->Option (ay×List (Nat×Site)×List (Nat×Site)×List Nat)
 |.own o s=>match mV st (.own o s) with|some (a,us)=>some (a,us,[],[])|none=>none
 |.nil t=>some (.fresh t [],[],[],[])
 |l=>match m3 st l with|some (a,us,bs)=>some (a,[],us,bs)|none=>none
def lW(st:ae):List ay->Option (List ay×List (Nat×Site)×List (Nat×Site)×List Nat)
 |[]=>some ([],[],[],[])
 |l::U=>match lY st l,lW st U with
  |some (a,us,bR,bs),some (as,vs,gs,cs)=>some (a::as,us++vs,bR++gs,bs++cs)
  |_,_=>none
def ay.pU:ay->Bool
 |.fresh _ _|.iq _ _=>false
 |_=>true
def gd:List ay->Bool
 |[]=>true
 |l::U=>l.pU&&gd U
def lp(st:ae):ay->Option (Nat×Nat)
 |.own o s=>match st.O o with
  |some (.row _ _ _)|some (.deep _ _ _)=>some (o,s)
  |_=>none
 |_=>none
def nQ(st:ae)(U dA:List ay):List (Option (Nat×Nat)):=bif gd dA then [] else U.map (lp st)
def kv(st:ae):List aL->Option ka
 |[]=>some ⟨[],[],[],[],[],[]⟩
 |.av (.aq l)::vs=>match lY st l,kv st vs with
  |some (a,us,U,bs),some r=>some ⟨.av (.aq a)::r.as,U++r.eL,bs++r.fU,us++r.gone,r.boxes,nQ st [l] [a]++r.rows⟩
  |_,_=>none
 |.av (.agg as)::vs=>match lW st as,kv st vs with
  |some (jU,us,U,bs),some r=>some ⟨.av (.agg jU)::r.as,U++r.eL,bs++r.fU,us++r.gone,r.boxes,nQ st as jU++r.rows⟩
  |_,_=>none
 |_::_=>none
def ry(b:Bool)(st:ae)(vs:List aL):Option ka:=bif b then kv st vs else jj st vs
def ay.hJ:ay->Bool
 |.d (.sl _ _)|.d (.fn _ _)|.d (.map _ _)=>true
 |.d _=>false
 |.fresh t _=>t.hJ
 |.eN|.cL _|.iq _ _=>false
 |_=>true
def nF:List ay->Bool
 |[]=>false
 |l::U=>l.hJ||nF U
def rc:List bF->Bool
 |[]=>false
 |a::as=>nF a.cells||rc as
def rb:List (List ay)->Bool
 |[]=>false
 |a::as=>nF a||rb as
def take(st:ae)(n:Nat):List ay->List ay×List (Nat×Site)
 |[]=>([],[])
 |.fresh t xs::U=>let r:=take st (n+1) U;(.own n (aU st n)::r.1,(n,.row (aU st n) t xs)::r.2)
 |.iq t xs::U=>let r:=take st (n+1) U;(.own n (aU st n)::r.1,(n,.deep (aU st n) t xs)::r.2)
 |l::U=>let r:=take st (n+1) U;(l::r.1,r.2)
def dU(st:ae)(n:Nat):List bF->List bF×List (Nat×Site)
 |[]=>([],[])
 |.aq l::as=>let x:=take st n [l];let r:=dU st (n+100) as;((match x.1 with|[fE]=>.aq fE|U=>.agg U)::r.1,x.2++r.2)
 |.agg U::as=>let x:=take st n U;let r:=dU st (n+100) as;(.agg x.1::r.1,x.2++r.2)
def fo(st:ae):List (Nat×Nat)->List (List ay)->List (Nat×Site)
 |(o,s)::bs,cs::cG=>let x:=take st (1000000+o*100) cs;x.2++(o,.box s x.1)::fo st bs cG
 |_,_=>[]
def oL:List (Option (Nat×Nat))->List Nat
 |[]=>[]
 |none::r=>oL r
 |some p::r=>p.1::oL r
def e5:List (Option (Nat×Nat))->List ay->List (Nat×Site)
 |some (o,s)::r,.fresh t xs::U=>(o,.row s t xs)::e5 r U
 |some (o,s)::r,.iq t xs::U=>(o,.deep s t xs)::e5 r U
 |_::r,_::U=>e5 r U
 |_,_=>[]
def Nr:List bF->aL
 |[a]=>.av a
 |as=>.ju as
def fq:List Nat->List Nat->Bool
 |[],_=>true
 |n::r,l=>!fX n l&&fq r l
def o7(dst:Nat)(st:ae)(S:bg)(a:ka):dk:=
 let r:=S a.as
 {G:=r.G,comp:=r.comp
  val:=fun y=>Nr (dU st (2000000+dst*10000) (r.e_ y)).1
  us:=fun y=>(bif rc (r.e_ y)||rb (r.dZ y)||nF (r.eP y) then a.eL else [])++a.gone++(fo st a.boxes (r.dZ y)++e5 a.rows (r.eP y))++(dU st (2000000+dst*10000) (r.e_ y)).2
  qL:=fun y=>e4 (keys a.gone)&&fq (keys a.eL++a.fU) (keys a.gone)&&e4 (keys ((fo st a.boxes (r.dZ y)++e5 a.rows (r.eP y))++(dU st (2000000+dst*10000) (r.e_ y)).2))&&
   fq (keys a.eL++a.fU) (keys ((fo st a.boxes (r.dZ y)++e5 a.rows (r.eP y))++(dU st (2000000+dst*10000) (r.e_ y)).2))&&(!(rc (r.e_ y)||rb (r.dZ y)||nF (r.eP y))||a.fU.isEmpty)&&(e4 (oL a.rows)&&fq (oL a.rows) (keys (fo st a.boxes (r.dZ y))))}
def callee(v:aL):Option (FuncId×List (Nat×Nat)):=
 match v with
 |.av (.aq (.clo g bG))=>some (g,bG)
 |_=>none
def gK(C:Ctx)(st:ae):List Operand->List TypeId->List aL
 |[],_=>[]
 |x::xs,[]=>aP C st 0 x::gK C st xs []
 |x::xs,T::c0=>aP C st T x::gK C st xs c0
def ld:List (List aR)->List Arg
 |[]=>[]
 |c::cs=>.av (.aq (.e8 c 0))::ld cs
def rJ(g:FuncId)(n:Nat)(st:ae):List aL->dk
 |[.av (.aq (.d (.str s))),.av (.aq (.d (.str p)))]=>.e' (b0 (.clo g [(n,aU st n),(n+1,aU st (n+1)),(n+2,aU st (n+2))]))
   [(n,.box (aU st n) [.d (.str p)]),(n+1,.box (aU st (n+1)) [.d (.str s)]),(n+2,.box (aU st (n+2)) [.d (.int .i64 0)])]
 |_=>.fail
def copyV(st:ae):List aL->dk
 |[.av (.aq (.ptr o s 0))]=>match st.O o with
  |some (.box ap [.eN,l])=>bif ap.beq s then .e' (.ju []) [(o,.box s [.eN,l])] else .fail
  |_=>.fail
 |_=>.fail
def rr(st:ae):List aL->dk
 |[.av (.aq (.ptr o s 0))]=>match fV st o s with
  |some [_,.nil .u8]=>.ok (one (.str []))
  |some [_,.own F u]=>match st.O F with
   |some (.row bS .u8 xs)=>bif bS.beq u then .e' (one (.str (strOf xs))) [(F,.c' u .u8 xs)] else .fail
   |_=>.fail
  |_=>.fail
 |_=>.fail
def r4(n:Nat)(st:ae):List aL->dk
 |[.av (.aq (.d (.sl .u8 xs)))]=>.e' (b0 (.ptr n (aU st n) 0)) [(n,.box (aU st n) [.d (.sl .u8 (xs.take 2000)),.d (.int .i64 0)])]
 |_=>.fail
def lT(C:Ctx)(dst:Nat)(st:ae)(f:aL)(vs:List aL):dk:=
  match f with
  |.av (.aq (.clo g bG))=>match C.lO g with
   |some cI=>match bG with
    |[]=>rJ cI (3000000+dst*10) st vs
    |_=>.fail
   |none=>bif C.op g then(match bG with
    |[]=>r4 (4000000+dst) st vs
    |_=>.fail) else bif C.iF g then(match bG with
    |[]=>copyV st vs
    |_=>.fail) else bif C.bs g then(match bG with
    |[]=>rr st vs
    |_=>.fail) else match C.bR g,ry (C.nw g) st vs,lh st bG with
    |some S,some a,some (cs,us,bs)=>o7 dst st S {a with as:=a.as++ld cs,eL:=a.eL++us,fU:=a.fU++bs}
    |_,_,_=>.fail
  |.av (.aq (.d (.fn g bG)))=>match C.bR g,jj st vs with
    |some S,some a=>o7 dst st S {a with as:=a.as++ld bG}
    |_,_=>.fail
  |_=>.fail
def zX(t:aG)(xs:List (den t))(n:Nat):List ay:=match v7 t with
 |some z=>(List.range n).flatMap fun j=>cq (enc t (xs.getD j z))
 |none=>[]
def sC(t:aG):List ay->Option (List (den t))
 |[]=>some []
 |.d d::U=>match dec t [d],sC t U with
  |some x,some xs=>some (x::xs)
  |_,_=>none
 |_=>none
def long{aJ:Type}(n:Nat)(xs:List aJ):Option (List aJ):=if xs.length=n then some xs else none
def qg(o:Nat)(st:ae)(t:aG)(n:Nat)(xs:List (den t)):dk:=bif xs.length.beq n&&Nat.ble n 1000 then .e' (b0 (.eI o (aU st o) t 0 0)) [(o,.row (aU st o) t xs)] else .fail
def r0(o:Nat)(st:ae)(t:aG)(n:Nat):dk:=match v7 t with
 |some z=>qg o st t n (List.replicate n z)
 |none=>.fail
def sF(o:Nat)(st:ae)(t:aG)(n:Nat)(v:aL):dk:=match v with
 |.av (.agg U)=>match sC t U with
  |some xs=>qg o st t n xs
  |none=>.fail
 |_=>.fail
def sa(st:ae)(t:aG)(n:Nat)(a:aL):dk:=match a with
 |.av (.aq (.eI o s u 0 0))=>match rowOf st o s with
  |some ⟨bj,xs⟩=>if bj=t/\bj=u then .eA (long n xs) fun xs=>.av (.agg (zX bj xs n)) else .fail
  |none=>.fail
 |_=>.fail
def rI(st:ae)(t:aG)(n:Nat)(a:aL)(v:bF):dk:=match a,v with
 |.av (.aq (.eI o s u 0 0)),.agg U=>match st.O o with
  |some (.row ap bj xs)=>if bj=t/\bj=u/\ap=s then(match sC bj U with
   |some ys=>bif ys.length.beq n then .ew (long n xs) (fun _=>b0 (.cL undef)) fun _=>[(o,.row s bj ys)] else .fail
   |none=>.fail) else .fail
  |_=>.fail
 |_,_=>.fail
def ra(C:Ctx)(st:ae)(t:aG)(n:Nat)(x:aL)(i:Int):dk:=match x with
 |.av (.aq (.eI o s u 0 0))=>match rowOf st o s with
  |some ⟨bj,xs⟩=>if bj=t/\bj=u then .eA ((long n xs).bind fun xs=>hy xs.length i) fun k=>b0 (.eI o s bj k 0) else .fail
  |none=>.fail
 |.av (.aq (.cL (.pointer (some ⟨g,0,none⟩))))=>match C.gt g with
  |some ⟨bj,xs⟩=>bif decide (bj=t)&&xs.length.beq n then .eA (bd xs i) fun x=>b0 (.e8 (enc bj x) 0) else .fail
  |none=>.fail
 |_=>.fail
def D4(t:aG)(n:Nat)(x:aL)(i:Int):dk:=match x with
 |.av (.agg U)=>match sC t U with
  |some xs=>bif xs.length.beq n then .eA (bd xs i) fun x=>(match enc t x with|[d]=>b0 (.d d)|_=>b0 .any) else .fail
  |none=>.fail
 |_=>.fail
def rN(st:ae)(t:aG)(n:Nat)(x:aL)(cl am:Option aL):dk:=match x with
 |.av (.aq (.eI o s u 0 0))=>match rowOf st o s,h3 0 cl,h3 n am with
  |some ⟨bj,xs⟩,some l,some h=>if bj=t/\bj=u then .ew ((long n xs).bind fun xs=>cB xs l h) (fun r=>b0 (.d (.sl bj r))) fun _=>me st o s bj xs else .fail
  |_,_,_=>.fail
 |_=>.fail
def la(C:Ctx)(st:ae)(D:Oper):dk:=
 match D.op with
 |.makeMap t r=>match D.dst,C.tt t with
  |some o,.map _ _ ty=>match r with
   |none=>.e' (b0 (.own o (aU st o))) [(o,yM (aU st o) ty)]
   |some x=>match aP C st 0 x with
    |.av (.aq (.d (.int _ _)))=>.e' (b0 (.own o (aU st o))) [(o,yM (aU st o) ty)]
    |_=>.fail
  |_,_=>.fail
 |.mapUpdate t m k x=>rS C st t m k x
 |.insert t m k x=>rS C st t m k x
 |.lookup t m k c=>match C.tt t,aP C st t m,aP C st 0 k with
  |.map _ _ ty,.av (.aq l),.av (.aq (.d (.str n)))=>match mapOf st l with
   |some ⟨u,es⟩=>bif decide (u=ty) then(match si u (cU es n) with
    |some d=>.ok (bif c then .ju [.aq (.d d),.aq (.d (.bool (cU es n).isSome))] else one d)
    |none=>.fail) else .fail
   |none=>match ty,oU st l,D.dst with
    |.strs,some (o,s,es),some d=>bif c||o.beq d then .fail else .ew (pS es n) (fun _=>b0 (.own d (aU st d))) fun r=>[(o,.ey s r.1),(d,.row (aU st d) .str r.2)]
    |_,_,_=>.fail
  |_,_,_=>.fail
 |.makeInterface t x=>match C.tt t,aP C st t x with
  |.struct _ _ _ _,.av (.agg [.d (.int .i64 n)])=>.ok (one (.err t (some n)))
  |_,_=>.fail
 |_=>.fail
where
 rS (C:Ctx) (st:ae) (t:TypeId) (m k x:Operand):dk:=match C.tt t,aP C st t m,aP C st 0 k,aP C st 0 x with
  |.map _ _ ty,.av (.aq (.own o s)),.av (.aq (.d (.str n))),.av (.aq (.d d))=>match st.O o with
   |some (.map ap u es)=>bif ap.beq s&&decide (u=ty) then(match EK u d with
    |some v=>.e' (b0 (.cL undef)) [(o,.map s u (c3 es n v))]
    |none=>.fail) else .fail
   |_=>.fail
  |.map _ _ .strs,.av (.aq (.own o s)),.av (.aq (.d (.str n))),.av (.aq (.own F u))=>match st.O o,st.O F with
   |some (.ey ap es),some (.row bS .str ys)=>bif ap.beq s&&bS.beq u then .e' (b0 (.cL undef)) [(F,.dead u),(o,.ey s (c3 es n (some ys)))] else .fail
   |_,_=>.fail
  |_,_,_,_=>.fail
def step(C:Ctx)(st:ae)(D:Oper):dk:=
 match D.op with
 |.move x|.assign x=>.ok (aP C st D.type x)
 |.pick c a b=>match aP C st D.type c with
  |.av (.aq (.d (.bool true)))=>.ok (aP C st D.type a)
  |.av (.aq (.d (.bool false)))=>.ok (aP C st D.type b)
  |_=>.fail
 |.alloc elem=>match D.dst,C.tt elem with
  |some o,.arr _ t n=>r0 o st t n
  |some o,ti=>match ti.zero with
   |some z=>.e' (b0 (.ptr o (aU st o) 0)) [(o,.box (aU st o) (bif elem.beq qJ then uw z else z))]
   |none=>.fail
  |_,_=>.fail
 |.box elem x=>match D.dst,C.tt elem with
  |some o,.arr _ t n=>sF o st t n (aP C st elem x)
  |some o,_=>match mg (aP C st elem x) with
   |some a=>bif gR a.cells then .e' (b0 (.ptr o (aU st o) 0)) [(o,.box (aU st o) a.cells)] else .fail
   |none=>.fail
  |_,_=>.fail
 |.build t parts=>match C.tt t with
  |.struct bR _ z _=>mS C st bR z parts.toList
  |.arr _ ty n=>match sG ty with
   |some z=>mS C st ((List.range n).map fun j=>(j,1)) (List.replicate n z) parts.toList
   |none=>.fail
  |_=>.fail
 |.buildSlice t len parts=>match D.dst,C.tt t with
  |some o,.slice e ty _=>bif parts.toList.length.beq len&&oP 0 parts.toList&&Nat.ble (len*ax ty) 1000 then
    match mW (parts.toList.map fun p=>aP C st e p.2) with
    |some as=>match bif C.ek&&ty.hJ then mO ty st as else none with
     |some (xs,us)=>bif e4 (keys us)&&(look us o).isNone then .e' (b0 (.own o (aU st o))) (us++[(o,.deep (aU st o) ty xs)]) else .fail
     |none=>match lu ty st as with
      |some (xs,us)=>.e' (b0 (.own o (aU st o))) (us++[(o,.row (aU st o) ty xs)])
      |none=>.fail
    |none=>.fail
   else .fail
  |_,_=>.fail
 |.load t a=>match C.tt t with
  |.arr _ ty n=>sa st ty n (aP C st t a)
  |ti=>bif ti.known then r' ti.agg ti.size st (aP C st t a) else .fail
 |.store t a x=>match mg (aP C st t x) with
  |some v=>match C.tt t with
   |.arr _ ty n=>rI st ty n (aP C st t a) v
   |ti=>bif ti.known then rH ti.size st (aP C st t a) v else .fail
  |none=>.fail
 |.nilCheck x=>match aP C st D.type x with
  |.av (.aq (.ptr o s f))=>.ok (b0 (.ptr o s f))
  |.av (.aq (.e8 cs f))=>.ok (b0 (.e8 cs f))
  |.av (.aq (.eI o s t k f))=>.ok (b0 (.eI o s t k f))
  |_=>.fail
 |.binOp op t x y _=>bif yS y then D_ op (C.tt t) (aP C st t x) else Fm op (C.tt t) (aP C st t x) (aP C st t y)
 |.unOp op _ x=>match op,aP C st D.type x with
  |.not,.av (.aq (.d (.bool b)))=>.ok (one (.bool (!b)))
  |.neg,.av (.aq (.d (.int k n)))=>.ok (one (.int k (k.wrap (0-n))))
  |.xor,.av (.aq (.d (.int k n)))=>.ok (one (.int k (mY k (if k.signed then-1 else k.max) n)))
  |_,_=>.fail
 |.convert src dst x=>(match D.dst with|some o=>sg C src dst o st (aP C st src x)|none=>.fail)
 |.makeFunc fn first captured=>match fn with
  |.func g=>bif first.toList.isEmpty then(match nV C st captured.toList with|some bG=>.ok (b0 (.clo g bG))|none=>.fail) else .fail
  |_=>.fail
 |.makeSlice t l c=>match D.dst,C.tt t,aP C st 0 l,aP C st 0 c with
  |some o,.slice e ty bytes,.av (.aq (.d (.int _ n))),.av (.aq (.d (.int _ m)))=>match(C.tt e).zero with
   |some z=>qh C.ek bytes o st ty n m z
   |none=>.fail
  |_,_,_,_=>.fail
 |.slice t x cl am AR=>match AR with
  |none=>match C.tt t with
   |.arr _ ty n=>rN st ty n (aP C st t x) (cl.map (aP C st 0)) (am.map (aP C st 0))
   |ti=>bif rT st (aP C st t x) then(match D.dst with
    |some d=>rM ti d st (aP C st t x) (cl.map (aP C st 0)) (am.map (aP C st 0))
    |none=>.fail) else rL ti st (aP C st t x) (cl.map (aP C st 0)) (am.map (aP C st 0))
  |some _=>.fail
 |.fieldAddr s x f=>match C.tt s with
  |.struct bR _ _ _=>match bR[f]? with
   |some (off,_)=>Bp off (aP C st 0 x)
   |none=>.fail
  |_=>.fail
 |.indexAddr t x i=>match C.tt t,aP C st 0 i with
  |.slice _ ty _,.av (.aq (.d (.int _ n)))=>q' ty st (aP C st t x) n
  |.arr _ ty m,.av (.aq (.d (.int _ n)))=>ra C st ty m (aP C st t x) n
  |_,_=>.fail
 |.index t x i=>match C.tt t,aP C st t x,aP C st 0 i with
  |.str,.av (.aq (.d (.str s))),.av (.aq (.d (.int _ n)))=>.eA (bd s n) fun b=>one (.int .u8 b.toNat)
  |.arr _ ty m,v,.av (.aq (.d (.int _ n)))=>D4 ty m v n
  |_,_,_=>.fail
 |.extract t i=>match aP C st 0 t with
  |.ju as=>match as[i]? with
   |some a=>.ok (.av a)
   |none=>.fail
  |_=>.fail
 |.call c=>match c.callee with
  |.value f=>match D.dst with
   |some d=>lT C d st (aP C st 0 f) (gK C st c.args.toList c.argTypes.toList)
   |none=>lT C 0 st (aP C st 0 f) (gK C st c.args.toList c.argTypes.toList)
  |.builtin b=>match b,D.dst,c.args.toList,c.argTypes.toList with
   |.len,_,[x],[t]=>ss (C.tt t) st (aP C st t x)
   |.append,some o,[s,x],[t,u]=>match C.tt t,C.tt u with
    |.slice _ ty bytes,.slice _ _ _=>bif uf st (aP C st u x) then rF bytes ty o st (aP C st t s) (aP C st u x) else rD bytes ty o st (aP C st t s) (aP C st u x)
    |.slice _ ty bytes,.str=>rE bytes ty o st (aP C st t s) (aP C st u x)
    |_,_=>.fail
   |.max,_,[x,y],_=>match aP C st D.type x,aP C st D.type y with
    |.av (.aq (.d (.int k a))),.av (.aq (.d (.int _ b)))=>.ok (one (.int k (hp a b)))
    |_,_=>.fail
   |.max,_,[x,y,z,u,v],_=>match aP C st D.type x,aP C st D.type y,aP C st D.type z,aP C st D.type u,aP C st D.type v with
    |.av (.aq (.d (.int k a))),.av (.aq (.d (.int _ b))),.av (.aq (.d (.int _ c))),.av (.aq (.d (.int _ d))),.av (.aq (.d (.int _ e)))=>.ok (one (.int k (hp (hp (hp (hp a b) c) d) e)))
    |_,_,_,_,_=>.fail
   |.min,_,[x,y],_=>match aP C st D.type x,aP C st D.type y with
    |.av (.aq (.d (.int k a))),.av (.aq (.d (.int _ b)))=>.ok (one (.int k (zK a b)))
    |_,_=>.fail
   |_,_,_,_=>.fail
  |_=>.fail
 |_=>la C st D
where
 mS (C:Ctx) (st:ae) (bR:List (Nat×Nat)):List ay->List (Nat×Operand)->dk
  |z,[]=>.ok (.av (.agg z))
  |z,(i,x)::r=>match bR[i]?,mg (aP C st 0 x) with
   |some (off,n),some a=>bif a.cells.length.beq n&&gR a.cells&&Nat.ble (off+n) z.length then mS C st bR (cg z off a.cells) r else .fail
   |_,_=>.fail
 nV (C:Ctx) (st:ae):List Operand->Option (List (Nat×Nat))
  |[]=>some []
  |x::r=>match aP C st 0 x,nV C st r with
   |.av (.aq (.ptr o s 0)),some l=>some ((o,s)::l)
   |_,_=>none
def DV(C:Ctx)(st:ae)(D:Oper):Option (((t:aG)×List (den t))×Bool):=
 match D.op with
 |.binOp op T x (.const (.slice none 0 0)) _=>match C.tt T with
  |.slice _ _ _=>match op with
   |.eql=>match aP C st T x with
    |.av (.aq (.d (.sl t xs)))=>some (⟨t,xs⟩,false)
    |_=>none
   |.neq=>match aP C st T x with
    |.av (.aq (.d (.sl t xs)))=>some (⟨t,xs⟩,true)
    |_=>none
   |_=>none
  |_=>none
 |_=>none
def ay.names:ay->List Nat
 |.own o _|.ptr o _ _|.eI o _ _ _ _=>[o]
 |.clo _ bG=>keys bG
 |_=>[]
def cR:List ay->List Nat
 |[]=>[]
 |l::U=>l.names++cR U
def oI:List bF->List Nat
 |[]=>[]
 |a::as=>cR a.cells++oI as
def aL.names:aL->List Nat
 |.av a=>cR a.cells
 |.ju as=>oI as
def wJ(st:ae)(o:Nat):List Nat:=match st.O o with
 |some (.box _ cells)=>cR cells
 |_=>[]
def eK(st:ae):List Nat->List Nat
 |[]=>[]
 |o::r=>o::(wJ st o++eK st r)
def ll:Op->List Operand
 |.move x|.assign x|.makeInterface _ x|.box _ x|.load _ x|.nilCheck x|.unOp _ _ x|.convert _ _ x|.fieldAddr _ x _|.extract x _=>[x]
 |.pick c a b=>[c,a,b]
 |.build _ ps|.buildSlice _ _ ps=>ps.toList.map (·.2)
 |.store _ a v|.binOp _ _ a v _|.makeSlice _ a v|.indexAddr _ a v|.index _ a v=>[a,v]
 |.makeFunc _ _ captured=>captured.toList
 |.slice _ x l h _=>x::(l.toList++h.toList)
 |.call c=>(match c.callee with|.value f=>[f]|_=>[])++c.args.toList
 |.lookup _ m k _=>[m,k]
 |.mapUpdate _ m k x|.insert _ m k x=>[m,k,x]
 |.makeMap _ r=>r.toList
 |_=>[]
def nI(st:ae):List Operand->List Nat
 |[]=>[]
 |.tmp t::r=>(st.get t).names++nI st r
 |_::r=>nI st r
def oN:List Operand->List Nat
 |[]=>[]
 |.tmp t::r=>t::oN r
 |_::r=>oN r
def yT:Op->Bool
 |.call c=>match c.callee with
  |.value _=>true
  |_=>false
 |_=>false
def Ej(C:Ctx):Op->List Nat
 |.makeSlice t _ _=>match C.tt t with
  |.slice e _ _=>match(C.tt e).zero with
   |some z=>cR z
   |none=>[]
  |_=>[]
 |_=>[]
def looks:Op->Bool
 |.load _ _|.store _ _ _|.slice _ _ _ _ _|.indexAddr _ _ _|.convert _ _ _|.buildSlice _ _ _|.call _|.lookup _ _ _ _|.mapUpdate _ _ _ _|.insert _ _ _ _=>true
 |_=>false
def Ev(C:Ctx)(st:ae)(D:Oper):List Nat:=(bif looks D.op then eK st (nI st (ll D.op)) else [])++D.dst.toList++Ej C D.op
def Kl(u:Nat):List Oper->List Nat
 |[]=>[]
 |D::r=>(match D.op,D.dst with
  |.move (.tmp t),some d=>bif Nat.beq d u then [t] else []
  |_,_=>[])++Kl u r
def B3(all:List Oper):List Oper->List Nat
 |[]=>[]
 |D::r=>(match D.op with
  |.slice _ (.tmp u) _ _ _=>u::Kl u all
  |_=>[])++B3 all r
def NS(st:ae)(t:Nat):List (Nat×Site):=match st.get t with
 |.av (.aq (.own o s))=>match st.O o with
  |some (.row ap t xs)=>bif ap.beq s then [(o,.c' ap t xs)] else []
  |_=>[]
 |_=>[]
def y2(st:ae):List Nat->List (Nat×Site)
 |[]=>[]
 |t::r=>NS st t++y2 st r
def ae.h4(st:ae):List (Nat×Site)->ae
 |[]=>st
 |(o,s)::r=>(st.df o s).h4 r
def ae.cS(st:ae)(dst:Option Nat)(v:aL)(us:List (Nat×Site)):ae:=
 match dst with
 |some t=>(st.h4 us).set t v
 |none=>st.h4 us
def ca(st:ae):Option Nat->Bool
 |some t=>Nat.blt t st.bl
 |none=>true
abbrev yu:aL:=b0 (.cL undef)
section
variable {R:Type}
open Classical in
noncomputable def tE{t:aG}(xs:List (den t))(a b:Option R):Option R:=if xs=[]->a=b then b else none
def kz(C:Ctx)(st:ae)(D:Oper)(K:ae->Option R):Option R:=
 bif ca st D.dst then(step C st D).comp.bind fun y=>bif(step C st D).qL y then K (st.cS D.dst ((step C st D).val y) ((step C st D).us y)) else none else none
noncomputable def uy(C:Ctx)(st:ae)(D:Oper)(K:ae->Option R):Option R:=
 match DV C st D with
 |some (⟨t,xs⟩,neg)=>bif ca st D.dst then tE xs (K (st.cS D.dst (one (.bool (!neg))) [])) (K (st.cS D.dst (one (.bool neg)) [])) else none
 |none=>kz C st D K
def rO(st:ae)(D:Oper)(K:ae->Option R):Option R:=
 bif ca st D.dst then K (st.cS D.dst yu []) else none
noncomputable def tW(C:Ctx)(ops:Array Oper)(st:ae)(D:Oper)(K:ae->Option R):Option R:=
 match D.guard with
 |none=>uy C st D K
 |some (j,want)=>match(ops[j]?).bind (·.dst) with
  |some t=>match st.get t with
   |.av (.aq (.d (.bool b)))=>bif(bif want then b else !b) then uy C (st.set t (one (.bool want))) D K else rO (st.set t (one (.bool (!want)))) D K
   |.av (.aq (.cL (.tuple _)))=>rO st D K
   |_=>none
  |none=>none
structure qd:Type 1 where
 o:Nat
 s:Nat
 t:aG
 xs:List (den t)
 k:Nat
 off:Nat
 S:bg
 i:IntKind
 n:Int
 d1:Nat
 ek:Nat
 v:aL
def ae.n1(st:ae)(q:qd):ae:=(st.set q.d1 (b0 .any)).set q.ek q.v
def ue(C:Ctx)(st:ae)(D:Oper):Option (Nat×aL):=match D.op,D.dst,D.guard with
 |.move x,some ek,none=>bif Nat.blt ek st.bl then some (ek,aP C st D.type x) else none
 |_,_,_=>none
def r6(C:Ctx)(st:ae)(o1 gM o2:Oper):Option qd:=
 match o1.op,o1.dst,o1.guard,o2.op,o2.guard with
 |.load T a,some d1,none,.call c,none=>match aP C st T a with
  |.av (.aq (.eI o s u k off))=>match st.O o,c.callee,c.args.toList with
   |some (.deep ap t xs),.value (.func g),[.tmp d2,x]=>match ue C (st.set d1 (b0 .any)) gM with
    |some (ek,v)=>match C.tt T,aP C ((st.set d1 (b0 .any)).set ek v) 0 x,C.bR g with
     |.slice _ _ _,.av (.aq (.d (.int i n))),some S=>bif d2.beq d1&&ap.beq s&&decide (t=u)&&Nat.blt d1 st.bl&&!ek.beq d1 then some ⟨o,ap,t,xs,k,off,S,i,n,d1,ek,v⟩ else none
     |_,_,_=>none
    |none=>none
   |_,_,_=>none
  |_=>none
 |_,_,_,_,_=>none
def Ny(st:ae)(o2:Oper)(q:qd)(x:den q.t)(K:ae->Option R):List bF->List (List ay)->List ay->Option R
 |[.aq (.d d)],[],[.fresh bS m7]=>match dec q.t (cg (enc q.t x) q.off [.sl bS m7]) with
  |some dn=>bif d.hM&&!bS.hJ&&ca st o2.dst then K ((st.n1 q).cS o2.dst (one d) [(q.o,.deep q.s q.t (q.xs.set q.k dn))]) else none
  |none=>none
 |_,_,_=>none
def Lb(st:ae)(o2:Oper)(q:qd)(K:ae->Option R):Option R:=
 (q.xs[q.k]?).bind fun x=>match(enc q.t x)[q.off]? with
  |some (.sl u ys)=>(q.S [.av (.aq (.fresh u ys)),.av (.aq (.d (.int q.i q.n)))]).comp.bind fun y=>
    Ny st o2 q x K ((q.S [.av (.aq (.fresh u ys)),.av (.aq (.d (.int q.i q.n)))]).e_ y) ((q.S [.av (.aq (.fresh u ys)),.av (.aq (.d (.int q.i q.n)))]).dZ y) ((q.S [.av (.aq (.fresh u ys)),.av (.aq (.d (.int q.i q.n)))]).eP y)
  |_=>none
noncomputable def mP(C:Ctx)(ops:Array Oper):List Oper->ae->(ae->Option R)->Option R
 |[],st,K=>K st
 |[D],st,K=>tW C ops st D K
 |[D,o2],st,K=>tW C ops st D fun ad=>mP C ops [o2] ad K
 |D::gM::o2::r,st,K=>match r6 C st D gM o2 with
  |some q=>Lb st o2 q fun ad=>mP C ops r ad K
  |none=>tW C ops st D fun ad=>mP C ops (gM::o2::r) ad K
structure Rec where
 D:Oper
 go:Bool
 v:aL
 us:List (Nat×Site)
 kZ:List Nat
 rn:List Nat
 AK:Bool
def un:List Nat->Bool
 |[]=>false
 |n::r=>Nat.ble 1000000 n||un r
def sr(d:Option Nat)(l:List Nat):Bool:=match d with|some d=>fX d l|none=>false
def l'(a b:Rec):Bool:=
 sr a.D.dst b.kZ||sr a.D.dst b.D.dst.toList||sr b.D.dst a.kZ||
 !fq (keys a.us) (b.rn++keys b.us)||!fq (keys b.us) a.rn||(a.AK&&un (keys b.us))||(b.AK&&un (keys a.us))
def kG(bs:List (Nat×Nat)):List Edge->Nat
 |[]=>0
 |e::r=>bif Region.binds .any e then(match look bs e.on with|some x=>Nat.lor (Nat.pow 2 e.on) (Nat.lor x (kG bs r))|none=>kG bs r) else kG bs r
def rC(i:Nat):List Edge->Bool
 |[]=>true
 |e::r=>(!Region.binds .any e||Nat.blt e.on i)&&rC i r
def rR(vU:Nat)(x:Rec):List (Nat×Rec)->Bool
 |[]=>true
 |(j,y)::r=>(Nat.testBit vU j||!l' y x)&&rR vU x r
def Lt(i:Nat):List Oper->Bool
 |[]=>false
 |D::r=>(match D.guard with|some (j,_)=>Nat.beq i j|none=>false)||Lt i r
def EX(g:Bool)(v:aL)(K:aL->Option R):Option R:=
 bif g then(match v with
  |.av (.aq (.d (.bool b)))=>bif b then K (one (.bool true)) else K (one (.bool false))
  |v=>K v) else K v
def yn(C:Ctx)(g:Bool)(st:ae)(D:Oper)(gs:List Nat)(K:Rec->Option R):Option R:=
 (step C st D).comp.bind fun y=>bif(step C st D).qL y then EX g ((step C st D).val y) fun v=>
  K ⟨D,true,v,(step C st D).us y,gs++oN (ll D.op),Ev C st D,yT D.op⟩ else none
def Co(D:Oper)(gs:List Nat)(K:Rec->Option R):Option R:=K ⟨D,false,yu,[],gs,[],false⟩
def Ea(C:Ctx)(ops:Array Oper)(g:Bool)(st:ae)(D:Oper)(K:Rec->Option R):Option R:=
 match D.guard with
 |none=>yn C g st D [] K
 |some (j,want)=>match(ops[j]?).bind (·.dst) with
  |some t=>match st.get t with
   |.av (.aq (.d (.bool b)))=>bif(bif want then b else !b) then yn C g st D [t] K else Co D [t] K
   |.av (.aq (.cL (.tuple _)))=>Co D [t] K
   |_=>none
  |none=>none
def ze(C:Ctx)(ops:Array Oper):List Oper->Nat->List (Nat×Rec)->List (Nat×Nat)->ae->(ae->Option R)->Option R
 |[],_,_,_,st,K=>K st
 |D::r,i,cH,bs,st,K=>bif ca st D.dst&&rC i D.after.toList then Ea C ops (Lt i r) st D fun x=>
   bif rR (kG bs D.after.toList) x cH then ze C ops r (i+1) ((i,x)::cH) ((i,kG bs D.after.toList)::bs) (st.cS D.dst x.v x.us) K else none
  else none
def LI(C:Ctx)(ops:Array Oper)(st:ae)(K:ae->Option R):Option R:=ze C ops ops.toList 0 [] [] (st.h4 (y2 st (B3 ops.toList ops.toList))) K
inductive Out:Type where
 |norm (st:ae)
 |exit (id:Nat) (st:ae)
 |ret (st:ae)
structure aea:Type 1 where
 G:Type
 comp:Option G
 out:G->Out
 run:(R:Type)->G->(Out->Option R)->Option R
 run_eq:∀(R:Type) (y:G) (K:Out->Option R),run R y K=K (out y)
abbrev hC:=ae->aea
structure h7:Type 1 extends Ctx where
 n':Nat->Option hC
def wrap(C:h7)(p:Nat)(st:ae)(K:Out->Option R)(x:Option R):Option R:=
 match C.n' p with
 |some f=>(f st).comp.bind fun y=>(f st).run R y K
 |none=>x
noncomputable def exec(C:h7):Code->Nat->ae->(Out->Option R)->Option R
 |.skip,_,st,K=>K (.norm st)
 |.region _ ops false,p,st,K=>wrap C p st K (mP C.toCtx ops ops.toList st fun ad=>K (.norm ad))
 |.region _ ops true,p,st,K=>wrap C p st K (LI C.toCtx ops st fun ad=>K (.norm ad))
 |.seq a b,p,st,K=>wrap C p st K (exec C a (2*p) st fun
  |.norm ad=>exec C b (2*p+1) ad K
  |D=>K D)
 |.cond c a b,p,st,K=>wrap C p st K (match aP C.toCtx st 0 c with
  |.av (.aq (.d (.bool t)))=>bif t then exec C a (2*p) st K else exec C b (2*p+1) st K
  |_=>none)
 |.block id c,p,st,K=>wrap C p st K (exec C c (2*p) st fun
  |.exit iZ ad=>bif iZ.beq id then K (.norm ad) else K (.exit iZ ad)
  |D=>K D)
 |.loop _,p,st,K=>wrap C p st K none
 |.rangeFunc _ _ _ _,p,st,K=>wrap C p st K none
 |.exit id,_,st,K=>K (.exit id st)
 |.ret,_,st,K=>K (.ret st)
 |_,_,_,_=>none
end
section
variable {B az:Nat->Value}{sites bi:List (Nat×Site)}{w w':World}{av bP:Nat->Prop}
structure ht(B az:Nat->Value)(sites bi:List (Nat×Site))(w w':World)(av bP:Nat->Prop):Prop where
 ref:∀o O,look sites o=some O->∃bw,look bi o=some bw/\O.b2<=bw.b2/\(bw.b2=O.b2->bO (az o)=bO (B o))
 ba:∀b,¬av b->b<w.heap.size->w'.heap[b]? =w.heap[b]?
 av:∀b,¬av b->b<w.heap.size->¬bP b
theorem Rd.goes{d:aR}{v:Value}(bN:ht B az sites bi w w' av bP)(H:w.heap.size<=w'.heap.size)(ajW:∀b,bP b->b<w'.heap.size)(r:Rd w av d v):Rd w' bP d v:=by
 induction r with
 |int k n=>exact .int k n
 |bool b=>exact .bool b
 |str l s h=>exact .str l s h
 |nil t=>exact .nil t
 |sl t xs a cap cs n hn hcap hb hl hc _ ih=>
  have key:xs≠[]->a.block<w.heap.size:=by
   intro cE;have n5:0<cs.length:=by
    rw[hl,dM];exact Nat.mul_pos (List.length_pos_iff.mpr cE) (jh t)
   have:=hc 0 (cs[0]) (List.getElem?_eq_getElem n5);have h2:=World.block_lt_of_cell? w _ this;have fL:(a.add 0).block=a.block:=by unfold Addr.add;split<;>rfl
   rwa[fL] at h2
  refine .sl t xs a cap cs n hn hcap (fun hx=>bN.av _ (hb hx) (key hx)) hl (fun j u hu=>?_) ih
  have iQ:=hc j u hu;have cE:xs≠[]:=by
   rintro rfl;have:cs=[]:=List.eq_nil_of_length_eq_zero (by simpa[flat] using hl)
   subst this;simp at hu
  have fL:(a.add j).block=a.block:=by unfold Addr.add;split<;>rfl
  rw[World.cell?_of_block (w:=w) (a:=a.add j) (by rw[fL];exact bN.ba _ (hb cE) (key cE))]
  exact iQ
 |fn g bG bs je pD Ax gY hb bb hl hc _ ih=>
  refine .fn g bG bs je pD Ax gY (fun b hm=>bN.av b (hb b hm) (bb b hm)) (fun b hm=>Nat.lt_of_lt_of_le (bb b hm) H) hl (fun i am j u hu=>?_) ih
  have iQ:=hc i am j u hu;have hm:bs[i]∈bs:=List.getElem_mem am;rw[World.cell?_of_block (w:=w) (a:=⟨bs[i],j,none⟩) (bN.ba _ (hb _ hm) (bb _ hm))];exact iQ
 |qi t=>exact .qi t
 |ql T=>exact .ql T
 |err T n=>exact .err T n
 |map t es b aC hb hm=>exact .map t es b aC (bN.av b hb hm.lt) (hm.of (bN.ba b hb hm.lt))
 |maps es b arr clock ps hb hm ak hn hl _ ih=>have bb:=(Array.getElem?_eq_some_iff.1 hm).1;exact .maps es b arr clock ps (bN.av b hb bb) ((bN.ba b hb bb).trans hm) ak hn hl ih
theorem Ref.goes{o s:Nat}{p jV:Prop}(bN:ht B az sites bi w w' av bP)(h:Ref sites o s p)(ai:bO (az o)=bO (B o)->p->jV):Ref bi o s jV:=by
 obtain⟨O,h1,h2,aa⟩:=h;obtain⟨bw,g1,g2,g3⟩:=bN.ref o O h1;refine⟨bw,g1,Nat.le_trans h2 g2,fun e=>?_⟩
 have:bw.b2=O.b2:=by omega
 exact ai (g3 this) (aa (by omega))
theorem dv.goes{l:ay}{v:Value}(bN:ht B az sites bi w w' av bP)(H:w.heap.size<=w'.heap.size)(b5:∀b,bP b->b<w'.heap.size)(h:dv B sites w av l v):dv az bi w' bP l v:=by
 cases l with
 |d x=>exact Rd.goes bN H b5 h
 |nil t=>exact h
 |own o s=>exact⟨h.1,Ref.goes bN h.2 (fun e p=>by rw[e];exact p)⟩
 |ptr o s off=>obtain⟨b,h1,h2⟩:=h;exact⟨b,h1,Ref.goes bN h2 (fun e p=>by rw[e];exact p)⟩
 |e8 cells off=>
  obtain⟨b,D,ab,hb,bb,cs,hl,hc,hr⟩:=h;refine⟨b,D,ab,bN.av b hb bb,Nat.lt_of_lt_of_le bb H,cs,hl,fun j u hu=>?_,fun j h1 h2=>(hr j h1 h2).goes bN H b5⟩
  have iQ:=hc j u hu;rw[World.cell?_of_block (w:=w) (a:=⟨b,D+j,none⟩) (bN.ba b hb bb)];exact iQ
 |eI o s t k off=>obtain⟨b,D,h1,h2⟩:=h;exact⟨b,D,h1,Ref.goes bN h2 (fun e p=>by rw[e];exact p)⟩
 |clo g bG=>
  obtain⟨vs,ab,hl,hr⟩:=h;exact⟨vs,ab,hl,fun i h1 h2=>Ref.goes bN (hr i h1 h2) (fun e p=>p.trans e.symm)⟩
 |cL u=>exact h
 |fresh t xs=>exact h
 |iq t xs=>exact h
 |eN=>trivial
 |any=>trivial
theorem gE.goes{a:bF}{v:Value}(bN:ht B az sites bi w w' av bP)(H:w.heap.size<=w'.heap.size)(b5:∀b,bP b->b<w'.heap.size)(h:gE B sites w av a v):gE az bi w' bP a v:=by
 cases a with
 |aq l=>exact dv.goes bN H b5 h
 |agg U=>
  obtain⟨vs,ab,hl,hr⟩:=h;exact⟨vs,ab,hl,fun j h1 h2=>(hr j h1 h2).goes bN H b5⟩
theorem cc.goes{a:aL}{v:Value}(bN:ht B az sites bi w w' av bP)(H:w.heap.size<=w'.heap.size)(b5:∀b,bP b->b<w'.heap.size)(h:cc B sites w av a v):cc az bi w' bP a v:=by
 cases a with
 |av a=>exact gE.goes bN H b5 h
 |ju as=>
  obtain⟨vs,ab,hl,hr⟩:=h;exact⟨vs,ab,hl,fun j h1 h2=>(hr j h1 h2).goes bN H b5⟩
theorem cp.goes{ds:List aR}{vs:List Value}(bN:ht B az sites bi w w' av bP)(H:w.heap.size<=w'.heap.size)(b5:∀b,bP b->b<w'.heap.size)(h:cp w av ds vs):cp w' bP ds vs:=
 ⟨h.1,fun j h1 h2=>(h.2 j h1 h2).goes bN H b5⟩
theorem Deep.goes{ds:List aR}{cs ao:List Value}(bN:ht B az sites bi w w' av bP)(H:w.heap.size<=w'.heap.size)(b5:∀b,bP b->b<w'.heap.size)(h:Deep w av ds cs ao):
  (∀n,n∈ao->∀b,Jk.ba n=some b->w'.heap[b]? =w.heap[b]?)->Deep w' bP ds cs ao:=by
 induction h with
 |nil=>intro _;exact .nil
 |row u ys e U ai h hr _ ih=>intro ak;exact .row u ys e U ai (nD h (ak _ List.mem_cons_self)) (hr.goes bN H b5) (ih fun n hn=>ak n (List.mem_cons_of_mem _ hn))
 |leaf ai h _ ih=>intro ak;exact .leaf ai (h.goes bN H b5) (ih ak)
theorem fM.goes{ps:List (E×Value)}{es:List (E×Option (List E))}{ao:List Value}(bN:ht B az sites bi w w' av bP)(H:w.heap.size<=w'.heap.size)(b5:∀b,bP b->b<w'.heap.size)(h:fM w av ps es ao):
  (∀n,n∈ao->∀b,Jk.ba n=some b->w'.heap[b]? =w.heap[b]?)->fM w' bP ps es ao:=by
 induction h with
 |nil=>intro _;exact .nil
 |lr k v _ ih=>intro ak;exact .lr k v (ih ak)
 |row k v xs e U h hr _ ih=>intro ak;exact .row k v xs e U (nD h (ak _ List.mem_cons_self)) (hr.goes bN H b5) (ih fun n hn=>ak n (List.mem_cons_of_mem _ hn))
theorem Uh{w w':World}{e:TypeId}{size:Nat}{v:Value}{n:Nat}{xs:List Value}(h:nP w e size v n xs)(hb:∀b,Jk.ba v=some b->w'.heap[b]? =w.heap[b]?):nP w' e size v n xs:=by
 refine⟨h.1,?_⟩;rcases h.2 with hn|⟨g,D,cap,cur,ab,b',dy⟩
 ·exact .inl hn
 ·refine .inr ⟨g,D,cap,cur,ab,?_,dy⟩;rw[hb g (by rw[ab];rfl)];exact b'
theorem hW.goes{o:Nat}{O:Site}(bN:ht B az sites bi w w' av bP)(H:w.heap.size<=w'.heap.size)(b5:∀b,bP b->b<w'.heap.size)(bH:az o=B o)
  (hb:O.live=true->∀b,b∈Jk.bf (B o)->w'.heap[b]? =w.heap[b]?) (h:hW B sites w av o O):hW az bi w' bP o O:=by
 cases O with
 |box s cells=>
  obtain⟨b,T,cur,h1,h2,aa,aN,Gs,bn⟩:=h;have:=hb rfl b (fS (by rw[h1];rfl))
  exact⟨b,T,cur,bH.trans h1,this.trans h2,aa,aN,Gs,fun j g1 g2=>(bn j g1 g2).goes bN H b5⟩
 |row s t xs=>
  obtain⟨e,cs,h1,h2⟩:=h;refine⟨e,cs,?_,fun j g1 g2=>(h2 j g1 g2).goes bN H b5⟩
  rw[bH];exact nD h1 fun b ck=>hb rfl b (fS ck)
 |c' s t xs=>exact⟨by rw[bH];exact Rd.goes bN H b5 h.1,by rw[bH];exact h.2⟩
 |map s t es=>
  obtain⟨b,h1,h2⟩:=h;exact⟨b,bH.trans h1,h2.of (hb rfl b (fS (by rw[h1];rfl)))⟩
 |deep s t xs=>
  obtain⟨e,v,ao,cs,h1,h2,aa,aN⟩:=h;have ak:∀b,ba v=some b\/(∃n,n∈ao/\ba n=some b)->w'.heap[b]? =w.heap[b]? :=fun b h=>hb rfl b (by rw[h1];exact hH.2 h)
  exact⟨e,v,ao,cs,bH.trans h1,by rw[bH];exact h2,nD aa fun b h=>ak b (.inl h),aN.goes bN H b5 fun n hn b h=>ak b (.inr ⟨n,hn,h⟩)⟩
 |ey s es=>
  obtain⟨b,arr,clock,ao,h1,h2,aa,ps,bn,aN⟩:=h;have ak:∀a',ba (.map (some b))=some a'\/(∃n,n∈ao/\ba n=some a')->w'.heap[a']? =w.heap[a']? :=fun b h=>hb rfl b (by rw[h1];exact hH.2 h)
  exact⟨b,arr,clock,ao,bH.trans h1,by rw[bH];exact h2,(ak b (.inl rfl)).trans aa,ps,bn,aN.goes bN H b5 fun n hn b h=>ak b (.inr ⟨n,hn,h⟩)⟩
 |tail s t xs=>
  obtain⟨a8,e,cs,h1,h2⟩:=h;refine⟨a8,e,cs,?_,h2.goes bN H b5⟩;rw[bH];exact Uh h1 fun b ck=>hb rfl b (fS ck)
 |dead s=>trivial
end
theorem ag.nY{M:World}{J:List Nat}{X:Nat->Prop}{B az:Nat->Value}{st:ae}{bi:List (Nat×Site)}{tm:Array Value}{w w':World}
  (S:ag M J X B st tm w)
  (qj:∀o O,look st.sites o=some O->∃bw,look bi o=some bw/\O.b2<=bw.b2/\(bw.b2=O.b2->bO (az o)=bO (B o)))
  (fL:∀b,¬au X B st.sites b->b<w.heap.size->w'.heap[b]? =w.heap[b]?)
  (b5:∀b,¬au X B st.sites b->b<w.heap.size->¬au X az bi b)
  (adx:(∀{a v},cc B st.sites w (au X B st.sites) a v->cc az bi w' (au X az bi) a v)->∀o bw,look bi o=some bw->
   (look st.sites o=some bw/\az o=B o/\(bw.live=true->∀b,b∈bf (B o)->w'.heap[b]? =w.heap[b]?))\/hW az bi w' (au X az bi) o bw)
  (ab3:∀o F b,bT bi o->bT bi F->b∈bf (az o)->b∈bf (az F)->o=F)
  (ab0:∀o b,bT bi o->b∈bf (az o)->¬X b/\(b∈J\/M.heap.size<=b))
  (bb:∀o b,bT bi o->b∈bf (az o)->b<w'.heap.size)
  (aay:Fr J M w') (H:w.heap.size<=w'.heap.size):
  ag M J X az {st with sites:=bi} tm w':=by
 have bN:ht B az st.sites bi w w' (au X B st.sites) (au X az bi):=⟨qj,fL,b5⟩;have u0:∀b,au X az bi b->b<w'.heap.size:=by
  rintro b (hx|⟨o,h1,h2⟩)
  ·exact Nat.lt_of_lt_of_le (S.old b hx) H
  ·exact bb o b h1 h2
 refine⟨S.bl,fun t=>(S.c4 t).goes bN H u0,fun o bw be=>?_,ab3,ab0,aay,fun b h=>Nat.lt_of_lt_of_le (S.old b h) H,S.fY⟩
 rcases adx (fun h=>h.goes bN H u0) o bw be with⟨h1,h2,aa⟩|h
 ·exact(S.sites o bw h1).goes bN H u0 h2 aa
 ·exact h
def dl(tm:Array Value)(dst:Option Nat)(v:Value):Array Value:=
 match dst with
 |some d=>tm.setIfInBounds d v
 |none=>tm
section
variable {P:Program}{K:Act->World->Prop}{Q:Exit->Act->World->Prop}{D:Oper}{tm:Array Value}{w w':World}{vv:Value}
theorem nN(h:(execOp (Act.eval ⟨tm,[]⟩) D).run P w=.ok (.value vv) w')(ak:K ⟨dl tm D.dst vv,[]⟩ w'):D.wp P ⟨tm,[]⟩ w K Q:=by
 unfold Oper.wp;rw[h,Oper.upon_value];cases Y:D.dst with
 |none=>simp only[Y,dl] at ak;simpa[Act.put] using ak
 |some d=>simp only[Y,dl] at ak;simpa[Act.put] using ak
theorem _2(h:(execOp (Act.eval ⟨tm,[]⟩) D).run P w=.ok .skip w')(ak:K ⟨dl tm D.dst undef,[]⟩ w'):D.wp P ⟨tm,[]⟩ w K Q:=by
 unfold Oper.wp;rw[h,Oper.upon_skip];cases Y:D.dst with
 |none=>simp only[Y,dl] at ak;simpa[Act.put] using ak
 |some d=>simp only[Y,dl] at ak;simpa[Act.put] using ak
end
def aZ(sites:List (Nat×Site)):List (Nat×Site)->List (Nat×Site)
 |[]=>sites
 |(o,s)::r=>aZ (cd sites o s) r
theorem ae.tM(st:ae)(us:List (Nat×Site)):st.h4 us={st with sites:=aZ st.sites us}:=by
 induction us generalizing st with
 |nil=>rfl
 |cons p us ih=>obtain⟨o,s⟩:=p;simp only[ae.h4,aZ];rw[ih];rfl
theorem iH(sites:List (Nat×Site))(us vs:List (Nat×Site)):aZ sites (us++vs)=aZ (aZ sites us) vs:=by
 induction us generalizing sites with
 |nil=>rfl
 |cons p us ih=>obtain⟨o,s⟩:=p;simp only[List.cons_append,aZ];exact ih _
section
variable {M:World}{J:List Nat}{X:Nat->Prop}{B:Nat->Value}{st:ae}{tm:Array Value}{w:World}
theorem ag.put(S:ag M J X B st tm w){t:Nat}{v:aL}{vv:Value}(aC:t<st.bl)(ab:cc B st.sites w (au X B st.sites) v vv):
  ag M J X B (st.set t v) (tm.setIfInBounds t vv) w:=by
 refine⟨by simpa using S.bl,fun u=>?_,S.sites,S.dp,S.ci,S.frame,S.old,S.fY⟩
 rw[ae.Dm];by_cases h:t=u
 ·subst h;simp only[if_true];have:(tm.setIfInBounds t vv).getD t undef=vv:=by
   have h1:t<tm.size:=by rw[S.bl];exact aC
   simp[Array.getD,h1]
  rw[this];exact ab
 ·simp only[h,if_false];have:(tm.setIfInBounds t vv).getD u undef=tm.getD u undef:=by
   simp only[Array.getD_eq_getD_getElem?,Array.getElem?_setIfInBounds,h,if_false]
  rw[this];exact S.c4 u
theorem ag.cS{dst:Option Nat}{v:aL}{vv:Value}{us:List (Nat×Site)}(S:ag M J X B {st with sites:=aZ st.sites us} tm w)
  (Y:ca st dst=true) (ab:cc B (aZ st.sites us) w (au X B (aZ st.sites us)) v vv):ag M J X B (st.cS dst v us) (dl tm dst vv) w:=by
 cases dst with
 |none=>simp only[ae.cS,ae.tM,dl];exact S
 |some t=>
  simp only[ae.cS,ae.tM,dl];have aC:t<st.bl:=by simpa[ca] using Y
  exact ag.put (st:={st with sites:=aZ st.sites us}) S aC ab
theorem cV(S:ag M J X B st tm w)(C:Ctx)(T:TypeId)(x:Operand):cc B st.sites w (au X B st.sites) (aP C st T x) (Act.eval ⟨tm,[]⟩ x):=by
 cases x with
 |tmp t=>exact S.c4 t
 |const v=>
  show cc _ _ _ _ (tZ (C.tt T) v) v;unfold tZ;split
  ·exact .int _ _
  ·exact .bool _
  ·exact .str _ _ rfl
  ·split<;>exact rfl
  ·split
   ·exact .qi _
   ·exact rfl
  ·trivial
  ·trivial
  ·exact rfl
 |global g=>exact rfl
 |func f=>
  refine⟨[],rfl,rfl,fun i h=>?_⟩
  simp at h
variable {P:Program}{C:Ctx}{D:Oper}{K:Act->World->Prop}{Q:Exit->Act->World->Prop}
def cA(P:Program)(M:World)(J:List Nat)(X:Nat->Prop)(st:ae)(tm:Array Value)(w:World)(D:Oper)(v:aL)(us:List (Nat×Site)):Prop:=
 ∀(K:Act->World->Prop) (Q:Exit->Act->World->Prop),(∀az b7 w',ag M J X az (st.cS D.dst v us) b7 w'->K ⟨b7,[]⟩ w')->D.wp P ⟨tm,[]⟩ w K Q
theorem dC(S:ag M J X B st tm w)(Y:ca st D.dst=true){v:aL}{vv:Value}
  (h:(execOp (Act.eval ⟨tm,[]⟩) D).run P w=.ok (.value vv) w) (ab:cc B st.sites w (au X B st.sites) v vv):cA P M J X st tm w D v []:=
 fun _ _ bL=>nN h (bL _ _ _ (ag.cS (us:=[]) S Y ab))
end
section
variable {P:Program}{w:World}
theorem Tb(op:BinOp)(t:TypeId)(x y:Operand)(k k':IntKind)(a b:Int):(eqGuard op t x y (.int k a) (.int k' b)).run P w=.ok () w:=by
 unfold eqGuard;cases op<;>rfl
theorem S6(op:BinOp)(t:TypeId)(x y:Operand)(a b:ByteArray):(eqGuard op t x y (.string a) (.string b)).run P w=.ok () w:=by
 unfold eqGuard;cases op<;>rfl
theorem Hg(op:BinOp)(t:TypeId)(x y:Operand)(a b:Bool):(eqGuard op t x y (.bool a) (.bool b)).run P w=.ok () w:=by
 unfold eqGuard;cases op<;>rfl
def Holds(r:dk)(dW:aL->List (Nat×Site)->Prop):Prop:=∀y,r.comp=some y->r.qL y=true->dW (r.val y) (r.us y)
theorem Holds.fail{dW:aL->List (Nat×Site)->Prop}:Holds .fail dW:=fun _ h _=>by cases h
theorem Holds.ok{v:aL}{dW:aL->List (Nat×Site)->Prop}(h:dW v []):Holds (.ok v) dW:=fun _ _ _=>h
theorem Holds.e'{v:aL}{us:List (Nat×Site)}{dW:aL->List (Nat×Site)->Prop}(h:dW v us):Holds (.e' v us) dW:=fun _ _ _=>h
theorem Holds.eA{G:Type}{c:Option G}{f:G->aL}{dW:aL->List (Nat×Site)->Prop}(h:∀y,c=some y->dW (f y) []):Holds (.eA c f) dW:=fun y an _=>h y an
theorem Holds.ew{G:Type}{c:Option G}{f:G->aL}{us:G->List (Nat×Site)}{dW:aL->List (Nat×Site)->Prop}(h:∀y,c=some y->dW (f y) (us y)):Holds (.ew c f us) dW:=fun y an _=>h y an
def Plain(P:Program)(w:World)(s:Sem Value)(v:aL)(us:List (Nat×Site)):Prop:=
 ∃vv d,s.run P w=.ok vv w/\us=[]/\v=one d/\∀av,Rd w av d vv
theorem Plain.mk{s:Sem Value}{vv:Value}{d:aR}(h:s.run P w=.ok vv w)(hr:∀av,Rd w av d vv):Plain P w s (one d) []:=⟨vv,d,h,rfl,rfl,hr⟩
theorem WE(op:BinOp)(T:TypeId)(k:IntKind)(a b:Int)(H:op≠.shl)(ed:op≠.shr):
  Holds (NE op k a b) (Plain P w (binOp op T (.int k a) (.int k b))):=by
 cases op with
 |shl=>exact absurd rfl H
 |shr=>exact absurd rfl ed
 |andNot=>exact .fail
 |quo=>
  refine Holds.eA fun y an=>?_
  unfold o8 at an;split at an
  ·cases an
  ·rename_i hb;cases an;exact .mk (by simp[binOp,Op.intDiv,hb]) fun av=>.int _ _
 |rem=>
  refine Holds.eA fun y an=>?_
  unfold lq at an;split at an
  ·cases an
  ·rename_i hb;cases an;exact .mk (by simp[binOp,Op.intDiv,hb]) fun av=>.int _ _
 |add=>exact Holds.ok (.mk (by simp[binOp,Op.intArith]) fun av=>.int _ _)
 |sub=>exact Holds.ok (.mk (by simp[binOp,Op.intArith]) fun av=>.int _ _)
 |mul=>exact Holds.ok (.mk (by simp[binOp,Op.intArith]) fun av=>.int _ _)
 |and=>exact Holds.ok (.mk (by simp[binOp,Op.intBits,PI]) fun av=>.int _ _)
 |or=>exact Holds.ok (.mk (by simp[binOp,Op.intBits,QU]) fun av=>.int _ _)
 |xor=>exact Holds.ok (.mk (by simp[binOp,Op.intBits,mY]) fun av=>.int _ _)
 |eql=>exact Holds.ok (.mk (by simp[binOp,Op.intCmp]) fun av=>.bool _)
 |neq=>exact Holds.ok (.mk (by simp[binOp,Op.intCmp]) fun av=>.bool _)
 |lss=>exact Holds.ok (.mk (by simp[binOp,Op.intCmp]) fun av=>.bool _)
 |leq=>exact Holds.ok (.mk (by simp[binOp,Op.intCmp]) fun av=>.bool _)
 |gtr=>exact Holds.ok (.mk (by simp[binOp,Op.intCmp]) fun av=>.bool _)
 |geq=>exact Holds.ok (.mk (by simp[binOp,Op.intCmp]) fun av=>.bool _)
theorem WC(op:BinOp)(T:TypeId)(a b:ByteArray):
  Holds (Np op a.data.toList b.data.toList) (Plain P w (binOp op T (.string a) (.string b))):=by
 have e1:a.toList=a.data.toList:=ByteArray.toList_eq a;have e2:b.toList=b.data.toList:=ByteArray.toList_eq b;have cu:a.data.toList.length=a.size:=rfl;have dX:b.data.toList.length=b.size:=rfl;cases op with
 |add=>
  refine Holds.eA fun y an=>?_
  simp only[lJ,cu,dX] at an;split at an
  ·cases an
  ·rename_i hc;cases an;refine .mk (vv:=.string (a++b)) ?_ fun av=>.str _ _ (by simp[ByteArray.data_append])
   simp only[binOp,Op.stringOp,hc,if_false,Sem.run_pure]
 |eql=>exact Holds.ok (.mk (by rw[<-e1,<-e2];rfl) fun av=>.bool _)
 |neq=>exact Holds.ok (.mk (by rw[<-e1,<-e2];rfl) fun av=>.bool _)
 |lss=>exact Holds.ok (.mk (by rw[<-e1,<-e2];rfl) fun av=>.bool _)
 |leq=>exact Holds.ok (.mk (by rw[<-e1,<-e2];rfl) fun av=>.bool _)
 |gtr=>exact Holds.ok (.mk (by rw[<-e1,<-e2];rfl) fun av=>.bool _)
 |geq=>exact Holds.ok (.mk (by rw[<-e1,<-e2];rfl) fun av=>.bool _)
 |_=>exact .fail
end
def pR:ay->Option Value
 |.d (.int k n)=>some (.int k n)
 |.d (.bool b)=>some (.bool b)
 |.d (.str [])=>some (.string ⟨#[]⟩)
 |.nil _=>some (.slice none 0 0)
 |.cL (.pointer none)=>some (.pointer none)
 |.cL .nilFunc=>some .nilFunc
 |.cL (.map none)=>some (.map none)
 |.cL .nilIface=>some .nilIface
 |_=>none
def k9:List ay->Option (List Value)
 |[]=>some []
 |l::U=>match pR l,k9 U with
  |some v,some vs=>some (v::vs)
  |_,_=>none
theorem H8{l:ay}{v:Value}(h:pR l=some v)(B:Nat->Value)(sites:List (Nat×Site))(w:World)(av:Nat->Prop):dv B sites w av l v/\v.oneCell'=true:=by
 unfold pR at h;split at h<;>first|cases h|skip
 ·exact⟨.int _ _,rfl⟩
 ·exact⟨.bool _,rfl⟩
 ·exact⟨.str _ _ rfl,rfl⟩
 ·exact⟨rfl,rfl⟩
 ·exact⟨rfl,rfl⟩
 ·exact⟨rfl,rfl⟩
 ·exact⟨rfl,rfl⟩
 ·exact⟨rfl,rfl⟩
theorem q_:∀{U:List ay} {vs:List Value},k9 U=some vs->vs.length=U.length/\(∀u∈vs,u.oneCell'=true)/\
  ∀(B:Nat->Value) (sites:List (Nat×Site)) (w:World) (av:Nat->Prop) j (h:j<U.length) (af:j<vs.length),dv B sites w av (U[j]) (vs[j]):=by
 intro U;induction U with
 |nil=>intro vs h;simp[k9] at h;subst h;exact⟨rfl,fun u hu=>by simp at hu,fun _ _ _ _ j h=>by simp at h⟩
 |cons l U ih=>
  intro vs h;simp only[k9] at h;split at h
  ·rename_i v cC h1 h2;cases h;obtain⟨g1,g2,g3⟩:=ih h2;refine⟨by simp[g1],fun u hu=>?_,fun B sites w av j bv i'=>?_⟩
   ·rcases List.mem_cons.1 hu with rfl|hu
    ·exact(H8 h1 (fun _=>undef) [] default (fun _=>False)).2
    ·exact g2 u hu
   ·cases j with
    |zero=>exact(H8 h1 _ _ _ _).1
    |succ j=>exact g3 B sites w av j (by simpa using bv) (by simpa using i')
  ·cases h
def nJ:Value->Value->Option Bool
 |.int k a,.int k' b=>if k=k' then some (a==b) else none
 |.bool a,.bool b=>some (a==b)
 |.string a,.string b=>some (a==b)
 |_,_=>none
def jA:List Value->List Value->Option Bool
 |[a],[b]=>nJ a b
 |a::as,b::bs=>match nJ a b,jA as bs with
  |some x,some y=>some (x&&y)
  |_,_=>none
 |_,_=>none
def pc:List ay->List Value->Bool
 |[],[]=>true
 |.d (.int _ _)::z,.int _ _::l=>pc z l
 |.d (.bool _)::z,.bool _::l=>pc z l
 |.d (.str _)::z,.string _::l=>pc z l
 |_,_=>false
def h5(P:Program)(T:TypeId)(d:TypeDesc)(z:Value):Prop:=
 P.underlying T=some d/\(∀bR,d≠.struct bR)/\(∀n e,d≠.array n e)/\(P.info? T).map (fun i=>(i.size,i.zero))=some (1,some z)
def mapElem(P:Program)(e:TypeId):aG->Prop
 |.i64=>h5 P e (.int .i64) (.int .i64 0)
 |.bool=>h5 P e .bool (.bool false)
 |.strs=>∃bK,h5 P e (.slice bK) (.slice none 0 0)
 |_=>False
def DB(P:Program)(e:TypeId):aG->Prop
 |.i64=>h5 P e (.int .i64) (.int .i64 0)
 |.u32=>h5 P e (.int .u32) (.int .u32 0)
 |.bool=>h5 P e .bool (.bool false)
 |.str=>h5 P e .string (.string ⟨#[]⟩)
 |_=>False
def cj.ok(P:Program)(T:TypeId):cj->Prop
 |.none=>True
 |.int k=>h5 P T (.int k) (.int k 0)
 |.bool=>h5 P T .bool (.bool false)
 |.str=>h5 P T .string (.string ⟨#[]⟩)
 |.ptr=>∃e,h5 P T (.pointer e) (.pointer Option.none)
 |.func=>∃ps kZ v,h5 P T (.func ps kZ v) .nilFunc
 |.slice e t bytes=>h5 P T (.slice e) (.slice Option.none 0 0)/\∃z,(P.info? e).map (fun i=>(i.size,i.bytes,i.zero))=some (ax t,bytes,some z)/\z.cells.size=ax t/\(t.ft=true->e=lH)
 |.struct bR n z eq=>∃fields:Array Field,P.underlying T=some (.struct fields)/\
   (fields.toList.mapM (fun f=>(P.info? f.type).map fun i=>(f.offset,i.size))=some bR/\∀p∈bR,p.2≠0)/\
   (∃fP,(P.info? T).map (fun i=>(i.size,i.zero))=some (n,some (.agg fP))/\k9 z=some fP.toList/\z.length=n)/\
   (eq=true->P.eqGuardType P.depth T=false/\∀(vs us:List Value) (b:Bool) (w:World),jA vs us=some b->pc z vs=true->(Op.equal T (.agg vs.toArray) (.agg us.toArray)).run P w=.ok b w)
 |.map k e t=>h5 P T (.map k e) (.map Option.none)/\P.underlying k=some .string/\mapElem P e t
 |.iface=>∃jd,h5 P T (.interface jd) .nilIface
 |.arr e t n=>P.underlying T=some (.array n e)/\(∃fP z,(P.info? T).map (fun i=>(i.size,i.zero))=some (n,some (.agg fP))/\sG t=some z/\k9 (List.replicate n z)=some fP.toList)/\DB P e t
section
variable {P:Program}{T:TypeId}{w:World}
theorem jY{i:TypeInfo}(h:P.info? T=some i):(typeInfo T).run P w=.ok i w:=by
 simp[typeInfo,h]
theorem cj.Kh{ti:cj}(h:ti.ok P T)(hn:ti≠.none):(sizeOf T).run P w=.ok ti.size w:=by
 have key:∀{z:Option Value} {n:Nat},(P.info? T).map (fun i=>(i.size,i.zero))=some (n,z)->(sizeOf T).run P w=.ok n w:=by
  intro z n h;cases am:P.info? T with
  |none=>simp[am] at h
  |some i=>
   simp only[am,Option.map_some,Option.some.injEq,Prod.mk.injEq] at h;simp[sizeOf,jY am,h.1]
 cases ti with
 |none=>exact absurd rfl hn
 |int k=>exact key h.2.2.2
 |bool=>exact key h.2.2.2
 |str=>exact key h.2.2.2
 |ptr=>obtain⟨e,h⟩:=h;exact key h.2.2.2
 |func=>obtain⟨_,_,_,h⟩:=h;exact key h.2.2.2
 |iface=>obtain⟨_,h⟩:=h;exact key h.2.2.2
 |slice e t b=>exact key h.1.2.2.2
 |map k e t=>exact key h.1.2.2.2
 |struct bR n z eq=>obtain⟨fields,_,_,⟨fP,h,_⟩,_⟩:=h;exact key h
 |arr e t n=>obtain⟨_,⟨fP,z,h,_⟩,_⟩:=h;exact key h
theorem cj.xd{ti:cj}(h:ti.ok P T){z:List ay}(aK:ti.zero=some z):∃v,(zeroValue T).run P w=.ok v w/\k9 z=some v.cells.toList:=by
 have key:∀{z:Value} {n:Nat},(P.info? T).map (fun i=>(i.size,i.zero))=some (n,some z)->(zeroValue T).run P w=.ok z w:=by
  intro z n h;cases am:P.info? T with
  |none=>simp[am] at h
  |some i=>
   simp only[am,Option.map_some,Option.some.injEq,Prod.mk.injEq] at h;simp[zeroValue,jY am,h.2]
 cases ti with
 |none=>cases aK
 |int k=>cases aK;exact⟨_,key h.2.2.2,rfl⟩
 |bool=>cases aK;exact⟨_,key h.2.2.2,rfl⟩
 |str=>cases aK;exact⟨_,key h.2.2.2,rfl⟩
 |ptr=>cases aK;obtain⟨e,h⟩:=h;exact⟨_,key h.2.2.2,rfl⟩
 |func=>cases aK;obtain⟨_,_,_,h⟩:=h;exact⟨_,key h.2.2.2,rfl⟩
 |iface=>cases aK;obtain⟨_,h⟩:=h;exact⟨_,key h.2.2.2,rfl⟩
 |slice e t b=>cases aK;exact⟨_,key h.1.2.2.2,rfl⟩
 |map k e t=>cases aK;exact⟨_,key h.1.2.2.2,rfl⟩
 |struct bR n eB eq=>cases aK;obtain⟨fields,_,_,⟨fP,h,h2,_⟩,_⟩:=h;exact⟨_,key h,h2⟩
 |arr e t n=>
  obtain⟨_,⟨fP,z0,h,h1,h2⟩,_⟩:=h;simp only[cj.zero,h1,Option.map_some,Option.some.injEq] at aK;subst aK;exact⟨_,key h,h2⟩
theorem cj.I8{ti:cj}(h:ti.ok P T)(hn:ti≠.none):(isAgg T).run P w=.ok ti.agg w:=by
 have key:∀{d:TypeDesc},P.underlying T=some d->(∀bR,d≠.struct bR)->(∀n e,d≠.array n e)->(isAgg T).run P w=.ok false w:=by
  intro d h h1 h2;simp only[isAgg,Sem.run_bind,run_underlying h,Result.andThen_ok];cases d<;>first|rfl|exact absurd rfl (h1 _)|exact absurd rfl (h2 _ _)
 cases ti with
 |none=>exact absurd rfl hn
 |int k=>exact key h.1 h.2.1 h.2.2.1
 |bool=>exact key h.1 h.2.1 h.2.2.1
 |str=>exact key h.1 h.2.1 h.2.2.1
 |ptr=>obtain⟨e,h⟩:=h;exact key h.1 h.2.1 h.2.2.1
 |func=>obtain⟨_,_,_,h⟩:=h;exact key h.1 h.2.1 h.2.2.1
 |iface=>obtain⟨_,h⟩:=h;exact key h.1 h.2.1 h.2.2.1
 |slice e t b=>exact key h.1.1 h.1.2.1 h.1.2.2.1
 |map k e t=>exact key h.1.1 h.1.2.1 h.1.2.2.1
 |struct bR n z eq=>
  obtain⟨fields,h,_⟩:=h;simp only[isAgg,Sem.run_bind,run_underlying h,Result.andThen_ok];rfl
 |arr e t n=>
  obtain⟨h,_⟩:=h;simp only[isAgg,Sem.run_bind,run_underlying h,Result.andThen_ok];rfl
def r3(agg:Bool)(cs:List Value):Value:=bif agg then .agg cs.toArray else cs.headD undef
theorem tr{ti:cj}(h:ti.ok P T)(hn:ti≠.none)(a:Addr)(cs:List Value)(hl:cs.length=ti.size)(hc:∀j u,cs[j]? =some u->w.cell? (a.add j)=some u):
  (loadVar T a).run P w=.ok (r3 ti.agg cs) w:=by
 simp only[loadVar,Sem.run_bind,cj.I8 h hn,Result.andThen_ok];cases Fg:ti.agg with
 |true=>
  simp only[if_true,Sem.run_bind,cj.Kh h hn,Result.andThen_ok,r3,cond_true];rw[<-hl,run_loadCells_list w a cs hc];rfl
 |false=>
  have h1:ti.size=1:=by cases ti<;>first|rfl|cases Fg
  rw[h1] at hl;match cs,hl with
  |[c],_=>
   have a8:=hc 0 c rfl;have bm:a.add 0=a:=by unfold Addr.add;simp
   rw[bm] at a8;simp[r3,a8]
end
section
variable {B:Nat->Value}{sites:List (Nat×Site)}{w:World}{av:Nat->Prop}
def ct(B:Nat->Value)(sites:List (Nat×Site))(w:World)(av:Nat->Prop)(U:List ay)(vs:List Value):Prop:=
 vs.length=U.length/\∀j (h:j<U.length) (af:j<vs.length),dv B sites w av (U[j]) (vs[j])
theorem ct.nil:ct B sites w av [] []:=⟨rfl,fun j h=>by simp at h⟩
theorem ct.cons{l:ay}{U:List ay}{v:Value}{vs:List Value}(h:dv B sites w av l v)(H:ct B sites w av U vs):ct B sites w av (l::U) (v::vs):=
 ⟨by simp[H.1],fun j h1 h2=>by
  cases j with
  |zero=>exact h
  |succ j=>exact H.2 j (by simpa using h1) (by simpa using h2)⟩
theorem ct.inv{l:ay}{U:List ay}{vs:List Value}(h:ct B sites w av (l::U) vs):∃v cC,vs=v::cC/\dv B sites w av l v/\ct B sites w av U cC:=by
 obtain⟨h1,h2⟩:=h;match vs,h1 with
 |v::cC,h1=>
  exact⟨v,cC,rfl,h2 0 (by simp) (by simp),by simpa using h1,fun j g1 g2=>h2 (j+1) (by simpa using g1) (by simpa using g2)⟩
theorem ct.lb{vs:List Value}(h:ct B sites w av [] vs):vs=[]:=List.eq_nil_of_length_eq_zero h.1
theorem ct.drop{U:List ay}{vs:List Value}(n:Nat)(h:ct B sites w av U vs):ct B sites w av (U.drop n) (vs.drop n):=
 ⟨by simp[h.1],fun j h1 h2=>by simp only[List.getElem_drop];exact h.2 _ (by simp at h1;omega) (by simp at h2;omega)⟩
theorem ct.take{U:List ay}{vs:List Value}(n:Nat)(h:ct B sites w av U vs):ct B sites w av (U.take n) (vs.take n):=
 ⟨by simp[h.1],fun j h1 h2=>by simp only[List.getElem_take];exact h.2 _ (by simp at h1;omega) (by simp at h2;omega)⟩
theorem ct.append{U dA:List ay}{vs cC:List Value}(h:ct B sites w av U vs)(af:ct B sites w av dA cC):ct B sites w av (U++dA) (vs++cC):=by
 induction U generalizing vs with
 |nil=>rw[h.lb];exact af
 |cons l U ih=>
  obtain⟨v,aj2,rfl,h1,h2⟩:=h.inv;exact .cons h1 (ih h2)
theorem ct.cg{U dA:List ay}{vs cC:List Value}(off:Nat)(h:ct B sites w av U vs)(af:ct B sites w av dA cC):ct B sites w av (Jk.cg U off dA) (Jk.cg vs off cC):=by
 unfold Jk.cg;rw[af.1];exact((h.take off).append af).append (h.drop _)
theorem dv.iJ{l:ay}{u:Value}(h:dv B sites w av l u)(dB:l.storable=true):u.oneCell'=true:=by
 cases l with
 |d x=>exact Rd.iJ h
 |nil t=>rw[show u=_ from h];rfl
 |own o s=>exact h.1
 |ptr o s off=>obtain⟨b,rfl,_⟩:=h;rfl
 |e8 c D=>cases dB
 |eI _ _ _ _ _=>cases dB
 |clo g bG=>obtain⟨vs,rfl,_⟩:=h;rfl
 |cL x=>rw[show u=x from h];cases x<;>first|rfl|cases dB
 |fresh t xs=>cases dB
 |iq t xs=>cases dB
 |eN=>cases dB
 |any=>cases dB
theorem ct.iJ{U:List ay}{vs:List Value}(h:ct B sites w av U vs)(dB:gR U=true):∀u∈vs,u.oneCell'=true:=by
 induction U generalizing vs with
 |nil=>rw[h.lb];intro u hu;simp at hu
 |cons l U ih=>
  obtain⟨v,cC,rfl,h1,h2⟩:=h.inv;simp only[gR,Bool.and_eq_true] at dB;intro u hu;rcases List.mem_cons.1 hu with rfl|hu
  ·exact h1.iJ dB.1
  ·exact ih h2 dB.2 u hu
theorem gE.cells{a:bF}{v:Value}(h:gE B sites w av a v)(dB:gR a.cells=true):ct B sites w av a.cells v.cells.toList:=by
 cases a with
 |aq l=>
  have h1:v.oneCell'=true:=dv.iJ h (by simpa[bF.cells,gR] using dB)
  have:v.cells=#[v]:=by cases v<;>first|rfl|cases h1
  rw[this];exact .cons h .nil
 |agg U=>
  obtain⟨vs,rfl,h1,h2⟩:=h;exact⟨h1,h2⟩
theorem M2{agg:Bool}{off n:Nat}{U:List ay}{vs:List Value}{v:aL}(hc:cut agg off n U=some v)(h1:agg=false->n=1)(h:ct B sites w av U vs):
  off+n<=vs.length/\cc B sites w av v (r3 agg ((vs.drop off).take n)):=by
 unfold cut at hc;cases agg with
 |true=>
  simp only[cond_true] at hc;cases hb:Nat.ble (off+n) U.length with
  |false=>simp[hb] at hc
  |true=>
   simp only[hb,cond_true,Option.some.injEq] at hc;subst hc;have dc:off+n<=U.length:=Nat.le_of_ble_eq_true hb;have:=(h.drop off).take n;exact⟨by rw[h.1];exact dc,_,rfl,this.1,this.2⟩
 |false=>
  simp only[cond_false] at hc;have hn:=h1 rfl;subst hn;cases Y:U.drop off with
  |nil=>simp[Y] at hc
  |cons l r=>
   simp only[Y,Option.some.injEq] at hc;subst hc;have RK:=h.drop off;rw[Y] at RK;obtain⟨u,us,hu,hl,_⟩:=RK.inv;have hlen:off<U.length:=by
    rcases Nat.lt_or_ge off U.length with h|h
    ·exact h
    ·rw[List.drop_eq_nil_of_le h] at Y;cases Y
   refine⟨by rw[h.1];omega,?_⟩
   rw[hu];exact hl
theorem gh{ds:List aR}{vs:List Value}(hl:vs.length=ds.length)(h:∀j (h:j<ds.length) (af:j<vs.length),Rd w av (ds[j]) (vs[j])):ct B sites w av (cq ds) vs:=
 ⟨by simp[cq,hl],fun j h1 h2=>by simp only[cq,List.getElem_map];exact h j (by simpa[cq] using h1) h2⟩
end
theorem gy(b D j:Nat):(⟨b,D,none⟩:Addr).add j=⟨b,D+j,none⟩:=by
 unfold Addr.add;split<;>simp_all
def hk(w:World)(b D:Nat)(cs:List Value):Prop:=∀j u,cs[j]? =some u->w.cell? ⟨b,D+j,none⟩=some u
theorem hk.drop{w:World}{b D:Nat}{cs:List Value}(h:hk w b D cs)(m:Nat):hk w b (D+m) (cs.drop m):=by
 intro j u hu;rw[List.getElem?_drop] at hu;have:=h _ _ hu;rwa[Nat.add_assoc]
theorem hk.take{w:World}{b D:Nat}{cs:List Value}(h:hk w b D cs)(m:Nat):hk w b D (cs.take m):=by
 intro j u hu;rw[List.getElem?_take] at hu;split at hu
 ·exact h _ _ hu
 ·cases hu
theorem hk.row{w:World}{b:Nat}{cur:List Value}{T:TypeId}{cP:Nat×Nat}(h:w.heap[b]? =some (.cells cur.toArray T cP)):hk w b 0 cur:=by
 intro j u hu;rw[Nat.zero_add,cell_of_row w b j _ T cP h];simpa using hu
theorem tA(t:aG)(xs:List (den t))(k:Nat)(x:den t)(hx:xs[k]? =some x):((flat t xs).drop (k*ax t)).take (ax t)=enc t x:=by
 apply List.ext_getElem?;intro j;rw[List.getElem?_take,List.getElem?_drop];split
 ·rename_i bv;exact flat_get t xs k j x hx bv
 ·rename_i bv;rw[List.getElem?_eq_none (by rw[fy];omega)]
section
variable {P:Program}{C:h7}{M:World}{J:List Nat}{X:Nat->Prop}{B:Nat->Value}{st:ae}{tm:Array Value}{w:World}
theorem hd{o s:Nat}{cells:List ay}(h:fV st o s=some cells):look st.sites o=some (.box s cells):=by
 unfold fV ae.O at h;split at h
 ·rename_i ap jE hl;cases hb:ap.beq s with
  |false=>simp[hb] at h
  |true=>
   simp only[hb,cond_true,Option.some.injEq] at h;have:=Nat.eq_of_beq_eq_true hb;subst this h;exact hl
 ·cases h
theorem jZ{o s:Nat}{t:aG}{xs:List (den t)}(h:rowOf st o s=some ⟨t,xs⟩):look st.sites o=some (.row s t xs)\/look st.sites o=some (.c' s t xs):=by
 unfold rowOf ae.O at h;split at h
 ·rename_i ap bj hO hl;cases hb:ap.beq s with
  |false=>simp[hb] at h
  |true=>
   simp only[hb,cond_true,Option.some.injEq] at h;have:=Nat.eq_of_beq_eq_true hb;subst this;cases h;exact .inl hl
 ·rename_i ap bj hO hl;cases hb:ap.beq s with
  |false=>simp[hb] at h
  |true=>
   simp only[hb,cond_true,Option.some.injEq] at h;have:=Nat.eq_of_beq_eq_true hb;subst this;cases h;exact .inr hl
 ·cases h
theorem Ref.at{sites:List (Nat×Site)}{o s:Nat}{p:Prop}{O:Site}(h:Ref sites o s p)(hl:look sites o=some O)(H:O.b2=s):p:=by
 obtain⟨bw,h1,_,aa⟩:=h;rw[hl] at h1;cases h1;exact aa H
theorem Ref.mk{sites:List (Nat×Site)}{o s:Nat}{p:Prop}{O:Site}(hl:look sites o=some O)(H:O.b2=s)(ai:p):Ref sites o s p:=
 ⟨O,hl,by omega,fun _=>ai⟩
theorem ag.box(S:ag M J X B st tm w){o s off:Nat}{cells:List ay}(h:look st.sites o=some (.box s cells)){v:Value}(ab:dv B st.sites w (au X B st.sites) (.ptr o s off) v):
  ∃b T cur,B o=.pointer (some ⟨b,0,none⟩)/\v=.pointer (some ⟨b,off,none⟩)/\w.heap[b]? =some (.cells (List.toArray cur) T (0,0))/\(∀u∈cur,u.oneCell'=true)/\ct B st.sites w (au X B st.sites) cells cur:=by
 obtain⟨b,T,cur,h1,h2,aa,aN,_,bn⟩:=S.sites o _ h;obtain⟨a',g2,g3⟩:=ab;have g1:=Ref.at g3 h rfl;rw[h1] at g1;cases g1;exact⟨b,T,cur,h1,g2,h2,aN,aa,bn⟩
theorem ag.row(S:ag M J X B st tm w){o s:Nat}{t:aG}{xs:List (den t)}(h:rowOf st o s=some ⟨t,xs⟩):
  ∃cs:List Value,ct B st.sites w (au X B st.sites) (cq (flat t xs)) cs/\
   ((bO (B o)=.slice none 0 0/\xs=[])\/∃b c,bO (B o)=.slice (some ⟨b,0,none⟩) xs.length c/\hk w b 0 cs/\xs.length<=c):=by
 rcases jZ h with h|h
 ·obtain⟨e,cs,h1,h2⟩:=S.sites o _ h;have hl:cs.length=(flat t xs).length:=by rw[dM];exact h1.1
  refine⟨cs,gh hl h2,?_⟩;rw[(hK h1).1];rcases h1.2 with⟨hn,a8⟩|⟨g,cap,cur,bC,ab,_,aF,gH,_,_,gX⟩
  ·exact .inl ⟨hn,List.eq_nil_of_length_eq_zero a8⟩
  ·refine .inr ⟨_,_,ab,fun j u hu=>?_,gH⟩
   rw[Nat.zero_add,cell_of_row w g j cur e bC aF];rw[<-gX,List.getElem?_take] at hu;split at hu
   ·simpa using hu
   ·cases hu
 ·obtain⟨h1,b4⟩:Rd w (au X B st.sites) (.sl t xs) (bO (B o))/\u' (bO (B o)):=S.sites o _ h;generalize ab:bO (B o)=v at h1 b4;cases h1 with
  |nil t=>exact⟨[],⟨rfl,fun j h=>by simp[cq,flat] at h⟩,.inl ⟨rfl,rfl⟩⟩
  |sl t xs a cap cs n hn hcap hb hl hc hr=>
   subst hn;rcases b4 with b4|⟨b,n,c,b4⟩
   ·cases b4
   ·cases b4;exact⟨cs,gh hl hr,.inr ⟨b,cap,rfl,fun j u hu=>by have:=hc j u hu;rwa[gy] at this,hcap⟩⟩
theorem A5{o s:Nat}{t:aG}{xs:List (den t)}(h:nO st o s=some ⟨t,xs⟩):look st.sites o=some (.tail s t xs):=by
 unfold nO at h;split at h
 ·rename_i ap bj hO hl;cases hb:ap.beq s with
  |false=>simp[hb] at h
  |true=>
   simp only[hb,cond_true,Option.some.injEq] at h;have:=Nat.eq_of_beq_eq_true hb;subst this;cases h;exact hl
 ·cases h
theorem WH{o s:Nat}{t:aG}{xs:List (den t)}(h:nZ st o s=some ⟨t,xs⟩):rowOf st o s=some ⟨t,xs⟩\/look st.sites o=some (.tail s t xs):=by
 unfold nZ at h;split at h
 ·rename_i x hx;cases h;exact .inl hx
 ·exact .inr (A5 h)
theorem ag.tail(S:ag M J X B st tm w){o s:Nat}{t:aG}{xs:List (den t)}(h:look st.sites o=some (.tail s t xs)):
  ∃cs:List Value,ct B st.sites w (au X B st.sites) (cq (flat t xs)) cs/\
   ((bO (B o)=.slice none 0 0/\xs=[])\/∃b D c,bO (B o)=.slice (some ⟨b,D,none⟩) xs.length c/\hk w b D cs/\xs.length<=c):=by
 obtain⟨_,e,cs,h1,h2⟩:=S.sites o _ h;refine⟨cs,gh h2.1.symm.symm h2.2,?_⟩;rcases h1.2 with⟨hn,a8⟩|⟨g,D,cap,cur,ab,aF,gH,_,_,gX⟩
 ·exact .inl ⟨by rw[hn];rfl,List.eq_nil_of_length_eq_zero a8⟩
 ·refine .inr ⟨g,D,cap,by rw[ab];rfl,fun j u hu=>?_,gH⟩
  rw[cell_of_row w g (D+j) cur e (0,0) aF];rw[<-gX,List.getElem?_take] at hu;split at hu
  ·rw[List.getElem?_drop] at hu;simpa using hu
  ·cases hu
theorem ag.nZ(S:ag M J X B st tm w){o s:Nat}{t:aG}{xs:List (den t)}(h:nZ st o s=some ⟨t,xs⟩):
  (∃O,look st.sites o=some O/\O.b2=s)/\∃cs:List Value,ct B st.sites w (au X B st.sites) (cq (flat t xs)) cs/\
   ((bO (B o)=.slice none 0 0/\xs=[])\/∃b D c,bO (B o)=.slice (some ⟨b,D,none⟩) xs.length c/\hk w b D cs/\xs.length<=c):=by
 rcases WH h with h|h
 ·refine⟨by rcases jZ h with h|h<;>exact⟨_,h,rfl⟩,?_⟩
  obtain⟨cs,h1,h2⟩:=S.row h;exact⟨cs,h1,h2.imp id fun⟨b,c,h⟩=>⟨b,0,c,h⟩⟩
 ·exact⟨⟨_,h,rfl⟩,S.tail h⟩
def Qv(g:Nat)(t:aG)(xs:List (den t)):Prop:=g∈oo/\∀w (av:Nat->Prop),pv w->∃T bC,∃cs:List Value,w.heap[g]? =some (.cells cs.toArray T bC)/\cs.length=(flat t xs).length/\∀j (h:j<(flat t xs).length) (af:j<cs.length),Rd w av ((flat t xs)[j]) (cs[j])
structure CtxOk(P:Program)(C:Ctx):Prop where
 tt:∀T,(C.tt T).ok P T
 gt:∀g t xs,C.gt g=some ⟨t,xs⟩->Qv g t xs
theorem Ca{ti:cj}(h:ti.known=true):ti≠.none:=by rintro rfl;cases h
theorem Cr{ti:cj}(h:ti.agg=false):ti.size=1:=by cases ti<;>first|rfl|cases h
theorem YY{agg:Bool}{off n:Nat}{U:List ay}(h:off+n<=U.length)(h1:agg=false->n=1):cut agg off n U≠none:=by
 unfold cut;cases agg with
 |true=>
  have:Nat.ble (off+n) U.length=true:=Nat.ble_eq_true_of_le h;simp[this]
 |false=>
  have:=h1 rfl;simp only[cond_false];cases Y:U.drop off with
  |nil=>have:=congrArg List.length Y;simp at this;omega
  |cons l r=>simp
theorem _g(S:ag M J X B st tm w){C:Ctx}(aD:CtxOk P C){D:Oper}{T:TypeId}{x:Operand}(al:D.op=.load T x)(Y:ca st D.dst=true)(ak:(C.tt T).known=true):
  Holds (r' (C.tt T).agg (C.tt T).size st (aP C st T x)) (cA P M J X st tm w D):=by
 have hn:=Ca ak;have bp:=cV S C T x;have fin:∀{b p:Nat} {U:List ay} {vs:List Value} {off:Nat} {v:aL},Act.eval ⟨tm,[]⟩ x=.pointer (some ⟨b,p+off,none⟩)->hk w b p vs->ct B st.sites w (au X B st.sites) U vs->
   cut (C.tt T).agg off (C.tt T).size U=some v->cA P M J X st tm w D v []:=by
  intro b p U vs off v hx hc hl jL;obtain⟨dc,F9⟩:=M2 jL Cr hl;refine dC S Y (vv:=r3 (C.tt T).agg ((vs.drop off).take (C.tt T).size)) ?_ F9;have cN:=tr (P:=P) (w:=w) (aD.tt T) hn ⟨b,p+off,none⟩ ((vs.drop off).take (C.tt T).size) (by simp;omega) (fun j u hu=>by rw[gy];exact(hc.drop off).take _ j u hu)
  unfold execOp;simp only[al,Instr.loadAt,Instr.sureAddr,hx,Sem.run_bind,Sem.run_pure,Result.andThen_ok,cN]
 unfold r';split
 ·rename_i o s off b1;rw[b1] at bp;split
  ·rename_i cells hb;split
   ·rename_i v jL;obtain⟨b,ga,cur,_,ab,aF,_,hl⟩:=S.box (hd hb) bp;exact Holds.ok (fin (p:=0) (by rw[Nat.zero_add];exact ab) (hk.row aF) hl jL)
   ·exact .fail
  ·exact .fail
 ·rename_i cells off b1;rw[b1] at bp;split
  ·rename_i v jL;obtain⟨b,p,ab,_,_,cs,hl,hc,hr⟩:=bp;exact Holds.ok (fin ab hc (gh hl hr) jL)
  ·exact .fail
 ·rename_i o s u k off b1;rw[b1] at bp;split
  ·rename_i t xs c5;split
   ·rename_i ms;obtain⟨rfl,dc⟩:=ms;refine Holds.eA fun y an=>?_
    have dV:xs[k]? =some y:=an;obtain⟨⟨O,fA,jv⟩,cs,hl,iQ⟩:=S.nZ c5;obtain⟨b,cW,ab,uY⟩:=bp;obtain⟨n,c,bH⟩:=Ref.at uY fA jv;cases jL:cut (C.tt T).agg off (C.tt T).size (cq (enc t y)) with
    |none=>exact absurd jL (YY (by simpa[cq,fy] using dc) Cr)
    |some v=>
     rcases iQ with⟨o',_⟩|⟨a',o2,fm,d',ee,_⟩
     ·rw[bH] at o';cases o'
     ·rw[bH] at d';cases d';have e1:cq (enc t y)=((cq (flat t xs)).drop (k*ax t)).take (ax t):=by
       rw[<-tA t xs k y dV];simp[cq,List.map_drop,List.map_take]
      rw[e1] at jL;exact fin (p:=cW+k*ax t) (by rw[Nat.add_assoc];exact ab) ((ee.drop (k*ax t)).take (ax t)) ((hl.drop (k*ax t)).take (ax t)) jL
   ·exact .fail
  ·exact .fail
 ·exact .fail
end
section
variable {P:Program}{M:World}{J:List Nat}{X:Nat->Prop}{B:Nat->Value}{st:ae}{tm:Array Value}{w:World}
theorem rk{u:Bool}{e:TypeId}{size:Nat}{v:Value}{n:Nat}{xs:List Value}{b:Nat}(h:rowAt w u e size v n xs)(hb:ba v=some b):b<w.heap.size:=by
 rcases h.2 with⟨hn,_⟩|⟨g,cap,cur,bC,ab,_,aF,_⟩
 ·rw[hn] at hb;cases hb
 ·rw[ab] at hb;cases hb;exact(Array.getElem?_eq_some_iff.1 aF).1
theorem Deep.lt{av:Nat->Prop}{ds:List aR}{cs ao:List Value}(h:Deep w av ds cs ao):∀n,n∈ao->∀b,ba n=some b->b<w.heap.size:=by
 induction h with
 |nil=>intro n hn;cases hn
 |row u ys e U _ h _ _ ih=>
  intro n hn b hb;rcases List.mem_cons.1 hn with rfl|hn
  ·exact rk h hb
  ·exact ih n hn b hb
 |leaf _ _ _ ih=>exact ih
theorem fM.lt{av:Nat->Prop}{ps:List (E×Value)}{es:List (E×Option (List E))}{ao:List Value}(h:fM w av ps es ao):∀n,n∈ao->∀b,ba n=some b->b<w.heap.size:=by
 induction h with
 |nil=>intro n hn;cases hn
 |lr _ _ _ ih=>exact ih
 |row _ _ _ _ _ h _ _ ih=>
  intro n hn b hb;rcases List.mem_cons.1 hn with rfl|hn
  ·exact rk h hb
  ·exact ih n hn b hb
theorem Wt{e:TypeId}{size:Nat}{v:Value}{n:Nat}{xs:List Value}(h:nP w e size v n xs){b:Nat}(hb:b∈bf v):b<w.heap.size:=by
 rcases h.2 with⟨hn,_⟩|⟨g,D,cap,cur,ab,aF,_⟩
 ·rw[hn] at hb;cases hb
 ·rw[ab] at hb;have hb:b∈[g]:=hb;rw[List.mem_singleton.1 hb];exact(Array.getElem?_eq_some_iff.1 aF).1
theorem ag.dS(S:ag M J X B st tm w){o b:Nat}(hl:bT st.sites o)(hb:b∈bf (B o)):b<w.heap.size:=by
 obtain⟨O,h1,h2⟩:=hl;have:=S.sites o O h1;cases O with
 |box s cells=>
  obtain⟨a',T,cur,g1,g2,_⟩:=this;rw[g1] at hb;have hb:b∈[a']:=hb;rw[List.mem_singleton.1 hb];exact(Array.getElem?_eq_some_iff.1 g2).1
 |row s t xs=>
  obtain⟨e,cs,g1,_⟩:=this;exact rk g1 (tO g1 hb)
 |map s t es=>
  obtain⟨a',g1,g2⟩:=this;rw[g1] at hb;have hb:b∈[a']:=hb;rw[List.mem_singleton.1 hb];exact g2.lt
 |deep s t xs=>
  obtain⟨e,v,ao,cs,g1,_,g2,g3⟩:=this;rw[g1] at hb;rcases hH.1 hb with hb|⟨n,hn,hb⟩
  ·exact rk g2 hb
  ·exact g3.lt n hn b hb
 |ey s es=>
  obtain⟨a',arr,clock,ao,g1,_,g2,_,_,g3⟩:=this;rw[g1] at hb;rcases hH.1 hb with hb|⟨n,hn,hb⟩
  ·cases hb;exact(Array.getElem?_eq_some_iff.1 g2).1
  ·exact g3.lt n hn b hb
 |tail s t xs=>
  obtain⟨_,e,cs,g,_⟩:=this;exact Wt g hb
 |c'=>cases h2
 |dead=>cases h2
theorem yN{B az:Nat->Value}{sites bi:List (Nat×Site)}{w w':World}{av bP:Nat->Prop}(go:∀{a:aL} {v:Value},cc B sites w av a v->cc az bi w' bP a v){U:List ay}{vs:List Value}
  (h:ct B sites w av U vs):ct az bi w' bP U vs:=by
 obtain⟨cC,h1,h2,aa⟩:=go (a:=.av (.agg U)) (v:=.agg vs.toArray) ⟨vs,rfl,h.1,h.2⟩;have:vs=cC:=by simpa using h1
 subst this;exact⟨h2,aa⟩
theorem hX{B az:Nat->Value}{sites bi:List (Nat×Site)}{w w':World}{av bP:Nat->Prop}(go:∀{a:aL} {v:Value},cc B sites w av a v->cc az bi w' bP a v){d:aR}{v:Value}
  (h:Rd w av d v):Rd w' bP d v:=go (a:=one d) (v:=v) h
theorem Iq{sites:List (Nat×Site)}{o:Nat}{O bw:Site}(hl:look sites o=some O)(h:bw.live=O.live)(F:Nat):bT (cd sites o bw) F <-> bT sites F:=by
 unfold bT;rw[cr];by_cases e:o=F
 ·subst e;simp only[if_true,hl,Option.some.injEq];constructor
  ·rintro⟨s,rfl,h2⟩;exact⟨O,rfl,h▸h2⟩
  ·rintro⟨s,rfl,h2⟩;exact⟨bw,rfl,h▸h2⟩
 ·simp only[e,if_false]
theorem ag.write(S:ag M J X B st tm w){o b:Nat}{O bw:Site}{cur sD:Array Value}{T:TypeId}{cP:Nat×Nat}(hl:look st.sites o=some O)(fJ:O.live=true)(aax:bw.live=true)(H:bw.b2=O.b2)
  (bH:b∈bf (B o)) (aF:w.heap[b]? =some (.cells cur T cP))
  (dR:∀{bi:List (Nat×Site)} {w':World},bi=cd st.sites o bw->w'=w.setRow b sD->w'.heap[b]? =some (.cells sD T cP)->
   (∀{a v},cc B st.sites w (au X B st.sites) a v->cc B bi w' (au X B bi) a v)->hW B bi w' (au X B bi) o bw):
  ag M J X B {st with sites:=cd st.sites o bw} tm (w.setRow b sD):=by
 have cZ:bT st.sites o:=⟨O,hl,fJ⟩;have ma:∀F,bT (cd st.sites o bw) F <-> bT st.sites F:=Iq hl (aax.trans fJ.symm);have b5:∀a',au X B (cd st.sites o bw) a' <-> au X B st.sites a':=by
  intro a';unfold au;simp only[ma]
 have cE:∀a',¬au X B st.sites a'->a'≠b:=by
  rintro a' h rfl;exact h (.inr ⟨o,cZ,bH⟩)
 refine S.nY (fun F s bk=>?_) (fun a' h _=>setRow_other w b a' _ (cE a' h)) (fun a' h _=>by rw[b5];exact h) (fun go F s bk=>?_) (fun F aI a' h1 h2=>S.dp F aI a' ((ma F).1 h1) ((ma aI).1 h2))
  (fun F a' h=>S.ci F a' ((ma F).1 h)) (fun F a' h hb=>by rw[setRow_size];exact S.dS ((ma F).1 h) hb) ?_ (by rw[setRow_size];exact Nat.le_refl _)
 ·rw[cr];by_cases e:o=F
  ·subst e;rw[hl] at bk;cases bk;exact⟨bw,by simp,by omega,fun _=>rfl⟩
  ·exact⟨s,by simp[e,bk],Nat.le_refl _,fun _=>rfl⟩
 ·rw[cr] at bk;by_cases e:o=F
  ·subst e;simp only[if_true,Option.some.injEq] at bk;subst bk;exact .inr (dR rfl rfl (setRow_heap w b cur sD T cP aF) go)
  ·simp only[e,if_false] at bk;refine .inl ⟨bk,rfl,fun sx a' ck=>setRow_other w b a' _ ?_⟩
   rintro rfl;exact e (S.dp o F _ cZ ⟨s,bk,sx⟩ bH ck)
 ·have aB:=S.frame;refine⟨aB.os,aB.tape,aB.output,by rw[setRow_size];exact aB.size,fun a' h1 h2=>?_⟩
  rw[setRow_other w b a' _ ?_]
  ·exact aB.block a' h1 h2
  ·rintro rfl;rcases(S.ci o _ cZ bH).2 with h|h
   ·exact h2 h
   ·omega
theorem wS{av:Nat->Prop}{t:aG}{xs:List (den t)}{e:TypeId}{v:Value}{cs:List Value}(h1:rowAt w t.ft e (ax t) v xs.length cs)(h2:cp w av (flat t xs) cs)(hb:∀b,ba v=some b->¬av b):Rd w av (.sl t xs) v/\u' v:=by
 rcases h1.2 with⟨hn,a8⟩|⟨g,cap,cur,bC,ab,_,aF,gH,_,_,gX⟩
 ·have:xs=[]:=List.eq_nil_of_length_eq_zero a8;subst this;rw[hn];exact⟨.nil t,.inl rfl⟩
 ·rw[ab];refine⟨?_,.inr ⟨_,_,_,rfl⟩⟩;refine .sl t xs _ cap cs xs.length rfl gH (fun _=>hb g (by rw[ab];rfl)) h2.1 (fun j u hu=>?_) h2.2
  rw[gy,Nat.zero_add,cell_of_row w g j cur e bC aF];rw[<-gX,List.getElem?_take] at hu;split at hu
  ·simpa using hu
  ·cases hu
theorem cp.cons{av:Nat->Prop}{d:aR}{ds:List aR}{v:Value}{vs:List Value}(h:Rd w av d v)(k:cp w av ds vs):cp w av (d::ds) (v::vs):=by
 refine⟨by simp[k.1],fun j g1 g2=>?_⟩
 cases j with
 |zero=>exact h
 |succ j=>exact k.2 j (by simpa using g1) (by simpa using g2)
theorem Deep.afM{w':World}{av bP:Nat->Prop}{ds:List aR}{cs ao:List Value}(h:Deep w av ds cs ao)(go:∀{d v},Rd w av d v->Rd w' bP d v):
  (∀n,n∈ao->∀b,ba n=some b->¬bP b/\w'.heap[b]? =w.heap[b]?)->cp w' bP ds cs:=by
 induction h with
 |nil=>intro _;exact⟨rfl,fun j h=>by simp at h⟩
 |row u ys e U _ h hr _ ih=>
  intro ak;refine .cons (wS (nD h fun b hb=>(ak _ List.mem_cons_self b hb).2) ⟨hr.1,fun j g1 g2=>go (hr.2 j g1 g2)⟩ fun b hb=>(ak _ List.mem_cons_self b hb).1).1 (ih fun n hn=>ak n (List.mem_cons_of_mem _ hn))
 |leaf _ h _ ih=>intro ak;exact .cons (go h) (ih ak)
theorem ag.freeze(S:ag M J X B st tm w){o s:Nat}{t:aG}{xs:List (den t)}(hl:look st.sites o=some (.row s t xs)\/look st.sites o=some (.deep s t xs)):
  ag M J X B {st with sites:=cd st.sites o (.c' s t xs)} tm w:=by
 have cZ:bT st.sites o:=by rcases hl with hl|hl<;>exact⟨_,hl,rfl⟩
 have dI:∀F,bT (cd st.sites o (.c' s t xs)) F->bT st.sites F/\F≠o:=by
  rintro F ⟨O,h1,h2⟩;rw[cr] at h1;by_cases e:o=F
  ·subst e;simp at h1;subst h1;cases h2
  ·simp only[e,if_false] at h1;exact⟨⟨O,h1,h2⟩,fun h=>e h.symm⟩
 have b5:∀a',au X B (cd st.sites o (.c' s t xs)) a'->au X B st.sites a':=by
  rintro a' (h|⟨F,h1,h2⟩)
  ·exact .inl h
  ·exact .inr ⟨F,(dI F h1).1,h2⟩
 have lC:∀b,b∈bf (B o)->¬au X B (cd st.sites o (.c' s t xs)) b:=by
  rintro b hb (hx|⟨F,g1,g2⟩)
  ·exact(S.ci o b cZ hb).1 hx
  ·obtain⟨g3,g4⟩:=dI F g1;exact g4 (S.dp F o b g3 cZ g2 hb)
 refine S.nY (fun F O bk=>?_) (fun _ _ _=>rfl) (fun a' h _ af=>h (b5 a' af)) (fun go F O bk=>?_) (fun F aI a' h1 h2=>S.dp F aI a' (dI F h1).1 (dI aI h2).1)
  (fun F a' h=>S.ci F a' (dI F h).1) (fun F a' h hb=>S.dS (dI F h).1 hb) S.frame (Nat.le_refl _)
 ·rw[cr];by_cases e:o=F
  ·subst e;refine⟨.c' s t xs,by simp,?_,fun _=>rfl⟩
   rcases hl with hl|hl<;>rw[hl] at bk<;>cases bk<;>exact Nat.le_refl _
  ·exact⟨O,by simp[e,bk],Nat.le_refl _,fun _=>rfl⟩
 ·rw[cr] at bk;by_cases e:o=F
  ·subst e;simp only[if_true,Option.some.injEq] at bk;subst bk;refine .inr ?_
   show Rd _ _ (.sl t xs) (bO (B o))/\u' (bO (B o));rcases hl with hl|hl
   ·obtain⟨bK,cs,h1,h2⟩:=S.sites o _ hl;rw[(hK h1).1];exact wS h1 ⟨by rw[dM];exact h1.1,fun j g1 g2=>hX go (h2 j g1 g2)⟩ fun b hb=>lC b (fS hb)
   ·obtain⟨bK,v,ao,cs,a8,_,h1,h2⟩:=S.sites o _ hl;have b4:bO (B o)=v:=by rw[a8];rfl
    rw[b4];exact wS h1 (h2.afM (hX go) fun n hn b hb=>⟨lC b (by rw[a8];exact hH.2 (.inr ⟨n,hn,hb⟩)),rfl⟩) fun b hb=>lC b (by rw[a8];exact hH.2 (.inl hb))
  ·simp only[e,if_false] at bk;exact .inl ⟨bk,rfl,fun _ _ _=>rfl⟩
theorem JK{aJ:Type}(l:List (Nat×aJ))(n:Nat)(v:aJ)(h:look l n=some v):cd l n v=l:=by
 induction l with
 |nil=>simp[look] at h
 |cons p l ih=>
  obtain⟨k,u⟩:=p;simp only[look] at h;simp only[cd];cases hb:k.beq n with
  |true=>simp only[hb,cond_true,Option.some.injEq] at h;subst h;simp
  |false=>simp only[hb,cond_false] at h;simp[ih h]
def dE(sites:List (Nat×Site))(us:List (Nat×Site)):Prop:=
 ∀o O,(o,O)∈us->∃s t,∃xs:List (den t),O=.c' s t xs/\(look sites o=some (.row s t xs)\/look sites o=some (.c' s t xs)\/look sites o=some (.deep s t xs))
theorem dE.nil{sites:List (Nat×Site)}:dE sites []:=fun _ _ h=>by simp at h
theorem dE.append{sites us vs:List (Nat×Site)}(h:dE sites us)(af:dE sites vs):dE sites (us++vs):=by
 intro o O hm;rcases List.mem_append.1 hm with hm|hm
 ·exact h o O hm
 ·exact af o O hm
theorem dE.step{sites us:List (Nat×Site)}{o:Nat}{O:Site}(h:dE sites ((o,O)::us)):dE (cd sites o O) us:=by
 obtain⟨s,t,xs,rfl,hl⟩:=h o O (by simp)
 intro F bw hm;obtain⟨ap,bj,hO,rfl,fB⟩:=h F bw (by simp[hm])
 refine⟨ap,bj,hO,rfl,?_⟩;rw[cr];by_cases e:o=F
 ·subst e;simp only[if_true];right;left;rcases hl with hl|hl|hl<;>rcases fB with fB|fB|fB<;>rw[hl] at fB<;>cases fB<;>rfl
 ·simp only[e,if_false];exact fB
theorem ag.yk{us:List (Nat×Site)}:∀{st:ae},ag M J X B st tm w->dE st.sites us->ag M J X B {st with sites:=aZ st.sites us} tm w:=by
 induction us with
 |nil=>intro st S _;exact S
 |cons p us ih=>
  obtain⟨o,O⟩:=p;intro st S h;have af:=h.step;obtain⟨s,t,xs,rfl,hl⟩:=h o O (by simp)
  simp only[aZ];rcases hl with hl|hl|hl
  ·exact ih (S.freeze (.inl hl)) af
  ·rw[JK _ _ _ hl] at af ⊢;exact ih S af
  ·exact ih (S.freeze (.inr hl)) af
theorem lR{us:List (Nat×Site)}:∀{sites:List (Nat×Site)},dE sites us->∀o,(look (aZ sites us) o=look sites o)\/(∃s t,∃xs:List (den t),(look sites o=some (.row s t xs)\/look sites o=some (.c' s t xs)\/look sites o=some (.deep s t xs))/\look (aZ sites us) o=some (.c' s t xs)):=by
 induction us with
 |nil=>intro sites _ o;exact .inl rfl
 |cons p us ih=>
  obtain⟨F,O⟩:=p;intro sites h o;obtain⟨s,t,xs,rfl,hl⟩:=h F O (by simp)
  simp only[aZ];have hc:=cr sites F o (.c' s t xs);rcases ih h.step o with h1|⟨ap,bj,hO,h1,h2⟩
  ·by_cases e:F=o
   ·subst e;simp only[if_true] at hc;exact .inr ⟨s,t,xs,hl,h1.trans hc⟩
   ·simp only[e,if_false] at hc;exact .inl (h1.trans hc)
  ·by_cases e:F=o
   ·subst e;simp only[if_true] at hc;rw[hc] at h1;rcases h1 with h1|h1|h1
    ·cases h1
    ·cases h1;exact .inr ⟨s,t,xs,hl,h2⟩
    ·cases h1
   ·simp only[e,if_false] at hc;rw[hc] at h1;exact .inr ⟨ap,bj,hO,h1,h2⟩
theorem wu{us:List (Nat×Site)}:∀{sites:List (Nat×Site)},dE sites us->∀{o s:Nat} {t:aG} {xs:List (den t)},(o,Site.c' s t xs)∈us->look (aZ sites us) o=some (.c' s t xs):=by
 intro sites h o s t xs hm;obtain⟨ow,t0,Ae,he,hl⟩:=h o _ hm;cases he;rcases lR h o with h1|⟨ap,bj,hO,h1,h2⟩
 ·-- named,and aip ajo
  induction us generalizing sites with
  |nil=>simp at hm
  |cons p us ih=>
   obtain⟨F,O⟩:=p;simp only[aZ] at h1 ⊢;rcases List.mem_cons.1 hm with hm|hm
   ·cases hm;rcases lR h.step o with h2|⟨ap,bj,hO,h2,aa⟩
    ·rw[h2,cr];simp
    ·rw[cr] at h2;simp at h2;obtain⟨rfl,rfl,h2⟩:=h2;rw[aa];cases h2;rfl
   ·have hc:=cr sites F o O;by_cases e:F=o
    ·subst e;obtain⟨s1,t1,afw,rfl,hQ⟩:=h F O (by simp)
     have:Site.c' s1 t1 afw=Site.c' s t xs:=by
      rcases hl with hl|hl|hl<;>rcases hQ with hQ|hQ|hQ<;>rw[hl] at hQ<;>cases hQ<;>rfl
     cases this;simp only[if_true] at hc;rcases lR h.step F with h2|⟨ap,bj,hO,h2,aa⟩
     ·rw[h2,hc]
     ·rw[hc] at h2;rcases h2 with h2|h2|h2
      ·cases h2
      ·cases h2;exact aa
      ·cases h2
    ·simp only[e,if_false] at hc;refine ih h.step hm (by rw[hc];exact hl) ?_
     rw[h1,hc]
 ·rcases hl with hl|hl|hl<;>rcases h1 with h1|h1|h1<;>rw[hl] at h1<;>cases h1<;>exact h2
end
section
variable {P:Program}{M:World}{J:List Nat}{X:Nat->Prop}{B:Nat->Value}{st:ae}{tm:Array Value}{w:World}
structure k3(M:World)(J:List Nat)(X:Nat->Prop)(B:Nat->Value)(st:ae)(tm:Array Value)(w:World)(vs:List (Nat×Site)):Prop where
 old:ag M J X B st tm w
 bC:dE st.sites vs
theorem k3.new{vs:List (Nat×Site)}(aB:k3 M J X B st tm w vs):ag M J X B {st with sites:=aZ st.sites vs} tm w:=aB.old.yk aB.bC
theorem k3.go{vs:List (Nat×Site)}(aB:k3 M J X B st tm w vs){a:aL}{v:Value}(h:cc B st.sites w (au X B st.sites) a v):cc B (aZ st.sites vs) w (au X B (aZ st.sites vs)) a v:=by
 have dI:∀F,bT (aZ st.sites vs) F->bT st.sites F:=by
  rintro F ⟨O,h1,h2⟩;rcases lR aB.bC F with h|⟨s,t,xs,_,h⟩
  ·exact⟨O,h▸h1,h2⟩
  ·rw[h] at h1;cases h1;cases h2
 refine h.goes ⟨fun o O be=>?_,fun _ _ _=>rfl,fun b hb _ ck=>hb ?_⟩ (Nat.le_refl _) ?_
 ·rcases lR aB.bC o with h|⟨s,t,xs,h1,h2⟩
  ·exact⟨O,h.trans be,Nat.le_refl _,fun _=>rfl⟩
  ·refine⟨_,h2,?_,fun _=>rfl⟩
   rw[be] at h1;rcases h1 with h1|h1|h1<;>cases h1<;>exact Nat.le_refl _
 ·rcases ck with h|⟨F,h1,h2⟩
  ·exact .inl h
  ·exact .inr ⟨F,dI F h1,h2⟩
 ·rintro b (h|⟨F,h1,h2⟩)
  ·exact aB.old.old b h
  ·exact aB.old.dS (dI F h1) h2
theorem _x{o s:Nat}{t:aG}{xs:List (den t)}(hr:rowOf st o s=some ⟨t,xs⟩):dE st.sites (me st o s t xs):=by
 unfold me;split
 ·exact .nil
 ·intro F O hm;simp only[List.mem_singleton,Prod.mk.injEq] at hm;obtain⟨rfl,rfl⟩:=hm;exact⟨s,t,xs,rfl,(jZ hr).imp id .inl⟩
theorem Kw{o s:Nat}{t:aG}{xs:List (den t)}(hr:rowOf st o s=some ⟨t,xs⟩):aZ st.sites (me st o s t xs)=aZ st.sites [(o,.c' s t xs)]:=by
 unfold me;split
 ·rename_i ow t0 Ae a8;have a8:look st.sites o=some (.c' ow t0 Ae):=a8;simp only[aZ];rcases jZ hr with h|h
  ·rw[a8] at h;cases h
  ·exact(JK _ _ _ h).symm
 ·rfl
theorem Xj{sites us:List (Nat×Site)}(h:dE sites us){o s:Nat}{t:aG}{xs:List (den t)}(hl:look sites o=some (.c' s t xs)):look (aZ sites us) o=some (.c' s t xs):=by
 rcases lR h o with h1|⟨ap,bj,hO,h1,h2⟩
 ·rw[h1];exact hl
 ·rw[hl] at h1;rcases h1 with h1|h1|h1
  ·cases h1
  ·cases h1;exact h2
  ·cases h1
theorem tw{o s:Nat}{t:aG}{xs:List (den t)}(h:lZ st o s=some ⟨t,xs⟩):look st.sites o=some (.deep s t xs):=by
 unfold lZ at h;split at h
 ·rename_i ap bj hO H;cases hb:ap.beq s with
  |false=>rw[hb] at h;cases h
  |true=>
   rw[hb] at h;have:=Nat.eq_of_beq_eq_true hb;subst this;cases h;exact H
 ·cases h
theorem M1{l:ay}{d:aR}{us:List (Nat×Site)}(h:jS st l=some (d,us)):dE st.sites us:=by
 unfold jS at h;split at h
 ·cases h;exact .nil
 ·cases h;exact .nil
 ·rename_i o s;split at h
  ·rename_i t xs hr;cases h;exact _x hr
  ·split at h
   ·rename_i t xs hr;cases h;intro F O hm;simp only[List.mem_singleton,Prod.mk.injEq] at hm;obtain⟨rfl,rfl⟩:=hm;exact⟨s,t,xs,rfl,.inr (.inr (tw hr))⟩
   ·cases h
 ·cases h;exact .nil
 ·cases h
theorem M0{l:ay}{d:aR}{us vs:List (Nat×Site)}{v:Value}(h:jS st l=some (d,us))(ab:dv B st.sites w (au X B st.sites) l v)
  (aB:k3 M J X B st tm w vs) (dI:∀p,p∈us->p∈vs):Rd w (au X B (aZ st.sites vs)) d v:=by
 unfold jS at h;split at h
 ·cases h;exact hX aB.go ab
 ·cases h;rw[show v=_ from ab];exact .nil _
 ·rename_i o s;split at h
  ·rename_i t xs hr;cases h;have hl:look (aZ st.sites vs) o=some (.c' s t xs):=by
    unfold me at dI;split at dI
    ·rename_i ow t0 Ae a8;have a8:look st.sites o=some (.c' ow t0 Ae):=a8;rcases jZ hr with h|h
     ·rw[a8] at h;cases h
     ·exact Xj aB.bC h
    ·exact wu aB.bC (dI _ (List.mem_singleton.2 rfl))
   have:=aB.new.sites o _ hl;have hz:v=bO (B o):=by
    rcases jZ hr with h1|h1<;>exact Ref.at ab.2 h1 rfl
   rw[hz];exact this.1
  ·split at h
   ·rename_i t xs hr;cases h;have:=aB.new.sites o _ (wu aB.bC (dI _ (List.mem_singleton.2 rfl)));have hz:v=bO (B o):=Ref.at ab.2 (tw hr) rfl;rw[hz];exact this.1
   ·cases h
 ·rename_i g;cases h;obtain⟨U,rfl,hl,_⟩:=ab;have:U=[]:=List.eq_nil_of_length_eq_zero (by simpa using hl)
  subst this;exact .fn g [] [] (fun _=>[]) _ rfl rfl (fun b hb=>by simp at hb) (fun b hb=>by simp at hb) (fun i am=>by simp at am) (fun i am=>by simp at am) (fun i am=>by simp at am)
 ·cases h
theorem Dz:∀{U:List ay} {ds:List aR} {us:List (Nat×Site)},hN st U=some (ds,us)->dE st.sites us:=by
 intro U;induction U with
 |nil=>intro ds us h;simp only[hN] at h;cases h;exact .nil
 |cons l U ih=>
  intro ds us h;simp only[hN] at h;split at h
  ·rename_i d u1 gL u2 h1 h2;cases h;exact(M1 h1).append (ih h2)
  ·cases h
theorem yo:∀{U:List ay} {ds:List aR} {us vs:List (Nat×Site)} {cs:List Value},hN st U=some (ds,us)->ct B st.sites w (au X B st.sites) U cs->
  k3 M J X B st tm w vs->(∀p,p∈us->p∈vs)->cp w (au X B (aZ st.sites vs)) ds cs:=by
 intro U;induction U with
 |nil=>intro ds us vs cs h hl _ _;simp only[hN] at h;cases h;rw[hl.lb];exact⟨rfl,fun j h=>by simp at h⟩
 |cons l U ih=>
  intro ds us vs cs h hl aB dI;simp only[hN] at h;split at h
  ·rename_i d u1 gL u2 h1 h2;cases h;obtain⟨c,jT,rfl,hc,ee⟩:=hl.inv;have cy:=M0 h1 hc aB (fun p ai=>dI p (List.mem_append.2 (.inl ai)))
   obtain⟨b',dy⟩:=ih h2 ee aB (fun p ai=>dI p (List.mem_append.2 (.inr ai)))
   refine⟨by simp[b'],fun j g1 g2=>?_⟩
   cases j with
   |zero=>exact cy
   |succ j=>exact dy j (by simpa using g1) (by simpa using g2)
  ·cases h
theorem lw.run{P:Program}{u:Bool}(g D:Nat)(t:TypeId)(bC:Nat×Nat):∀(vs:List Value) (i:Nat) (cur:Array Value) (w:World),w.heap[g]? =some (.cells cur t bC)->lw u t cur bC->D+i+vs.length<=cur.size->(∀v∈vs,v.oneCell'=true)->
  (storeCells ⟨g,D,none⟩ vs i).run P w=.ok () (w.setRow g (cur.toList.take (D+i)++vs++cur.toList.drop (D+i+vs.length)).toArray)
 |[],i,cur,w,aF,_,_,_=>by
  simp only[storeCells,List.append_nil,List.length_nil,Nat.add_zero,List.take_append_drop,Array.toArray_toList];rw[setRow_self w g cur t bC aF];rfl
 |v::rest,i,cur,w,aF,aK,hl,h1=>by
  have am:D+i<cur.size:=by simp at hl;omega
  have adY:(⟨g,D,none⟩:Addr).add i=⟨g,D+i,none⟩:=by unfold Addr.add;split<;>simp_all
  have iQ:w.cell? ⟨g,D+i,none⟩=some cur[D+i]:=by simp[World.cell?,aF,am]
  have adO:w.frozen? ⟨g,D+i,none⟩=false:=by
   rcases aK.2 with rfl|⟨_,aK⟩
   ·simp[World.frozen?,aF]
   ·simp only[World.frozen?,aF];have:¬bC.1<=D+i:=by omega
    simp[this]
  have dB:(store ((⟨g,D,none⟩:Addr).add i) v).run P w=.ok () (w.setRow g (cur.setIfInBounds (D+i) v)):=by
   rw[adY,run_store P w _ v _ (h1 v (by simp)),iQ]
   simp[adO,setCell_eq_setRow w g (D+i) cur t bC v aF]
  have ih:=lw.run (P:=P) (u:=u) g D t bC rest (i+1) (cur.setIfInBounds (D+i) v) (w.setRow g (cur.setIfInBounds (D+i) v)) (setRow_heap w g cur _ t _ aF)
   ⟨aK.1,aK.2.imp id fun h=>⟨h.1,by simpa using h.2⟩⟩ (by simp at hl ⊢;omega) (fun x hx=>h1 x (by simp[hx]))
  simp only[storeCells,Sem.run_bind,dB,Result.andThen_ok,ih,setRow_setRow];congr 3
  have e:=list_seg_step cur.toList (D+i) v rest (by simp at hl ⊢;omega)
  simpa[Array.toList_setIfInBounds,Nat.add_assoc] using e
theorem Hi{u:Bool}{bC:Nat×Nat}{T:TypeId}{ti:cj}(h:ti.ok P T)(hn:ti≠.none){b off:Nat}{vv:Value}{cur:List Value}{ga:TypeId}(aF:w.heap[b]? =some (.cells cur.toArray ga bC))(aK:lw u ga cur.toArray bC)
  (eX:vv.cells.toList.length=ti.size) (dc:off+vv.cells.toList.length<=cur.length) (h1:∀u∈vv.cells.toList,u.oneCell'=true):
  (storeVar T ⟨b,off,none⟩ vv).run P w=.ok () (w.setRow b (cg cur off vv.cells.toList).toArray):=by
 have H:vv.cells.size=ti.size:=by simpa using eX
 have:=lw.run (P:=P) b off ga bC vv.cells.toList 0 cur.toArray w aF aK (by simpa using dc) h1
 simp only[storeVar,Sem.run_bind,cj.Kh h hn,Result.andThen_ok,H,ne_eq,not_true_eq_false,if_false];rw[this];simp[cg]
variable {D:Oper}
theorem pG{az:Nat->Value}{w':World}{us:List (Nat×Site)}(S:ag M J X az {st with sites:=aZ st.sites us} tm w')(Y:ca st D.dst=true)
  (h:(execOp (Act.eval ⟨tm,[]⟩) D).run P w=.ok .skip w'):cA P M J X st tm w D (b0 (.cL undef)) us:=
 fun _ _ bL=>_2 h (bL _ _ _ (ag.cS S Y rfl))
theorem hU{az:Nat->Value}{w':World}{us:List (Nat×Site)}{v:aL}{vv:Value}(S:ag M J X az {st with sites:=aZ st.sites us} tm w')(Y:ca st D.dst=true)
  (h:(execOp (Act.eval ⟨tm,[]⟩) D).run P w=.ok (.value vv) w') (ab:cc az (aZ st.sites us) w' (au X az (aZ st.sites us)) v vv):cA P M J X st tm w D v us:=
 fun _ _ bL=>nN h (bL _ _ _ (ag.cS S Y ab))
theorem mI{aJ:Type}(a:List aJ)(off:Nat)(b:List aJ)(h:off+b.length<=a.length):(cg a off b).length=a.length:=by
 unfold cg;simp only[List.length_append,List.length_take,List.length_drop];omega
theorem A7{aJ:Type}(a:List aJ)(off n:Nat)(b:List aJ)(h:off+b.length<=n)(hn:n<=a.length):(cg a off b).take n=cg (a.take n) off b:=by
 unfold cg;apply List.ext_getElem?;intro j;simp only[List.getElem?_take,List.getElem?_append,List.length_append,List.length_take,List.getElem?_drop];have fD:min off a.length=off:=by omega
 have gN:min off (min n a.length)=off:=by omega
 simp only[fD,gN];by_cases bD:j<off
 ·have bM:j<n:=by omega
  have cv:j<off+b.length:=by omega
  simp[bD,bM,cv]
 ·by_cases cv:j<off+b.length
  ·have bM:j<n:=by omega
   simp[bD,bM,cv]
  ·have e:off+b.length+(j-(off+b.length))=j:=by omega
   simp[bD,cv,e]
theorem U5{cells U:List ay}{T:TypeId}{cur vs:List Value}{b off:Nat}(h:mX cells T cur b)(hl:vs.length=U.length)(h8:gR U=true):mX (cg cells off U) T (cg cur off vs) b:=by
 intro b4;unfold cg at b4 ⊢;cases off with
 |zero=>
  cases U with
  |nil=>
   cases vs with
   |nil=>simpa using h (by simpa using b4)
   |cons=>cases hl
  |cons l U=>
   simp only[List.take_zero,List.nil_append,List.cons_append,List.head?_cons,Option.some.injEq] at b4;subst b4;cases h8
 |succ n=>
  cases cells with
  |nil=>
   cases U with
   |nil=>simp at b4
   |cons l U=>
    simp only[List.take_nil,List.nil_append,List.cons_append,List.head?_cons,Option.some.injEq] at b4;subst b4;cases h8
  |cons c cells=>
   simp only[List.take_succ_cons,List.cons_append,List.head?_cons,Option.some.injEq] at b4;subst b4;have:=h rfl;cases cur with
   |nil=>simp at this
   |cons v cur=>simpa using this
theorem ag.XU(S:ag M J X B st tm w){o s off:Nat}{cells U:List ay}{v:Value}{vs:List Value}(hb:look st.sites o=some (.box s cells))(ab:dv B st.sites w (au X B st.sites) (.ptr o s off) v)
  (hl:ct B st.sites w (au X B st.sites) U vs) (dc:off+U.length<=cells.length) (h1:∀u∈vs,u.oneCell'=true) (h8:gR U=true):
  ∃b T cur,v=.pointer (some ⟨b,off,none⟩)/\w.heap[b]? =some (.cells (List.toArray cur) T (0,0))/\off+vs.length<=cur.length/\
   ag M J X B {st with sites:=cd st.sites o (.box s (cg cells off U))} tm (w.setRow b (cg cur off vs).toArray):=by
 obtain⟨b,T,cur,bH,oc,aF,jM,kU⟩:=S.box hb ab;have jp:off+vs.length<=cur.length:=by rw[hl.1,kU.1];exact dc
 refine⟨b,T,cur,oc,aF,jp,?_⟩;have fA:mX cells T cur b:=by
  obtain⟨aM,dK,PF,aw,aj,_,_,bA,_⟩:=S.sites o _ hb;rw[bH] at aw;cases aw;rw[aF] at aj;cases aj;exact bA
 refine S.write hb rfl rfl rfl (fS (by rw[bH];rfl)) aF (fun H hw kW go=>?_)
 have Ps:=yN go (kU.cg off hl);refine⟨b,T,_,bH,kW,Ps.1,fun u hu=>?_,U5 fA hl.1 h8,Ps.2⟩
 unfold cg at hu;simp only[List.mem_append] at hu;rcases hu with(hu|hu)|hu
 ·exact jM u (List.mem_of_mem_take hu)
 ·exact h1 u hu
 ·exact jM u (List.mem_of_mem_drop hu)
theorem il{B:Nat->Value}{sites:List (Nat×Site)}{w:World}{av:Nat->Prop}{ds:List aR}{vs:List Value}(h:ct B sites w av (cq ds) vs):cp w av ds vs:=
 ⟨by simpa[cq] using h.1,fun j g1 g2=>by
  have:=h.2 j (by simpa[cq] using g1) g2
  simp only[cq,List.getElem_map] at this;exact this⟩
theorem TS{w:World}{av:Nat->Prop}{t:aG}{xs:List (den t)}{k:Nat}{dn:den t}{cs ao:List Value}(ak:k<xs.length)(h:cp w av (flat t xs) cs)(af:cp w av (enc t dn) ao):
  cp w av (flat t (xs.set k dn)) (cg cs (k*ax t) ao):=by
 have e:flat t (xs.set k dn)=cg (flat t xs) (k*ax t) (enc t dn):=by
  rw[YS,if_pos ak];unfold cg;rw[fy,Nat.add_mul,Nat.one_mul]
 rw[e];have a:=gh (B:=fun _=>undef) (sites:=[]) h.1 h.2
 have b:=gh (B:=fun _=>undef) (sites:=[]) af.1 af.2
 have c:=a.cg (k*ax t) b;have e2:cg (cq (flat t xs)) (k*ax t) (cq (enc t dn))=cq (cg (flat t xs) (k*ax t) (enc t dn)):=by
  simp[cg,cq,List.map_append,List.map_take,List.map_drop]
 rw[e2] at c;exact il c
theorem ag.XT(S:ag M J X B st tm w){o s k off:Nat}{t:aG}{xs:List (den t)}{x dn:den t}{v:Value}{ds:List aR}{vs:List Value}(hb:look st.sites o=some (.row s t xs))
  (ab:dv B st.sites w (au X B st.sites) (.eI o s t k off) v) (hx:xs[k]? =some x) (mq:enc t dn=cg (enc t x) off ds)
  (hl:cp w (au X B st.sites) ds vs) (dc:off+ds.length<=ax t) (h1:∀u∈vs,u.oneCell'=true):
  ∃b T cur bC,v=.pointer (some ⟨b,k*ax t+off,none⟩)/\w.heap[b]? =some (.cells (List.toArray cur) T bC)/\lw t.ft T cur.toArray bC/\k*ax t+off+vs.length<=cur.length/\
   ag M J X B {st with sites:=cd st.sites o (.row s t (xs.set k dn))} tm (w.setRow b (cg cur (k*ax t+off) vs).toArray):=by
 obtain⟨b,D,oc,ke⟩:=ab;obtain⟨n,c,bH⟩:=Ref.at ke hb rfl;obtain⟨e,cs,hq,db⟩:=S.sites o _ hb;rw[(hK hq).1] at bH;have ak:k<xs.length:=by
  rcases Nat.lt_or_ge k xs.length with h|h
  ·exact h
  ·rw[List.getElem?_eq_none h] at hx;cases hx
 obtain⟨oi,h⟩:=hq;rcases h with⟨hn,_⟩|⟨g,cap,cur,bC,iy,mw,aF,gH,ja,ee,gX⟩
 ·rw[bH] at hn;cases hn
 ·rw[bH] at iy;cases iy;have mv:(k+1)*ax t<=xs.length*ax t:=Nat.mul_le_mul_right _ ak;have iw:xs.length*ax t<=c*ax t:=Nat.mul_le_mul_right _ gH;rw[Nat.add_mul,Nat.one_mul] at mv;have mr:vs.length=ds.length:=hl.1;have jM:cur.toList.length=c*ax t:=by simpa using ee
  have jp:k*ax t+off+vs.length<=cur.toList.length:=by omega
  refine⟨b,e,cur.toList,bC,by rw[oc,Nat.zero_add],by simpa using aF,by simpa using mw,jp,?_⟩
  refine S.write hb rfl rfl rfl (fS (by rw[bH];rfl)) aF (fun H hw kW go=>?_)
  have ajP:cs.length=xs.length*ax t:=oi;refine⟨e,cg cs (k*ax t+off) vs,⟨?_,.inr ⟨b,c,_,bC,?_,?_,kW,?_,ja,?_,?_⟩⟩,?_⟩
  ·rw[mI _ _ _ (by omega),List.length_set];exact oi
  ·rw[bH,List.length_set]
  ·refine⟨mw.1,?_⟩;rcases mw.2 with h|⟨h,af⟩
   ·exact .inl h
   ·refine .inr ⟨h,?_⟩;rw[List.size_toArray,mI _ _ _ jp];simpa using af
  ·rw[List.length_set];exact gH
  ·rw[List.size_toArray,mI _ _ _ jp];exact jM
  ·rw[<-gX,List.length_set,List.toList_toArray];exact A7 _ _ _ _ (by omega) (by rw[jM];omega)
  ·have v_:cp w (au X B st.sites) (flat t xs) cs:=⟨by rw[dM];exact oi,db⟩
   have fA:=tA t xs k x hx;have cy:cp w (au X B st.sites) (enc t x) ((cs.drop (k*ax t)).take (ax t)):=by
    have a:=gh (B:=fun _=>undef) (sites:=[]) v_.1 v_.2
    have a':=(a.drop (k*ax t)).take (ax t);have e2:((cq (flat t xs)).drop (k*ax t)).take (ax t)=cq (enc t x):=by
     rw[<-fA];simp[cq,List.map_drop,List.map_take]
    rw[e2] at a';exact il a'
   have b':cp w (au X B st.sites) (enc t dn) (cg ((cs.drop (k*ax t)).take (ax t)) off vs):=by
    rw[mq];have a:=gh (B:=fun _=>undef) (sites:=[]) cy.1 cy.2
    have a':=gh (B:=fun _=>undef) (sites:=[]) hl.1 hl.2
    have fm:=a.cg off a';have e2:cg (cq (enc t x)) off (cq ds)=cq (cg (enc t x) off ds):=by
     simp[cg,cq,List.map_append,List.map_take,List.map_drop]
    rw[e2] at fm;exact il fm
   have dy:=TS ak v_ b';have ce:cg cs (k*ax t) (cg ((cs.drop (k*ax t)).take (ax t)) off vs)=cg cs (k*ax t+off) vs:=by
    unfold cg;apply List.ext_getElem?;intro j;simp only[List.getElem?_append,List.length_append,List.length_take,List.length_drop,List.getElem?_take,List.getElem?_drop];have fD:min (k*ax t) cs.length=k*ax t:=by omega
    have gN:min (k*ax t+off) cs.length=k*ax t+off:=by omega
    have mE:min (ax t) (cs.length-k*ax t)=ax t:=by omega
    have wb:min off (ax t)=off:=by omega
    simp only[fD,gN,mE,wb];by_cases bD:j<k*ax t
    ·have bM:j<k*ax t+off:=by omega
     have cv:j<k*ax t+off+vs.length:=by omega
     have fl:j<k*ax t+(off+vs.length+(ax t-(off+vs.length))):=by omega
     simp[bD,bM,cv,fl]
    ·by_cases bM:j<k*ax t+off
     ·have d1:j-k*ax t<off:=by omega
      have d2:j-k*ax t<off+vs.length:=by omega
      have d3:j-k*ax t<ax t:=by omega
      have cv:j<k*ax t+off+vs.length:=by omega
      have fl:j<k*ax t+(off+vs.length+(ax t-(off+vs.length))):=by omega
      have gO:k*ax t+(j-k*ax t)=j:=by omega
      simp[bD,bM,cv,fl,d1,d2,d3,gO]
     ·by_cases cv:j<k*ax t+off+vs.length
      ·have d1:¬j-k*ax t<off:=by omega
       have d2:j-k*ax t<off+vs.length:=by omega
       have fl:j<k*ax t+(off+vs.length+(ax t-(off+vs.length))):=by omega
       have gO:j-k*ax t-off=j-(k*ax t+off):=by omega
       simp[bD,bM,cv,fl,d1,d2,gO]
      ·by_cases fl:j<k*ax t+(off+vs.length+(ax t-(off+vs.length)))
       ·have d2:¬j-k*ax t<off+vs.length:=by omega
        have d1:¬j-k*ax t<off:=by omega
        have d5:off+vs.length+(j-k*ax t-(off+vs.length))<ax t:=by omega
        have gO:k*ax t+(off+vs.length+(j-k*ax t-(off+vs.length)))=k*ax t+off+vs.length+(j-(k*ax t+off+vs.length)):=by omega
        simp[bD,bM,cv,fl,d1,d2,d5,gO]
       ·have gO:k*ax t+(off+vs.length+(ax t-(off+vs.length)))+(j-(k*ax t+(off+vs.length+(ax t-(off+vs.length)))))=k*ax t+off+vs.length+(j-(k*ax t+off+vs.length)):=by omega
        simp[bD,bM,cv,fl,gO]
   rw[ce] at dy;exact fun j g1 g2=>hX go (dy.2 j g1 g2)
end
section
variable {P:Program}{M:World}{J:List Nat}{X:Nat->Prop}{B:Nat->Value}{st:ae}{tm:Array Value}{w:World}
theorem jg{o:Nat}{O:Site}(h:look st.sites o=some O):O.b2<aU st o:=by
 unfold aU ae.O;rw[h];exact Nat.lt_succ_self _
theorem ag.make(S:ag M J X B st tm w){o:Nat}{bw:Site}{nv:Value}{w':World}
  (hw:∀b,b<w.heap.size->w'.heap[b]? =w.heap[b]?) (Gc:w'.os=w.os) (Er:w'.tape=w.tape) (l9:w'.output=w.output) (jF:w.heap.size<=w'.heap.size)
  (mQ:∀O,look st.sites o=some O->O.b2<bw.b2) (fL:∀b,b∈bf nv->w.heap.size<=b/\b<w'.heap.size)
  (dR:∀{bi:List (Nat×Site)} {az:Nat->Value},bi=cd st.sites o bw->az o=nv->(∀{a v},cc B st.sites w (au X B st.sites) a v->cc az bi w' (au X az bi) a v)->
   (∀b,w.heap.size<=b->b∉bf nv->¬au X az bi b)->(bw.live=false->∀b,b∈bf nv->¬au X az bi b)->hW az bi w' (au X az bi) o bw):
  ag M J X (fun F=>if F=o then nv else B F) {st with sites:=cd st.sites o bw} tm w':=by
 have cZ:∀F,bT (cd st.sites o bw) F->(F=o/\bw.live=true)\/(F≠o/\bT st.sites F):=by
  rintro F ⟨O,h1,h2⟩;rw[cr] at h1;by_cases e:o=F
  ·subst e;simp at h1;subst h1;exact .inl ⟨rfl,h2⟩
  ·simp only[e,if_false] at h1;exact .inr ⟨fun h=>e h.symm,O,h1,h2⟩
 have b5:∀b,au X (fun F=>if F=o then nv else B F) (cd st.sites o bw) b->au X B st.sites b\/(b∈bf nv/\bw.live=true):=by
  rintro b (h|⟨F,h1,h2⟩)
  ·exact .inl (.inl h)
  ·rcases cZ F h1 with⟨rfl,aa⟩|⟨aa,aN⟩
   ·simp at h2;exact .inr ⟨h2,aa⟩
   ·simp only[aa,if_false] at h2;exact .inl (.inr ⟨F,aN,h2⟩)
 have bb:∀b,au X B st.sites b->b<w.heap.size:=by
  rintro b (h|⟨F,h1,h2⟩)
  ·exact S.old b h
  ·exact S.dS h1 h2
 refine S.nY (fun F O bk=>?_) (fun b _ hb=>hw b hb) (fun b h hb af=>?_) (fun go F O bk=>?_) (fun F aI b h1 h2 g1 g2=>?_) (fun F b h1 g1=>?_) (fun F b h1 g1=>?_) ?_ jF
 ·rw[cr];by_cases e:o=F
  ·subst e;exact⟨bw,by simp,Nat.le_of_lt (mQ O bk),fun h=>by have:=mQ O bk;omega⟩
  ·have bK:¬F=o:=fun h=>e h.symm
   exact⟨O,by simp[e,bk],Nat.le_refl _,fun _=>by simp[bK]⟩
 ·rcases b5 b af with af|⟨af,_⟩
  ·exact h af
  ·have:=(fL b af).1;omega
 ·rw[cr] at bk;by_cases e:o=F
  ·subst e;simp only[if_true,Option.some.injEq] at bk;subst bk;refine .inr (dR rfl (by simp) go (fun b hb cE af=>?_) (fun hl b hb af=>?_))
   ·rcases b5 b af with af|⟨af,_⟩
    ·have:=bb b af;omega
    ·exact cE af
   ·rcases b5 b af with af|⟨_,af⟩
    ·have:=bb b af;have:=(fL b hb).1;omega
    ·rw[hl] at af;cases af
  ·have bK:¬F=o:=fun h=>e h.symm
   simp only[e,if_false] at bk;exact .inl ⟨bk,by simp[bK],fun hl b hb=>hw b (S.dS ⟨O,bk,hl⟩ hb)⟩
 ·rcases cZ F h1 with⟨rfl,_⟩|⟨b6,cu⟩<;>rcases cZ aI h2 with⟨rfl,_⟩|⟨cX,dX⟩
  ·rfl
  ·simp only[if_true] at g1;simp only[cX,if_false] at g2;have:=S.dS dX g2;have:=(fL b g1).1;omega
  ·simp only[if_true] at g2;simp only[b6,if_false] at g1;have:=S.dS cu g1;have:=(fL b g2).1;omega
  ·simp only[b6,if_false] at g1;simp only[cX,if_false] at g2;exact S.dp F aI b cu dX g1 g2
 ·rcases cZ F h1 with⟨rfl,_⟩|⟨b6,cu⟩
  ·simp only[if_true] at g1;have hb:=(fL b g1).1;exact⟨fun hx=>by have:=S.old b hx;have:=S.frame.size;omega,.inr (Nat.le_trans S.frame.size hb)⟩
  ·simp only[b6,if_false] at g1;exact S.ci F b cu g1
 ·rcases cZ F h1 with⟨rfl,_⟩|⟨b6,cu⟩
  ·simp only[if_true] at g1;exact(fL b g1).2
  ·simp only[b6,if_false] at g1;exact Nat.lt_of_lt_of_le (S.dS cu g1) jF
 ·have aB:=S.frame;exact⟨Gc.trans aB.os,Er.trans aB.tape,l9.trans aB.output,Nat.le_trans aB.size jF,fun b h1 h2=>(hw b (Nat.lt_of_lt_of_le h1 aB.size)).trans (aB.block b h1 h2)⟩
theorem ag.DC(S:ag M J X B st tm w){o dst s:Nat}{El hY:Site}(hl:look st.sites o=some El)(aaw:El.live=true)(qz:El.b2=s)(kS:hY.b2=aU (st.df o (.dead s)) dst){nv:Value}{w':World}
  (aF:w.grownBy w' (B o).ownBlock) (fL:∀b,b∈bf nv->b<w'.heap.size/\(b∈bf (B o)\/w.heap.size<=b))
  (dR:∀{bi:List (Nat×Site)} {az:Nat->Value},az dst=nv->(∀{a v},cc B st.sites w (au X B st.sites) a v->cc az bi w' (au X az bi) a v)->
   hW az bi w' (au X az bi) dst hY):
  ag M J X (fun F=>if F=dst then nv else B F) {st with sites:=aZ st.sites [(o,.dead s),(dst,hY)]} tm w':=by
 have be:bT st.sites o:=⟨_,hl,aaw⟩;have h0:∀F,look (aZ st.sites [(o,.dead s),(dst,hY)]) F=
   if dst=F then some hY else if o=F then some (.dead s) else look st.sites F:=by
  intro F;simp only[aZ,cr]
 have mQ:∀O,look st.sites dst=some O->O.b2<aU (st.df o (.dead s)) dst:=by
  intro O h;unfold aU;rw[ae.k6];by_cases e:o=dst
  ·subst e;rw[hl] at h;cases h;rw[qz];simp[Site.b2]
  ·simp only[e,if_false,ae.O,h];exact Nat.lt_succ_self _
 have cZ:∀F,bT (aZ st.sites [(o,.dead s),(dst,hY)]) F->F=dst\/(F≠dst/\F≠o/\bT st.sites F):=by
  rintro F ⟨O,h1,h2⟩;rw[h0] at h1;by_cases e:dst=F
  ·exact .inl e.symm
  ·simp only[e,if_false] at h1;by_cases e2:o=F
   ·simp only[e2,if_true,Option.some.injEq] at h1;subst h1;cases h2
   ·simp only[e2,if_false] at h1;exact .inr ⟨fun h=>e h.symm,fun h=>e2 h.symm,O,h1,h2⟩
 have adv:∀b,(B o).ownBlock=some b->b∈bf (B o):=by
  intro b hb;refine fS ?_
  cases ab:B o<;>rw[ab] at hb<;>first|cases hb|skip
  rename_i a n c;cases a<;>first|exact hb|cases hb
 have uG:∀b,b<w.heap.size->b∉bf (B o)->w'.heap[b]? =w.heap[b]? :=fun b hb cE=>aF.block b hb (fun e=>cE (adv b e.symm))
 refine S.nY (fun F O bk=>?_) (fun b h hb=>uG b hb (fun e=>h (.inr ⟨o,be,e⟩))) (fun b h hb af=>?_) (fun go F O bk=>?_) (fun F aI b h1 h2 g1 g2=>?_) (fun F b h1 g1=>?_) (fun F b h1 g1=>?_) ?_ aF.size
 ·rw[h0];by_cases e:dst=F
  ·subst e;refine⟨hY,by simp,?_,fun h=>?_⟩
   ·rw[kS];exact Nat.le_of_lt (mQ O bk)
   ·have:=mQ O bk;rw[kS] at h;omega
  ·have bK:¬F=dst:=fun h=>e h.symm
   by_cases e2:o=F
   ·subst e2;rw[hl] at bk;cases bk;exact⟨.dead s,by simp[e],Nat.le_of_eq qz,fun _=>by simp[bK]⟩
   ·exact⟨O,by simp[e,e2,bk],Nat.le_refl _,fun _=>by simp[bK]⟩
 ·rcases af with af|⟨F,h1,h2⟩
  ·exact h (.inl af)
  ·rcases cZ F h1 with rfl|⟨b6,_,cu⟩
   ·simp only[if_true] at h2;rcases(fL b h2).2 with aa|aa
    ·exact h (.inr ⟨o,be,aa⟩)
    ·omega
   ·simp only[b6,if_false] at h2;exact h (.inr ⟨F,cu,h2⟩)
 ·rw[h0] at bk;by_cases e:dst=F
  ·subst e;simp only[if_true,Option.some.injEq] at bk;subst bk;exact .inr (dR (by simp) go)
  ·have bK:¬F=dst:=fun h=>e h.symm
   simp only[e,if_false] at bk;by_cases e2:o=F
   ·simp only[e2,if_true,Option.some.injEq] at bk;subst bk;exact .inr trivial
   ·simp only[e2,if_false] at bk;refine .inl ⟨bk,by simp[bK],fun fB b hb=>?_⟩
    have Rh:bT st.sites F:=⟨O,bk,fB⟩;exact uG b (S.dS Rh hb) (fun h=>e2 (S.dp o F b be Rh h hb))
 ·have key:∀F b,F≠dst->F≠o->bT st.sites F->b∈bf (B F)->b∉bf nv:=by
   intro F b b6 cX cu hb hn;rcases(fL b hn).2 with aa|aa
   ·exact cX (S.dp F o b cu be hb aa)
   ·have:=S.dS cu hb;omega
  rcases cZ F h1 with rfl|⟨b6,fD,cu⟩<;>rcases cZ aI h2 with rfl|⟨cX,gN,dX⟩
  ·rfl
  ·simp only[if_true] at g1;simp only[cX,if_false] at g2;exact absurd g1 (key aI b cX gN dX g2)
  ·simp only[if_true] at g2;simp only[b6,if_false] at g1;exact absurd g2 (key F b b6 fD cu g1)
  ·simp only[b6,if_false] at g1;simp only[cX,if_false] at g2;exact S.dp F aI b cu dX g1 g2
 ·rcases cZ F h1 with rfl|⟨b6,_,cu⟩
  ·simp only[if_true] at g1;rcases(fL b g1).2 with aa|aa
   ·exact S.ci o b be aa
   ·exact⟨fun hx=>by have:=S.old b hx;have:=S.frame.size;omega,.inr (Nat.le_trans S.frame.size aa)⟩
  ·simp only[b6,if_false] at g1;exact S.ci F b cu g1
 ·rcases cZ F h1 with rfl|⟨b6,_,cu⟩
  ·simp only[if_true] at g1;exact(fL b g1).1
  ·simp only[b6,if_false] at g1;exact Nat.lt_of_lt_of_le (S.dS cu g1) aF.size
 ·have aB:=S.frame;refine⟨aF.os.trans aB.os,aF.tape.trans aB.tape,aF.output.trans aB.output,Nat.le_trans aB.size aF.size,fun b h1 h2=>?_⟩
  rw[uG b (Nat.lt_of_lt_of_le h1 aB.size) (fun e=>?_)]
  ·exact aB.block b h1 h2
  ·rcases(S.ci o b be e).2 with h|h
   ·exact h2 h
   ·omega
theorem ag.append(S:ag M J X B st tm w){o dst s:Nat}{t:aG}{xs r:List (den t)}(hl:look st.sites o=some (.row s t xs)){nv:Value}{w':World}
  (aF:w.grownBy w' (B o).ownBlock) (fL:∀b,b∈bf nv->b<w'.heap.size/\(b∈bf (B o)\/w.heap.size<=b))
  (dR:∀{bi:List (Nat×Site)} {az:Nat->Value},az dst=nv->(∀{a v},cc B st.sites w (au X B st.sites) a v->cc az bi w' (au X az bi) a v)->
   hW az bi w' (au X az bi) dst (.row (aU (st.df o (.dead s)) dst) t r)):
  ag M J X (fun F=>if F=dst then nv else B F) {st with sites:=aZ st.sites [(o,.dead s),(dst,.row (aU (st.df o (.dead s)) dst) t r)]} tm w':=
 S.DC hl rfl rfl rfl aF fL dR
end
def Src(w:World)(size:Nat)(x:Value)(m:Nat)(news:List Value):Prop:=
 news.length=m*size/\(∀u∈news,u.oneCell'=true)/\((x=.slice none 0 0/\m=0)\/(∃a c,x=.slice (some a) m c/\∀j u,news[j]? =some u->w.cell? (a.add j)=some u)\/∃s:ByteArray,x=.string s/\m=s.size/\size=1/\news=s.data.toList.map fun b=>Value.int .u8 b.toNat)
theorem Src.run{P:Program}{w w2:World}{size m:Nat}{x:Value}{news:List Value}(h:Src w size x m news)(hw:w2.heap=w.heap):(Builtin.firstCells size m x).run P w2=.ok news.toArray w2:=by
 obtain⟨h1,_,h2⟩:=h;rcases h2 with⟨rfl,rfl⟩|⟨a,c,rfl,aa⟩|⟨s,rfl,rfl,rfl,rfl⟩
 ·have:news=[]:=List.eq_nil_of_length_eq_zero (by simpa using h1)
  subst this;exact run_firstCells_none w2 size 0 0 0
 ·refine run_firstCells_some w2 size m a m c news h1 (fun j u hu=>?_)
  have:=aa j u hu;unfold World.cell? at this ⊢;rw[hw];exact this
 ·have e:s.extract 0 s.size=s:=by simp
  show Result.ok ((s.extract 0 s.size).data.map fun b=>Value.int .u8 b.toNat) w2=_
  rw[e];congr 1
  apply Array.ext';simp
theorem Src.len{P:Program}{w w2:World}{size m:Nat}{x:Value}{news:List Value}(h:Src w size x m news):(Builtin.lenOf x).run P w2=.ok m w2:=by
 obtain⟨_,_,h2⟩:=h;rcases h2 with⟨rfl,rfl⟩|⟨a,c,rfl,_⟩|⟨s,rfl,rfl,_⟩<;>rfl
theorem ts{P:Program}{u:Bool}(w:World)(T pC ty e:TypeId)(eQ:u=true->e=lH)(i:TypeInfo)(z:Value)(size bytes:Nat)(aC:P.underlying T=some (.slice e))(fN:(∃ex,P.underlying pC=some (.slice ex))\/P.underlying pC=some .string)(am:P.info? e=some i)
  (aK:i.zero=some z) (jF:i.size=size) (ki:i.bytes=bytes) (fi:z.cells.size=size) (eX:0<size)
  (v:Value) (n:Nat) (xs:List Value) (hq:∃bK,rowAt w u bK size v n xs) (x:Value) (m:Nat) (news:List Value) (dP:Src w size x m news)
  (s8:n+m<=maxLen) (uh:(n+m)*bytes<=140737488355328):
  ∃v' w',(Builtin.append_ #[T,pC] ty #[v,x]).run P w=.ok v' w'/\(∃bK,rowAt w' u bK size v' (n+m) (xs++news))/\w.grownBy w' v.ownBlock/\
   ∀b,ba v'=some b->b<w'.heap.size/\(ba v=some b\/w.heap.size<=b):=by
 subst jF ki;obtain⟨bK,jP,hq⟩:=hq;have rU:n+m<=9223372036854775807:=by simp only[maxLen] at s8;omega
 have hlen:(xs++news).length=(n+m)*i.size:=by rw[List.length_append,jP,dP.1,Nat.add_mul]
 have grown:∀(old:Nat),old<n+m->∀(row:Option Nat),
   rowAt (w.drew.alloc (.cells (xs.toArray++news.toArray++Builtin.zeroCells z.cells (grownCap w (n+m) old e-(n+m))) e)) u e i.size
    (.slice (some ⟨w.heap.size,0,none⟩) (n+m) (grownCap w (n+m) old e)) (n+m) (xs++news)/\
   w.grownBy (w.drew.alloc (.cells (xs.toArray++news.toArray++Builtin.zeroCells z.cells (grownCap w (n+m) old e-(n+m))) e)) row:=by
  intro old al row;have vF:=grownCap_ge w (n+m) old e;have ja:grownCap w (n+m) old e<=maxLen:=grownCap_le_maxLen w (n+m) old e s8;refine⟨⟨hlen,.inr ⟨w.heap.size,_,_,(0,0),rfl,⟨eQ,.inl rfl⟩,heap_alloc_new w.drew _,vF,ja,?_,?_⟩⟩,⟨rfl,rfl,rfl,by simp,fun k ak _=>RowKit.Below.heap_alloc w.drew _ k ak⟩⟩
  ·simp only[Array.size_append,List.size_toArray,size_zeroCells,fi,jP,dP.1,<-Nat.add_mul];congr 1
   omega
  ·simp only[Array.toList_append,List.append_assoc];rw[<-List.append_assoc,<-hlen];exact List.take_left
 have Mv:∀{c:Nat} {D:Obj} {v:Value} b,ba (.slice (some ⟨w.heap.size,0,none⟩) (n+m) c)=some b->b<(w.drew.alloc D).heap.size/\(ba v=some b\/w.heap.size<=b):=by
  intro c D v b hb;cases hb;exact⟨by simp,.inr (Nat.le_refl _)⟩
 rcases hq with⟨rfl,rfl⟩|⟨g,cap,cur,bC,rfl,gJ,aF,gH,ja,ee,uD⟩
 ·have hx:xs=[]:=List.eq_nil_of_length_eq_zero (by simpa using jP)
  subst hx;by_cases hm:m=0
  ·subst hm;have hn:news=[]:=List.eq_nil_of_length_eq_zero (by simpa using dP.1)
   subst hn;refine⟨.slice none 0 0,w,?_,⟨e,pJ w u e i.size⟩,⟨rfl,rfl,rfl,Nat.le_refl _,fun _ _ _=>rfl⟩,fun b hb=>by cases hb⟩
   rcases fN with⟨ex,fN⟩|fN<;>simp[Builtin.append_,run_underlying aC,run_underlying fN,sizeOf,typeInfo,am,dP.len,dP.run (w2:=w) rfl]
  ·have vE:=grown 0 (by omega) (Value.ownBlock (.slice none 0 0))
   refine⟨_,_,?_,⟨e,vE.1⟩,vE.2,Mv⟩;have u3:¬(9223372036854775807<(m:Int)):=by omega
   have hb:=uh;simp only[Nat.zero_add] at hb;have u4:¬(281474976710656<Builtin.nextslicecap m 0*i.bytes):=by rw[nextslicecap_zero (by omega)];omega
   rcases fN with⟨ex,fN⟩|fN<;>simp[Builtin.append_,run_underlying aC,run_underlying fN,sizeOf,typeInfo,zeroValue,am,aK,dP.len,hm,u3,u4,Question.forced,run_firstCells_none,dP.run (w2:=w.drew) rfl,newRow,grownCap]
 ·by_cases nS:n+m<=cap
  ·have ls:n*i.size+news.length<=cur.size:=by rw[dP.1,ee,<-Nat.add_mul];exact Nat.mul_le_mul_right _ nS
   have dB:=lw.run (P:=P) g (n*i.size) bK bC news 0 cur w aF gJ (by simpa using ls) dP.2.1
   simp only[Nat.add_zero] at dB;refine⟨.slice (some ⟨g,0,none⟩) (n+m) cap,w.setRow g (cur.toList.take (n*i.size)++news++cur.toList.drop (n*i.size+news.length)).toArray,?_,
    ⟨bK,hlen,.inr ⟨g,cap,_,bC,rfl,⟨gJ.1,gJ.2.imp id (fun h=>⟨h.1,?_⟩)⟩,setRow_heap w g cur _ bK _ aF,nS,ja,?_,?_⟩⟩,⟨rfl,rfl,rfl,by simp,fun k _ ak=>setRow_other w g k _ (fun e=>ak (by simp[Value.ownBlock,e]))⟩,fun b hb=>?_⟩
   ·rcases fN with⟨ex,fN⟩|fN<;>simp[Builtin.append_,run_underlying aC,run_underlying fN,sizeOf,typeInfo,am,dP.len,nS,dP.run (w2:=w) rfl,Addr.add_lit,dB]
   ·have:=h.2;simp only[List.size_toArray,List.length_append,List.length_take,List.length_drop,Array.length_toList];omega
   ·simp only[List.size_toArray,List.length_append,List.length_take,List.length_drop,Array.length_toList];omega
   ·rw[uD,<-hlen];exact List.take_left
   ·cases hb;exact⟨by rw[setRow_size];exact(Array.getElem?_eq_some_iff.1 aF).1,.inl rfl⟩
  ·have vE:=grown cap (by omega) (Value.ownBlock (.slice (some ⟨g,0,none⟩) n cap))
   refine⟨_,_,?_,⟨e,vE.1⟩,vE.2,Mv⟩;have holds:∀j u,xs[j]? =some u->w.drew.cell? ((⟨g,0,none⟩:Addr).add j)=some u:=by
    intro j u hu;rw[gy,Nat.zero_add,World.cell?_drew,cell_of_row w g j cur bK bC aF];rw[<-uD,List.getElem?_take] at hu;split at hu
    ·simpa using hu
    ·cases hu
   have u3:¬(9223372036854775807<((n:Int)+(m:Int))):=by omega
   have ls:=growslice_fits (need:=n+m) (old:=cap) (bytes:=i.bytes) (by omega) uh
   have u4:¬(281474976710656<Builtin.nextslicecap (n+m) cap*i.bytes):=by omega
   have s0:=run_firstCells_some (P:=P) w.drew i.size n ⟨g,0,none⟩ n cap xs jP holds;rcases fN with⟨ex,fN⟩|fN<;>simp[Builtin.append_,run_underlying aC,run_underlying fN,sizeOf,typeInfo,zeroValue,am,aK,dP.len,nS,u3,u4,Question.forced,dP.run (w2:=w.drew) rfl,s0,newRow,grownCap]
   all_goals
    congr 2
    apply Array.ext';simp[List.append_assoc]
theorem rowAt.tail{w:World}{e:TypeId}{size:Nat}{v:Value}{n:Nat}{xs:List Value}(h:rowAt w false e size v n xs):nP w e size v n xs:=by
 refine⟨h.1,h.2.imp id ?_⟩;rintro⟨g,cap,cur,bC,h1,h2,aa,aN,bn,dY,lP⟩;have gJ:bC=(0,0):=by rcases h2.2 with h|⟨h,_⟩<;>first|exact h|cases h
 subst gJ;exact⟨g,0,cap,cur,h1,aa,aN,bn,by rw[dY,Nat.zero_add];exact Nat.le_refl _,by simpa using lP⟩
theorem Tc{P:Program}(w:World)(T pC ty e:TypeId)(i:TypeInfo)(z:Value)(size bytes:Nat)(aC:P.underlying T=some (.slice e))(fN:(∃ex,P.underlying pC=some (.slice ex))\/P.underlying pC=some .string)(am:P.info? e=some i)
  (aK:i.zero=some z) (jF:i.size=size) (ki:i.bytes=bytes) (fi:z.cells.size=size) (eX:0<size)
  (v:Value) (n:Nat) (xs:List Value) (hq:∃bK,nP w bK size v n xs) (x:Value) (m:Nat) (news:List Value) (dP:Src w size x m news)
  (s8:n+m<=maxLen) (uh:(n+m)*bytes<=140737488355328):
  ∃v' w',(Builtin.append_ #[T,pC] ty #[v,x]).run P w=.ok v' w'/\(∃bK,nP w' bK size v' (n+m) (xs++news))/\w.grownBy w' v.ownBlock/\
   ∀b,ba v'=some b->b<w'.heap.size/\(ba v=some b\/w.heap.size<=b):=by
 obtain⟨bK,jP,hq⟩:=hq;rcases hq with⟨ab,hn⟩|⟨g,D,cap,cur,rfl,aF,gH,ja,ee,uD⟩
 ·obtain⟨v',w',h1,⟨e2,h2⟩,aa,aN⟩:=ts (P:=P) (u:=false) w T pC ty e (fun h=>by cases h) i z size bytes aC fN am aK jF ki fi eX v n xs ⟨bK,jP,.inl ⟨ab,hn⟩⟩ x m news dP s8 uh
  exact⟨v',w',h1,⟨e2,h2.tail⟩,aa,aN⟩
 ·subst jF ki;have rU:n+m<=9223372036854775807:=by simp only[maxLen] at s8;omega
  have hlen:(xs++news).length=(n+m)*i.size:=by rw[List.length_append,jP,dP.1,Nat.add_mul]
  by_cases nS:n+m<=cap
  ·have dc:(n+m)*i.size<=cap*i.size:=Nat.mul_le_mul_right _ nS;rw[Nat.add_mul] at dc;have ls:(D+n*i.size)+0+news.length<=cur.size:=by rw[dP.1];omega
   have dB:=lw.run (P:=P) (u:=false) g (D+n*i.size) bK (0,0) news 0 cur w aF ⟨(fun h=>by cases h),.inl rfl⟩ ls dP.2.1
   simp only[Nat.add_zero] at dB;refine⟨.slice (some ⟨g,D,none⟩) (n+m) cap,w.setRow g (cur.toList.take (D+n*i.size)++news++cur.toList.drop (D+n*i.size+news.length)).toArray,?_,
    ⟨bK,hlen,.inr ⟨g,D,cap,_,rfl,setRow_heap w g cur _ bK _ aF,nS,ja,?_,?_⟩⟩,⟨rfl,rfl,rfl,by simp,fun k _ ak=>setRow_other w g k _ (fun e=>ak (by simp[Value.ownBlock,e]))⟩,fun b hb=>?_⟩
   ·rcases fN with⟨ex,fN⟩|fN<;>simp[Builtin.append_,run_underlying aC,run_underlying fN,sizeOf,typeInfo,am,dP.len,nS,dP.run (w2:=w) rfl,Addr.add_lit,dB]
   ·simp only[List.size_toArray,List.length_append,List.length_take,List.length_drop,Array.length_toList];omega
   ·have aki:D+cap*i.size<=cur.toList.length:=by simpa using ee
    rw[List.toList_toArray,List.append_assoc,List.drop_append_of_le_length (by rw[List.length_take];omega),List.drop_take,show D+n*i.size-D=n*i.size from by omega,uD,<-List.append_assoc,<-hlen]
    exact List.take_left
   ·cases hb;exact⟨by rw[setRow_size];exact(Array.getElem?_eq_some_iff.1 aF).1,.inl rfl⟩
  ·have vF:=grownCap_ge w (n+m) cap e;have adS:grownCap w (n+m) cap e<=maxLen:=grownCap_le_maxLen w (n+m) cap e s8;refine⟨.slice (some ⟨w.heap.size,0,none⟩) (n+m) (grownCap w (n+m) cap e),w.drew.alloc (.cells (xs.toArray++news.toArray++Builtin.zeroCells z.cells (grownCap w (n+m) cap e-(n+m))) e),?_,
    ⟨e,hlen,.inr ⟨w.heap.size,0,_,_,rfl,heap_alloc_new w.drew _,vF,adS,?_,?_⟩⟩,⟨rfl,rfl,rfl,by simp,fun k ak _=>RowKit.Below.heap_alloc w.drew _ k ak⟩,fun b hb=>?_⟩
   ·have holds:∀j u,xs[j]? =some u->w.drew.cell? ((⟨g,D,none⟩:Addr).add j)=some u:=by
     intro j u hu;rw[gy,World.cell?_drew,cell_of_row w g (D+j) cur bK (0,0) aF];rw[<-uD,List.getElem?_take] at hu;split at hu
     ·rw[List.getElem?_drop] at hu;simpa using hu
     ·cases hu
    have u3:¬(9223372036854775807<((n:Int)+(m:Int))):=by omega
    have ls:=growslice_fits (need:=n+m) (old:=cap) (bytes:=i.bytes) (by omega) uh
    have u4:¬(281474976710656<Builtin.nextslicecap (n+m) cap*i.bytes):=by omega
    have s0:=run_firstCells_some (P:=P) w.drew i.size n ⟨g,D,none⟩ n cap xs jP holds;rcases fN with⟨ex,fN⟩|fN<;>simp[Builtin.append_,run_underlying aC,run_underlying fN,sizeOf,typeInfo,zeroValue,am,aK,dP.len,nS,u3,u4,Question.forced,dP.run (w2:=w.drew) rfl,s0,newRow,grownCap]
    all_goals
     congr 2
     apply Array.ext';simp[List.append_assoc]
   ·simp only[Array.size_append,List.size_toArray,size_zeroCells,fi,jP,dP.1,<-Nat.add_mul,Nat.zero_add];refine Nat.le_of_eq ?_
    congr 1
    omega
   ·simp only[Array.toList_append,List.append_assoc,List.drop_zero];rw[<-List.append_assoc,<-hlen];exact List.take_left
   ·cases hb;exact⟨by simp,.inr (Nat.le_refl _)⟩
section
variable {P:Program}{M:World}{J:List Nat}{X:Nat->Prop}{B:Nat->Value}{st:ae}{tm:Array Value}{w:World}{D:Oper}
theorem XW(S:ag M J X B st tm w){x:aL}{v:Value}{t:aG}{ys:List (den t)}(hx:cc B st.sites w (au X B st.sites) x v)(h:r2 st x=some (.sl t ys)):
  ∃news,Src w (ax t) v ys.length news/\cp w (au X B st.sites) (flat t ys) news:=by
 have one:∀{news:List Value},ct B st.sites w (au X B st.sites) (cq (flat t ys)) news->(∀u∈news,u.oneCell'=true):=by
  intro news h;refine h.iJ ?_
  unfold cq;generalize flat t ys=l;induction l with
  |nil=>rfl
  |cons d l ih=>simpa[gR,ay.storable] using ih
 unfold r2 at h;split at h
 ·rename_i bj hO;cases h;have hx:Rd w (au X B st.sites) (.sl t ys) v:=hx;cases hx with
  |nil t=>exact⟨[],⟨by simp,fun u hu=>by simp at hu,.inl ⟨rfl,rfl⟩⟩,rfl,fun j h=>by simp[flat] at h⟩
  |sl t xs a cap cs n hn hcap hb hl hc hr=>
   subst hn;have kU:=gh (B:=B) (sites:=st.sites) hl hr;exact⟨cs,⟨by rw[hl,dM],one kU,.inr (.inl ⟨a,cap,rfl,hc⟩)⟩,hl,hr⟩
 ·cases h
 ·rename_i bj;cases h;rw[show v=_ from hx]
  exact⟨[],⟨by simp,fun u hu=>by simp at hu,.inl ⟨rfl,rfl⟩⟩,rfl,fun j h=>by simp[flat] at h⟩
 ·rename_i o s;split at h
  ·rename_i bj hO hr;cases h;obtain⟨cs,hl,hc⟩:=S.row hr;have ab:v=bO (B o):=by
    rcases jZ hr with h1|h1<;>exact Ref.at hx.2 h1 rfl
   have cx:=il hl;refine⟨cs,⟨by rw[cx.1,dM],one hl,?_⟩,cx⟩
   rw[ab];rcases hc with⟨h1,h2⟩|⟨b,c,h1,h2,_⟩
   ·subst h2;exact .inl ⟨h1,rfl⟩
   ·exact .inr (.inl ⟨⟨b,0,none⟩,c,h1,fun j u hu=>by rw[gy];exact h2 j u hu⟩)
  ·cases h
 ·cases h
theorem Iz(S:ag M J X B st tm w){C:Ctx}(aD:CtxOk P C){T et:TypeId}{s x:Operand}{e:TypeId}{t:aG}{bytes:Nat}{dst:Nat}(aY:C.tt T=.slice e t bytes)(sc:(∃ex,P.underlying et=some (.slice ex))\/P.underlying et=some .string)
  (al:D.op=.call {callee:=.builtin .append,args:=#[s,x],argTypes:=#[T,et]}) (di:D.dst=some dst) (Y:ca st D.dst=true) {ys:List (den t)} {news:List Value} (dP:Src w (ax t) (Act.eval ⟨tm,[]⟩ x) ys.length news)
  (db:cp w (au X B st.sites) (flat t ys) news):Holds (pW bytes t dst st (aP C st T s) ys) (cA P M J X st tm w D):=by
 have bt:=aD.tt T;rw[aY] at bt;obtain⟨⟨ea,_⟩,z,o4,fi,eQ⟩:=bt;obtain⟨i,am,lE⟩:∃i,P.info? e=some i/\(i.size,i.bytes,i.zero)=(ax t,bytes,some z):=by
  cases aA:P.info? e with
  |none=>simp[aA] at o4
  |some i=>exact⟨i,rfl,by simpa[aA] using o4⟩
 simp only[Prod.mk.injEq] at lE;obtain⟨lE,sW,sV⟩:=lE;have m4:=cV S C T s;have runs:∀{v':Value} {w':World},(Builtin.append_ #[T,et] D.type #[Act.eval ⟨tm,[]⟩ s,Act.eval ⟨tm,[]⟩ x]).run P w=.ok v' w'->
   (execOp (Act.eval ⟨tm,[]⟩) D).run P w=.ok (.value v') w':=by
  intro v' w' h;unfold execOp;simp only[al,resolve,invoke,builtin,Sem.run_bind,Sem.run_pure,Result.andThen_ok,List.map_toArray,List.map_cons,List.map_nil,h]
 have one:∀{u:Bool} {bK:TypeId} {v':Value} {n m:Nat} {l:List Value} {w':World},rowAt w' u bK n v' m l->v'.oneCell'=true:=by
  intro u bK v' n m l w' h;rcases h.2 with⟨rfl,_⟩|⟨g,cap,cur,bC,rfl,_⟩<;>rfl
 unfold pW;split
 ·-- a nil slice
  rename_i t2 b1;rw[b1] at m4;have o':Act.eval ⟨tm,[]⟩ s=.slice none 0 0:=m4;refine Holds.ew fun r hr=>?_
  have cx:cT bytes [] ys=some r:=hr;unfold cT at cx;split at cx
  ·rename_i hb;cases cx;simp only[List.length_nil,Nat.zero_add,room] at hb;obtain⟨v',w',h1,⟨bK,h2⟩,aa,aN⟩:=ts (P:=P) (u:=t.ft) w T et D.type e eQ i z (ax t) bytes ea sc am sV lE sW fi (jh _) (.slice none 0 0) 0 [] ⟨e,pJ w _ e _⟩ _ _ news dP
    (by rw[Nat.zero_add];exact hb.2) (by rw[Nat.zero_add];exact hb.1)
   rw[Nat.zero_add,List.nil_append] at h2;have bY:=S.make (o:=dst) (bw:=.row (aU st dst) t ([]++ys)) (nv:=v') (w':=w') (fun b hb=>aa.block b hb (by simp[Value.ownBlock])) aa.os aa.tape aa.output aa.size
    (fun O H=>jg H) (fun b hb=>by
     obtain⟨g1,g2⟩:=aN b (tO h2 hb);rcases g2 with g2|g2
     ·cases g2
     ·exact⟨g2,g1⟩) (fun H bH go _ _=>by
     refine⟨bK,news,by rw[bH];simpa using h2,?_⟩
     intro j g1 g2;have ahq:j<(flat t ys).length:=by simpa using g1
     simpa using hX go (db.2 j ahq g2))
   refine hU (us:=[(dst,.row (aU st dst) t ([]++ys))]) bY Y (runs (by rw[o'];exact h1)) ?_
   refine⟨one h2,Ref.mk (O:=.row (aU st dst) t ([]++ys)) ?_ rfl (by simp[(hK h2).1])⟩
   simp only[aZ,cr];simp
  ·cases cx
 ·-- a row of oY own
  rename_i o s2 b1;rw[b1] at m4;split
  ·rename_i fQ t2 xs fp;have kA:look st.sites o=some (.row fQ t2 xs):=fp;cases s4:fQ.beq s2 with
   |false=>simp only[cond_false];exact .fail
   |true=>
    have jv:=Nat.eq_of_beq_eq_true s4;subst jv;simp only[cond_true];split
    ·rename_i gW;subst gW;refine Holds.ew fun r hr=>?_
     have cx:cT bytes xs ys=some r:=hr;unfold cT at cx;split at cx
     ·rename_i hb;cases cx;simp only[room] at hb;have ab:Act.eval ⟨tm,[]⟩ s=bO (B o):=Ref.at m4.2 kA rfl;obtain⟨gP,cs,hq,ee⟩:=S.sites o _ kA;rw[(hK hq).1] at ab;obtain⟨v',w',h1,⟨bK,h2⟩,aa,aN⟩:=ts (P:=P) w T et D.type e eQ i z (ax t2) bytes ea sc am sV lE sW fi (jh _) (B o) xs.length cs ⟨gP,hq⟩ _ _ news dP hb.2 hb.1;have bY:=S.append (dst:=dst) (r:=xs++ys) kA (nv:=v') (w':=w') aa (fun b hb=>by
       obtain⟨aw,aj⟩:=aN b (tO h2 hb);exact⟨aw,aj.imp fS id⟩) (fun bH go=>by
       refine⟨bK,cs++news,by rw[bH,List.length_append];exact h2,?_⟩
       have qu:cp w (au X B st.sites) (flat t2 xs) cs:=⟨by rw[dM];exact hq.1,ee⟩
       have it:=il ((gh (B:=B) (sites:=st.sites) qu.1 qu.2).append (gh (B:=B) (sites:=st.sites) db.1 db.2)|>fun h=>by
        rw[show cq (flat t2 xs)++cq (flat t2 ys)=cq (flat t2 (xs++ys)) from by simp[cq,nA]] at h
        exact h)
       intro j g1 g2;exact hX go (it.2 j g1 g2))
      refine hU (us:=[(o,.dead fQ),(dst,.row (aU (st.df o (.dead fQ)) dst) t2 (xs++ys))]) bY Y (runs (by rw[ab];exact h1)) ?_
      refine⟨one h2,Ref.mk (O:=.row (aU (st.df o (.dead fQ)) dst) t2 (xs++ys)) ?_ rfl (by simp[(hK h2).1])⟩
      simp only[aZ,cr];simp
     ·cases cx
    ·exact .fail
  ·rename_i fQ t2 xs fp;have kA:look st.sites o=some (.tail fQ t2 xs):=fp;cases s4:fQ.beq s2 with
   |false=>simp only[cond_false];exact .fail
   |true=>
    have jv:=Nat.eq_of_beq_eq_true s4;subst jv;simp only[cond_true];split
    ·rename_i gW;subst gW;refine Holds.ew fun r hr=>?_
     have cx:cT bytes xs ys=some r:=hr;unfold cT at cx;split at cx
     ·rename_i hb;cases cx;simp only[room] at hb;have ab:Act.eval ⟨tm,[]⟩ s=bO (B o):=Ref.at m4.2 kA rfl;obtain⟨vt,gP,cs,hq,ee⟩:=S.sites o _ kA;have sX:∀{w:World} {e:TypeId} {v:Value} {n:Nat} {l:List Value},nP w e (ax t2) v n l->bO v=v/\bf v=(ba v).toList/\v.oneCell'=true:=by
       intro w e v n l h;rcases h.2 with⟨rfl,_⟩|⟨_,_,_,_,rfl,_⟩<;>exact⟨rfl,rfl,rfl⟩
      rw[(sX hq).1] at ab;obtain⟨v',w',h1,⟨bK,h2⟩,aa,aN⟩:=Tc (P:=P) w T et D.type e i z (ax t2) bytes ea sc am sV lE sW fi (jh _) (B o) xs.length cs ⟨gP,hq⟩ _ _ news dP hb.2 hb.1;have bY:=S.DC (dst:=dst) (hY:=.tail (aU (st.df o (.dead fQ)) dst) t2 (xs++ys)) kA rfl rfl rfl (nv:=v') (w':=w') aa (fun b hb=>by
       rw[(sX h2).2.1] at hb;obtain⟨aw,aj⟩:=aN b (by simpa using hb)
       exact⟨aw,aj.imp fS id⟩) (fun bH go=>by
       refine⟨vt,bK,cs++news,by rw[bH,List.length_append];exact h2,?_⟩
       have it:=il ((gh (B:=B) (sites:=st.sites) ee.1 ee.2).append (gh (B:=B) (sites:=st.sites) db.1 db.2)|>fun h=>by
        rw[show cq (flat t2 xs)++cq (flat t2 ys)=cq (flat t2 (xs++ys)) from by simp[cq,nA]] at h
        exact h)
       exact⟨it.1,fun j g1 g2=>hX go (it.2 j g1 g2)⟩)
      refine hU (us:=[(o,.dead fQ),(dst,.tail (aU (st.df o (.dead fQ)) dst) t2 (xs++ys))]) bY Y (runs (by rw[ab];exact h1)) ?_
      refine⟨(sX h2).2.2,Ref.mk (O:=.tail (aU (st.df o (.dead fQ)) dst) t2 (xs++ys)) ?_ rfl (by simp[(sX h2).1])⟩
      simp only[aZ,cr];simp
     ·cases cx
    ·exact .fail
  ·exact .fail
 ·exact .fail
theorem Xx(S:ag M J X B st tm w){C:Ctx}(aD:CtxOk P C){T et:TypeId}{s x:Operand}{e ex:TypeId}{t u:aG}{bytes aM:Nat}{dst:Nat}(aY:C.tt T=.slice e t bytes)(eQ:C.tt et=.slice ex u aM)
  (al:D.op=.call {callee:=.builtin .append,args:=#[s,x],argTypes:=#[T,et]}) (di:D.dst=some dst) (Y:ca st D.dst=true):
  Holds (rD bytes t dst st (aP C st T s) (aP C st et x)) (cA P M J X st tm w D):=by
 have pt:=aD.tt et;rw[eQ] at pt;unfold rD;split
 ·exact .fail
 ·rename_i d my;split
  ·rename_i bj ys;split
   ·rename_i gW;subst gW;obtain⟨news,dP,db⟩:=XW S (cV S C et x) my;exact Iz S aD aY (.inl ⟨_,pt.1.1⟩) al di Y dP db
   ·exact .fail
  ·exact .fail
theorem V1(S:ag M J X B st tm w){C:Ctx}(aD:CtxOk P C){T et:TypeId}{s x:Operand}{e:TypeId}{t:aG}{bytes:Nat}{dst:Nat}(aY:C.tt T=.slice e t bytes)(eQ:C.tt et=.str)
  (al:D.op=.call {callee:=.builtin .append,args:=#[s,x],argTypes:=#[T,et]}) (di:D.dst=some dst) (Y:ca st D.dst=true):
  Holds (rE bytes t dst st (aP C st T s) (aP C st et x)) (cA P M J X st tm w D):=by
 have pt:=aD.tt et;rw[eQ] at pt;have bp:=cV S C et x;unfold rE;split
 ·rename_i y hx;rw[hx] at bp;split
  ·rename_i gW;subst gW;have bp:Rd w (au X B st.sites) (.str y) (Act.eval ⟨tm,[]⟩ x):=bp;generalize ab:Act.eval ⟨tm,[]⟩ x=v at bp;cases bp with
   |str _ b hb=>
    subst hb;refine Iz S aD aY (.inr pt.1) al di Y (news:=b.data.toList.map fun b=>Value.int .u8 b.toNat) ?_ ?_
    ·rw[ab];refine⟨by simp[bytesOf,ax],fun u hu=>?_,.inr (.inr ⟨b,rfl,?_,rfl,rfl⟩)⟩
     ·obtain⟨c,_,rfl⟩:=List.mem_map.1 hu;rfl
     ·simp only[bytesOf,List.length_map,Array.length_toList];rfl
    ·have e1:flat .u8 (bytesOf b.data.toList)=(b.data.toList.map fun b=>aR.int .u8 b.toNat):=by
      unfold flat bytesOf;rw[List.flatMap_map];generalize b.data.toList=l;induction l with
      |nil=>rfl
      |cons a l ih=>simp only[List.flatMap_cons,List.map_cons,ih];rfl
     rw[e1];refine⟨by simp,fun j g1 g2=>?_⟩
     simp only[List.getElem_map];exact .int _ _
  ·exact .fail
 ·exact .fail
end
theorem foldl_set:∀(vs:List Value) (off k:Nat) (arr:Array Value),off+k+vs.length<=arr.size->
  (vs.zipIdx k).foldl (fun cs (x:Value×Nat)=>cs.setIfInBounds (off+x.2) x.1) arr=(cg arr.toList (off+k) vs).toArray:=by
 intro vs;induction vs with
 |nil=>intro off k arr h;simp[cg]
 |cons v vs ih=>
  intro off k arr h;simp only[List.zipIdx_cons,List.foldl_cons];rw[ih off (k+1) _ (by simp at h ⊢;omega)]
  congr 1
  simp only[List.length_cons] at h;unfold cg;rw[Array.toList_setIfInBounds];apply List.ext_getElem?;intro j;simp only[List.getElem?_append,List.length_append,List.length_take,List.length_set,List.getElem?_take,List.getElem?_drop,List.getElem?_set,List.length_cons,Array.length_toList];have fD:min (off+k) arr.size=off+k:=by omega
  have gN:min (off+(k+1)) arr.size=off+(k+1):=by omega
  simp only[fD,gN];by_cases bD:j<off+k
  ·have bM:j<off+(k+1):=by omega
   have cv:j<off+(k+1)+vs.length:=by omega
   have fl:j<off+k+(vs.length+1):=by omega
   have jW:¬off+k=j:=by omega
   simp[bD,bM,cv,fl,jW]
  ·by_cases AW:j=off+k
   ·subst AW;have bM:off+k<off+(k+1):=by omega
    have cv:off+k<off+(k+1)+vs.length:=by omega
    have fl:off+k<off+k+(vs.length+1):=by omega
    have jW:off+k<arr.size:=by omega
    simp[bM,cv,fl,jW]
   ·by_cases fl:j<off+k+(vs.length+1)
    ·have bM:¬j<off+(k+1):=by omega
     have cv:j<off+(k+1)+vs.length:=by omega
     have e:j-(off+k)=(j-(off+(k+1)))+1:=by omega
     simp[bD,bM,cv,fl,e]
    ·have cv:¬j<off+(k+1)+vs.length:=by omega
     have jW:¬off+k=off+(k+1)+vs.length+(j-(off+(k+1)+vs.length)):=by omega
     have e:off+(k+1)+vs.length+(j-(off+(k+1)+vs.length))=off+k+(vs.length+1)+(j-(off+k+(vs.length+1))):=by omega
     simp[cv,fl,jW,e];try(intro bn;exfalso;omega)
theorem H0(v:Value)(off:Nat)(arr:Array Value)(h:off+v.cells.size<=arr.size):
  v.cells.zipIdx.foldl (fun cs (x:Value×Nat)=>cs.setIfInBounds (off+x.2) x.1) arr=(cg arr.toList off v.cells.toList).toArray:=by
 rw[<-Array.foldl_toList,Array.toList_zipIdx];exact foldl_set v.cells.toList off 0 arr (by simpa using h)
theorem VH(s:Nat):∀(vs:List (Nat×Value)) (n:Nat) (cells:Array Value),(∀j (h:j<vs.length),(vs[j]).1=n+j)->(∀p,p∈vs->p.2.cells.size=s)->(n+vs.length)*s<=cells.size->
  Instr.fill (fun i=>some (i*s,s)) cells vs=some (cg cells.toList (n*s) (vs.flatMap fun p=>p.2.cells.toList)).toArray:=by
 intro vs;induction vs with
 |nil=>intro n cells _ _ _;simp[Instr.fill,cg]
 |cons p vs ih=>
  obtain⟨i,v⟩:=p;intro n cells am H dc;have a8:i=n:=am 0 (Nat.zero_lt_succ _);subst a8;have ab:v.cells.size=s:=H (i,v) (by simp)
  have jp:i*s+s<=cells.size:=by
   have:(i+1)*s<=(i+(vs.length+1))*s:=Nat.mul_le_mul_right _ (by omega)
   simp only[List.length_cons] at dc;rw[Nat.add_mul,Nat.one_mul] at this;omega
  simp only[Instr.fill,ab];rw[if_neg (by simp;omega)]
  have o5:=H0 v (i*s) cells (by omega)
  rw[o5];have hlen:v.cells.toList.length=s:=by simpa using ab
  have adn:(cg cells.toList (i*s) v.cells.toList).length=cells.toList.length:=mI _ _ _ (by simp;omega)
  rw[ih (i+1) _ (fun j h=>by have:=am (j+1) (by simpa using h);simp at this;omega) (fun p ai=>H p (by simp[ai])) (by
   simp only[List.length_cons] at dc;simp only[List.size_toArray,adn,Array.length_toList];have e:i+1+vs.length=i+(vs.length+1):=by omega
   rw[e];exact dc)]
  congr 2
  simp only[List.flatMap_cons,List.toList_toArray];have pq:(vs.flatMap fun p=>p.2.cells.toList).length=vs.length*s:=by
   clear ih am dc;induction vs with
   |nil=>simp
   |cons q vs vl=>
    have:q.2.cells.toList.length=s:=by simpa using H q (by simp)
    rw[List.flatMap_cons,List.length_append,this,vl (fun p ai=>H p (by rcases List.mem_cons.1 ai with h|h<;>simp[h])),List.length_cons,Nat.add_mul];omega
  have adF:(i+(vs.length+1))*s<=cells.size:=by simpa using dc
  rw[Nat.add_mul,Nat.add_mul] at adF;unfold cg;apply List.ext_getElem?;intro j;have e1:(i+1)*s=i*s+s:=by rw[Nat.add_mul,Nat.one_mul]
  simp only[List.getElem?_append,List.length_append,List.length_take,List.getElem?_take,List.getElem?_drop,List.length_drop,Array.length_toList,hlen,pq,e1];have fD:min (i*s) cells.size=i*s:=by omega
  have gN:min (i*s+s) (i*s+s+(cells.size-(i*s+s)))=i*s+s:=by omega
  simp only[fD,gN];by_cases bD:j<i*s
  ·have bM:j<i*s+s:=by omega
   have cv:j<i*s+s+vs.length*s:=by omega
   have fl:j<i*s+(s+vs.length*s):=by omega
   simp[bD,bM,cv,fl]
  ·by_cases bM:j<i*s+s
   ·have cv:j<i*s+s+vs.length*s:=by omega
    have fl:j<i*s+(s+vs.length*s):=by omega
    have jW:j-i*s<s:=by omega
    simp[bD,bM,cv,fl,jW]
   ·by_cases cv:j<i*s+s+vs.length*s
    ·have fl:j<i*s+(s+vs.length*s):=by omega
     have jW:¬j-i*s<s:=by omega
     have e:j-i*s-s=j-(i*s+s):=by omega
     simp[bD,bM,cv,fl,jW,e]
    ·have fl:¬j<i*s+(s+vs.length*s):=by omega
     have jW:¬i*s+s+vs.length*s+(j-(i*s+s+vs.length*s))<i*s:=by omega
     have c6:¬i*s+s+vs.length*s+(j-(i*s+s+vs.length*s))<i*s+s:=by omega
     have e:i*s+s+(i*s+s+vs.length*s+(j-(i*s+s+vs.length*s))-(i*s+s))=i*s+(s+vs.length*s)+(j-(i*s+(s+vs.length*s))):=by omega
     simp[cv,fl,jW,c6,e]
theorem VB:∀(l:List (Nat×Operand)) (n:Nat),oP n l=true->∀j (h:j<l.length),(l[j]).1=n+j:=by
 intro l;induction l with
 |nil=>intro n _ j h;simp at h
 |cons p l ih=>
  obtain⟨i,x⟩:=p;intro n h j bv;simp only[oP,Bool.and_eq_true] at h;cases j with
  |zero=>simpa using Nat.eq_of_beq_eq_true h.1
  |succ j=>have:=ih (n+1) h.2 j (by simpa using bv);simp;omega
section
variable {P:Program}{M:World}{J:List Nat}{X:Nat->Prop}{B:Nat->Value}{st:ae}{tm:Array Value}{w:World}{D:Oper}
theorem Tl{U:List ay}(h:gR U=true):U.head?≠some .eN:=by
 intro b4;cases U with
 |nil=>cases b4
 |cons l r=>
  simp only[List.head?_cons,Option.some.injEq] at b4;subst b4;cases h
theorem ag.Lg(S:ag M J X B st tm w){o:Nat}{cells:List ay}{vs:List Value}{T:TypeId}(hl:ct B st.sites w (au X B st.sites) cells vs)(h1:∀u∈vs,u.oneCell'=true)(h8:mX cells T vs w.heap.size):
  ag M J X (fun F=>if F=o then .pointer (some ⟨w.heap.size,0,none⟩) else B F) {st with sites:=cd st.sites o (.box (aU st o) cells)} tm (w.alloc (.cells vs.toArray T (0,0))):=
 S.make (fun b hb=>RowKit.Below.heap_alloc w _ b hb) rfl rfl rfl (by simp) (fun O H=>jg H) (fun b hb=>by have hb:=List.mem_singleton.1 hb;subst hb;exact⟨Nat.le_refl _,by simp⟩)
  (fun H bH go _ _=>⟨w.heap.size,T,vs,bH,heap_alloc_new w _,hl.1,h1,h8,fun j g1 g2=>(yN go hl).2 j g1 g2⟩)
theorem X1{B:Nat->Value}{sites:List (Nat×Site)}{av:Nat->Prop}{cells:List ay}{T:TypeId}{cur:List Value}{b:Nat}(aY:T=qJ)(h:ct B sites w av cells cur)(H:cells.head?≠some .eN):ct B sites w av (uw cells) cur/\mX (uw cells) T cur b:=by
 unfold uw;split
 ·obtain⟨v,vs,rfl,h1,h2⟩:=h.inv;exact⟨.cons (show dv B sites w av .eN v from trivial) h2,fun _=>⟨aY,.inl (by rw[show v=_ from h1];rfl)⟩⟩
 ·exact⟨h,fun af=>absurd af H⟩
theorem Y'(S:ag M J X B st tm w){C:Ctx}(aD:CtxOk P C){elem:TypeId}{z:List ay}{o:Nat}(al:D.op=.alloc elem)(di:D.dst=some o)(aK:(C.tt elem).zero=some z)(Y:ca st D.dst=true):
  cA P M J X st tm w D (b0 (.ptr o (aU st o) 0)) [(o,.box (aU st o) (bif elem.beq qJ then uw z else z))]:=by
 obtain⟨v,ab,mm⟩:=cj.xd (w:=w) (aD.tt elem) aK;obtain⟨h1,h2,aa⟩:=q_ mm;have h8:z.head?≠some .eN:=by
  intro b4;cases z with
  |nil=>cases b4
  |cons l r=>
   simp only[List.head?_cons,Option.some.injEq] at b4;subst b4;simp[k9,pR] at mm
 have cN:(execOp (Act.eval ⟨tm,[]⟩) D).run P w=.ok (.value (.pointer (some ⟨w.heap.size,0,none⟩))) (w.alloc (.cells v.cells.toList.toArray elem (0,0))):=by
  unfold execOp;simp[al,Instr.alloc,ab,newVar,newRow]
 have key:∀cells,ct B st.sites w (au X B st.sites) cells v.cells.toList->mX cells elem v.cells.toList w.heap.size->
   cA P M J X st tm w D (b0 (.ptr o (aU st o) 0)) [(o,.box (aU st o) cells)]:=by
  intro cells hl H;have bY:=S.Lg (o:=o) (T:=elem) hl h2 H;refine hU (us:=[(o,.box (aU st o) cells)]) bY Y (vv:=.pointer (some ⟨w.heap.size,0,none⟩)) cN ?_
  refine⟨_,rfl,Ref.mk (O:=.box (aU st o) cells) ?_ rfl (by simp[bO])⟩
  simp only[aZ,cr];simp
 cases aY:elem.beq qJ with
 |false=>exact key z ⟨h1,aa _ _ _ _⟩ fun h=>absurd h h8
 |true=>
  obtain⟨aw,aj⟩:=X1 (b:=w.heap.size) (Nat.eq_of_beq_eq_true aY) (⟨h1,aa B st.sites w (au X B st.sites)⟩:ct B st.sites w (au X B st.sites) z v.cells.toList) h8;exact key _ aw aj
theorem aaM(S:ag M J X B st tm w){elem:TypeId}{x:Operand}{a:bF}{o:Nat}(al:D.op=.box elem x)(di:D.dst=some o)(bm:gE B st.sites w (au X B st.sites) a (Act.eval ⟨tm,[]⟩ x))
  (dB:gR a.cells=true) (Y:ca st D.dst=true):cA P M J X st tm w D (b0 (.ptr o (aU st o) 0)) [(o,.box (aU st o) a.cells)]:=by
 have hl:=bm.cells dB;have bY:=S.Lg (o:=o) (T:=elem) hl (hl.iJ dB) (fun h=>absurd h (Tl dB))
 refine hU (us:=[(o,.box (aU st o) a.cells)]) bY Y (vv:=.pointer (some ⟨w.heap.size,0,none⟩)) ?_ ?_
 ·unfold execOp;simp[al,Instr.box,newVar,newRow]
 ·refine⟨_,rfl,Ref.mk (O:=.box (aU st o) a.cells) ?_ rfl (by simp[bO])⟩
  simp only[aZ,cr];simp
theorem ag.C3(S:ag M J X B st tm w){o:Nat}{t:aG}{xs:List (den t)}{cs rest:List Value}{T:TypeId}{cap:Nat}(hl:cp w (au X B st.sites) (flat t xs) cs)(hcap:cs.length+rest.length=cap*ax t)(hm:cap<=maxLen)(eQ:t.ft=true->T=lH):
  ag M J X (fun F=>if F=o then .slice (some ⟨w.heap.size,0,none⟩) xs.length cap else B F) {st with sites:=cd st.sites o (.row (aU st o) t xs)} tm (w.alloc (.cells (cs++rest).toArray T (0,0))):=by
 have gr:cs.length=xs.length*ax t:=by rw[hl.1,dM]
 have dc:xs.length<=cap:=by
  have:xs.length*ax t<=cap*ax t:=by omega
  exact Nat.le_of_mul_le_mul_right this (jh t)
 refine S.make (fun b hb=>RowKit.Below.heap_alloc w _ b hb) rfl rfl rfl (by simp) (fun O H=>jg H) (fun b hb=>by have hb:=List.mem_singleton.1 hb;subst hb;exact⟨Nat.le_refl _,by simp⟩)
  (fun H bH go _ _=>⟨T,cs,⟨gr,.inr ⟨w.heap.size,cap,_,(0,0),bH,⟨eQ,.inl rfl⟩,heap_alloc_new w _,dc,hm,?_,?_⟩⟩,fun j g1 g2=>hX go (hl.2 j g1 g2)⟩)
 ·simp[hcap]
 ·rw[<-gr];simp
theorem _B:∀{as:List bF} {t:aG} {xs:List (den t)} {us vs:List (Nat×Site)} {ws:List Value},lu t st as=some (xs,us)->ws.length=as.length->
  (∀j (h:j<as.length) (af:j<ws.length),gE B st.sites w (au X B st.sites) (as[j]) (ws[j]))->k3 M J X B st tm w vs->(∀p,p∈us->p∈vs)->
  xs.length=as.length/\cp w (au X B (aZ st.sites vs)) (flat t xs) (ws.flatMap fun v=>v.cells.toList)/\∀v,v∈ws->v.cells.size=ax t:=by
 intro as;induction as with
 |nil=>
  intro t xs us vs ws h hl _ _ _;simp only[lu] at h;cases h;have:ws=[]:=List.eq_nil_of_length_eq_zero hl;subst this;exact⟨rfl,⟨rfl,fun j h=>by simp[flat] at h⟩,fun v ab=>by simp at ab⟩
 |cons a as ih=>
  intro t xs us vs ws h hl dR aB dI;match ws,hl with
  |v::ws,hl=>
  simp only[lu] at h;split at h
  ·rename_i ds u1 mb;split at h
   ·rename_i x hO u2 ez ln;cases h;have b5:=dR 0 (by simp) (by simp)
    simp only[List.getElem_cons_zero] at b5;have dB:gR a.cells=true:=by
     clear ln ih dR b5 hl ez;generalize a.cells=U at mb;induction U generalizing ds u1 with
     |nil=>rfl
     |cons l U ih=>
      simp only[hN] at mb;split at mb
      ·rename_i d SC gL ov h1 h2;simp only[gR,Bool.and_eq_true];refine⟨?_,ih _ _ (fun p ai=>dI p (by cases mb;rcases List.mem_append.1 ai with h|h<;>simp[h])) h2⟩
       unfold jS at h1;split at h1<;>first|rfl|cases h1
      ·cases mb
    have hQ:=b5.cells dB;have qC:=yo mb hQ aB (fun p ai=>dI p (List.mem_append.2 (.inl ai)))
    obtain⟨g1,g2,g3⟩:=ih ln (by simpa using hl) (fun j h1 h2=>dR (j+1) (by simpa using h1) (by simpa using h2)) aB (fun p ai=>dI p (List.mem_append.2 (.inr ai)))
    have n7:=nM _ _ _ ez;refine⟨by simp[g1],?_,fun u hu=>?_⟩
    ·simp only[flat,List.flatMap_cons];rw[n7];have:=il ((gh (B:=B) (sites:=st.sites) qC.1 qC.2).append (gh (B:=B) (sites:=st.sites) g2.1 g2.2)|>fun h=>by
      rw[show cq ds++cq (flat t hO)=cq (ds++flat t hO) from by simp[cq]] at h
      exact h)
     exact this
    ·rcases List.mem_cons.1 hu with rfl|hu
     ·have:u.cells.toList.length=ds.length:=qC.1;rw[<-n7,fy] at this;simpa using this
     ·exact g3 u hu
   ·cases h
  ·cases h
theorem _C:∀{as:List bF} {t:aG} {xs:List (den t)} {us:List (Nat×Site)},lu t st as=some (xs,us)->dE st.sites us:=by
 intro as;induction as with
 |nil=>intro t xs us h;simp only[lu] at h;cases h;exact .nil
 |cons a as ih=>
  intro t xs us h;simp only[lu] at h;split at h
  ·rename_i ds u1 mb;split at h
   ·rename_i x hO u2 ez ln;cases h;exact(Dz mb).append (ih ln)
   ·cases h
  ·cases h
theorem S8{us:List (Nat×Site)}(h:dE st.sites us)(o:Nat):aU {st with sites:=aZ st.sites us} o=aU st o:=by
 unfold aU ae.O;simp only;rcases lR h o with h1|⟨s,t,xs,h1,h2⟩
 ·rw[h1]
 ·rw[h2];rcases h1 with h1|h1|h1<;>rw[h1]<;>rfl
end
section
variable {P:Program}{M:World}{J:List Nat}{X:Nat->Prop}{B:Nat->Value}{st:ae}{tm:Array Value}{w:World}{D:Oper}
theorem pN{v:aL}{a:bF}(h:mg v=some a):v=.av a:=by
 cases v with
 |av b=>cases h;rfl
 |ju _=>cases h
theorem Iw:∀{vs:List aL} {as:List bF},mW vs=some as->vs.length=as.length/\∀j (h:j<vs.length) (af:j<as.length),vs[j]=.av (as[j]):=by
 intro vs;induction vs with
 |nil=>intro as h;simp only[mW] at h;cases h;exact⟨rfl,fun j h=>by simp at h⟩
 |cons v vs ih=>
  intro as h;simp only[mW] at h;split at h
  ·rename_i a jU h1 h2;cases h;obtain⟨g1,g2⟩:=ih h2;refine⟨by simp[g1],fun j aw aj=>?_⟩
   cases j with
   |zero=>exact pN h1
   |succ j=>exact g2 j (by simpa using aw) (by simpa using aj)
  ·cases h
theorem nC{C:Ctx}(aD:CtxOk P C){T e:TypeId}{t:aG}{bytes:Nat}(aY:C.tt T=.slice e t bytes):
  P.underlying T=some (.slice e)/\∃i z,P.info? e=some i/\i.size=ax t/\i.bytes=bytes/\i.zero=some z/\z.cells.size=ax t/\(t.ft=true->e=lH):=by
 have bt:=aD.tt T;rw[aY] at bt;obtain⟨⟨ea,_⟩,z,o4,fi⟩:=bt;refine⟨ea,?_⟩;cases aA:P.info? e with
 |none=>simp[aA] at o4
 |some i=>
  simp only[aA,Option.map_some,Option.some.injEq,Prod.mk.injEq] at o4;exact⟨i,z,rfl,o4.1,o4.2.1,o4.2.2,fi⟩
theorem Hm{C:Ctx}(aD:CtxOk P C){T e:TypeId}{t:aG}{bytes len:Nat}{parts:Array (Nat×Operand)}(aY:C.tt T=.slice e t bytes)(hlen:parts.toList.length=len)(l_:oP 0 parts.toList=true)(rU:len*ax t<=1000)
  {ws:List Value} (F5:ws=parts.toList.map fun p=>Act.eval ⟨tm,[]⟩ p.2) (ee:∀v,v∈ws->v.cells.size=ax t) (gr:(ws.flatMap fun v=>v.cells.toList).length=len*ax t):
  (Instr.buildSlice T len (parts.map fun(x:Nat×Operand)=>(x.1,Act.eval ⟨tm,[]⟩ x.2))).run P w=
   .ok (.slice (some ⟨w.heap.size,0,none⟩) len len) (w.alloc (.cells (ws.flatMap fun v=>v.cells.toList).toArray e)):=by
 obtain⟨ea,i,z,am,gD,ol,kV,fi,eQ⟩:=nC aD aY;have aau:(parts.map fun(x:Nat×Operand)=>(x.1,Act.eval ⟨tm,[]⟩ x.2)).toList=parts.toList.map fun p=>(p.1,Act.eval ⟨tm,[]⟩ p.2):=by simp
 have ab2:((parts.toList.map fun p=>(p.1,Act.eval ⟨tm,[]⟩ p.2)).flatMap fun p:Nat×Value=>p.2.cells.toList)=ws.flatMap fun v=>v.cells.toList:=by
  simp[F5,List.flatMap_map]
 by_cases a8:len*i.size=0
 ·have jP:len=0:=by
   rcases Nat.mul_eq_zero.1 a8 with h|h
   ·exact h
   ·have:=jh t;omega
  subst jP;have oh:parts.toList=[]:=List.eq_nil_of_length_eq_zero hlen;have agq:ws=[]:=by simp[F5,oh]
  have agA:parts=#[]:=by simpa using oh
  rw[agq];have kg:∀f:Nat->Value,Array.map f (Array.range 0)=#[]:=fun f=>by apply Array.ext';simp
  simp[Instr.buildSlice,run_underlying ea,sizeOf,typeInfo,am,agA,Instr.fill,newRow,kg]
 ·refine run_buildSlice w T e len _ _ i z ea am kV (by rw[gD];omega) a8 ?_
  rw[aau];have abS:(((Array.range (len*i.size)).map fun x=>z.cells[x%z.cells.size]!)).size=len*i.size:=by simp
  have:=VH (ax t) (parts.toList.map fun p=>(p.1,Act.eval ⟨tm,[]⟩ p.2)) 0 ((Array.range (len*i.size)).map fun x=>z.cells[x%z.cells.size]!)
   (fun j h=>by have:=VB _ 0 l_ j (by simpa using h);simpa using this)
   (fun p ai=>by
    obtain⟨q,aA,rfl⟩:=List.mem_map.1 ai;exact ee _ (by rw[F5];exact List.mem_map.2 ⟨q,aA,rfl⟩))
   (by rw[abS,gD];simp[hlen])
  rw[gD] at this ⊢;rw[this,ab2];congr 2
  unfold cg;rw[Nat.zero_mul,List.take_zero,List.nil_append,Nat.zero_add,gr,List.drop_eq_nil_of_le (by simp),List.append_nil]
theorem Tw(S:ag M J X B st tm w){C:Ctx}(aD:CtxOk P C){T e:TypeId}{t:aG}{bytes len o:Nat}{parts:Array (Nat×Operand)}(aY:C.tt T=.slice e t bytes)(al:D.op=.buildSlice T len parts)
  (di:D.dst=some o) (Y:ca st D.dst=true) (hlen:parts.toList.length=len) (l_:oP 0 parts.toList=true) (rU:len*ax t<=1000) {as:List bF} {xs:List (den t)} {us:List (Nat×Site)}
  (has:mW (parts.toList.map fun p=>aP C st e p.2)=some as) (ez:lu t st as=some (xs,us)):
  cA P M J X st tm w D (b0 (.own o (aU st o))) (us++[(o,.row (aU st o) t xs)]):=by
 obtain⟨ea,i,z,am,gD,ol,kV,fi,eQ⟩:=nC aD aY;have gJ:=_C ez;have aB:k3 M J X B st tm w us:=⟨S,gJ⟩;obtain⟨vP,h_⟩:=Iw has;let ws:List Value:=parts.toList.map fun p=>Act.eval ⟨tm,[]⟩ p.2
 have vp:ws.length=as.length:=by rw[<-vP];simp[ws]
 have E0:∀j (h:j<as.length) (af:j<ws.length),gE B st.sites w (au X B st.sites) (as[j]) (ws[j]):=by
  intro j h1 h2;have bv:j<(parts.toList.map fun p=>aP C st e p.2).length:=by rw[vP];exact h1
  have:=h_ j bv h1;simp only[List.getElem_map] at this;have bp:=cV S C e (parts.toList[j]'(by simpa using bv)).2
  rw[this] at bp;have aa:cc B st.sites w (au X B st.sites) (.av (as[j])) (ws[j]):=by simpa[ws] using bp
  exact aa
 obtain⟨pf,db,ee⟩:=_B ez vp E0 aB (fun p ai=>ai)
 have p4:xs.length=len:=by rw[pf,<-vp];simpa[ws] using hlen
 have gr:(ws.flatMap fun v=>v.cells.toList).length=len*ax t:=by rw[db.1,dM,p4]
 have hm:len<=maxLen:=by
  have:len*1<=len*ax t:=Nat.mul_le_mul_left _ (jh t);unfold maxLen;omega
 have bY:=aB.new.C3 (o:=o) (xs:=xs) (cs:=ws.flatMap fun v=>v.cells.toList) (rest:=[]) (T:=e) (cap:=len) (by exact db) (by simp[gr]) hm eQ
 rw[S8 gJ,p4,List.append_nil] at bY;have oV:aZ st.sites (us++[(o,.row (aU st o) t xs)])=cd (aZ st.sites us) o (.row (aU st o) t xs):=by rw[iH];rfl
 have cN:(Instr.buildSlice T len (parts.map fun(x:Nat×Operand)=>(x.1,Act.eval ⟨tm,[]⟩ x.2))).run P w=
   .ok (.slice (some ⟨w.heap.size,0,none⟩) len len) (w.alloc (.cells (ws.flatMap fun v=>v.cells.toList).toArray e)):=Hm aD aY hlen l_ rU rfl ee gr
 refine hU (us:=us++[(o,.row (aU st o) t xs)]) (by rw[oV];exact bY) Y (vv:=.slice (some ⟨w.heap.size,0,none⟩) len len) ?_ ?_
 ·unfold execOp;simp only[al,Sem.run_bind];have Et:=cN;simp only[Et,Result.andThen_ok,Sem.run_pure]
 ·rw[oV];refine⟨rfl,Ref.mk (O:=.row (aU st o) t xs) ?_ rfl (by simp[bO])⟩
  simp only[cr];simp
theorem Tm{w:World}{av:Nat->Prop}{t:aG}{z:den t}{gu:List Value}(h:cp w av (enc t z) gu)(n:Nat):cp w av (flat t (List.replicate n z)) ((List.replicate n gu).flatten):=by
 induction n with
 |zero=>exact⟨rfl,fun j h=>by simp[flat] at h⟩
 |succ n ih=>
  have:=il ((gh (B:=fun _=>undef) (sites:=[]) h.1 h.2).append (gh (B:=fun _=>undef) (sites:=[]) ih.1 ih.2)|>fun h=>by
   rw[show cq (enc t z)++cq (flat t (List.replicate n z))=cq (enc t z++flat t (List.replicate n z)) from by simp[cq]] at h
   exact h)
  simpa[List.replicate_succ,flat,List.flatMap_cons] using this
theorem WK(z:Array Value)(n:Nat)(aK:0<z.size):((Array.range (n*z.size)).map fun x=>z[x%z.size]!).toList=(List.replicate n z.toList).flatten:=by
 induction n with
 |zero=>simp
 |succ n ih=>
  rw[List.replicate_succ',List.flatten_append];rw[<-ih];apply List.ext_getElem?;intro j;have e:(n+1)*z.size=n*z.size+z.size:=by rw[Nat.add_mul,Nat.one_mul]
  simp only[Array.toList_map,Array.toList_range,List.getElem?_map,List.getElem?_append,List.length_map,List.length_range,List.flatten_cons,List.flatten_nil,List.append_nil,e];by_cases h1:j<n*z.size
  ·rw[List.getElem?_range (by omega)];simp[h1]
  ·by_cases h2:j<n*z.size+z.size
   ·rw[List.getElem?_range h2];have aa:j-n*z.size<z.size:=by omega
    have aN:j%z.size=j-n*z.size:=by
     have:j=z.size*n+(j-n*z.size):=by rw[Nat.mul_comm];omega
     conv=>lhs;rw[this]
     rw[Nat.mul_add_mod,Nat.mod_eq_of_lt aa]
    simp[h1,aN,aa]
   ·rw[List.getElem?_eq_none (by simp;omega)]
    have aa:¬j-n*z.size<z.size:=by omega
    simp[h1,aa]
theorem T8{l:ay}{v:Value}{d:aR}{us:List (Nat×Site)}(h:pR l=some v)(k:jS st l=some (d,us)):us=[]:=by
 cases l with
 |d x=>simp[jS] at k;exact k.2
 |nil t=>simp[jS] at k;exact k.2
 |own o s=>simp[pR] at h
 |clo g bG=>simp[pR] at h
 |_=>simp[jS] at k
theorem Hp{C:Ctx}{T e:TypeId}{t:aG}{bytes:Nat}{kn km:IntKind}{n m:Int}{i:TypeInfo}{v:Value}(ea:P.underlying T=some (.slice e))(am:P.info? e=some i)(gD:i.size=ax t)(ol:i.bytes=bytes)
  (kV:i.zero=some v) (fi:v.cells.size=ax t) (a7:0<=n) (aM:n<=m) (b9:m*bytes<=room) (oB:m<=maxLen):
  (Instr.makeSlice T (.int kn n) (.int km m)).run P w=.ok (.slice (some ⟨w.heap.size,0,none⟩) n.toNat m.toNat) (w.alloc (.cells ((List.replicate m.toNat v.cells.toList).flatten).toArray e)):=by
 unfold maxLen at oB;have cf:IntKind.i64.wrap n=n:=IntWalk.i64_in n (by omega)
 have w2:IntKind.i64.wrap m=m:=IntWalk.i64_in m (by omega)
 have uS:(decide (m<0)||decide (((i.bytes:Nat):Int)*m>2^48))=false:=by
  unfold room at b9;rw[ol];have:(bytes:Int)*m<=140737488355328:=by rw[Int.mul_comm];exact b9
  simp;omega
 have oW:((Array.range (m.toNat*i.size)).map fun x=>v.cells[x%v.cells.size]!)=((List.replicate m.toNat v.cells.toList).flatten).toArray:=by
  rw[<-WK v.cells m.toNat (by rw[fi];exact jh t),fi,gD]
 have Gf:¬n<0:=by omega
 have i_:¬n>m:=by omega
 unfold Instr.makeSlice;simp only[Sem.run_bind,run_underlying ea,Result.andThen_ok,asInt,asIntOf,Sem.run_pure,jY am,cf,w2,uS,Bool.false_eq_true,Gf,i_,decide_false,Bool.or_false,Bool.or_self,if_false,
  run_askRoom,sizeOf]
 by_cases Rm:m.toNat*i.size=0
 ·have agG:m.toNat=0:=by
   rcases Nat.mul_eq_zero.1 Rm with h|h
   ·exact h
   ·have:=jh t;omega
  have kg:∀f:Nat->Value,Array.map f (Array.range 0)=#[]:=fun f=>by apply Array.ext';simp
  simp[agG,newRow,kg]
 ·simp[Rm,kV,zeroValue,jY am,newRow,oW]
theorem TW(S:ag M J X B st tm w){C:Ctx}(aD:CtxOk P C){T e:TypeId}{t:aG}{bytes o:Nat}{l c:Operand}{kn km:IntKind}{n m:Int}{z:List ay}{ds:List aR}{us:List (Nat×Site)}{eB:den t}(aY:C.tt T=.slice e t bytes)(al:D.op=.makeSlice T l c)
  (di:D.dst=some o) (Y:ca st D.dst=true) (hl:aP C st 0 l=.av (.aq (.d (.int kn n)))) (hc:aP C st 0 c=.av (.aq (.d (.int km m)))) (aK:(C.tt e).zero=some z) (eE:hN st z=some (ds,us)) (ez:dec t ds=some eB):
  ∀r,oa bytes n m eB=some r->cA P M J X st tm w D (b0 (.own o (aU st o))) [(o,.row (aU st o) t r)]:=by
 intro r hr;obtain⟨ea,i,fP,am,gD,ol,kV,fi,eQ⟩:=nC aD aY;obtain⟨v,ab,mm⟩:=cj.xd (w:=w) (aD.tt e) aK;have F6:v=fP:=by
  simp[zeroValue,typeInfo,am,kV] at ab;exact ab.symm
 subst F6;obtain⟨h1,h2,aa⟩:=q_ mm;have ec:us=[]:=by
  clear ez aK aa h2 h1;have key:∀{U:List ay} {vs:List Value} {ds:List aR} {us:List (Nat×Site)},k9 U=some vs->hN st U=some (ds,us)->us=[]:=by
   intro U;induction U with
   |nil=>intro vs ds us _ h;simp only[hN] at h;cases h;rfl
   |cons l U ih=>
    intro vs ds us h1 h2;simp only[k9] at h1;split at h1
    ·rename_i v cC g1 g2;simp only[hN] at h2;split at h2
     ·rename_i d SC gL ov aw aj;cases h2;rw[ih g2 aj,List.append_nil];exact T8 g1 aw
     ·cases h2
    ·cases h1
  exact key mm eE
 subst ec;have aB:k3 M J X B st tm w []:=⟨S,.nil⟩;have Ru:cp w (au X B st.sites) ds v.cells.toList:=yo eE ⟨h1,aa _ _ _ _⟩ aB (fun p ai=>ai)
 rw[<-nM _ _ _ ez] at Ru;unfold oa at hr;split at hr
 ·rename_i hb;obtain⟨a7,aM,b9,oB⟩:=hb;cases hr;have e1:Act.eval ⟨tm,[]⟩ l=.int kn n:=by
   have:=cV S C 0 l;rw[hl] at this;have this:Rd _ _ (.int kn n) _:=this;generalize Act.eval ⟨tm,[]⟩ l=u at this;cases this;rfl
  have e2:Act.eval ⟨tm,[]⟩ c=.int km m:=by
   have:=cV S C 0 c;rw[hc] at this;have this:Rd _ _ (.int km m) _:=this;generalize Act.eval ⟨tm,[]⟩ c=u at this;cases this;rfl
  have uR:=Tm Ru n.toNat;have hlen:((List.replicate n.toNat v.cells.toList).flatten).length=n.toNat*ax t:=by
   rw[uR.1,dM,List.length_replicate]
  have ug:(List.replicate m.toNat v.cells.toList).flatten=(List.replicate n.toNat v.cells.toList).flatten++(List.replicate (m.toNat-n.toNat) v.cells.toList).flatten:=by
   rw[<-List.flatten_append,List.replicate_append_replicate];congr 2;omega
  have hcap:((List.replicate n.toNat v.cells.toList).flatten).length+((List.replicate (m.toNat-n.toNat) v.cells.toList).flatten).length=m.toNat*ax t:=by
   rw[<-List.length_append,<-ug];simp[fi]
  have uT:m.toNat<=maxLen:=by omega
  have bY:=S.C3 (o:=o) (T:=e) uR hcap uT eQ;rw[List.length_replicate,<-ug] at bY;refine hU (us:=[(o,.row (aU st o) t (List.replicate n.toNat eB))]) bY Y (vv:=.slice (some ⟨w.heap.size,0,none⟩) n.toNat m.toNat) ?_ ?_
  ·unfold execOp;simp only[al,e1,e2,Sem.run_bind];have cN:=Hp (C:=C) (w:=w) (kn:=kn) (km:=km) ea am gD ol kV fi a7 aM b9 oB;simp only[cN,Result.andThen_ok,Sem.run_pure]
  ·refine⟨rfl,Ref.mk (O:=.row (aU st o) t (List.replicate n.toNat eB)) ?_ rfl (by simp[bO])⟩
   simp only[aZ,cr];simp
 ·cases hr
end
theorem W8{aJ iA:Type}(g:aJ->Option iA):∀{l:List aJ} {r:List iA},l.mapM g=some r->∀{i:Nat} {y:iA},r[i]? =some y->∃x,l[i]? =some x/\g x=some y:=by
 intro l;induction l with
 |nil=>intro r h i y an;simp at h;subst h;simp at an
 |cons x l ih=>
  intro r h i y an;simp only[List.mapM_cons,Option.bind_eq_bind,Option.pure_def] at h;cases hx:g x with
  |none=>simp[hx] at h
  |some z=>
   cases hl:l.mapM g with
   |none=>simp[hx,hl] at h
   |some kk=>
    simp only[hx,hl,Option.bind_some,Option.some.injEq] at h;subst h;cases i with
    |zero=>simp at an;subst an;exact⟨x,by simp,hx⟩
    |succ i=>simp at an;simpa using ih hl an
section
variable {P:Program}{M:World}{J:List Nat}{X:Nat->Prop}{B:Nat->Value}{st:ae}{tm:Array Value}{w:World}{D:Oper}
theorem jC{k:IntKind}{n:Int}{v:Value}{av:Nat->Prop}(h:Rd w av (.int k n) v):v=.int k n:=by cases h;rfl
theorem jB{b:Bool}{v:Value}{av:Nat->Prop}(h:Rd w av (.bool b) v):v=.bool b:=by cases h;rfl
theorem gw{s:E}{v:Value}{av:Nat->Prop}(h:Rd w av (.str s) v):∃b:ByteArray,v=.string b/\b.data.toList=s:=by
 cases h with
 |str l s h=>exact⟨s,rfl,h⟩
theorem j3(S:ag M J X B st tm w){C:Ctx}{T:TypeId}{x:Operand}{k:IntKind}{n:Int}(h:aP C st T x=.av (.aq (.d (.int k n)))):Act.eval ⟨tm,[]⟩ x=.int k n:=by
 have:=cV S C T x;rw[h] at this;exact jC this
theorem Dx(S:ag M J X B st tm w){C:Ctx}{T:TypeId}{x:Operand}{b:Bool}(h:aP C st T x=.av (.aq (.d (.bool b)))):Act.eval ⟨tm,[]⟩ x=.bool b:=by
 have:=cV S C T x;rw[h] at this;exact jB this
theorem aaG(S:ag M J X B st tm w){C:Ctx}{T:TypeId}{x:Operand}{s:E}(h:aP C st T x=.av (.aq (.d (.str s)))):∃b:ByteArray,Act.eval ⟨tm,[]⟩ x=.string b/\b.data.toList=s:=by
 have:=cV S C T x;rw[h] at this;exact gw this
theorem Ui{C:Ctx}(aD:CtxOk P C){T:TypeId}{bR:List (Nat×Nat)}{n:Nat}{z:List ay}{eq:Bool}(aY:C.tt T=.struct bR n z eq):(cj.struct bR n z eq).ok P T:=by
 have:=aD.tt T;rwa[aY] at this
theorem T5(S:ag M J X B st tm w){C:Ctx}(aD:CtxOk P C){T:TypeId}{x:Operand}{f off GP:Nat}{bR:List (Nat×Nat)}{n:Nat}{z:List ay}{eq:Bool}(aY:C.tt T=.struct bR n z eq)(al:D.op=.fieldAddr T x f)
  (Y:ca st D.dst=true) (hf:bR[f]? =some (off,GP)):Holds (Bp off (aP C st 0 x)) (cA P M J X st tm w D):=by
 obtain⟨fields,ea,⟨adA,vy⟩,_⟩:=Ui aD aY;obtain⟨SQ,h1,h2⟩:=W8 _ adA hf;have h1':fields[f]? =some SQ:=by simpa using h1
 cases am:P.info? SQ.type with
 |none=>simp[am] at h2
 |some i=>
  simp only[am,Option.map_some,Option.some.injEq,Prod.mk.injEq] at h2;have eX:i.size≠0:=by rw[h2.2];exact vy (off,GP) (List.mem_of_getElem? hf)
  have bp:=cV S C 0 x;have run:∀{b p:Nat},Act.eval ⟨tm,[]⟩ x=.pointer (some ⟨b,p,none⟩)->(execOp (Act.eval ⟨tm,[]⟩) D).run P w=.ok (.value (.pointer (some ⟨b,p+off,none⟩))) w:=by
   intro b p hx;unfold execOp;simp only[al,hx,Instr.fieldAt,Instr.sureAddr,Sem.run_bind,run_underlying ea,Result.andThen_ok,h1',Sem.run_pure,fieldPlace,sizeOf,jY am,eX,if_false,h2.1,gy]
  unfold Bp;split
  ·rename_i o s p b1;rw[b1] at bp;obtain⟨b,aw,aj⟩:=bp;exact Holds.ok (dC S Y (run aw) ⟨b,rfl,aj⟩)
  ·rename_i cells p b1;rw[b1] at bp;obtain⟨b,q,aw,aj⟩:=bp;refine Holds.ok (dC S Y (run aw) ⟨b,q,by rw[Nat.add_assoc],aj⟩)
  ·rename_i o s t k p b1;rw[b1] at bp;obtain⟨b,q,aw,aj⟩:=bp;exact Holds.ok (dC S Y (run aw) ⟨b,q,by rw[Nat.add_assoc,Nat.add_assoc],aj⟩)
  ·exact .fail
end
theorem tI(n:Nat)(l:List Nat):fX n l=true <-> n∈l:=by
 induction l with
 |nil=>simp[fX]
 |cons m l ih=>
  simp only[fX,Bool.or_eq_true,ih,List.mem_cons];constructor
  ·rintro(h|h)
   ·exact .inl (Nat.eq_of_beq_eq_true h)
   ·exact .inr h
  ·rintro(rfl|h)
   ·exact .inl (Nat.beq_refl n)
   ·exact .inr h
theorem oF(l:List Nat):e4 l=true <-> l.Nodup:=by
 induction l with
 |nil=>simp[e4]
 |cons n l ih=>
  simp only[e4,Bool.and_eq_true,ih,List.nodup_cons,Bool.not_eq_true'];constructor
  ·rintro⟨h1,h2⟩;exact⟨fun h=>(by rw[(tI n l).2 h] at h1;cases h1),h2⟩
  ·rintro⟨h1,h2⟩;refine⟨?_,h2⟩;cases h:fX n l with
   |false=>rfl
   |true=>exact absurd ((tI n l).1 h) h1
theorem k5{sites us:List (Nat×Site)}{o:Nat}(h:o∉keys us):look (aZ sites us) o=look sites o:=by
 induction us generalizing sites with
 |nil=>rfl
 |cons p us ih=>
  obtain⟨n,s⟩:=p;simp only[keys,List.mem_cons,not_or] at h;simp only[aZ];rw[ih h.2,cr];have:¬n=o:=fun e=>h.1 e.symm
  simp[this]
theorem B8{aJ:Type}{us:List (Nat×aJ)}{o:Nat}{s:aJ}(h:(o,s)∈us):o∈keys us:=by
 induction us with
 |nil=>simp at h
 |cons p us ih=>
  rcases List.mem_cons.1 h with rfl|h
  ·exact List.mem_cons_self
  ·exact List.mem_cons_of_mem _ (ih h)
theorem oH{aJ:Type}{us:List (Nat×aJ)}{o:Nat}(h:o∈keys us):∃s,(o,s)∈us:=by
 induction us with
 |nil=>simp[keys] at h
 |cons p us ih=>
  obtain⟨n,s⟩:=p;rcases List.mem_cons.1 h with h|h
  ·exact⟨s,by rw[h];exact List.mem_cons_self⟩
  ·obtain⟨ap,af⟩:=ih h;exact⟨ap,List.mem_cons_of_mem _ af⟩
theorem gQ{aJ:Type}(a b:List (Nat×aJ)):keys (a++b)=keys a++keys b:=by
 induction a with
 |nil=>rfl
 |cons p a ih=>simp[keys,ih]
section
variable {P:Program}{M:World}{J:List Nat}{X:Nat->Prop}{B:Nat->Value}{st:ae}{tm:Array Value}{w:World}{D:Oper}
def cw(B:Nat->Value)(ks:List Nat):List Nat:=ks.flatMap fun o=>bf (B o)
theorem kr(a b:List Nat):cw B (a++b)=cw B a++cw B b:=by simp[cw]
def e7(sites:List (Nat×Site))(us:List (Nat×Site)):Prop:=∀o ap,(o,ap)∈us->∃O,look sites o=some O/\O.live=true/\ap=.dead O.b2
theorem e7.nil{sites:List (Nat×Site)}:e7 sites []:=fun _ _ h=>by simp at h
theorem e7.append{sites us vs:List (Nat×Site)}(h:e7 sites us)(af:e7 sites vs):e7 sites (us++vs):=by
 intro o s hm;rcases List.mem_append.1 hm with hm|hm
 ·exact h o s hm
 ·exact af o s hm
theorem VC:∀{us:List (Nat×Site)} {sites:List (Nat×Site)},e7 sites us->∀F,(F∉keys us/\look (aZ sites us) F=look sites F)\/(F∈keys us/\∃O,look sites F=some O/\O.live=true/\look (aZ sites us) F=some (.dead O.b2)):=by
 intro us;induction us with
 |nil=>intro sites _ F;exact .inl ⟨by simp[keys],rfl⟩
 |cons p us ih=>
  obtain⟨o,s⟩:=p;intro sites h F;obtain⟨O,h1,h2,rfl⟩:=h o s List.mem_cons_self;by_cases hm:F∈keys us
  ·obtain⟨ap,hA⟩:=oH hm;obtain⟨bw,aw,aj,rfl⟩:=h F ap (List.mem_cons_of_mem _ hA);refine .inr ⟨List.mem_cons_of_mem _ hm,bw,aw,aj,?_⟩;have:∀(us:List (Nat×Site)) (sites:List (Nat×Site)),(∀s,(F,s)∈us->s=.dead bw.b2)->F∈keys us->look (aZ sites us) F=some (.dead bw.b2):=by
    intro us;induction us with
    |nil=>intro _ _ h;simp[keys] at h
    |cons q us vl=>
     obtain⟨aI,r⟩:=q;intro sites H ak;simp only[aZ];by_cases iw:F∈keys us
     ·exact vl _ (fun s ed=>H s (List.mem_cons_of_mem _ ed)) iw
     ·rw[k5 iw,cr];rcases List.mem_cons.1 ak with rfl|ak
      ·rw[H r List.mem_cons_self];simp
      ·exact absurd ak iw
   simp only[aZ];refine this us _ (fun s H=>?_) hm
   obtain⟨s2,g1,g2,g3⟩:=h F s (List.mem_cons_of_mem _ H);rw[aw] at g1;cases g1;exact g3
  ·simp only[aZ];rw[k5 hm,cr];by_cases e:o=F
   ·subst e;exact .inr ⟨List.mem_cons_self,O,h1,h2,by simp⟩
   ·exact .inl ⟨fun ak=>(List.mem_cons.1 ak).elim (fun h=>e h.symm) hm,by simp[e]⟩
theorem Deep.len{av:Nat->Prop}{ds:List aR}{cs ao:List Value}(h:Deep w av ds cs ao):cs.length=ds.length:=by
 induction h with
 |nil=>rfl
 |row _ _ _ _ _ _ _ _ ih=>simp[ih]
 |leaf _ _ _ ih=>simp[ih]
theorem Deep.cS{av:Nat->Prop}{ds gL:List aR}{cs jT ao m_:List Value}(h:Deep w av ds cs ao)(af:Deep w av gL jT m_):Deep w av (ds++gL) (cs++jT) (ao++m_):=by
 induction h with
 |nil=>exact af
 |row u ys e U ai h hr _ ih=>exact .row u ys e U ai h hr ih
 |leaf ai h _ ih=>exact .leaf ai h ih
theorem Deep.inv{av:Nat->Prop}:∀{ds gL:List aR} {cs ao:List Value},Deep w av (ds++gL) cs ao->∃qK RZ fh kc,cs=qK++RZ/\ao=fh++kc/\Deep w av ds qK fh/\Deep w av gL RZ kc:=by
 intro ds;induction ds with
 |nil=>intro gL cs ao h;exact⟨[],cs,[],ao,rfl,rfl,.nil,h⟩
 |cons d ds ih=>
  intro gL cs ao h;cases h with
  |row u ys e U ai h hr k=>
   obtain⟨bD,bM,b6,cX,rfl,rfl,aw,aj⟩:=ih k;exact⟨_::bD,bM,_::b6,cX,rfl,rfl,.row u ys e U ai h hr aw,aj⟩
  |leaf ai h k=>
   obtain⟨bD,bM,b6,cX,rfl,rfl,aw,aj⟩:=ih k;exact⟨_::bD,bM,b6,cX,rfl,rfl,.leaf ai h aw,aj⟩
theorem Deep.map{w':World}{av bP:Nat->Prop}{ds:List aR}{cs ao:List Value}(h:Deep w av ds cs ao)(go:∀{d v},Rd w av d v->Rd w' bP d v):
  (∀n,n∈ao->∀b,ba n=some b->w'.heap[b]? =w.heap[b]?)->Deep w' bP ds cs ao:=by
 induction h with
 |nil=>intro _;exact .nil
 |row u ys e U ai h hr _ ih=>intro ak;exact .row u ys e U ai (nD h (ak _ List.mem_cons_self)) ⟨hr.1,fun j g1 g2=>go (hr.2 j g1 g2)⟩ (ih fun n hn=>ak n (List.mem_cons_of_mem _ hn))
 |leaf ai h _ ih=>intro ak;exact .leaf ai (go h) (ih ak)
theorem Deep.one{av:Nat->Prop}{ds:List aR}{cs ao:List Value}(h:Deep w av ds cs ao):∀u∈cs,u.oneCell'=true:=by
 induction h with
 |nil=>intro u hu;cases hu
 |row u ys e U _ h _ _ ih=>
  intro v ab;rcases List.mem_cons.1 ab with rfl|ab
  ·rcases h.2 with⟨h,_⟩|⟨_,_,_,_,h,_⟩<;>rw[h]<;>rfl
  ·exact ih v ab
 |leaf _ h _ ih=>
  intro v ab;rcases List.mem_cons.1 ab with rfl|ab
  ·exact h.iJ
  ·exact ih v ab
theorem V3{o s:Nat}{t:aG}{xs:List (den t)}(h:qb st o s=some ⟨t,xs⟩):rowOf st o s=some ⟨t,xs⟩\/lZ st o s=some ⟨t,xs⟩:=by
 unfold qb at h;split at h
 ·rename_i x hx;cases h;exact .inl hx
 ·exact .inr h
theorem ag.any(S:ag M J X B st tm w){o s:Nat}{t:aG}{xs:List (den t)}(h:qb st o s=some ⟨t,xs⟩):
  (∃O,look st.sites o=some O/\O.b2=s)/\((bO (B o)=.slice none 0 0/\xs=[])\/∃b c,bO (B o)=.slice (some ⟨b,0,none⟩) xs.length c):=by
 rcases V3 h with h|h
 ·obtain⟨cs,_,hc⟩:=S.row h;refine⟨by rcases jZ h with h|h<;>exact⟨_,h,rfl⟩,hc.imp id fun⟨b,c,h,_⟩=>⟨b,c,h⟩⟩
 ·have hl:=tw h;obtain⟨e,v,ao,cs,h1,_,h2,_⟩:=S.sites o _ hl;refine⟨⟨_,hl,rfl⟩,?_⟩;rw[h1];show(v=_/\_)\/∃b c,v=_;rcases h2.2 with⟨ab,a8⟩|⟨g,cap,cur,bC,ab,_⟩
  ·exact .inl ⟨ab,List.eq_nil_of_length_eq_zero a8⟩
  ·exact .inr ⟨g,cap,ab⟩
theorem ag.all(S:ag M J X B st tm w){o s:Nat}{t:aG}{xs:List (den t)}(h:qc st o s=some ⟨t,xs⟩):
  (∃O,look st.sites o=some O/\O.b2=s)/\((bO (B o)=.slice none 0 0/\xs=[])\/∃b D c,bO (B o)=.slice (some ⟨b,D,none⟩) xs.length c):=by
 unfold qc at h;split at h
 ·rename_i x hx;cases h;obtain⟨h1,h2⟩:=S.any hx;exact⟨h1,h2.imp id fun⟨b,c,h⟩=>⟨b,0,c,h⟩⟩
 ·have hl:=A5 h;obtain⟨cs,_,h2⟩:=S.tail hl;exact⟨⟨_,hl,rfl⟩,h2.imp id fun⟨b,D,c,h,_⟩=>⟨b,D,c,h⟩⟩
theorem ag.Mu(S:ag M J X B st tm w){o:Nat}(h:bT st.sites o):(bf (B o)).Nodup:=by
 obtain⟨O,h1,h2⟩:=h;have:=S.sites o O h1;cases O with
 |box s cells=>obtain⟨b,T,cur,g,_⟩:=this;rw[g];simp[bf,ba]
 |row s t xs=>
  obtain⟨e,cs,g,_⟩:=this;rw[(hK g).2];cases ba (B o)<;>simp
 |map s t es=>obtain⟨b,g,_⟩:=this;rw[g];simp[bf,ba]
 |deep s t xs=>obtain⟨e,v,ao,cs,g1,g2,_⟩:=this;exact g2
 |ey s es=>obtain⟨b,arr,clock,ao,g1,g2,_⟩:=this;exact g2
 |tail s t xs=>
  obtain⟨_,e,cs,g,_⟩:=this;rcases g.2 with⟨g,_⟩|⟨_,_,_,_,g,_⟩<;>rw[g]<;>simp[bf,ba]
 |c'=>cases h2
 |dead=>cases h2
theorem ag.DU(S:ag M J X B st tm w):∀{ks:List Nat},(∀F,F∈ks->bT st.sites F)->ks.Nodup->(cw B ks).Nodup:=by
 intro ks;induction ks with
 |nil=>intro _ _;simp[cw]
 |cons k ks ih=>
  intro hl hn;obtain⟨b6,cX⟩:=List.nodup_cons.1 hn;unfold cw;rw[List.flatMap_cons];refine List.nodup_append.2 ⟨S.Mu (hl k List.mem_cons_self),ih (fun F h=>hl F (List.mem_cons_of_mem _ h)) cX,fun a bm b hb e=>?_⟩
  subst e;obtain⟨F,bk,hb⟩:=List.mem_flatMap.1 hb;exact b6 (S.dp k F a (hl k List.mem_cons_self) (hl F (List.mem_cons_of_mem _ bk)) bm hb▸bk)
theorem ag.sz(S:ag M J X B st tm w){o:Nat}{bw:Site}{nv:Value}{w':World}{ks:List (Nat×Site)}{K:List Nat}(kh:e7 st.sites ks)(bL:∀F,F∈K <-> F∈keys ks\/F=o/\bT st.sites o)
  (hw:∀b,b<w.heap.size->(∀F,F∈K->b∉bf (B F))->w'.heap[b]? =w.heap[b]?) (Gc:w'.os=w.os) (Er:w'.tape=w.tape) (l9:w'.output=w.output) (jF:w.heap.size<=w'.heap.size)
  (fJ:bw.live=true) (mQ:∀O,look st.sites o=some O->O.b2<bw.b2\/(O.b2=bw.b2/\bO nv=bO (B o)))
  (fL:∀b,b∈bf nv->b<w'.heap.size/\((∃F,F∈K/\b∈bf (B F))\/w.heap.size<=b))
  (dR:∀{bi:List (Nat×Site)} {az:Nat->Value},az o=nv->(∀{a v},cc B st.sites w (au X B st.sites) a v->cc az bi w' (au X az bi) a v)->
   hW az bi w' (au X az bi) o bw):
  ag M J X (fun F=>if F=o then nv else B F) {st with sites:=cd (aZ st.sites ks) o bw} tm w':=by
 have pm:=VC kh;have hold:∀F,F∈K->bT st.sites F:=by
  intro F h;rcases(bL F).1 h with h|⟨rfl,h⟩
  ·rcases pm F with⟨af,_⟩|⟨_,O,h1,h2,_⟩
   ·exact absurd h af
   ·exact⟨O,h1,h2⟩
  ·exact h
 have cZ:∀F,bT (cd (aZ st.sites ks) o bw) F->F=o\/(F≠o/\F∉K/\bT st.sites F):=by
  rintro F ⟨O,h1,h2⟩;rw[cr] at h1;by_cases e:o=F
  ·exact .inl e.symm
  ·simp only[e,if_false] at h1;rcases pm F with⟨aw,aj⟩|⟨aw,s,aj,bA,cD⟩
   ·exact .inr ⟨fun h=>e h.symm,fun h=>((bL F).1 h).elim aw fun h=>e h.1.symm,O,aj▸h1,h2⟩
   ·rw[cD] at h1;cases h1;cases h2
 have uG:∀F b,F∉K->bT st.sites F->b∈bf (B F)->w'.heap[b]? =w.heap[b]? :=fun F b h1 h2 aa=>hw b (S.dS h2 aa) fun aI vm hb=>h1 (S.dp F aI b h2 (hold aI vm) aa hb▸vm)
 refine S.nY (fun F O bk=>?_) (fun b h hb=>hw b hb fun F bk af=>h (.inr ⟨F,hold F bk,af⟩)) (fun b h hb af=>?_) (fun go F O bk=>?_) (fun F aI b h1 h2 g1 g2=>?_) (fun F b h1 g1=>?_) (fun F b h1 g1=>?_) ?_ jF
 ·rw[cr];by_cases e:o=F
  ·subst e;refine⟨bw,by simp,?_,fun h=>?_⟩
   ·rcases mQ O bk with h|⟨h,_⟩<;>omega
   ·rcases mQ O bk with af|⟨_,af⟩
    ·omega
    ·simpa using af
  ·have bK:¬F=o:=fun h=>e h.symm
   rcases pm F with⟨aw,aj⟩|⟨aw,s,aj,bA,cD⟩
   ·exact⟨O,by simp[e,aj,bk],Nat.le_refl _,fun _=>by simp[bK]⟩
   ·rw[bk] at aj;cases aj;exact⟨.dead O.b2,by simp[e,cD],Nat.le_refl _,fun _=>by simp[bK]⟩
 ·rcases af with af|⟨F,h1,h2⟩
  ·exact h (.inl af)
  ·rcases cZ F h1 with rfl|⟨b6,cX,cu⟩
   ·simp only[if_true] at h2;rcases(fL b h2).2 with⟨aI,aa,aN⟩|aa
    ·exact h (.inr ⟨aI,hold aI aa,aN⟩)
    ·omega
   ·simp only[b6,if_false] at h2;exact h (.inr ⟨F,cu,h2⟩)
 ·rw[cr] at bk;by_cases e:o=F
  ·subst e;simp only[if_true,Option.some.injEq] at bk;subst bk;exact .inr (dR (by simp) go)
  ·have bK:¬F=o:=fun h=>e h.symm
   simp only[e,if_false] at bk;rcases pm F with⟨aw,aj⟩|⟨aw,s,aj,bA,cD⟩
   ·exact .inl ⟨aj▸bk,by simp[bK],fun hl b hb=>uG F b (fun h=>((bL F).1 h).elim aw fun h=>e h.1.symm) ⟨O,aj▸bk,hl⟩ hb⟩
   ·rw[cD] at bk;cases bk;exact .inr trivial
 ·have key:∀F b,F∉K->bT st.sites F->b∈bf (B F)->b∉bf nv:=by
   intro F b cX cu hb hn;rcases(fL b hn).2 with⟨aI,aa,aN⟩|aa
   ·exact cX (S.dp F aI b cu (hold aI aa) hb aN▸aa)
   ·have:=S.dS cu hb;omega
  rcases cZ F h1 with rfl|⟨b6,fD,cu⟩<;>rcases cZ aI h2 with rfl|⟨cX,gN,dX⟩
  ·rfl
  ·simp only[if_true] at g1;simp only[cX,if_false] at g2;exact absurd g1 (key aI b gN dX g2)
  ·simp only[if_true] at g2;simp only[b6,if_false] at g1;exact absurd g2 (key F b fD cu g1)
  ·simp only[b6,if_false] at g1;simp only[cX,if_false] at g2;exact S.dp F aI b cu dX g1 g2
 ·rcases cZ F h1 with rfl|⟨b6,_,cu⟩
  ·simp only[if_true] at g1;rcases(fL b g1).2 with⟨aI,aa,aN⟩|aa
   ·exact S.ci aI b (hold aI aa) aN
   ·exact⟨fun hx=>by have:=S.old b hx;have:=S.frame.size;omega,.inr (Nat.le_trans S.frame.size aa)⟩
  ·simp only[b6,if_false] at g1;exact S.ci F b cu g1
 ·rcases cZ F h1 with rfl|⟨b6,_,cu⟩
  ·simp only[if_true] at g1;exact(fL b g1).1
  ·simp only[b6,if_false] at g1;exact Nat.lt_of_lt_of_le (S.dS cu g1) jF
 ·have aB:=S.frame;refine⟨Gc.trans aB.os,Er.trans aB.tape,l9.trans aB.output,Nat.le_trans aB.size jF,fun b h1 h2=>?_⟩
  rw[hw b (Nat.lt_of_lt_of_le h1 aB.size) (fun F bk hb=>?_)]
  ·exact aB.block b h1 h2
  ·rcases(S.ci F b (hold F bk) hb).2 with h|h
   ·exact h2 h
   ·omega
theorem VM{t:aG}(h:t.hJ=false)(x:den t):∀d,d∈enc t x->d.plain=true:=by
 cases t<;>first|(cases h;done)|(intro d Y;simp only[enc,List.mem_cons,List.not_mem_nil,or_false] at Y;(rcases Y with rfl|rfl|rfl|rfl|rfl);all_goals rfl)|skip
 all_goals(intro d Y;simp only[enc,List.mem_cons,List.not_mem_nil,or_false] at Y)
 all_goals first|(subst Y;rfl)|(rcases Y with rfl|rfl<;>rfl)|(rcases Y with rfl|rfl|rfl<;>rfl)|(rcases Y with rfl|rfl|rfl|rfl<;>rfl)
theorem Bo{t:aG}(h:t.hJ=false){xs:List (den t)}:∀d,d∈flat t xs->d.plain=true:=by
 intro d Y;simp only[flat,List.mem_flatMap] at Y;obtain⟨x,_,hx⟩:=Y;exact VM h x d hx
theorem B4(S:ag M J X B st tm w):∀{U:List ay} {ds:List aR} {us:List (Nat×Site)} {vs:List Value},sinks st U=some (ds,us)->ct B st.sites w (au X B st.sites) U vs->
  e7 st.sites us/\∃ao,Deep w (au X B st.sites) ds vs ao/\(ao.flatMap fun v=>(ba v).toList)=cw B (keys us):=by
 intro U;induction U with
 |nil=>intro ds us vs h hl;simp only[sinks] at h;cases h;rw[hl.lb];exact⟨.nil,[],.nil,rfl⟩
 |cons l U ih=>
  intro ds us vs h hl;simp only[sinks] at h;split at h
  ·rename_i d u1 gL u2 h1 h2;cases h;obtain⟨v,cC,rfl,ab,lA⟩:=hl.inv;obtain⟨g2,ao,aj,bA⟩:=ih h2 lA;unfold sink at h1;split at h1
   ·cases h1;exact⟨g2,ao,.leaf rfl ab aj,bA⟩
   ·cases h1;exact⟨g2,ao,.leaf rfl ab aj,bA⟩
   ·cases h1;exact⟨g2,ao,.leaf rfl ab aj,bA⟩
   ·rename_i t;cases h1;have ab:v=.slice none 0 0:=ab;subst ab;exact⟨g2,_::ao,.row t [] 0 [] (fun d h=>by simp[flat] at h) (pJ w _ _ _) ⟨rfl,fun j h=>by simp[flat] at h⟩ aj,by rw[List.flatMap_cons,bA];rfl⟩
   ·rename_i o s;split at h1
    ·rename_i ap t xs fp;cases hb:(ap.beq s&&!t.hJ) with
     |false=>rw[hb] at h1;cases h1
     |true=>
      rw[hb] at h1;simp only[Bool.and_eq_true,Bool.not_eq_true'] at hb;have:=Nat.eq_of_beq_eq_true hb.1;subst this;cases h1;have aA:look st.sites o=some (.row ap t xs):=fp;obtain⟨e,cs,cy,b'⟩:=S.sites o _ aA;have hz:v=B o:=(Ref.at ab.2 aA rfl).trans (hK cy).1;subst hz;refine⟨fun F ap hm=>?_,B o::ao,.row t xs e cs (Bo hb.2) cy ⟨by rw[dM];exact cy.1,b'⟩ aj,?_⟩
      ·rcases List.mem_cons.1 hm with hm|hm
       ·cases hm;exact⟨_,aA,rfl,rfl⟩
       ·exact g2 F ap hm
      ·rw[List.flatMap_cons,bA,<-(hK cy).2];rfl
    ·cases h1
   ·cases h1
  ·cases h
theorem Hk{U:List ay}:∀{ds:List aR} {us:List (Nat×Site)},sinks st U=some (ds,us)->gR U=true:=by
 induction U with
 |nil=>intro ds us _;rfl
 |cons l U ih=>
  intro ds us h;simp only[sinks] at h;split at h
  ·rename_i d u1 gL u2 h1 h2;simp only[gR,Bool.and_eq_true];refine⟨?_,ih h2⟩;unfold sink at h1;split at h1<;>first|rfl|cases h1
  ·cases h
theorem WB(S:ag M J X B st tm w):∀{as:List bF} {t:aG} {xs:List (den t)} {us:List (Nat×Site)} {ws:List Value},mO t st as=some (xs,us)->ws.length=as.length->
  (∀j (h:j<as.length) (af:j<ws.length),gE B st.sites w (au X B st.sites) (as[j]) (ws[j]))->
  xs.length=as.length/\e7 st.sites us/\(∃ao,Deep w (au X B st.sites) (flat t xs) (ws.flatMap fun v=>v.cells.toList) ao/\(ao.flatMap fun v=>(ba v).toList)=cw B (keys us))/\∀v,v∈ws->v.cells.size=ax t:=by
 intro as;induction as with
 |nil=>
  intro t xs us ws h hl _;simp only[mO] at h;cases h;have:ws=[]:=List.eq_nil_of_length_eq_zero hl;subst this;exact⟨rfl,.nil,⟨[],.nil,rfl⟩,fun v ab=>by simp at ab⟩
 |cons a as ih=>
  intro t xs us ws h hl dR;match ws,hl with
  |v::ws,hl=>
  simp only[mO] at h;split at h
  ·rename_i ds u1 mb;split at h
   ·rename_i x hO u2 ez ln;cases h;have b5:=dR 0 (by simp) (by simp)
    simp only[List.getElem_cons_zero] at b5;have hQ:=b5.cells (Hk mb);obtain⟨g1,fh,d1,a7⟩:=B4 S mb hQ;obtain⟨g2,g3,⟨kc,d2,aM⟩,g4⟩:=ih ln (by simpa using hl) (fun j h1 h2=>dR (j+1) (by simpa using h1) (by simpa using h2))
    have n7:=nM _ _ _ ez;refine⟨by simp[g2],g1.append g3,⟨fh++kc,?_,?_⟩,fun u hu=>?_⟩
    ·simp only[flat,List.flatMap_cons];rw[n7];exact d1.cS d2
    ·rw[List.flatMap_append,a7,aM,gQ,kr]
    ·rcases List.mem_cons.1 hu with rfl|hu
     ·have:u.cells.toList.length=ds.length:=d1.len;rw[<-n7,fy] at this;simpa using this
     ·exact g4 u hu
   ·cases h
  ·cases h
theorem HT{aJ:Type}{us:List (Nat×aJ)}{o:Nat}(h:(look us o).isNone=true):o∉keys us:=by
 induction us with
 |nil=>simp[keys]
 |cons p us ih=>
  obtain⟨n,s⟩:=p;simp only[look] at h;cases hb:n.beq o with
  |true=>rw[hb] at h;cases h
  |false=>
   rw[hb] at h;intro hm;rcases List.mem_cons.1 hm with rfl|hm
   ·rw[Nat.beq_refl] at hb;cases hb
   ·exact ih h hm
theorem w3(t:aG){xs:List (den t)}{k:Nat}(ak:k<xs.length)(dn:den t):flat t (xs.set k dn)=flat t (xs.take k)++(enc t dn++flat t (xs.drop (k+1))):=by
 rw[List.set_eq_take_append_cons_drop,if_pos ak,nA];rfl
theorem Cn(t:aG){xs:List (den t)}{k:Nat}{x:den t}(hx:xs[k]? =some x):flat t xs=flat t (xs.take k)++(enc t x++flat t (xs.drop (k+1))):=by
 have ak:k<xs.length:=(List.getElem?_eq_some_iff.1 hx).1;have:=w3 t ak x;rw[<-this];congr 1
 have mq:xs[k]=x:=(List.getElem?_eq_some_iff.1 hx).2;rw[<-mq,List.set_getElem_self]
theorem ag.Wu(S:ag M J X B st tm w){o s k:Nat}{t:aG}{xs:List (den t)}{x dn:den t}{v:Value}{us:List (Nat×Site)}{vs ao:List Value}(hb:look st.sites o=some (.deep s t xs))
  (ab:dv B st.sites w (au X B st.sites) (.eI o s t k 0) v) (hx:xs[k]? =some x) (ec:e7 st.sites us) (hn:(keys us).Nodup) (be:o∉keys us)
  (Y:Deep w (au X B st.sites) (enc t dn) vs ao) (h8:(ao.flatMap fun v=>(ba v).toList)=cw B (keys us)):
  ∃b T cur bC nv,v=.pointer (some ⟨b,k*ax t,none⟩)/\w.heap[b]? =some (.cells (List.toArray cur) T bC)/\lw t.ft T cur.toArray bC/\k*ax t+vs.length<=cur.length/\
   ag M J X (fun F=>if F=o then nv else B F) {st with sites:=cd (aZ st.sites us) o (.deep s t (xs.set k dn))} tm (w.setRow b (cg cur (k*ax t) vs).toArray):=by
 obtain⟨b,D,oc,ke⟩:=ab;obtain⟨n,c,bH⟩:=Ref.at ke hb rfl;obtain⟨e,v0,iX,cs,a8,dN,c5,lo⟩:=S.sites o _ hb;have ak:k<xs.length:=(List.getElem?_eq_some_iff.1 hx).1;rw[a8] at bH;replace bH:v0=.slice (some ⟨b,D,none⟩) n c:=bH
 obtain⟨oi,h⟩:=c5;rcases h with⟨fv,_⟩|⟨g,cap,cur,bC,iy,mw,aF,gH,ja,ee,gX⟩
 ·rw[bH] at fv;cases fv
 ·rw[bH] at iy;cases iy;have mv:(k+1)*ax t<=xs.length*ax t:=Nat.mul_le_mul_right _ ak;have iw:xs.length*ax t<=c*ax t:=Nat.mul_le_mul_right _ gH;rw[Nat.add_mul,Nat.one_mul] at mv;have mr:vs.length=ax t:=by rw[Y.len,fy]
  have jM:cur.toList.length=c*ax t:=by simpa using ee
  have jp:k*ax t+vs.length<=cur.toList.length:=by omega
  rw[Cn t hx] at lo;obtain⟨bD,R0,b6,hP,rfl,rfl,d1,d23⟩:=lo.inv;obtain⟨bM,cv,cX,kl,rfl,rfl,d2,d3⟩:=d23.inv;have cu:bD.length=k*ax t:=by rw[d1.len,dM,List.length_take,Nat.min_eq_left (Nat.le_of_lt ak)]
  have dX:bM.length=ax t:=by rw[d2.len,fy]
  have fJ:bT st.sites o:=⟨_,hb,rfl⟩;have n8:b∈bf (B o):=by rw[a8];exact hH.2 (.inl (by rw[bH];rfl))
  have NJ:ba v0=some b:=by rw[bH];rfl
  have old:∀F,F∈keys us->bT st.sites F:=fun F h=>by
   obtain⟨ap,af⟩:=oH h;obtain⟨O,aw,aj,_⟩:=ec F ap af;exact⟨O,aw,aj⟩
  have ajK:∀y,y∈b6++(cX++kl)->∀a',ba y=some a'->a'∈bf (B o):=fun y an a' ck=>by rw[a8];exact hH.2 (.inr ⟨y,an,ck⟩)
  have Am:∀y,y∈ao->∀a',ba y=some a'->∃F,F∈keys us/\a'∈bf (B F):=fun y an a' ck=>by
   have:a'∈ao.flatMap fun v=>(ba v).toList:=List.mem_flatMap.2 ⟨y,an,by rw[ck];simp⟩
   rw[h8] at this;exact List.mem_flatMap.1 this
  have zv:bf (.tuple (v0::(b6++(ao++kl))).toArray)=b::((b6.flatMap fun v=>(ba v).toList)++(cw B (keys us)++kl.flatMap fun v=>(ba v).toList)):=by
   simp[bf,NJ,h8]
  have sf:bf (B o)=b::((b6.flatMap fun v=>(ba v).toList)++((cX.flatMap fun v=>(ba v).toList)++kl.flatMap fun v=>(ba v).toList)):=by
   rw[a8];simp[bf,NJ]
  refine⟨b,e,cur.toList,bC,.tuple (v0::(b6++(ao++kl))).toArray,by simpa using oc,by simpa using aF,by simpa using mw,jp,?_⟩
  refine S.sz (K:=o::keys us) ec (fun F=>?_) (fun a' ck cE=>setRow_other w b a' _ ?_) rfl rfl rfl (by rw[setRow_size];exact Nat.le_refl _) rfl (fun O H=>?_) (fun a' ck=>?_) (fun {bi az} d' go=>?_)
  ·constructor
   ·intro h;rcases List.mem_cons.1 h with rfl|h
    ·exact .inr ⟨rfl,fJ⟩
    ·exact .inl h
   ·rintro(h|⟨rfl,_⟩)
    ·exact List.mem_cons_of_mem _ h
    ·exact List.mem_cons_self
  ·rintro rfl;exact cE o List.mem_cons_self n8
  ·rw[hb] at H;cases H;exact .inr ⟨rfl,by rw[a8];rfl⟩
  ·rw[setRow_size];rw[zv] at ck;have:(∃F,F∈o::keys us/\a'∈bf (B F)):=by
    simp only[List.mem_cons,List.mem_append] at ck;rcases ck with rfl|ck|ck|ck
    ·exact⟨o,List.mem_cons_self,n8⟩
    ·exact⟨o,List.mem_cons_self,by rw[sf];simp only[List.mem_cons,List.mem_append];exact .inr (.inl ck)⟩
    ·obtain⟨F,h1,h2⟩:=List.mem_flatMap.1 ck;exact⟨F,List.mem_cons_of_mem _ h1,h2⟩
    ·exact⟨o,List.mem_cons_self,by rw[sf];simp only[List.mem_cons,List.mem_append];exact .inr (.inr (.inr ck))⟩
   refine⟨?_,.inl this⟩;obtain⟨F,h1,h2⟩:=this;rcases List.mem_cons.1 h1 with rfl|h1
   ·exact S.dS fJ h2
   ·exact S.dS (old F h1) h2
  ·have kW:=setRow_heap w b cur (cg cur.toList (k*ax t) vs).toArray e bC aF;have f_:b∉(b6.flatMap fun v=>(ba v).toList)++((cX.flatMap fun v=>(ba v).toList)++kl.flatMap fun v=>(ba v).toList):=by
    have:=dN;rw[sf] at this;exact(List.nodup_cons.1 this).1
   have j8:∀y,y∈b6++(ao++kl)->∀a',ba y=some a'->(w.setRow b (cg cur.toList (k*ax t) vs).toArray).heap[a']? =w.heap[a']? :=by
    intro y an a' ck;refine setRow_other w b a' _ ?_
    rintro rfl;simp only[List.mem_append] at an;rcases an with an|an|an
    ·exact f_ (List.mem_append.2 (.inl (List.mem_flatMap.2 ⟨y,an,by rw[ck];simp⟩)))
    ·obtain⟨F,h1,h2⟩:=Am y an _ ck;exact be (S.dp o F _ fJ (old F h1) n8 h2▸h1)
    ·exact f_ (List.mem_append.2 (.inr (List.mem_append.2 (.inr (List.mem_flatMap.2 ⟨y,an,by rw[ck];simp⟩)))))
   refine⟨e,v0,b6++(ao++kl),bD++(vs++cv),d',?_,⟨?_,.inr ⟨b,c,_,bC,?_,?_,kW,?_,ja,?_,?_⟩⟩,?_⟩
   ·rw[d',zv];have hu:=S.DU old hn;rw[sf] at dN;obtain⟨fD,gN⟩:=List.nodup_cons.1 dN;obtain⟨mE,wb,GU⟩:=List.nodup_append.1 gN;obtain⟨SH,qY,akA⟩:=List.nodup_append.1 wb;have apart:∀a,a∈cw B (keys us)->a∉bf (B o):=by
     intro a bm s6;obtain⟨F,h1,h2⟩:=List.mem_flatMap.1 bm;exact be (S.dp o F a fJ (old F h1) s6 h2▸h1)
    refine List.nodup_cons.2 ⟨fun h=>?_,List.nodup_append.2 ⟨mE,List.nodup_append.2 ⟨hu,qY,fun a bm a' ck e=>?_⟩,fun a bm a' ck e=>?_⟩⟩
    ·simp only[List.mem_append] at h;rcases h with h|h|h
     ·exact fD (List.mem_append.2 (.inl h))
     ·exact apart _ h n8
     ·exact fD (List.mem_append.2 (.inr (List.mem_append.2 (.inr h))))
    ·subst e;exact apart a bm (by rw[sf];simp only[List.mem_cons,List.mem_append];exact .inr (.inr (.inr ck)))
    ·subst e;rcases List.mem_append.1 ck with ck|ck
     ·exact apart a ck (by rw[sf];simp only[List.mem_cons,List.mem_append];exact .inr (.inl bm))
     ·exact GU a bm a (List.mem_append.2 (.inr ck)) rfl
   ·rw[List.length_set];simp only[List.length_append] at oi ⊢;omega
   ·rw[bH,List.length_set]
   ·refine⟨mw.1,?_⟩;rcases mw.2 with h|⟨h,af⟩
    ·exact .inl h
    ·refine .inr ⟨h,?_⟩;rw[List.size_toArray,mI _ _ _ jp];simpa using af
   ·rw[List.length_set];exact gH
   ·rw[List.size_toArray,mI _ _ _ jp];exact jM
   ·rw[List.length_set,List.toList_toArray,A7 _ _ _ _ (by omega) (by rw[jM];omega),gX]
    unfold cg;rw[<-cu,List.take_left' rfl,mr,<-dX,<-List.append_assoc,<-List.append_assoc,<-List.length_append,List.drop_left' rfl]
   ·rw[w3 t ak];have jQ:∀{d v},Rd w (au X B st.sites) d v->Rd _ (au X az bi) d v:=hX go;exact(d1.map jQ fun y an=>j8 y (List.mem_append.2 (.inl an))).cS ((Y.map jQ fun y an=>j8 y (List.mem_append.2 (.inr (List.mem_append.2 (.inl an))))).cS (d3.map jQ fun y an=>j8 y (List.mem_append.2 (.inr (List.mem_append.2 (.inr an))))))
theorem Xp(t:aG)(x dn:den t):(enc t x).map aR.plain=(enc t dn).map aR.plain:=by cases t<;>rfl
theorem H1{d:aR}(h:d.hM=true):d.plain=true:=by cases d<;>first|rfl|cases h
theorem MZ{t:aG}{x:den t}{off:Nat}(h:off<ax t):∃d,(enc t x)[off]? =some d/\enc t x=(enc t x).take off++d::(enc t x).drop (off+1):=by
 have hl:off<(enc t x).length:=by rw[fy];exact h
 refine⟨(enc t x)[off],List.getElem?_eq_getElem hl,?_⟩;rw[List.getElem_cons_drop,List.take_append_drop]
theorem Ie{aJ:Type}{l:List aJ}{off:Nat}{d:aJ}:cg l off [d]=l.take off++d::l.drop (off+1):=by simp[cg]
theorem TK{aJ:Type}{a b c:List aJ}{y z:aJ}{p:Nat}(h:p=a.length+b.length):cg (a++((b++y::c))) p [z]=a++(b++z::c):=by
 subst h;unfold cg;rw[<-List.append_assoc,<-List.length_append,List.take_left' rfl];have:(a++b++y::c).drop ((a++b).length+[z].length)=c:=by
  rw[List.drop_append,List.drop_eq_nil_of_le (by simp)]
  simp
 rw[this];simp
theorem ag.U3(S:ag M J X B st tm w){o s k off:Nat}{t:aG}{xs:List (den t)}{x dn:den t}{v u:Value}{d:aR}(hb:look st.sites o=some (.deep s t xs))
  (ab:dv B st.sites w (au X B st.sites) (.eI o s t k off) v) (hx:xs[k]? =some x) (Y:dec t (cg (enc t x) off [d])=some dn) (ai:d.hM=true) (al:off<ax t) (hu:Rd w (au X B st.sites) d u):
  ∃b T cur bC,v=.pointer (some ⟨b,k*ax t+off,none⟩)/\w.heap[b]? =some (.cells (List.toArray cur) T bC)/\lw t.ft T cur.toArray bC/\k*ax t+off+1<=cur.length/\
   ag M J X B {st with sites:=cd st.sites o (.deep s t (xs.set k dn))} tm (w.setRow b (cg cur (k*ax t+off) [u]).toArray):=by
 obtain⟨b,D,oc,ke⟩:=ab;obtain⟨n,c,bH⟩:=Ref.at ke hb rfl;obtain⟨e,v0,iX,cs,a8,dN,c5,lo⟩:=S.sites o _ hb;have ak:k<xs.length:=(List.getElem?_eq_some_iff.1 hx).1;rw[a8] at bH;replace bH:v0=.slice (some ⟨b,D,none⟩) n c:=bH
 obtain⟨oi,h⟩:=c5;rcases h with⟨fv,_⟩|⟨g,cap,cur,bC,iy,mw,aF,gH,ja,ee,gX⟩
 ·rw[bH] at fv;cases fv
 ·rw[bH] at iy;cases iy;have mv:(k+1)*ax t<=xs.length*ax t:=Nat.mul_le_mul_right _ ak;have iw:xs.length*ax t<=c*ax t:=Nat.mul_le_mul_right _ gH;rw[Nat.add_mul,Nat.one_mul] at mv;have jM:cur.toList.length=c*ax t:=by simpa using ee
  have jp:k*ax t+off+[u].length<=cur.toList.length:=by simp only[List.length_singleton];omega
  rw[Cn t hx] at lo;obtain⟨bD,R0,b6,hP,rfl,rfl,d1,d23⟩:=lo.inv;obtain⟨bM,cv,cX,kl,rfl,rfl,d2,d3⟩:=d23.inv;have cu:bD.length=k*ax t:=by rw[d1.len,dM,List.length_take,Nat.min_eq_left (Nat.le_of_lt ak)]
  have dX:bM.length=ax t:=by rw[d2.len,fy]
  obtain⟨d0,AC,n7⟩:=MZ (x:=x) al;have zu:enc t dn=(enc t x).take off++d::(enc t x).drop (off+1):=by rw[nM _ _ _ Y,Ie]
  have oh:d0.plain=true:=by
   have h1:=congrArg (fun l=>l[off]?) (Xp t x dn)
   simp only[List.getElem?_map,AC,Option.map_some] at h1;have h2:(enc t dn)[off]? =some d:=by
    rw[zu,List.getElem?_append_right (by simp[fy];omega)]
    simp[fy,Nat.min_eq_left (Nat.le_of_lt al)]
   rw[h2] at h1;simp only[Option.map_some,Option.some.injEq] at h1;rw[h1];exact H1 ai
  rw[n7] at d2;obtain⟨AV,ahB,qW,ve,rfl,rfl,tl,ahz⟩:=d2.inv;have akB:AV.length=off:=by rw[tl.len,List.length_take,fy];omega
  have fJ:bT st.sites o:=⟨_,hb,rfl⟩;have n8:b∈bf (B o):=by rw[a8];exact hH.2 (.inl (by rw[bH];rfl))
  obtain⟨AW,iF,rfl,ahx⟩:∃AW iF,ahB=AW::iF/\Deep w (au X B st.sites) ((enc t x).drop (off+1)) iF ve:=by
   cases ahz with
   |row u ys e U sR h hr k'=>cases oh
   |leaf sR h k'=>exact⟨_,_,rfl,k'⟩
  have Es:(fun F=>if F=o then B o else B F)=B:=by funext F;by_cases e:F=o<;>simp[e]
  have bN:=S.sz (o:=o) (bw:=.deep s t (xs.set k dn)) (nv:=B o) (w':=w.setRow b (cg cur.toList (k*ax t+off) [u]).toArray) (ks:=[]) (K:=[o]) .nil (fun F=>by simp[keys];intro e;subst e;exact fJ)
   (fun a' ck cE=>setRow_other w b a' _ (by rintro rfl;exact cE o (by simp) n8)) rfl rfl rfl (by rw[setRow_size];exact Nat.le_refl _) rfl (fun O H=>by rw[hb] at H;cases H;exact .inr ⟨rfl,rfl⟩)
   (fun a' ck=>⟨by rw[setRow_size];exact S.dS fJ ck,.inl ⟨o,by simp,ck⟩⟩) (fun {bi az} d' go=>?_)
  ·rw[Es] at bN;exact⟨b,e,cur.toList,bC,by rw[oc,Nat.zero_add],by simpa using aF,by simpa using mw,by simpa using jp,bN⟩
  ·have kW:=setRow_heap w b cur (cg cur.toList (k*ax t+off) [u]).toArray e bC aF;have f_:∀y,y∈b6++(qW++ve++kl)->∀a',ba y=some a'->a'≠b:=by
    rintro y an a' ck rfl;have:=dN;rw[a8] at this;simp only[bf,List.flatMap_cons] at this;rw[bH] at this;exact(List.nodup_append.1 this).2.2 a' (by simp[ba]) a' (List.mem_flatMap.2 ⟨y,an,by rw[ck];simp⟩) rfl
   have j8:∀y,y∈b6++(qW++ve++kl)->∀a',ba y=some a'->(w.setRow b (cg cur.toList (k*ax t+off) [u]).toArray).heap[a']? =w.heap[a']? :=fun y an a' ck=>setRow_other w b a' _ (f_ y an a' ck)
   have jQ:∀{d v},Rd w (au X B st.sites) d v->Rd _ (au X az bi) d v:=hX go;refine⟨e,v0,b6++(qW++ve++kl),bD++((AV++u::iF)++cv),d'.trans a8,by rw[d'];exact dN,⟨?_,.inr ⟨b,c,_,bC,?_,?_,kW,?_,ja,?_,?_⟩⟩,?_⟩
   ·rw[List.length_set];simp only[List.length_append,List.length_cons] at oi ⊢;omega
   ·rw[bH,List.length_set]
   ·refine⟨mw.1,?_⟩;rcases mw.2 with h|⟨h,af⟩
    ·exact .inl h
    ·refine .inr ⟨h,?_⟩;rw[List.size_toArray,mI _ _ _ jp];simpa using af
   ·rw[List.length_set];exact gH
   ·rw[List.size_toArray,mI _ _ _ jp];exact jM
   ·rw[List.length_set,List.toList_toArray,A7 _ _ _ _ (by simp only[List.length_singleton];omega) (by rw[jM];omega),gX]
    simp only[List.append_assoc,List.cons_append];exact TK (by omega)
   ·rw[w3 t ak,zu];exact(d1.map jQ fun y an=>j8 y (List.mem_append.2 (.inl an))).cS ((((tl.map jQ fun y an=>j8 y (by simp[an])).cS (.leaf (H1 ai) (jQ hu) (ahx.map jQ fun y an=>j8 y (by simp[an])))):Deep _ _ _ _ (qW++ve)).cS
     (d3.map jQ fun y an=>j8 y (by simp[an])))
theorem ag.Kn(S:ag M J X B st tm w){o:Nat}{t:aG}{xs:List (den t)}{us:List (Nat×Site)}{cs ao rest:List Value}{T:TypeId}{cap:Nat}(ec:e7 st.sites us)(hn:(keys us).Nodup)(be:o∉keys us)
  (Y:Deep w (au X B st.sites) (flat t xs) cs ao) (h8:(ao.flatMap fun v=>(ba v).toList)=cw B (keys us)) (hcap:cs.length+rest.length=cap*ax t) (hm:cap<=maxLen) (eQ:t.ft=true->T=lH):
  ag M J X (fun F=>if F=o then .tuple (.slice (some ⟨w.heap.size,0,none⟩) xs.length cap::ao).toArray else B F) {st with sites:=cd (aZ st.sites us) o (.deep (aU st o) t xs)} tm (w.alloc (.cells (cs++rest).toArray T (0,0))):=by
 have gr:cs.length=xs.length*ax t:=by rw[Y.len,dM]
 have dc:xs.length<=cap:=by
  have:xs.length*ax t<=cap*ax t:=by omega
  exact Nat.le_of_mul_le_mul_right this (jh t)
 have old:∀F,F∈keys us->bT st.sites F:=fun F h=>by
  obtain⟨ap,af⟩:=oH h;obtain⟨O,aw,aj,_⟩:=ec F ap af;exact⟨O,aw,aj⟩
 obtain⟨K,bL⟩:∃K:List Nat,∀F,F∈K <-> F∈keys us\/F=o/\bT st.sites o:=by
  by_cases h:bT st.sites o
  ·exact⟨o::keys us,fun F=>by simp[h,or_comm]⟩
  ·exact⟨keys us,fun F=>by simp[h]⟩
 have Am:∀y,y∈ao->∀a',ba y=some a'->∃F,F∈keys us/\a'∈bf (B F):=fun y an a' ck=>by
  have:a'∈ao.flatMap fun v=>(ba v).toList:=List.mem_flatMap.2 ⟨y,an,by rw[ck];simp⟩
  rw[h8] at this;exact List.mem_flatMap.1 this
 have zv:bf (.tuple (.slice (some ⟨w.heap.size,0,none⟩) xs.length cap::ao).toArray)=w.heap.size::cw B (keys us):=by
  simp only[bf,List.flatMap_cons,h8];rfl
 refine S.sz (K:=K) ec bL (fun b hb _=>RowKit.Below.heap_alloc w _ b hb) rfl rfl rfl (by simp) rfl (fun O H=>.inl (jg H)) (fun b hb=>?_) (fun {bi az} d' go=>?_)
 ·rcases hH.1 hb with hb|⟨n,fv,hb⟩
  ·have hb:w.heap.size=b:=Option.some.inj hb;subst hb;exact⟨by simp,.inr (Nat.le_refl _)⟩
  ·obtain⟨F,h1,h2⟩:=Am n fv b hb;have:=S.dS (old F h1) h2;exact⟨by simp;omega,.inl ⟨F,(bL F).2 (.inl h1),h2⟩⟩
 ·refine⟨T,_,ao,cs,d',?_,⟨gr,.inr ⟨w.heap.size,cap,_,(0,0),rfl,⟨eQ,.inl rfl⟩,heap_alloc_new w _,dc,hm,by simp[hcap],by rw[<-gr];simp⟩⟩,?_⟩
  ·rw[d',zv,List.nodup_cons];refine⟨fun h=>?_,S.DU old hn⟩
   obtain⟨F,h1,h2⟩:=List.mem_flatMap.1 h;have:=S.dS (old F h1) h2;omega
  ·refine Y.map (fun h=>hX go h) fun n fv b hb=>?_
   obtain⟨F,h1,h2⟩:=Am n fv b hb;exact RowKit.Below.heap_alloc w _ b (S.dS (old F h1) h2)
theorem Tf(S:ag M J X B st tm w){C:Ctx}(aD:CtxOk P C){T e:TypeId}{t:aG}{bytes len o:Nat}{parts:Array (Nat×Operand)}(aY:C.tt T=.slice e t bytes)(al:D.op=.buildSlice T len parts)
  (Y:ca st D.dst=true) (hlen:parts.toList.length=len) (l_:oP 0 parts.toList=true) (rU:len*ax t<=1000) {as:List bF} {xs:List (den t)} {us:List (Nat×Site)}
  (has:mW (parts.toList.map fun p=>aP C st e p.2)=some as) (ez:mO t st as=some (xs,us)) (hn:(keys us).Nodup) (be:o∉keys us):
  cA P M J X st tm w D (b0 (.own o (aU st o))) (us++[(o,.deep (aU st o) t xs)]):=by
 obtain⟨ea,i,z,am,gD,ol,kV,fi,eQ⟩:=nC aD aY;obtain⟨vP,h_⟩:=Iw has;let ws:List Value:=parts.toList.map fun p=>Act.eval ⟨tm,[]⟩ p.2
 have vp:ws.length=as.length:=by rw[<-vP];simp[ws]
 have E0:∀j (h:j<as.length) (af:j<ws.length),gE B st.sites w (au X B st.sites) (as[j]) (ws[j]):=by
  intro j h1 h2;have bv:j<(parts.toList.map fun p=>aP C st e p.2).length:=by rw[vP];exact h1
  have:=h_ j bv h1;simp only[List.getElem_map] at this;have bp:=cV S C e (parts.toList[j]'(by simpa using bv)).2
  rw[this] at bp;have aa:cc B st.sites w (au X B st.sites) (.av (as[j])) (ws[j]):=by simpa[ws] using bp
  exact aa
 obtain⟨pf,ec,⟨ao,vL,h8⟩,ee⟩:=WB S ez vp E0;have p4:xs.length=len:=by rw[pf,<-vp];simpa[ws] using hlen
 have gr:(ws.flatMap fun v=>v.cells.toList).length=len*ax t:=by rw[vL.len,dM,p4]
 have hm:len<=maxLen:=by
  have:len*1<=len*ax t:=Nat.mul_le_mul_left _ (jh t);unfold maxLen;omega
 have bY:=S.Kn (o:=o) (rest:=[]) (T:=e) (cap:=len) ec hn be vL h8 (by simp[gr]) hm eQ
 rw[p4,List.append_nil] at bY;have oV:aZ st.sites (us++[(o,.deep (aU st o) t xs)])=cd (aZ st.sites us) o (.deep (aU st o) t xs):=by rw[iH];rfl
 have cN:=Hm (tm:=tm) (w:=w) aD aY hlen l_ rU (ws:=ws) rfl ee gr;refine hU (us:=us++[(o,.deep (aU st o) t xs)]) (by rw[oV];exact bY) Y (vv:=.slice (some ⟨w.heap.size,0,none⟩) len len) ?_ ?_
 ·unfold execOp;simp only[al,Sem.run_bind];have Et:=cN;simp only[Et,Result.andThen_ok,Sem.run_pure]
 ·rw[oV];refine⟨rfl,Ref.mk (O:=.deep (aU st o) t xs) ?_ rfl (by simp[bO])⟩
  simp only[cr];simp
theorem Te{av:Nat->Prop}{t:aG}{z:den t}{gu ao:List Value}(h:Deep w av (enc t z) gu ao)(n:Nat):Deep w av (flat t (List.replicate n z)) ((List.replicate n gu).flatten) ((List.replicate n ao).flatten):=by
 induction n with
 |zero=>exact .nil
 |succ n ih=>
  have:=h.cS ih;simpa[List.replicate_succ,flat,List.flatMap_cons] using this
theorem Tp(S:ag M J X B st tm w){C:Ctx}(aD:CtxOk P C){T e:TypeId}{t:aG}{bytes o:Nat}{l c:Operand}{kn km:IntKind}{n m:Int}{z:List ay}{ds:List aR}{us:List (Nat×Site)}{eB:den t}(aY:C.tt T=.slice e t bytes)(al:D.op=.makeSlice T l c)
  (Y:ca st D.dst=true) (hl:aP C st 0 l=.av (.aq (.d (.int kn n)))) (hc:aP C st 0 c=.av (.aq (.d (.int km m)))) (aK:(C.tt e).zero=some z) (eE:sinks st z=some (ds,us)) (ec:us.isEmpty=true) (ez:dec t ds=some eB):
  ∀r,oa bytes n m eB=some r->cA P M J X st tm w D (b0 (.own o (aU st o))) [(o,.deep (aU st o) t r)]:=by
 intro r hr;obtain⟨ea,i,fP,am,gD,ol,kV,fi,eQ⟩:=nC aD aY;obtain⟨v,ab,mm⟩:=cj.xd (w:=w) (aD.tt e) aK;have F6:v=fP:=by
  simp[zeroValue,typeInfo,am,kV] at ab;exact ab.symm
 subst F6;obtain⟨h1,h2,aa⟩:=q_ mm;have ec:us=[]:=List.isEmpty_iff.1 ec;subst ec;obtain⟨_,ao,RJ,vy⟩:=B4 S eE ⟨h1,aa _ _ _ _⟩;rw[<-nM _ _ _ ez] at RJ;have vy:(ao.flatMap fun v=>(ba v).toList)=[]:=vy
 unfold oa at hr;split at hr
 ·rename_i hb;obtain⟨a7,aM,b9,oB⟩:=hb;cases hr;have e1:Act.eval ⟨tm,[]⟩ l=.int kn n:=by
   have:=cV S C 0 l;rw[hl] at this;have this:Rd _ _ (.int kn n) _:=this;generalize Act.eval ⟨tm,[]⟩ l=u at this;cases this;rfl
  have e2:Act.eval ⟨tm,[]⟩ c=.int km m:=by
   have:=cV S C 0 c;rw[hc] at this;have this:Rd _ _ (.int km m) _:=this;generalize Act.eval ⟨tm,[]⟩ c=u at this;cases this;rfl
  have uR:=Te RJ n.toNat;have hlen:((List.replicate n.toNat v.cells.toList).flatten).length=n.toNat*ax t:=by
   rw[uR.len,dM,List.length_replicate]
  have ug:(List.replicate m.toNat v.cells.toList).flatten=(List.replicate n.toNat v.cells.toList).flatten++(List.replicate (m.toNat-n.toNat) v.cells.toList).flatten:=by
   rw[<-List.flatten_append,List.replicate_append_replicate];congr 2;omega
  have hcap:((List.replicate n.toNat v.cells.toList).flatten).length+((List.replicate (m.toNat-n.toNat) v.cells.toList).flatten).length=m.toNat*ax t:=by
   rw[<-List.length_append,<-ug];simp[fi]
  have uT:m.toNat<=maxLen:=by omega
  have h8:(((List.replicate n.toNat ao).flatten).flatMap fun v=>(ba v).toList)=cw B (keys ([]:List (Nat×Site))):=by
   have:∀k,(((List.replicate k ao).flatten).flatMap fun v=>(ba v).toList)=[]:=fun k=>by
    induction k with
    |zero=>rfl
    |succ k ih=>rw[List.replicate_succ,List.flatten_cons,List.flatMap_append,vy,ih];rfl
   exact this _
  have bY:=S.Kn (o:=o) (T:=e) (us:=[]) .nil List.nodup_nil (by simp[keys]) uR h8 hcap uT eQ
  rw[List.length_replicate,<-ug] at bY;refine hU (us:=[(o,.deep (aU st o) t (List.replicate n.toNat eB))]) bY Y (vv:=.slice (some ⟨w.heap.size,0,none⟩) n.toNat m.toNat) ?_ ?_
  ·unfold execOp;simp only[al,e1,e2,Sem.run_bind];have cN:=Hp (C:=C) (w:=w) (kn:=kn) (km:=km) ea am gD ol kV fi a7 aM b9 oB;simp only[cN,Result.andThen_ok,Sem.run_pure]
  ·refine⟨rfl,Ref.mk (O:=.deep (aU st o) t (List.replicate n.toNat eB)) ?_ rfl (by simp[bO])⟩
   simp only[aZ,cr];simp
 ·cases hr
theorem Src.aap{u:Bool}{e:TypeId}{size n:Nat}{v:Value}{cs:List Value}(h:rowAt w u e size v n cs)(adu:∀x∈cs,x.oneCell'=true):Src w size v n cs:=by
 refine⟨h.1,adu,?_⟩;rcases h.2 with⟨h1,h2⟩|⟨g,cap,cur,bC,h1,_,aF,_,_,_,gX⟩
 ·exact .inl ⟨h1,h2⟩
 ·refine .inr (.inl ⟨⟨g,0,none⟩,cap,h1,fun j u hu=>?_⟩)
  rw[gy,Nat.zero_add,cell_of_row w g j cur e bC aF];rw[<-gX,List.getElem?_take] at hu;split at hu
  ·simpa using hu
  ·cases hu
theorem K_{v:Value}{b:Nat}(h:v.ownBlock=some b):ba v=some b:=by
 cases v<;>first|cases h|skip
 rename_i a n c;cases a<;>first|exact h|cases h
theorem ag.IA(S:ag M J X B st tm w){dst b2:Nat}{t:aG}{xs ys:List (den t)}{ks:List (Nat×Site)}{v0 v':Value}{AJ qK iX fh:List Value}{w':World}{bK:TypeId}(kh:e7 st.sites ks)
  (d0:Deep w (au X B st.sites) (flat t xs) AJ iX) (d1:Deep w (au X B st.sites) (flat t ys) qK fh) (iD:(bf (.tuple (v0::(iX++fh)).toArray)).Nodup) (zS:∀b,b∈bf (.tuple (v0::(iX++fh)).toArray)->∃F,F∈keys ks/\b∈bf (B F))
  (h2:rowAt w' t.ft bK (ax t) v' (xs.length+ys.length) (AJ++qK)) (aa:w.grownBy w' v0.ownBlock) (aN:∀b,ba v'=some b->b<w'.heap.size/\(ba v0=some b\/w.heap.size<=b)) (mQ:∀O,look st.sites dst=some O->O.b2<b2):
  ag M J X (fun F=>if F=dst then .tuple (v'::(iX++fh)).toArray else B F) {st with sites:=cd (aZ st.sites ks) dst (.deep b2 t (xs++ys))} tm w':=by
 have old:∀F,F∈keys ks->bT st.sites F:=fun F h=>by
  obtain⟨ap,af⟩:=oH h;obtain⟨O,aw,aj,_⟩:=kh F ap af;exact⟨O,aw,aj⟩
 obtain⟨K,bL⟩:∃K:List Nat,∀F,F∈K <-> F∈keys ks\/F=dst/\bT st.sites dst:=by
  by_cases h:bT st.sites dst
  ·exact⟨dst::keys ks,fun F=>by simp[h,or_comm]⟩
  ·exact⟨keys ks,fun F=>by simp[h]⟩
 have Rl:∀b,ba v0=some b->b∈bf (.tuple (v0::(iX++fh)).toArray):=fun b h=>hH.2 (.inl h)
 have vk:∀n,n∈iX++fh->∀b,ba n=some b->b∈bf (.tuple (v0::(iX++fh)).toArray):=fun n hn b h=>hH.2 (.inr ⟨n,hn,h⟩)
 have lt:∀b,b∈bf (.tuple (v0::(iX++fh)).toArray)->b<w.heap.size:=fun b hb=>by
  obtain⟨F,aw,aj⟩:=zS b hb;exact S.dS (old F aw) aj
 have AU:bf (.tuple (v0::(iX++fh)).toArray)=(ba v0).toList++(iX++fh).flatMap fun v=>(ba v).toList:=by simp only[bf,List.flatMap_cons]
 have aiK:bf (.tuple (v'::(iX++fh)).toArray)=(ba v').toList++(iX++fh).flatMap fun v=>(ba v).toList:=by simp only[bf,List.flatMap_cons]
 rw[AU] at iD;obtain⟨a1,a2,a3⟩:=List.nodup_append.1 iD;have j8:∀n,n∈iX++fh->∀b,ba n=some b->w'.heap[b]? =w.heap[b]? :=fun n hn b hb=>aa.block b (lt b (vk n hn b hb)) fun e=>
  a3 b (by rw[K_ e.symm];simp) b (List.mem_flatMap.2 ⟨n,hn,by rw[hb];simp⟩) rfl
 refine S.sz (K:=K) kh bL (fun b hb cE=>aa.block b hb fun e=>?_) aa.os aa.tape aa.output aa.size rfl (fun O H=>.inl (mQ O H)) (fun b hb=>?_) (fun {bi az} d' go=>?_)
 ·obtain⟨F,aw,aj⟩:=zS b (Rl b (K_ e.symm));exact cE F ((bL F).2 (.inl aw)) aj
 ·rcases hH.1 hb with hb|⟨n,hn,hb⟩
  ·obtain⟨aw,aj⟩:=aN b hb;refine⟨aw,aj.imp (fun h=>?_) id⟩
   obtain⟨F,aw,aj⟩:=zS b (Rl b h);exact⟨F,(bL F).2 (.inl aw),aj⟩
  ·have hm:=vk n hn b hb;obtain⟨F,aw,aj⟩:=zS b hm;exact⟨Nat.lt_of_lt_of_le (lt b hm) aa.size,.inl ⟨F,(bL F).2 (.inl aw),aj⟩⟩
 ·refine⟨bK,v',iX++fh,AJ++qK,d',?_,by rw[List.length_append];exact h2,?_⟩
  ·rw[d',aiK];refine List.nodup_append.2 ⟨by cases ba v'<;>simp,a2,fun b hb c hc e=>?_⟩
   subst e;have hb:=Option.mem_toList.1 hb;rcases(aN b hb).2 with h|h
   ·exact a3 b (by rw[h];simp) b hc rfl
   ·have:=lt b (by rw[AU];exact List.mem_append.2 (.inr hc))
    omega
  ·have jQ:∀{d:aR} {v:Value},Rd w (au X B st.sites) d v->Rd w' (au X az bi) d v:=fun h=>hX go h
   rw[nA];exact(d0.map jQ fun n hn=>j8 n (List.mem_append.2 (.inl hn))).cS (d1.map jQ fun n hn=>j8 n (List.mem_append.2 (.inr hn)))
theorem Ho{o s dst:Nat}{O:Site}(h:look st.sites o=some O)(H:O.b2=s):aU (st.df o (.dead s)) dst=aU st dst:=by
 unfold aU;rw[ae.k6];by_cases e:o=dst
 ·subst e;simp only[if_true,ae.O,h,H];rfl
 ·simp only[e,if_false]
theorem V2(S:ag M J X B st tm w){C:Ctx}(aD:CtxOk P C){T et:TypeId}{s x:Operand}{e ex:TypeId}{t u:aG}{bytes aM:Nat}{dst:Nat}(aY:C.tt T=.slice e t bytes)(eQ:C.tt et=.slice ex u aM)
  (al:D.op=.call {callee:=.builtin .append,args:=#[s,x],argTypes:=#[T,et]}) (di:D.dst=some dst) (Y:ca st D.dst=true):
  Holds (rF bytes t dst st (aP C st T s) (aP C st et x)) (cA P M J X st tm w D):=by
 have pt:=aD.tt et;rw[eQ] at pt;have sc:(∃ex,P.underlying et=some (.slice ex))\/P.underlying et=some .string:=.inl ⟨_,pt.1.1⟩;obtain⟨ea,i,z,am,lE,sW,sV,fi,RO⟩:=nC aD aY;have m4:=cV S C T s;have pa:=cV S C et x;have runs:∀{v':Value} {w':World},(Builtin.append_ #[T,et] D.type #[Act.eval ⟨tm,[]⟩ s,Act.eval ⟨tm,[]⟩ x]).run P w=.ok v' w'->
   (execOp (Act.eval ⟨tm,[]⟩) D).run P w=.ok (.value v') w':=by
  intro v' w' h;unfold execOp;simp only[al,resolve,invoke,builtin,Sem.run_bind,Sem.run_pure,Result.andThen_ok,List.map_toArray,List.map_cons,List.map_nil,h]
 have one:∀{u:Bool} {bK:TypeId} {v':Value} {n m:Nat} {l:List Value} {w':World},rowAt w' u bK n v' m l->v'.oneCell'=true:=by
  intro u bK v' n m l w' h;rcases h.2 with⟨rfl,_⟩|⟨g,cap,cur,bC,rfl,_⟩<;>rfl
 unfold rF;split
 ·rename_i F s1 adQ;rw[adQ] at pa;split
  ·rename_i bj ys adr;split
   ·rename_i gW;subst gW;have sw:=tw adr;obtain⟨ako,QN,uO,Fk,NH,Pc,abz,Eb⟩:=S.sites F _ sw;have qt:Act.eval ⟨tm,[]⟩ x=QN:=(Ref.at pa.2 sw rfl:_=bO (B F)).trans (by rw[NH];rfl)
    have dP:Src w (ax bj) (Act.eval ⟨tm,[]⟩ x) ys.length Fk:=by rw[qt];exact .aap abz Eb.one
    have zV:bf (B F)=(ba QN).toList++uO.flatMap fun v=>(ba v).toList:=by rw[NH];simp only[bf,List.flatMap_cons]
    rw[zV] at Pc;obtain⟨_,NA,_⟩:=List.nodup_append.1 Pc;have zR:∀d,aU (st.df F (.dead s1)) d=aU st d:=fun d=>Ho sw rfl
    split
    ·-- GO nothing
     rename_i t2 b1;rw[b1] at m4;have o':Act.eval ⟨tm,[]⟩ s=.slice none 0 0:=m4;refine Holds.ew fun r hr=>?_
     have cx:cT bytes [] ys=some r:=hr;unfold cT at cx;split at cx
     ·rename_i hb;cases cx;simp only[List.length_nil,Nat.zero_add,room] at hb;obtain⟨v',w',h1,⟨bK,h2⟩,aa,aN⟩:=ts (P:=P) (u:=bj.ft) w T et D.type e RO i z (ax bj) bytes ea sc am sV lE sW fi (jh _) (.slice none 0 0) 0 [] ⟨e,pJ w _ e _⟩ _ _ Fk dP
       (by rw[Nat.zero_add];exact hb.2) (by rw[Nat.zero_add];exact hb.1)
      have iE:bf (.tuple (Value.slice none 0 0::([]++uO)).toArray)=uO.flatMap fun v=>(ba v).toList:=by simp only[bf,List.flatMap_cons,List.nil_append];rfl
      have bY:=S.IA (dst:=dst) (b2:=aU (st.df F (.dead s1)) dst) (ks:=[(F,.dead s1)]) (xs:=[]) (ys:=ys) (v0:=.slice none 0 0) (iX:=[]) (AJ:=[]) (fun aI ap hm=>by
       simp only[List.mem_singleton,Prod.mk.injEq] at hm;obtain⟨rfl,rfl⟩:=hm;exact⟨_,sw,rfl,rfl⟩) .nil Eb (by rw[iE];exact NA) (fun b hb=>⟨F,by simp[keys],by rw[iE] at hb;rw[zV];exact List.mem_append.2 (.inr hb)⟩) h2 aa aN (fun O H=>by rw[zR];exact jg H)
      refine hU (us:=[(F,.dead s1),(dst,.deep (aU (st.df F (.dead s1)) dst) bj ([]++ys))]) bY Y (runs (by rw[o'];exact h1)) ?_
      refine⟨one h2,Ref.mk (O:=.deep (aU (st.df F (.dead s1)) dst) bj ([]++ys)) ?_ rfl (by simp[bO])⟩
      simp only[aZ,cr];simp
     ·cases cx
    ·-- GO a deep row
     rename_i o s2 b1;rw[b1] at m4;split
     ·rename_i t2 xs ads;split
      ·rename_i gW;subst gW;cases s4:o.beq F with
       |true=>exact .fail
       |false=>
        have cE:o≠F:=fun e=>by subst e;rw[Nat.beq_refl] at s4;cases s4
        simp only[cond_false];refine Holds.ew fun r hr=>?_
        have cx:cT bytes xs ys=some r:=hr;unfold cT at cx;split at cx
        ·rename_i hb;cases cx;simp only[room] at hb;have uU:=tw ads;obtain⟨akp,sH,EV,ad5,NI,Pd,abA,aaJ⟩:=S.sites o _ uU;have F9:Act.eval ⟨tm,[]⟩ s=sH:=(Ref.at m4.2 uU rfl:_=bO (B o)).trans (by rw[NI];rfl)
         have Fj:bf (B o)=(ba sH).toList++EV.flatMap fun v=>(ba v).toList:=by rw[NI];simp only[bf,List.flatMap_cons]
         rw[Fj] at Pd;obtain⟨v',w',h1,⟨bK,h2⟩,aa,aN⟩:=ts (P:=P) (u:=t2.ft) w T et D.type e RO i z (ax t2) bytes ea sc am sV lE sW fi (jh _) sH xs.length ad5 ⟨_,abA⟩ _ _ Fk dP hb.2 hb.1;have iE:bf (.tuple (sH::(EV++uO)).toArray)=((ba sH).toList++EV.flatMap fun v=>(ba v).toList)++uO.flatMap fun v=>(ba v).toList:=by
          simp only[bf,List.flatMap_cons,List.flatMap_append,List.append_assoc]
         have zQ:aU ((st.df F (.dead s1)).df o (.dead s2)) dst=aU st dst:=by
          have:(st.df F (.dead s1)).O o=some (.deep s2 t2 xs):=by
           rw[ae.k6,if_neg (fun e=>cE e.symm)]
           exact uU
          exact(Ho (st:=st.df F (.dead s1)) (s:=s2) this rfl).trans (zR dst)
         have bY:=S.IA (dst:=dst) (b2:=aU ((st.df F (.dead s1)).df o (.dead s2)) dst) (ks:=[(F,.dead s1),(o,.dead s2)]) (xs:=xs) (ys:=ys) (v0:=sH) (fun aI ap hm=>by
          simp only[List.mem_cons,List.not_mem_nil,or_false,Prod.mk.injEq] at hm;rcases hm with⟨rfl,rfl⟩|⟨rfl,rfl⟩
          ·exact⟨_,sw,rfl,rfl⟩
          ·exact⟨_,uU,rfl,rfl⟩) aaJ Eb (by
           rw[iE];refine List.nodup_append.2 ⟨Pd,NA,fun b hb c hc e=>?_⟩
           subst e;exact cE (S.dp o F b ⟨_,uU,rfl⟩ ⟨_,sw,rfl⟩ (by rw[Fj];exact hb) (by rw[zV];exact List.mem_append.2 (.inr hc)))) (fun b hb=>by
           rw[iE] at hb;rcases List.mem_append.1 hb with hb|hb
           ·exact⟨o,by simp[keys],by rw[Fj];exact hb⟩
           ·exact⟨F,by simp[keys],by rw[zV];exact List.mem_append.2 (.inr hb)⟩) h2 aa aN (fun O H=>by rw[zQ];exact jg H)
         refine hU (us:=[(F,.dead s1),(o,.dead s2),(dst,.deep (aU ((st.df F (.dead s1)).df o (.dead s2)) dst) t2 (xs++ys))]) bY Y (runs (by rw[F9];exact h1)) ?_
         refine⟨one h2,Ref.mk (O:=.deep (aU ((st.df F (.dead s1)).df o (.dead s2)) dst) t2 (xs++ys)) ?_ rfl (by simp[bO])⟩
         simp only[aZ,cr];simp
        ·cases cx
      ·exact .fail
     ·exact .fail
    ·exact .fail
   ·exact .fail
  ·exact .fail
 ·exact .fail
end
section
variable {P:Program}{M:World}{J:List Nat}{X:Nat->Prop}{B:Nat->Value}{st:ae}{tm:Array Value}{w:World}{D:Oper}
theorem XS(S:ag M J X B st tm w){C:Ctx}(aD:CtxOk P C){T:TypeId}{a x:Operand}{v:bF}(al:D.op=.store T a x)(Y:ca st D.dst=true)(ak:(C.tt T).known=true)(ab:mg (aP C st T x)=some v):
  Holds (rH (C.tt T).size st (aP C st T a) v) (cA P M J X st tm w D):=by
 have hn:=Ca ak;have om:=cV S C T a;have hex:=cV S C T x;rw[pN ab] at hex;have hex:gE B st.sites w (au X B st.sites) v (Act.eval ⟨tm,[]⟩ x):=hex;have run:∀{b p:Nat} {cur:List Value} {ga:TypeId} {u:Bool} {bC:Nat×Nat},Act.eval ⟨tm,[]⟩ a=.pointer (some ⟨b,p,none⟩)->w.heap[b]? =some (.cells cur.toArray ga bC)->lw u ga cur.toArray bC->(Act.eval ⟨tm,[]⟩ x).cells.toList.length=(C.tt T).size->
   p+(Act.eval ⟨tm,[]⟩ x).cells.toList.length<=cur.length->(∀u∈(Act.eval ⟨tm,[]⟩ x).cells.toList,u.oneCell'=true)->
   (execOp (Act.eval ⟨tm,[]⟩) D).run P w=.ok .skip (w.setRow b (cg cur p (Act.eval ⟨tm,[]⟩ x).cells.toList).toArray):=by
  intro b p cur ga u bC h1 h2 aK aa aN bn;unfold execOp;simp only[al,h1,Instr.storeAt,Instr.sureAddr,Sem.run_bind,Sem.run_pure,Result.andThen_ok,Hi (aD.tt T) hn h2 aK aa aN bn]
 unfold rH;cases hlen:v.cells.length.beq (C.tt T).size with
 |false=>simp only[cond_false];exact .fail
 |true=>
  have p3:=Nat.eq_of_beq_eq_true hlen;simp only[cond_true];split
  ·rename_i o s off b1;rw[b1] at om;split
   ·rename_i cells hb;cases hc:(Nat.ble (off+(C.tt T).size) cells.length&&gR v.cells) with
    |false=>simp only[cond_false];exact .fail
    |true=>
     simp only[cond_true];simp only[Bool.and_eq_true] at hc;have dc:=Nat.le_of_ble_eq_true hc.1;have hl:=hex.cells hc.2;obtain⟨b,ga,cur,h1,h2,aa,bY⟩:=S.XU (hd hb) om hl (by rw[p3];exact dc) (hl.iJ hc.2) hc.2
     exact Holds.e' (pG (us:=[(o,.box s (cg cells off v.cells))]) bY Y (run (u:=false) h1 h2 ⟨(fun h=>by cases h),.inl rfl⟩ (by rw[hl.1];exact p3) aa (hl.iJ hc.2)))
   ·exact .fail
  ·rename_i o s u k off b1;rw[b1] at om;split
   ·rename_i ap t xs fp;have kA:look st.sites o=some (.row ap t xs):=fp;cases hc:(ap.beq s&&Nat.ble (off+(C.tt T).size) (ax t)&&decide (t=u)) with
    |false=>simp only[cond_false];exact .fail
    |true=>
     simp only[cond_true];simp only[Bool.and_eq_true,decide_eq_true_eq] at hc;obtain⟨⟨vN,s3⟩,rfl⟩:=hc;have:=Nat.eq_of_beq_eq_true vN;subst this;have dc:=Nat.le_of_ble_eq_true s3;split
     ·rename_i ds us eE;cases i_:(look us o).isNone with
      |false=>simp only[cond_false];exact .fail
      |true=>
       simp only[cond_true];refine Holds.ew fun dn mq=>?_
       have jI:((xs[k]?).bind fun x=>dec t (cg (enc t x) off ds))=some dn:=mq
       cases mn:xs[k]? with
       |none=>rw[mn] at jI;cases jI
       |some pz=>
        rw[mn] at jI;have ez:dec t (cg (enc t pz) off ds)=some dn:=jI;have gJ:=Dz eE;have aB:k3 M J X B st tm w us:=⟨S,gJ⟩;have dB:gR v.cells=true:=by
         clear hlen p3 mq jI ez i_ gJ aB;revert eE
         generalize v.cells=U;intro eE;induction U generalizing ds us with
         |nil=>rfl
         |cons l U ih=>
          simp only[hN] at eE;split at eE
          ·rename_i d SC gL ov h1 h2;simp only[gR,Bool.and_eq_true];refine⟨?_,ih _ _ h2⟩;unfold jS at h1;split at h1<;>first|rfl|cases h1
          ·cases eE
        have hl:=hex.cells dB;have hr:=yo eE hl aB (fun p ai=>ai)
        have Gk:ds.length=(C.tt T).size:=by
         have:=hr.1;rw[hl.1] at this;omega
        have uS:look (aZ st.sites us) o=some (.row ap t xs):=by
         rcases lR gJ o with h|⟨s2,t2,aj0,h,af⟩
         ·rw[h];exact kA
         ·exfalso
          have:∀(us:List (Nat×Site)) (sites:List (Nat×Site)),look us o=none->look (aZ sites us) o=look sites o:=by
           intro us;induction us with
           |nil=>intro sites _;rfl
           |cons p us ih=>
            obtain⟨F,O⟩:=p;intro sites zt;simp only[look] at zt;cases hb:F.beq o with
            |true=>simp[hb] at zt
            |false=>
             simp only[hb,cond_false] at zt;simp only[aZ];rw[ih _ zt,cr,if_neg];rintro rfl;simp at hb
          have aa:=this us st.sites (by simpa using i_)
          rw[af,kA] at aa;cases aa
        have adR:=aB.go (a:=.av (.aq (.eI o ap t k off))) om;obtain⟨b,ga,cur,bC,h1,h2,aK,aa,bY⟩:=aB.new.XT uS adR mn (nM _ _ _ ez) hr (by rw[Gk];exact dc) (hl.iJ dB)
        refine pG (az:=B) (us:=us++[(o,.row ap t (xs.set k dn))]) ?_ Y (run h1 h2 aK (by rw[hl.1];exact p3) aa (hl.iJ dB))
        rw[iH];exact bY
     ·exact .fail
   ·rename_i ap t xs fp;have kA:look st.sites o=some (.deep ap t xs):=fp;cases hc:(ap.beq s&&decide (t=u)) with
    |false=>simp only[cond_false];exact .fail
    |true=>
    simp only[cond_true];simp only[Bool.and_eq_true,decide_eq_true_eq] at hc;obtain⟨vN,rfl⟩:=hc;have:=Nat.eq_of_beq_eq_true vN;subst this;cases hc:(off.beq 0&&(C.tt T).size.beq (ax t)) with
    |false=>
     simp only[cond_false];split
     ·rename_i d oW;cases aA:(d.hM&&Nat.blt off (ax t)) with
      |false=>simp only[cond_false];exact .fail
      |true=>
       simp only[cond_true];simp only[Bool.and_eq_true] at aA;have pk:off<ax t:=Nat.le_of_ble_eq_true aA.2;refine Holds.ew fun dn mq=>?_
       have jI:((xs[k]?).bind fun x=>dec t (cg (enc t x) off [d]))=some dn:=mq
       cases mn:xs[k]? with
       |none=>rw[mn] at jI;cases jI
       |some pz=>
        rw[mn] at jI;have ez:dec t (cg (enc t pz) off [d])=some dn:=jI;have hl:=hex.cells (by rw[oW];rfl)
        rw[oW] at hl;obtain⟨mC,v_,hu,sP,qx⟩:=hl.inv;have kg:v_=[]:=qx.lb;subst kg;obtain⟨b,ga,cur,bC,h1,h2,aK,aa,bY⟩:=S.U3 kA om mn ez aA.1 pk sP;have Ge:(C.tt T).size=1:=by rw[<-p3,oW];rfl
        have cN:=run h1 h2 aK (by rw[hu,Ge];rfl) (by rw[hu];exact aa) (by rw[hu];intro v ab;rw[List.mem_singleton.1 ab];exact Rd.iJ sP)
        rw[hu] at cN;refine pG (az:=B) (us:=[(o,.deep ap t (xs.set k dn))]) ?_ Y cN;exact bY
     ·exact .fail
    |true=>
     simp only[cond_true];simp only[Bool.and_eq_true] at hc;obtain⟨Gl,s3⟩:=hc;have:=Nat.eq_of_beq_eq_true Gl;subst this;split
     ·rename_i ds us eE;cases i_:((look us o).isNone&&e4 (keys us)) with
      |false=>simp only[cond_false];exact .fail
      |true=>
       simp only[cond_true];rw[Bool.and_eq_true] at i_;refine Holds.ew fun dn mq=>?_
       have jI:((xs[k]?).bind fun _=>dec t ds)=some dn:=mq
       cases mn:xs[k]? with
       |none=>rw[mn] at jI;cases jI
       |some pz=>
        rw[mn] at jI;have ez:dec t ds=some dn:=jI;have hl:=hex.cells (Hk eE);obtain⟨g1,ao,g2,g3⟩:=B4 S eE hl;rw[<-nM _ _ _ ez] at g2;obtain⟨b,ga,cur,bC,nv,h1,h2,aK,aa,bY⟩:=S.Wu kA om mn g1 ((oF _).1 i_.2) (HT i_.1) g2 g3;refine pG (az:=fun F=>if F=o then nv else B F) (us:=us++[(o,.deep ap t (xs.set k dn))]) ?_ Y (run h1 h2 aK (by rw[hl.1];exact p3) aa g2.one)
        rw[iH];exact bY
     ·exact .fail
   ·exact .fail
  ·exact .fail
theorem T2(S:ag M J X B st tm w){C:Ctx}(aD:CtxOk P C){T e:TypeId}{t:aG}{bytes:Nat}{x i:Operand}{k:IntKind}{n:Int}(aY:C.tt T=.slice e t bytes)(am:aP C st 0 i=.av (.aq (.d (.int k n))))(al:D.op=.indexAddr T x i)
  (Y:ca st D.dst=true):
  Holds (q' t st (aP C st T x) n) (cA P M J X st tm w D):=by
 obtain⟨ea,inf,z,jK,gD,ol,kV,fi,_⟩:=nC aD aY;have uX:=j3 S am;have bp:=cV S C T x;have run:∀{a:Addr} {len cap:Nat},Act.eval ⟨tm,[]⟩ x=.slice (some a) len cap->0<=n->n<len->(execOp (Act.eval ⟨tm,[]⟩) D).run P w=.ok (.value (.pointer (some (a.add (n.toNat*ax t))))) w:=by
  intro a len cap hx a8 h1;unfold execOp;simp[al,hx,uX,Instr.indexAt,asIntOf,run_underlying ea,a8,h1,sizeOf,jY jK,gD]
 unfold q';split
 ·rename_i u xs b1;split;case isFalse=>exact .fail
  rename_i ms;subst ms;rw[b1] at bp;have bp:Rd w (au X B st.sites) (.sl u xs) (Act.eval ⟨tm,[]⟩ x):=bp;refine Holds.eA fun y an=>?_
  have dV:bd xs n=some y:=an;unfold bd at dV;split at dV
  ·rename_i a8;have bb:n.toNat<xs.length:=by
    rcases Nat.lt_or_ge n.toNat xs.length with h|h
    ·exact h
    ·rw[List.getElem?_eq_none h] at dV;cases dV
   generalize hx:Act.eval ⟨tm,[]⟩ x=v at bp;cases bp with
   |nil=>simp at bb
   |sl _ _ a cap cs m hm hcap hb hl hc hr=>
    subst hm;have cE:xs≠[]:=by rintro rfl;simp at bb
    have c5:cp w (au X B st.sites) (flat u xs) cs:=⟨hl,hr⟩;have kR:a.spot=none:=by
     have n5:0<cs.length:=by rw[hl,dM];exact Nat.mul_pos (List.length_pos_iff.mpr cE) (jh u)
     have h1:=hc 0 cs[0] (List.getElem?_eq_getElem n5);have h2:a.add 0=a:=by unfold Addr.add;simp
     rw[h2] at h1;unfold World.cell? at h1;split at h1
     ·cases H:a.spot with
      |none=>rfl
      |some _=>simp[H] at h1
     ·cases h1
    obtain⟨oC,AX,ahE⟩:=a;simp only at kR;subst kR;have ee:hk w oC AX cs:=fun j v ab=>by have:=hc j v ab;rwa[gy] at this
    refine dC S Y (run hx a8 (by omega)) ?_
    rw[gy];have fA:=tA u xs n.toNat y dV;have uE:=(ee.drop (n.toNat*ax u)).take (ax u);have kU:=((gh (B:=B) (sites:=st.sites) hl hr).drop (n.toNat*ax u)).take (ax u);have e2:((cq (flat u xs)).drop (n.toNat*ax u)).take (ax u)=cq (enc u y):=by
     rw[<-fA];simp[cq,List.map_drop,List.map_take]
    rw[e2] at kU;have db:=il kU;have jJ:oC<w.heap.size:=by
     have n5:0<cs.length:=by rw[hl,dM];exact Nat.mul_pos (List.length_pos_iff.mpr cE) (jh u)
     exact World.block_lt_of_cell? w _ (ee 0 cs[0] (List.getElem?_eq_getElem n5))
    exact⟨oC,AX+n.toNat*ax u,by rw[Nat.add_zero],hb cE,jJ,_,db.1,uE,db.2⟩
  ·cases dV
 ·rename_i o s b1;rw[b1] at bp;split
  ·rename_i u xs c5;split;case isFalse=>exact .fail
   rename_i ms;subst ms;refine Holds.eA fun y an=>?_
   have dV:hy xs.length n=some y:=an;unfold hy at dV;split at dV
   ·rename_i hb;cases dV;obtain⟨⟨O,fA,jv⟩,iQ⟩:=S.all c5;have ab:Act.eval ⟨tm,[]⟩ x=bO (B o):=Ref.at bp.2 fA jv;rcases iQ with⟨hn,mo⟩|⟨b,q,c,bH⟩
    ·subst mo;simp at hb;omega
    ·refine dC S Y (run (by rw[ab];exact bH) hb.1 hb.2) ?_
     rw[gy];exact⟨b,q,by rw[Nat.add_zero],Ref.mk fA jv ⟨_,_,bH⟩⟩
   ·cases dV
  ·exact .fail
 ·exact .fail
end
section
variable {P:Program}{M:World}{J:List Nat}{X:Nat->Prop}{B:Nat->Value}{st:ae}{tm:Array Value}{w:World}{D:Oper}
theorem Cp(S:ag M J X B st tm w){C:Ctx}{cl:Option Operand}{jq l:Int}(h:h3 jq (cl.map (aP C st 0))=some l):
  (cl=none/\l=jq)\/∃x k,cl=some x/\Act.eval ⟨tm,[]⟩ x=.int k l:=by
 cases cl with
 |none=>simp only[Option.map_none,h3,Option.some.injEq] at h;exact .inl ⟨rfl,h.symm⟩
 |some x=>
  simp only[Option.map_some] at h;generalize hx:aP C st 0 x=v at h;unfold h3 at h;split at h
  ·rename_i b1;cases b1
  ·rename_i k n b1;cases h;cases b1;exact .inr ⟨x,k,rfl,j3 S hx⟩
  ·cases h
theorem Jt(t:aG)(xs:List (den t))(n:Nat):flat t (xs.take n)=(flat t xs).take (n*ax t):=by
 rcases Nat.lt_or_ge xs.length n with h|h
 ·rw[List.take_of_length_le (Nat.le_of_lt h),List.take_of_length_le (by rw[dM];exact Nat.mul_le_mul_right _ (Nat.le_of_lt h))]
 ·have:=nA t (xs.take n) (xs.drop n);rw[List.take_append_drop] at this;rw[this,List.take_left' (by rw[dM,List.length_take,Nat.min_eq_left h])]
theorem Xk(t:aG)(xs:List (den t))(n:Nat):flat t (xs.drop n)=(flat t xs).drop (n*ax t):=by
 rcases Nat.lt_or_ge xs.length n with h|h
 ·rw[List.drop_eq_nil_of_le (Nat.le_of_lt h),List.drop_eq_nil_of_le (by rw[dM];exact Nat.mul_le_mul_right _ (Nat.le_of_lt h))]
  rfl
 ·have:=nA t (xs.take n) (xs.drop n);rw[List.take_append_drop] at this;rw[this,List.drop_left' (by rw[dM,List.length_take,Nat.min_eq_left h])]
theorem wD{P:Program}{w:World}(isSlice:Bool)(len cap:Nat)(cl am:Option Value)(l h:Int)(fO:(cl=none/\l=0)\/∃k,cl=some (.int k l))(ix:(am=none/\h=len)\/∃k,am=some (.int k h))
  (a8:0<=l) (h1:l<=h) (h2:h<=len) (hc:len<=cap):(Instr.sliceBounds isSlice len cap cl am none).run P w=.ok (l.toNat,h.toNat,cap) w:=by
 have b4:0<=h:=by omega
 have RH:h<=cap:=by omega
 have agu:((h.toNat:Nat):Int)=h:=Int.toNat_of_nonneg b4;rcases fO with⟨rfl,rfl⟩|⟨k,rfl⟩<;>rcases ix with⟨rfl,rfl⟩|⟨k',rfl⟩
 ·simp[Instr.sliceBounds]
 ·simp[Instr.sliceBounds,Instr.sliceBound,asIntOf,b4,RH]
 ·simp[Instr.sliceBounds,Instr.sliceBound,asIntOf,a8,h1]
 ·simp[Instr.sliceBounds,Instr.sliceBound,asIntOf,b4,RH,a8,agu,h1]
theorem XR(s:ByteArray)(l h:Nat)(h2:h<=s.size):(s.extract l h).data.toList=(s.data.toList.take h).drop l:=by
 rw[ByteArray.data_extract,Array.toList_extract];simp[List.extract_eq_take_drop,List.drop_take]
theorem L7{w:World}{av:Nat->Prop}{t:aG}{xs:List (den t)}{b D:Nat}{cs:List Value}(hb:xs≠[]->¬av b)(hr:cp w av (flat t xs) cs)(hc:hk w b D cs)(l h:Nat)(h1:l<=h)(h2:h<=xs.length)(a:Addr)(fm:Nat)(RM:h-l<=fm)
  (bm:a=⟨b,D+l*ax t,none⟩\/l=h) (vQ:a.block=b):Rd w av (.sl t ((xs.take h).drop l)) (.slice (some a) (h-l) fm):=by
 have hlen:((xs.take h).drop l).length=h-l:=by simp;omega
 by_cases RB:l=h
 ·subst RB;have:(xs.take l).drop l=[]:=List.eq_nil_of_length_eq_zero (by rw[hlen];omega)
  rw[this];exact .sl t [] a fm [] _ (by simp) RM (fun hx=>absurd rfl hx) rfl (fun j u hu=>by simp at hu) (fun j h=>by simp[flat] at h)
 ·rcases bm with bm|bm
  ·subst bm;have hf:flat t ((xs.take h).drop l)=((flat t xs).take (h*ax t)).drop (l*ax t):=by
    rw[Xk,Jt]
   have kU:=((gh (B:=fun _=>undef) (sites:=[]) hr.1 hr.2).take (h*ax t)).drop (l*ax t)
   have e2:((cq (flat t xs)).take (h*ax t)).drop (l*ax t)=cq (flat t ((xs.take h).drop l)):=by
    rw[hf];simp[cq,List.map_drop,List.map_take]
   rw[e2] at kU;have cx:=il kU;refine .sl t _ _ fm _ _ hlen.symm RM (fun hx=>hb ?_) cx.1 (fun j u hu=>?_) cx.2
   ·rintro rfl;simp at hx
   ·rw[gy];exact((hc.take (h*ax t)).drop (l*ax t)) j u hu
  ·exact absurd bm RB
theorem C0{w:World}{av:Nat->Prop}{t:aG}{xs:List (den t)}{a:Addr}{cs:List Value}(hb:xs≠[]->¬av a.block)(hr:cp w av (flat t xs) cs)(hc:∀j u,cs[j]? =some u->w.cell? (a.add j)=some u)
  (l h cap:Nat) (h1:l<=h) (h2:h<=xs.length) (hcap:xs.length<=cap):
  Rd w av (.sl t ((xs.take h).drop l)) (.slice (if cap=l then some a else(some a).map (·.add (l*ax t))) (h-l) (cap-l)):=by
 by_cases hx:xs=[]
 ·subst hx;have:h=0:=by simpa using h2
  subst this;have jP:l=0:=by omega
  subst jP;have:((if cap=0 then some a else(some a).map (·.add (0*ax t))):Option Addr)=some a:=by
   split
   ·rfl
   ·simp[Addr.add]
  rw[this];exact .sl t [] a (cap-0) [] 0 rfl (by omega) (fun hx=>absurd rfl hx) rfl (fun j u hu=>by simp at hu) (fun j h=>by simp[flat] at h)
 ·have kR:a.spot=none:=by
   have n5:0<cs.length:=by rw[hr.1,dM];exact Nat.mul_pos (List.length_pos_iff.mpr hx) (jh t)
   have h1:=hc 0 cs[0] (List.getElem?_eq_getElem n5);have h2:a.add 0=a:=by unfold Addr.add;simp
   rw[h2] at h1;unfold World.cell? at h1;split at h1
   ·cases H:a.spot with
    |none=>rfl
    |some _=>simp[H] at h1
   ·cases h1
  obtain⟨oC,AX,ahE⟩:=a;simp only at kR;subst kR;have ee:hk w oC AX cs:=fun j v ab=>by have:=hc j v ab;rwa[gy] at this
  split
  ·rename_i e;exact L7 hb hr ee l h h1 h2 _ _ (by omega) (.inr (by omega)) rfl
  ·simp only[Option.map_some,gy];exact L7 hb hr ee l h h1 h2 _ _ (by omega) (.inl rfl) rfl
theorem IW{v:aL}{us jN:List (Nat×Site)}(e:aZ st.sites us=aZ st.sites jN)(h:cA P M J X st tm w D v us):cA P M J X st tm w D v jN:=by
 have:st.cS D.dst v jN=st.cS D.dst v us:=by cases D.dst<;>simp only[ae.cS,ae.tM,e]
 intro K Q bL;rw[this] at bL;exact h K Q bL
theorem XZ(S:ag M J X B st tm w){C:Ctx}(aD:CtxOk P C){T:TypeId}{x:Operand}{cl am:Option Operand}(al:D.op=.slice T x cl am none)(Y:ca st D.dst=true):
  Holds (rL (C.tt T) st (aP C st T x) (cl.map (aP C st 0)) (am.map (aP C st 0))) (cA P M J X st tm w D):=by
 have bp:=cV S C T x;have n6:∀{cl:Option Operand} {jq l:Int},h3 jq (cl.map (aP C st 0))=some l->(cl.map (Act.eval ⟨tm,[]⟩)=none/\l=jq)\/∃k,cl.map (Act.eval ⟨tm,[]⟩)=some (.int k l):=by
  intro cl jq l h;rcases Cp S h with⟨rfl,af⟩|⟨x,k,rfl,af⟩
  ·exact .inl ⟨rfl,af⟩
  ·exact .inr ⟨k,by simp[af]⟩
 have runs:∀{vv:Value},(Instr.sliceAt T (Act.eval ⟨tm,[]⟩ x) (cl.map (Act.eval ⟨tm,[]⟩)) (am.map (Act.eval ⟨tm,[]⟩)) none).run P w=.ok vv w->(execOp (Act.eval ⟨tm,[]⟩) D).run P w=.ok (.value vv) w:=by
  intro vv h;unfold execOp;simp only[al,Option.map_none,Sem.run_bind,h,Result.andThen_ok,Sem.run_pure]
 have ux:∀{e:TypeId} {t:aG} {bytes:Nat} {a:Option Addr} {len cap:Nat} {l h:Int},C.tt T=.slice e t bytes->Act.eval ⟨tm,[]⟩ x=.slice a len cap->h3 0 (cl.map (aP C st 0))=some l->h3 len (am.map (aP C st 0))=some h->
   0<=l->l<=h->h<=len->len<=cap->(execOp (Act.eval ⟨tm,[]⟩) D).run P w=.ok (.value (.slice (if cap=l.toNat then a else a.map (·.add (l.toNat*ax t))) (h.toNat-l.toNat) (cap-l.toNat))) w:=by
  intro e t bytes a len cap l h aY hx fO ix a8 h1 h2 hc;obtain⟨ea,inf,z,jK,gD,_⟩:=nC aD aY;refine runs ?_
  have hb:=wD (P:=P) (w:=w) true len cap (cl.map (Act.eval ⟨tm,[]⟩)) (am.map (Act.eval ⟨tm,[]⟩)) l h (n6 fO) (n6 ix) a8 h1 h2 hc;simp only[Instr.sliceAt,Instr.slice,Sem.run_bind,run_underlying ea,Result.andThen_ok,hx,hb,sizeOf,jY jK,gD,Sem.run_pure]
 unfold rL;split
 ·rename_i s b1;rw[b1] at bp;obtain⟨b,hx,H⟩:=gw bp;split
  ·rename_i l h aY fO ix;have bt:=aD.tt T;rw[aY] at bt;refine Holds.eA fun r hr=>?_
   have cx:cB s l h=some r:=hr;unfold cB at cx;split at cx
   ·rename_i hb;obtain⟨a8,h1,h2⟩:=hb;cases cx;have eX:s.length=b.size:=by rw[<-H];rfl
    rw[eX] at h2 ix;refine dC S Y (vv:=.string (b.extract l.toNat h.toNat)) (runs ?_) (.str _ _ ?_)
    ·have hb:=wD (P:=P) (w:=w) false b.size b.size (cl.map (Act.eval ⟨tm,[]⟩)) (am.map (Act.eval ⟨tm,[]⟩)) l h (n6 fO) (n6 ix) a8 h1 h2 (Nat.le_refl _);simp[Instr.sliceAt,Instr.slice,run_underlying bt.1,hx,hb]
    ·rw[XR b _ _ (by omega),H]
   ·cases cx
  ·exact .fail
 ·rename_i t xs b1;rw[b1] at bp;have bp:Rd w (au X B st.sites) (.sl t xs) (Act.eval ⟨tm,[]⟩ x):=bp;split
  ·rename_i e u bytes l h aY fO ix;split;case isFalse=>exact .fail
   rename_i ms;subst ms;refine Holds.eA fun r hr=>?_
   have cx:cB xs l h=some r:=hr;unfold cB at cx;split at cx
   ·rename_i hb;obtain⟨a8,h1,h2⟩:=hb;cases cx;generalize hx:Act.eval ⟨tm,[]⟩ x=v at bp;cases bp with
    |nil=>
     have b4:h=0:=by simp at h2;omega
     have hl:l=0:=by omega
     subst b4 hl;refine dC S Y (ux aY hx fO ix a8 h1 h2 (Nat.le_refl _)) ?_
     simp only[List.take_nil,List.drop_nil];exact Rd.nil t
    |sl _ _ a cap cs m hm hcap hb hl hc hr=>
     subst hm;refine dC S Y (ux aY hx fO ix a8 h1 h2 hcap) ?_
     exact C0 hb ⟨hl,hr⟩ hc l.toNat h.toNat cap (by omega) (by omega) hcap
   ·cases cx
  ·exact .fail
 ·rename_i t b1;rw[b1] at bp;have hx:Act.eval ⟨tm,[]⟩ x=.slice none 0 0:=bp;split
  ·rename_i e u bytes l h aY fO ix;refine Holds.eA fun r hr=>?_
   have cx:cB ([]:List (den t)) l h=some r:=hr;unfold cB at cx;split at cx
   ·rename_i hb;obtain⟨a8,h1,h2⟩:=hb;cases cx;have b4:h=0:=by simp at h2;omega
    have hl:l=0:=by omega
    subst b4 hl;refine dC S Y (ux aY hx fO ix a8 h1 h2 (Nat.le_refl _)) ?_
    simp only[List.take_nil,List.drop_nil];exact Rd.nil t
   ·cases cx
  ·exact .fail
 ·rename_i o s b1;rw[b1] at bp;split
  ·rename_i t xs c5;split
   ·rename_i e u bytes l h aY fO ix;split;case isFalse=>exact .fail
    rename_i ms;subst ms;refine Holds.ew fun r hr=>?_
    have cx:cB xs l h=some r:=hr;unfold cB at cx;split at cx
    ·rename_i hb;obtain⟨a8,h1,h2⟩:=hb;cases cx;refine IW (us:=[(o,.c' s t xs)]) (Kw c5).symm ?_
     have gJ:dE st.sites [(o,.c' s t xs)]:=by
      intro F O hm;simp only[List.mem_singleton,Prod.mk.injEq] at hm;obtain⟨rfl,rfl⟩:=hm;exact⟨s,t,xs,rfl,(jZ c5).imp id .inl⟩
     have aB:k3 M J X B st tm w [(o,.c' s t xs)]:=⟨S,gJ⟩;have pm:=wu gJ (List.mem_singleton.2 rfl);obtain⟨db,NO⟩:=aB.new.sites o _ pm;have ab:Act.eval ⟨tm,[]⟩ x=bO (B o):=by
      rcases jZ c5 with h1|h1<;>exact Ref.at bp.2 h1 rfl
     generalize hx:bO (B o)=v at db NO;rw[hx] at ab;cases db with
     |nil=>
      have b4:h=0:=by simp at h2;omega
      have hl:l=0:=by omega
      subst b4 hl;refine hU (us:=[(o,.c' s t [])]) aB.new Y (ux aY ab fO ix a8 h1 h2 (Nat.le_refl _)) ?_
      simp only[List.take_nil,List.drop_nil];exact Rd.nil t
     |sl _ _ a cap cs m hm hcap hb hl hc hr=>
      subst hm;refine hU (us:=[(o,.c' s t xs)]) aB.new Y (ux aY ab fO ix a8 h1 h2 hcap) ?_
      exact C0 hb ⟨hl,hr⟩ hc l.toNat h.toNat cap (by omega) (by omega) hcap
    ·cases cx
   ·exact .fail
  ·exact .fail
 ·exact .fail
theorem Wy(S:ag M J X B st tm w){C:Ctx}(aD:CtxOk P C){T:TypeId}{x:Operand}{cl am:Option Operand}{dst:Nat}(al:D.op=.slice T x cl am none)(di:D.dst=some dst)(Y:ca st D.dst=true):
  Holds (rM (C.tt T) dst st (aP C st T x) (cl.map (aP C st 0)) (am.map (aP C st 0))) (cA P M J X st tm w D):=by
 have bp:=cV S C T x;have n6:∀{cl:Option Operand} {jq l:Int},h3 jq (cl.map (aP C st 0))=some l->(cl.map (Act.eval ⟨tm,[]⟩)=none/\l=jq)\/∃k,cl.map (Act.eval ⟨tm,[]⟩)=some (.int k l):=by
  intro cl jq l h;rcases Cp S h with⟨rfl,af⟩|⟨x,k,rfl,af⟩
  ·exact .inl ⟨rfl,af⟩
  ·exact .inr ⟨k,by simp[af]⟩
 unfold rM;split
 ·rename_i o s b1;rw[b1] at bp;split
  ·rename_i t xs c5;split
   ·rename_i e u bytes l aY fO ix;split;case isFalse=>exact .fail
    rename_i ms;subst ms;refine Holds.ew fun r hr=>?_
    have cx:cB xs l xs.length=some r:=hr;unfold cB at cx;split at cx
    ·rename_i hb;obtain⟨a8,h1,h2⟩:=hb;cases cx;have hl:=A5 c5;obtain⟨vt,bK,cs,aC,db⟩:=S.sites o _ hl;have ab:Act.eval ⟨tm,[]⟩ x=bO (B o):=Ref.at bp.2 hl rfl;have cN:∀{a:Option Addr} {cap:Nat},Act.eval ⟨tm,[]⟩ x=.slice a xs.length cap->xs.length<=cap->(execOp (Act.eval ⟨tm,[]⟩) D).run P w=.ok (.value (.slice (if cap=l.toNat then a else a.map (·.add (l.toNat*ax t))) (xs.length-l.toNat) (cap-l.toNat))) w:=by
      intro a cap hx hc;obtain⟨ea,inf,z,jK,gD,_⟩:=nC aD aY;have hb:=wD (P:=P) (w:=w) true xs.length cap (cl.map (Act.eval ⟨tm,[]⟩)) (am.map (Act.eval ⟨tm,[]⟩)) l xs.length (n6 fO) (.inl ⟨by cases am with
       |none=>rfl
       |some _=>simp at ix,rfl⟩) a8 h1 h2 hc
      unfold execOp;simp only[al,Option.map_none,Instr.sliceAt,Instr.slice,Sem.run_bind,run_underlying ea,Result.andThen_ok,hx,hb,sizeOf,jY jK,gD,Sem.run_pure,Int.toNat_natCast]
     have uE:cp w (au X B st.sites) (flat t (xs.drop l.toNat)) (cs.drop (l.toNat*ax t)):=by
      have h:=il ((gh (B:=B) (sites:=st.sites) db.1 db.2).drop (l.toNat*ax t)|>fun h=>by
       rw[show(cq (flat t xs)).drop (l.toNat*ax t)=cq (flat t (xs.drop l.toNat)) from by
        have e1:flat t xs=flat t (xs.take l.toNat)++flat t (xs.drop l.toNat):=by rw[<-nA,List.take_append_drop]
        have e2:(flat t (xs.take l.toNat)).length=l.toNat*ax t:=by rw[dM,List.length_take,Nat.min_eq_left (by omega)]
        rw[e1,cq,List.map_append,List.drop_append,List.drop_eq_nil_of_le (by simp[e2]),List.length_map,e2,Nat.sub_self,List.drop_zero,List.nil_append];rfl] at h
       exact h)
      exact h
     have main:∃nv,(execOp (Act.eval ⟨tm,[]⟩) D).run P w=.ok (.value nv) w/\bO nv=nv/\nv.oneCell'=true/\(∀b,b∈bf nv->b∈bf (B o))/\nP w bK (ax t) nv (xs.drop l.toNat).length (cs.drop (l.toNat*ax t)):=by
      have hlen:(cs.drop (l.toNat*ax t)).length=(xs.drop l.toNat).length*ax t:=by rw[uE.1,dM]
      rcases aC.2 with⟨hn,aK⟩|⟨g,q,cap,cur,hz,aF,gH,ja,ee,gX⟩
      ·have mo:xs=[]:=List.eq_nil_of_length_eq_zero aK;subst mo;have jP:l=0:=by simp at h1;omega
       subst jP;have hx:Act.eval ⟨tm,[]⟩ x=.slice none 0 0:=by rw[ab,hn];rfl
       refine⟨_,cN hx (Nat.le_refl _),rfl,rfl,(fun b hb=>by cases hb),hlen,.inl ⟨rfl,by simp⟩⟩
      ·have hx:Act.eval ⟨tm,[]⟩ x=.slice (some ⟨g,q,none⟩) xs.length cap:=by rw[ab,hz];rfl
       refine⟨_,cN hx gH,rfl,rfl,fun b hb=>?_,hlen,.inr ?_⟩
       ·rw[hz];by_cases hc:cap=l.toNat
        ·rw[if_pos hc] at hb;exact hb
        ·rw[if_neg hc] at hb;simp only[Option.map_some,gy] at hb;exact hb
       ·by_cases hc:cap=l.toNat
        ·rw[if_pos hc];have pf:xs.length=l.toNat:=by omega
         refine⟨g,q,_,cur,by rw[List.length_drop],aF,by rw[List.length_drop];omega,by omega,by rw[hc,Nat.sub_self,Nat.zero_mul];omega,?_⟩
         rw[List.length_drop,pf,Nat.sub_self,Nat.zero_mul,List.take_zero,List.drop_eq_nil_of_le];rw[aC.1,pf];exact Nat.le_refl _
        ·rw[if_neg hc];have dc:l.toNat<=cap:=by omega
         have hmul:cap*ax t=l.toNat*ax t+(cap-l.toNat)*ax t:=by rw[<-Nat.add_mul];congr 1;omega
         refine⟨g,q+l.toNat*ax t,cap-l.toNat,cur,by simp only[Option.map_some,gy,List.length_drop],aF,by rw[List.length_drop];omega,by omega,by omega,?_⟩
         rw[<-gX,List.drop_take,List.drop_drop,List.length_drop,Nat.sub_mul]
     obtain⟨nv,qC,qB,Ga,Rv,agx⟩:=main;have fF:(xs.take (xs.length:Int).toNat).drop l.toNat=xs.drop l.toNat:=by rw[Int.toNat_natCast,List.take_length]
     rw[fF];have bY:=S.DC (dst:=dst) (hY:=.tail (aU (st.df o (.dead s)) dst) t (xs.drop l.toNat)) hl rfl rfl rfl (nv:=nv) (w':=w) ⟨rfl,rfl,rfl,Nat.le_refl _,fun _ _ _=>rfl⟩
      (fun b hb=>⟨S.dS ⟨_,hl,rfl⟩ (Rv b hb),.inl (Rv b hb)⟩) (fun bH go=>⟨vt,bK,_,by rw[bH];exact agx,uE.1,fun j g1 g2=>hX go (uE.2 j g1 g2)⟩)
     refine hU (us:=[(o,.dead s),(dst,.tail (aU (st.df o (.dead s)) dst) t (xs.drop l.toNat))]) bY Y qC ?_
     refine⟨Ga,Ref.mk (O:=.tail (aU (st.df o (.dead s)) dst) t (xs.drop l.toNat)) ?_ rfl (by simp[qB])⟩
     simp only[aZ,cr];simp
    ·cases cx
   ·exact .fail
  ·exact .fail
 ·exact .fail
end
section
variable {P:Program}{M:World}{J:List Nat}{X:Nat->Prop}{B:Nat->Value}{st:ae}{tm:Array Value}{w:World}{D:Oper}
theorem Z9{av:Nat->Prop}{o s:Nat}{t:aG}{xs:List (den t)}{v:Value}(h:cc B st.sites w av (b0 (.own o s)) v)(hr:rowOf st o s=some ⟨t,xs⟩):v=bO (B o):=by
 rcases jZ hr with h1|h1<;>exact Ref.at h.2 h1 rfl
theorem Lf(S:ag M J X B st tm w){o s:Nat}{v:Value}{t:aG}{es:List (E×den t)}(h:dv B st.sites w (au X B st.sites) (.own o s) v)(hm:mapOf st (.own o s)=some ⟨t,es⟩):
  t≠.strs/\∃b,v=.map (some b)/\l6 w b t es:=by
 simp only[mapOf] at hm;split at hm
 ·rename_i ap u hB hl;cases hb:(ap.beq s&&!u.vj) with
  |false=>rw[hb] at hm;cases hm
  |true=>
   rw[hb] at hm;simp only[Bool.and_eq_true,Bool.not_eq_true'] at hb;have H:=Nat.eq_of_beq_eq_true hb.1;subst H;cases hm;have hl:look st.sites o=some (.map ap _ es):=hl;have ab:v=bO (B o):=Ref.at h.2 hl rfl;obtain⟨b,h1,h2⟩:=S.sites o _ hl;exact⟨aG.MA hb.2,b,by rw[ab,h1];rfl,h2⟩
 ·cases hm
theorem Jd{l:ay}{t:aG}{es:List (E×den t)}(hm:mapOf st l=some ⟨t,es⟩):l=.d (.map t es)\/∃o s,l=.own o s:=by
 cases l<;>first|(cases hm;done)|skip
 ·rename_i v;cases v<;>first|(cases hm;done)|skip
  simp only[mapOf,Option.some.injEq,Sigma.mk.injEq] at hm;obtain⟨rfl,h⟩:=hm;cases h;exact .inl rfl
 ·exact .inr ⟨_,_,rfl⟩
theorem Le(S:ag M J X B st tm w){l:ay}{v:Value}{t:aG}{es:List (E×den t)}(aC:t≠.strs)(h:dv B st.sites w (au X B st.sites) l v)(hm:mapOf st l=some ⟨t,es⟩):
  (v=.map none/\es=[])\/∃b,v=.map (some b)/\l6 w b t es:=by
 rcases Jd hm with rfl|⟨o,s,rfl⟩
 ·have h:Rd w (au X B st.sites) (.map t es) v:=h;cases h with
  |qi=>exact .inl ⟨rfl,rfl⟩
  |map _ _ b _ hb hm=>exact .inr ⟨b,rfl,hm⟩
  |maps=>exact absurd rfl aC
 ·exact .inr (Lf S h hm).2
theorem Km(S:ag M J X B st tm w){l:ay}{v:Value}{es:List (E×List E)}(h:dv B st.sites w (au X B st.sites) l v)(hm:mapOf st l=some ⟨.strs,es⟩):
  (v=.map none/\es=[])\/∃b arr clock,∃ps:List (E×Value),v=.map (some b)/\w.heap[b]? =some (.map arr clock)/\ps.length=es.length/\ir arr=iT ps/\ps.map (·.1)=es.map (·.1)/\
   ∀i (h1:i<es.length) (h2:i<ps.length),Rd w (au X B st.sites) (.sl .str (es[i]).2) (ps[i]).2:=by
 rcases Jd hm with rfl|⟨o,s,rfl⟩
 ·have h:Rd w (au X B st.sites) (.map .strs es) v:=h;cases h with
  |qi=>exact .inl ⟨rfl,rfl⟩
  |map _ _ b aC hb hm=>exact absurd rfl aC
  |maps _ b arr clock ps hb hm ak hn hl hr=>exact .inr ⟨b,arr,clock,ps,rfl,hm,hl,ak,hn,hr⟩
 ·exact absurd rfl (Lf S h hm).1
theorem l6.size{b:Nat}{t:aG}{es:List (E×den t)}{arr:Array MapEntry}(h:ir arr=nR t es):arr.size=es.length:=by
 have:=congrArg List.length h;simpa[ir,nR] using this
theorem _e(S:ag M J X B st tm w){l:ay}{v:Value}{t:aG}{es:List (E×den t)}(h:dv B st.sites w (au X B st.sites) l v)(hm:mapOf st l=some ⟨t,es⟩):
  (v=.map none/\es=[])\/∃b arr clock,v=.map (some b)/\w.heap[b]? =some (.map arr clock)/\arr.size=es.length:=by
 by_cases aC:t=.strs
 ·subst aC;rcases Km S h hm with h|⟨b,arr,clock,vs,h1,h2,aa,aN,_⟩
  ·exact .inl h
  ·refine .inr ⟨b,arr,clock,h1,h2,?_⟩;have:=congrArg List.length aN;simpa[ir,iT,aa] using this
 ·rcases Le S aC h hm with h|⟨b,h1,arr,clock,h2,aa⟩
  ·exact .inl h
  ·exact .inr ⟨b,arr,clock,h1,h2,l6.size (b:=b) aa⟩
theorem aas(S:ag M J X B st tm w){C:Ctx}(aD:CtxOk P C){T:TypeId}{x:Operand}(al:D.op=.call {callee:=.builtin .len,args:=#[x],argTypes:=#[T]})(Y:ca st D.dst=true):
  Holds (ss (C.tt T) st (aP C st T x)) (cA P M J X st tm w D):=by
 have bp:=cV S C T x;have bt:=aD.tt T;have run:∀{vv:Value},(Builtin.len_ #[T] D.type #[Act.eval ⟨tm,[]⟩ x]).run P w=.ok vv w->(execOp (Act.eval ⟨tm,[]⟩) D).run P w=.ok (.value vv) w:=by
  intro vv h;unfold execOp;simp only[al,resolve,invoke,builtin,Sem.run_bind,Sem.run_pure,Result.andThen_ok,List.map_toArray,List.map_cons,List.map_nil,h]
 unfold ss;split
 ·rename_i s aY b1;rw[b1] at bp;rw[aY] at bt;obtain⟨b,hx,H⟩:=gw bp;refine Holds.ok (dC S Y (run (vv:=.int .i64 s.length) ?_) (.int _ _));have:s.length=b.size:=by rw[<-H];rfl
  simp[Builtin.len_,hx,run_underlying bt.1,goInt,this]
 ·rename_i e t b u xs aY b1;rw[b1] at bp;rw[aY] at bt;have bp:Rd w (au X B st.sites) (.sl u xs) (Act.eval ⟨tm,[]⟩ x):=bp;refine Holds.ok (dC S Y (run (vv:=.int .i64 xs.length) ?_) (.int _ _));generalize Act.eval ⟨tm,[]⟩ x=v at bp;cases bp with
  |nil=>simp[Builtin.len_,run_underlying bt.1.1,goInt]
  |sl _ _ a cap cs n hn hcap hb hl hc hr=>simp[Builtin.len_,run_underlying bt.1.1,goInt,hn]
 ·rename_i e t b u aY b1;rw[b1] at bp;rw[aY] at bt;have hx:Act.eval ⟨tm,[]⟩ x=.slice none 0 0:=bp;exact Holds.ok (dC S Y (run (vv:=.int .i64 0) (by simp[Builtin.len_,hx,run_underlying bt.1.1,goInt])) (.int _ _))
 ·rename_i e t b o s aY b1;rw[b1] at bp;rw[aY] at bt;split
  ·rename_i u xs c5;obtain⟨⟨O,fA,jv⟩,hc⟩:=S.all c5;have ab:Act.eval ⟨tm,[]⟩ x=bO (B o):=Ref.at bp.2 fA jv;refine Holds.ok (dC S Y (run (vv:=.int .i64 xs.length) ?_) (.int _ _));rcases hc with⟨h1,h2⟩|⟨a',q,c,h1⟩
   ·subst h2;simp[Builtin.len_,ab,h1,run_underlying bt.1.1,goInt]
   ·simp[Builtin.len_,ab,h1,run_underlying bt.1.1,goInt]
  ·exact .fail
 ·rename_i e0 fF u l aY b1;rw[b1] at bp;rw[aY] at bt;split
  ·rename_i bS es hm;refine Holds.ok (dC S Y (run (vv:=.int .i64 es.length) ?_) (.int _ _));rcases _e S bp hm with⟨h1,rfl⟩|⟨b,arr,c,h1,h2,eX⟩
   ·simp[Builtin.len_,h1,run_underlying bt.1.1,goInt]
   ·simp[Builtin.len_,h1,run_underlying bt.1.1,goInt,MapKept.run_getObj_map h2,eX,Result.andThen]
  ·exact .fail
 ·exact .fail
theorem YL(S:ag M J X B st tm w){C:Ctx}(aD:CtxOk P C){T:TypeId}{x i:Operand}{s:E}{k:IntKind}{n:Int}(al:D.op=.index T x i)(Y:ca st D.dst=true)(aY:C.tt T=.str)
  (hx:aP C st T x=.av (.aq (.d (.str s)))) (am:aP C st 0 i=.av (.aq (.d (.int k n)))):Holds (.eA (bd s n) fun b=>one (.int .u8 b.toNat)) (cA P M J X st tm w D):=by
 have bt:=aD.tt T;rw[aY] at bt;obtain⟨b,hb,H⟩:=aaG S hx;have hn:=j3 S am;refine Holds.eA fun y an=>?_
 have dV:bd s n=some y:=an;unfold bd at dV;split at dV
 ·rename_i a8;refine dC S Y (vv:=.int .u8 y.toNat) ?_ (.int _ _);have j9:b[n.toNat]? =some y:=by
   have:n.toNat<s.length:=by
    rcases Nat.lt_or_ge n.toNat s.length with h|h
    ·exact h
    ·rw[List.getElem?_eq_none h] at dV;cases dV
   rw[<-H] at dV this;have eX:n.toNat<b.size:=this;rw[getElem?_pos b n.toNat eX];rw[List.getElem?_eq_getElem this] at dV;have aa:b.data[n.toNat]=y:=by simpa using dV
   rw[<-aa];rfl
  unfold execOp;simp[al,hb,hn,Instr.index,asIntOf,run_underlying bt.1,a8,j9]
 ·cases dV
theorem bytes_beq(x y:ByteArray):(x==y)=(x.data.toList==y.data.toList):=by
 obtain⟨a⟩:=x;obtain⟨b⟩:=y;have h:((⟨a⟩:ByteArray)==⟨b⟩)=(a==b):=rfl;rw[h,Bool.eq_iff_iff];simp
theorem YT:∀{z U:List ay} {vs:List Value},qk z U=true->ct B st.sites w (au X B st.sites) U vs->pc z vs=true:=by
 intro z;induction z with
 |nil=>
  intro U vs h h1;cases U with
  |nil=>rw[h1.lb];rfl
  |cons l U=>cases h
 |cons c z ih=>
  intro U vs h h1;unfold qk at h;split at h
  ·rename_i aK;cases aK
  ·rename_i b1;cases b1;obtain⟨v,cC,rfl,a1,a2⟩:=h1.inv;rw[jC a1];exact ih h a2
  ·rename_i b1;cases b1;obtain⟨v,cC,rfl,a1,a2⟩:=h1.inv;rw[jB a1];exact ih h a2
  ·rename_i b1;cases b1;obtain⟨v,cC,rfl,a1,a2⟩:=h1.inv;obtain⟨x,rfl,hx⟩:=gw a1;exact ih h a2
  ·cases h
theorem UM:∀{U jd:List ay} {vs us:List Value} {b:Bool},t' U jd=some b->ct B st.sites w (au X B st.sites) U vs->ct B st.sites w (au X B st.sites) jd us->jA vs us=some b:=by
 have leaf:∀{d e:aR} {v u:Value} {b:Bool} {av:Nat->Prop},yO d e=some b->Rd w av d v->Rd w av e u->nJ v u=some b:=by
  intro d e v u b av h h1 h2;unfold yO at h;split at h
  ·rw[jC h1,jC h2];exact h
  ·rw[jB h1,jB h2];exact h
  ·obtain⟨x,rfl,hx⟩:=gw h1;obtain⟨y,rfl,an⟩:=gw h2;subst hx an;cases h;show some (x==y)=some (x.data.toList==y.data.toList);rw[bytes_beq]
  ·cases h
 intro U;induction U with
 |nil=>intro jd vs us b h _ _;cases jd<;>simp[t'] at h
 |cons l U ih=>
  intro jd vs us b h h1 h2;obtain⟨v,cC,rfl,a1,a2⟩:=h1.inv;unfold t' at h;split at h
  ·rename_i d e b1;cases b1;obtain⟨u,jN,rfl,a7,aM⟩:=h2.inv;rw[a2.lb,aM.lb];exact leaf h a1 a7
  ·rename_i d ds e es cE b1;cases b1;obtain⟨u,jN,rfl,a7,aM⟩:=h2.inv;split at h
   ·rename_i x y hx an;cases h;have e1:=leaf hx a1 a7;have e2:=ih an a2 aM;match cC,jN,e2 with
    |[],[],e2=>simp[jA] at e2
    |[],_::_,e2=>simp[jA] at e2
    |_::_,[],e2=>simp[jA] at e2
    |v2::aj1,u2::aj3,e2=>rw[jA,e1,e2];simp
   ·cases h
  ·cases h
theorem run_equal_bool{T:TypeId}(h:P.underlying T=some .bool)(a b:Bool):(Op.equal T (.bool a) (.bool b)).run P w=.ok (a==b) w:=by
 have e:Op.maxDepth=9999+1:=rfl;unfold Op.equal;rw[e];unfold Op.equalIn;simp only[Sem.run_bind,run_underlying h,Result.andThen_ok,Sem.run_pure]
theorem run_eql_bool{T:TypeId}(h:P.underlying T=some .bool)(a b:Bool):(binOp .eql T (.bool a) (.bool b)).run P w=.ok (.bool (a==b)) w:=by
 show((do pure (.bool (<-Op.equal T (.bool a) (.bool b)))):Sem Value).run P w=_
 simp only[Sem.run_bind,run_equal_bool h,Result.andThen_ok,Sem.run_pure]
theorem run_neq_bool{T:TypeId}(h:P.underlying T=some .bool)(a b:Bool):(binOp .neq T (.bool a) (.bool b)).run P w=.ok (.bool (!(a==b))) w:=by
 show((do pure (.bool (!(<-Op.equal T (.bool a) (.bool b))))):Sem Value).run P w=_
 simp only[Sem.run_bind,run_equal_bool h,Result.andThen_ok,Sem.run_pure]
theorem _J(S:ag M J X B st tm w){C:Ctx}(aD:CtxOk P C){op:BinOp}{T np:TypeId}{x y:Operand}(al:D.op=.binOp op T x y np)(Y:ca st D.dst=true):
  Holds (Fm op (C.tt T) (aP C st T x) (aP C st T y)) (cA P M J X st tm w D):=by
 have hx:=cV S C T x;have an:=cV S C T y;have bt:=aD.tt T;have run:∀{vv:Value},(eqGuard op T x y (Act.eval ⟨tm,[]⟩ x) (Act.eval ⟨tm,[]⟩ y)).run P w=.ok () w->(binOp op T (Act.eval ⟨tm,[]⟩ x) (Act.eval ⟨tm,[]⟩ y)).run P w=.ok vv w->
   (execOp (Act.eval ⟨tm,[]⟩) D).run P w=.ok (.value vv) w:=by
  intro vv h1 h2;unfold execOp;simp only[al,Sem.run_bind,h1,h2,Result.andThen_ok,Sem.run_pure]
 have plain:∀{r:dk},(eqGuard op T x y (Act.eval ⟨tm,[]⟩ x) (Act.eval ⟨tm,[]⟩ y)).run P w=.ok () w->Holds r (Plain P w (binOp op T (Act.eval ⟨tm,[]⟩ x) (Act.eval ⟨tm,[]⟩ y)))->Holds r (cA P M J X st tm w D):=by
  intro r h1 h2 z aK hc;obtain⟨vv,d,g1,g2,g3,g4⟩:=h2 z aK hc;rw[g2,g3];exact dC S Y (run h1 g1) (g4 _)
 unfold Fm;split
 ·rename_i k a k' b kQ qs;rw[kQ] at hx;rw[qs] at an;refine plain (by rw[jC hx,jC an];exact Tb _ _ _ _ _ _ _ _) ?_
  rw[jC hx,jC an];unfold MC;split
  ·refine Holds.eA fun n hn=>?_
   have fv:EM k a b=some n:=hn;unfold EM at fv;split at fv
   ·cases fv
   ·rename_i hb;cases fv;exact .mk (by simp[binOp,Op.shift,hb]) fun av=>.int _ _
  ·refine Holds.eA fun n hn=>?_
   have fv:qf k a b=some n:=hn;unfold qf at fv;split at fv
   ·cases fv
   ·rename_i hb;cases fv;exact .mk (by simp[binOp,Op.shift,hb]) fun av=>.int _ _
  ·rename_i h1 h2;split
   ·rename_i ak;subst ak;exact WE _ T k a b h1 h2
   ·exact .fail
 ·rename_i s t kQ qs;rw[kQ] at hx;rw[qs] at an;obtain⟨a,bm,H⟩:=gw hx;obtain⟨b,hb,aC⟩:=gw an;subst H aC;refine plain (by rw[bm,hb];exact S6 _ _ _ _ _ _) ?_
  rw[bm,hb];exact WC op T a b
 ·rename_i a b kQ qs;rw[kQ] at hx;rw[qs] at an;unfold M3;split
  ·rename_i aY;rw[aY] at bt;split
   ·refine plain (by rw[jB hx,jB an];exact Hg _ _ _ _ _ _) (Holds.ok ?_)
    rw[jB hx,jB an];exact .mk (run_eql_bool bt.1 _ _) fun av=>.bool _
   ·refine plain (by rw[jB hx,jB an];exact Hg _ _ _ _ _ _) (Holds.ok ?_)
    rw[jB hx,jB an];exact .mk (run_neq_bool bt.1 _ _) fun av=>.bool _
   ·exact .fail
  ·exact .fail
 ·rename_i xs ys kQ qs;rw[kQ] at hx;rw[qs] at an;unfold NT;split
  ·rename_i bR n z aY;rw[aY] at bt;cases hl:xs.length.beq n&&qk z xs with
   |false=>exact .fail
   |true=>
    simp only[cond_true];simp only[Bool.and_eq_true] at hl;have fB:=Nat.eq_of_beq_eq_true hl.1;split
    ·rename_i b hb;obtain⟨vs,ab,jO,ke⟩:=hx;obtain⟨us,hu,sP,qx⟩:=an;have agZ:=UM hb ⟨jO,ke⟩ ⟨sP,qx⟩;obtain⟨fields,ea,_,⟨fP,aK,_,_⟩,b1⟩:=bt;obtain⟨aF,E'⟩:=b1 rfl;have:=E' vs us b w agZ (YT hl.2 ⟨jO,ke⟩);split
     ·refine plain ?_ (Holds.ok ?_)
      ·rw[ab,hu];simp[eqGuard,aF]
      ·rw[ab,hu];refine .mk (vv:=.bool b) ?_ fun av=>.bool _
       show((do pure (.bool (<-Op.equal T (.agg vs.toArray) (.agg us.toArray)))):Sem Value).run P w=_
       simp only[Sem.run_bind,this,Result.andThen_ok,Sem.run_pure]
     ·refine plain ?_ (Holds.ok ?_)
      ·rw[ab,hu];simp[eqGuard,aF]
      ·rw[ab,hu];refine .mk (vv:=.bool (!b)) ?_ fun av=>.bool _
       show((do pure (.bool (!(<-Op.equal T (.agg vs.toArray) (.agg us.toArray))))):Sem Value).run P w=_
       simp only[Sem.run_bind,this,Result.andThen_ok,Sem.run_pure]
     ·exact .fail
    ·exact .fail
  ·exact .fail
 ·exact .fail
theorem TP{T:TypeId}{jd:Array (String×TypeId)}(aC:P.underlying T=some (.interface jd))(ga:TypeId)(cW:Option Int)(v:Value)(ab:v=match cW with|none=>.nilIface|some n=>.iface ga (.agg #[.int .i64 n])):
  (Op.equal T v .nilIface).run P w=.ok cW.isNone w:=by
 have h:∀d:Nat,(Op.equalIn (d+1) T v .nilIface).run P w=.ok cW.isNone w:=fun d=>by
  subst ab;cases cW<;>simp[Op.equalIn,run_underlying aC]
 exact h 9999
theorem Xm(S:ag M J X B st tm w){C:Ctx}(aD:CtxOk P C){op:BinOp}{T np:TypeId}{x y:Operand}(al:D.op=.binOp op T x y np)(Y:ca st D.dst=true)(hn:yS y=true):
  Holds (D_ op (C.tt T) (aP C st T x)) (cA P M J X st tm w D):=by
 have an:y=.const .nilIface:=by
  unfold yS at hn;split at hn
  ·rfl
  ·cases hn
 subst an;have hx:=cV S C T x;have bt:=aD.tt T;have key:∀(ga:TypeId) (cW:Option Int),(Act.eval ⟨tm,[]⟩ x=match cW with|none=>.nilIface|some n=>.iface ga (.agg #[.int .i64 n]))->Holds (zA op (C.tt T) cW) (cA P M J X st tm w D):=by
  intro ga cW ab;unfold zA;split
  ·rename_i aY;rw[aY] at bt;obtain⟨jd,bt⟩:=bt;have he:=TP (P:=P) (w:=w) bt.1 ga cW _ ab;have aF:(eqGuard op T x (.const .nilIface) (Act.eval ⟨tm,[]⟩ x) .nilIface).run P w=.ok () w:=by
    rw[ab];cases cW<;>cases op<;>simp[eqGuard]
   split
   ·refine Holds.ok (dC S Y (vv:=.bool cW.isNone) ?_ (.bool _));unfold execOp;simp only[al,Act.eval,Sem.run_bind,Result.andThen_ok,Sem.run_pure] at aF ⊢;rw[aF];simp only[Result.andThen_ok];have:(binOp .eql T (Act.eval ⟨tm,[]⟩ x) .nilIface).run P w=.ok (.bool cW.isNone) w:=by
     have e:binOp .eql T (Act.eval ⟨tm,[]⟩ x) .nilIface=(do pure (.bool (<-Op.equal T (Act.eval ⟨tm,[]⟩ x) .nilIface))):=by rw[ab];cases cW<;>rfl
     rw[e];simp only[Sem.run_bind,he,Result.andThen_ok,Sem.run_pure]
    simp only[Act.eval] at this;rw[this];rfl
   ·refine Holds.ok (dC S Y (vv:=.bool cW.isSome) ?_ (.bool _));unfold execOp;simp only[al,Act.eval,Sem.run_bind,Result.andThen_ok,Sem.run_pure] at aF ⊢;rw[aF];simp only[Result.andThen_ok];have:(binOp .neq T (Act.eval ⟨tm,[]⟩ x) .nilIface).run P w=.ok (.bool cW.isSome) w:=by
     have e:binOp .neq T (Act.eval ⟨tm,[]⟩ x) .nilIface=(do pure (.bool (!(<-Op.equal T (Act.eval ⟨tm,[]⟩ x) .nilIface)))):=by rw[ab];cases cW<;>rfl
     rw[e];simp only[Sem.run_bind,he,Result.andThen_ok,Sem.run_pure];cases cW<;>rfl
    simp only[Act.eval] at this;rw[this];rfl
   ·exact .fail
  ·exact .fail
 unfold D_;split
 ·rename_i ga cW kQ;rw[kQ] at hx;have hx:Rd w (au X B st.sites) (.err ga cW) (Act.eval ⟨tm,[]⟩ x):=hx;exact key ga cW (by revert hx;generalize Act.eval ⟨tm,[]⟩ x=vv;intro hx;cases hx<;>rfl)
 ·rename_i kQ;rw[kQ] at hx;exact key 0 none hx
 ·exact .fail
theorem S9(S:ag M J X B st tm w){C:Ctx}(aD:CtxOk P C){T:TypeId}{x:Operand}{n:Int}{bR z q e}(al:D.op=.makeInterface T x)(Y:ca st D.dst=true)(aY:C.tt T=.struct bR q z e)
  (hx:aP C st T x=.av (.agg [.d (.int .i64 n)])):cA P M J X st tm w D (one (.err T (some n))) []:=by
 have bt:=aD.tt T;rw[aY] at bt;obtain⟨fields,hu,_⟩:=bt;have bp:=cV S C T x;rw[hx] at bp;obtain⟨vs,h1,h2,aa⟩:=bp;match vs,h2,h1,aa with
 |[v],_,h1,aa=>
  have ab:=jC (aa 0 (by simp) (by simp))
  simp only[List.getElem_cons_zero] at ab;subst ab;refine dC S Y (vv:=.iface T (.agg #[.int .i64 n])) ?_ (.err _ _);unfold execOp;simp[al,Instr.makeInterface,run_underlying hu,h1]
end
end Go.Jk
