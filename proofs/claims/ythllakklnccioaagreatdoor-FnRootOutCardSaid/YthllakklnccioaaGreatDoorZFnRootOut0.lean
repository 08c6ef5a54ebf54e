/- Required packs cannot be removed: of drawn roots, RootOut refuses a pack that others need, with the code that says so, and otherwise the root without it is ok and has its tree without that pack's own files. (part 1 of 6: JnCore, JnGlob, JnState, JnExec, JnFoot, JnCode, JnTurn, JnOps1, JnOps2, JnOps3, JnOps4, JnOps5, JnOps6, JnOps7, JnOps8, JnOps9, JnOps10, JnOpsD, JnOps11, JnOps12, JnOps13) Conditions: none beyond the statement. -/
import Derived.Calls
import Derived.Below
import Derived.WalkKit
import Derived.Laws.AppendOwn
import Derived.Great.BuildSlice
import Derived.IntWalk
import Derived.Laws.Tables
import Derived.MapKept
set_option linter.unusedSimpArgs false
set_option linter.unusedVariables false
namespace Go.Jk
abbrev J:=List UInt8
structure aR where
 path:J
 kind:Int
 mode:Int
 text:J
structure dq where
 name:J
 kind:Int
 b4:J
structure aI where
 name:J
 b4:J
 bI:List dq
 bY:List aR
structure amy where
 name:J
 text:J
structure Ym where
 name:J
 text:J
structure Source where
 name:J
 sum:J
structure Piece where
 name:J
 fk:J
structure ahd where
 name:J
 b4:J
 lets:List Ym
 builds:List dq
 runs:List dq
 sources:List Source
 pieces:List Piece
 steps:List J
structure al7 where
 at_:Int
 lines:List J
inductive aJ where
 |i64|u8|u32|bool|str|entry|need|pack|file|lt|source|piece|recipe|hunk|ug|strs
 deriving DecidableEq
@[reducible] def den:aJ->Type
 |.i64|.u8|.u32=>Int
 |.bool=>Bool
 |.str=>J
 |.entry=>aR
 |.need=>dq
 |.pack=>aI
 |.file=>amy
 |.lt=>Ym
 |.source=>Source
 |.piece=>Piece
 |.recipe=>ahd
 |.hunk=>al7
 |.ug=>List Bool
 |.strs=>List J
inductive aU:Type where
 |int (k:IntKind) (n:Int)
 |bool (b:Bool)
 |str (s:J)
 |sl (t:aJ) (xs:List (den t))
 |fn (g:FuncId) (bP:List (List aU))
 |map (t:aJ) (es:List (J×den t))
 |err (T:Nat) (D:Option Int)
def enc:(t:aJ)->den t->List aU
 |.i64,n=>[.int .i64 n]
 |.u8,n=>[.int .u8 n]
 |.u32,n=>[.int .u32 n]
 |.bool,b=>[.bool b]
 |.str,s=>[.str s]
 |.entry,e=>[.str e.path,.int .i64 e.kind,.int .i64 e.mode,.str e.text]
 |.need,n=>[.str n.name,.int .i64 n.kind,.str n.b4]
 |.pack,p=>[.str p.name,.str p.b4,.sl .need p.bI,.sl .entry p.bY]
 |.file,f=>[.str f.name,.str f.text]
 |.lt,f=>[.str f.name,.str f.text]
 |.source,f=>[.str f.name,.str f.sum]
 |.piece,f=>[.str f.name,.str f.fk]
 |.recipe,r=>[.str r.name,.str r.b4,.sl .lt r.lets,.sl .need r.builds,.sl .need r.runs,.sl .source r.sources,.sl .piece r.pieces,.sl .str r.steps]
 |.hunk,h=>[.int .i64 h.at_,.sl .str h.lines]
 |.ug,b=>[.sl .bool b]
 |.strs,b=>[.sl .str b]
def aC:aJ->Nat
 |.i64|.u8|.u32|.bool|.str|.ug|.strs=>1
 |.entry=>4
 |.need=>3
 |.pack=>4
 |.file|.lt|.source|.piece|.hunk=>2
 |.recipe=>8
def dec:(t:aJ)->List aU->Option (den t)
 |.i64,[.int .i64 n]=>some n
 |.u8,[.int .u8 n]=>some n
 |.u32,[.int .u32 n]=>some n
 |.bool,[.bool b]=>some b
 |.str,[.str s]=>some s
 |.entry,[.str a,.int .i64 k,.int .i64 m,.str b]=>some ⟨a,k,m,b⟩
 |.need,[.str a,.int .i64 k,.str b]=>some ⟨a,k,b⟩
 |.pack,[.str a,.str b,.sl .need aw,.sl .entry es]=>some ⟨a,b,aw,es⟩
 |.file,[.str a,.str b]=>some ⟨a,b⟩
 |.lt,[.str a,.str b]=>some ⟨a,b⟩
 |.source,[.str a,.str b]=>some ⟨a,b⟩
 |.piece,[.str a,.str b]=>some ⟨a,b⟩
 |.recipe,[.str a,.str b,.sl .lt aa,.sl .need bs,.sl .need lD,.sl .source aV,.sl .piece F,.sl .str di]=>some ⟨a,b,aa,bs,lD,aV,F,di⟩
 |.hunk,[.int .i64 n,.sl .str aa]=>some ⟨n,aa⟩
 |.ug,[.sl .bool b]=>some b
 |.strs,[.sl .str b]=>some b
 |_,_=>none
theorem fz:∀(t:aJ) (x:den t),(enc t x).length=aC t:=by
 intro t x;cases t<;>rfl
theorem jq(t:aJ):0<aC t:=by cases t<;>decide
theorem oW:∀(t:aJ) (ds:List aU) (x:den t),dec t ds=some x->enc t x=ds:=by
 intro t ds x h;unfold dec at h;split at h<;>first|(cases h;rfl)|cases h
def flat(t:aJ)(xs:List (den t)):List aU:=xs.flatMap (enc t)
theorem dU(t:aJ)(xs:List (den t)):(flat t xs).length=xs.length*aC t:=by
 unfold flat;induction xs with
 |nil=>simp
 |cons x xs ih=>simp[List.flatMap_cons,fz,ih,Nat.add_mul,Nat.add_comm]
theorem lP(t:aJ)(xs ys:List (den t)):flat t (xs++ys)=flat t xs++flat t ys:=by
 simp[flat,List.flatMap_append]
theorem flat_get(t:aJ)(xs:List (den t))(i j:Nat)(x:den t)(hx:xs[i]? =some x)(hj:j<aC t):
  (flat t xs)[i*aC t+j]? =(enc t x)[j]? :=by
 induction xs generalizing i with
 |nil=>simp at hx
 |cons y ys ih=>
  cases i with
  |zero=>
   simp only[List.getElem?_cons_zero,Option.some.injEq] at hx;subst hx;simp only[Nat.zero_mul,Nat.zero_add,flat,List.flatMap_cons];rw[List.getElem?_append_left (by rw[fz];exact hj)]
  |succ i=>
   simp only[List.getElem?_cons_succ] at hx;have:=ih i hx;simp only[flat,List.flatMap_cons] at this ⊢;rw[List.getElem?_append_right (by rw[fz,Nat.add_mul];omega),fz]
   rw[<-this];congr 1
   rw[Nat.add_mul];omega
theorem adT(t:aJ)(xs:List (den t))(i:Nat)(x:den t):
  flat t (xs.set i x)=(flat t xs).take (i*aC t)++(if i<xs.length then enc t x else [])++(flat t xs).drop ((i+1)*aC t):=by
 induction xs generalizing i with
 |nil=>simp[flat]
 |cons y ys ih=>
  cases i with
  |zero=>
   simp only[List.set_cons_zero,flat,List.flatMap_cons,Nat.zero_mul,List.take_zero,List.nil_append,List.length_cons,Nat.zero_lt_succ,if_true,Nat.zero_add,Nat.one_mul];rw[List.drop_append_of_le_length (by rw[fz];omega)]
   rw[show List.drop (aC t) (enc t y)=[] from List.drop_eq_nil_of_le (by rw[fz];exact Nat.le_refl _)]
   rfl
  |succ i=>
   have h:=ih i;simp only[flat] at h;simp only[List.set_cons_succ,flat,List.flatMap_cons,List.length_cons];rw[h];have e1:List.take ((i+1)*aC t) (enc t y++ys.flatMap (enc t))=enc t y++(ys.flatMap (enc t)).take (i*aC t):=by
    rw[List.take_append,List.take_of_length_le (by rw[fz,Nat.add_mul];omega),fz]
    congr 2
    rw[Nat.add_mul];omega
   have e2:List.drop ((i+1+1)*aC t) (enc t y++ys.flatMap (enc t))=(ys.flatMap (enc t)).drop ((i+1)*aC t):=by
    rw[List.drop_append,List.drop_eq_nil_of_le (by rw[fz,Nat.add_mul,Nat.add_mul];omega),fz,List.nil_append]
    congr 1
    rw[Nat.add_mul (i+1) 1];omega
   rw[e1,e2];simp only[Nat.add_lt_add_iff_right,List.append_assoc]
def sr:TypeId:=999999
def mq:TypeId:=5
def px:List Nat:=[]
def qF(w:World):Prop:=True
theorem aiL{w w':World}(h:∀b,b∈px->w'.heap[b]? =w.heap[b]?)(k:qF w):qF w':=trivial
theorem aph{w:World}(k:qF w)(b:Nat)(h:b∈px):b<w.heap.size:=by
 unfold px at h;cases h
inductive aD:Type where
 |d (v:aU)
 |nil (t:aJ) -- n7 nil slice
 |own (o s:Nat) -- n7 whole of a row of qf own
 |ptr (o s off:Nat) -- a pointer asr a box of qf own
 |eH (cells:List aU) (off:Nat) -- a pointer Dg cells rG Kw only read
 |eN (o s:Nat) (t:aJ) (k off:Nat) -- a pointer Dg arU k of a row of qf own,xj cell 'ql
 |clo (g:FuncId) (bP:List (Nat×Nat)) -- a closure over boxes of qf own
 |cL (v:Value) -- asp this value
 |fresh (t:aJ) (xs:List (den t)) -- a row rG ar0 else holds (afO caller and callee alone)
 |gG (t:aJ) (xs:List (den t)) -- n7 same,with n7 rows in xj elements
 |eS -- in a aiP first cell:nil,or n7 aiP own address (strings.arW)
 |any
inductive bH:Type where
 |am (l:aD)
 |agg (aa:List aD)
inductive aP:Type where
 |av (a:bH)
 |jE (as:List bH)
inductive Site:Type where
 |box (s:Nat) (cells:List aD)
 |row (s:Nat) (t:aJ) (xs:List (den t))
 |da (s:Nat) (t:aJ) (xs:List (den t))
 |map (s:Nat) (t:aJ) (es:List (J×den t))
 |deep (s:Nat) (t:aJ) (xs:List (den t)) -- a row of qf own with n7 rows in xj elements
 |eB (s:Nat) (es:List (J×Option (List J))) -- a map of qf own,with xj rows;none:a row rG hq taken out
 |tail (s:Nat) (t:aJ) (xs:List (den t)) -- a row of qf own rG need not begin where xj block asC
 |dead (s:Nat)
def Site.b9:Site->Nat
 |.box s _|.row s _ _|.da s _ _|.map s _ _|.deep s _ _|.eB s _|.tail s _ _|.dead s=>s
def Site.live:Site->Bool
 |.box _ _|.row _ _ _|.map _ _ _|.deep _ _ _|.eB _ _|.tail _ _ _=>true
 |_=>false
def look{aK:Type}:List (Nat×aK)->Nat->Option aK
 |[],_=>none
 |(k,v)::r,n=>bif k.beq n then some v else look r n
def cf{aK:Type}:List (Nat×aK)->Nat->aK->List (Nat×aK)
 |[],n,v=>[(n,v)]
 |(k,w)::r,n,v=>bif k.beq n then(k,v)::r else(k,w)::cf r n v
theorem j5{a b:Nat}(h:¬a=b):a.beq b=false:=by
 cases e:a.beq b
 ·rfl
 ·exact absurd (Nat.eq_of_beq_eq_true e) h
theorem cv{aK:Type}(l:List (Nat×aK))(n m:Nat)(v:aK):look (cf l n v) m=if n=m then some v else look l m:=by
 induction l with
 |nil=>
  simp only[cf,look];by_cases h:n=m
  ·subst h;simp
  ·have:n.beq m=false:=j5 h;simp[this,h]
 |cons p l ih=>
  obtain⟨k,w⟩:=p;simp only[cf];by_cases h:k=n
  ·subst h;simp only[Nat.beq_refl,cond_true,look];by_cases hm:k=m
   ·subst hm;simp
   ·have:k.beq m=false:=j5 hm;simp[this,hm]
  ·have hb:k.beq n=false:=j5 h;simp only[hb,cond_false,look];by_cases hm:k=m
   ·subst hm;have:¬n=k:=fun e=>h e.symm
    simp[this]
   ·have:k.beq m=false:=j5 hm;simp[this,ih]
structure ai where
 cU:List (Nat×aP)
 sites:List (Nat×Site)
 nt:Nat
def ai.get(st:ai)(t:Nat):aP:=match look st.cU t with|some v=>v|none=>.av (.am .any)
def ai.Y(st:ai)(o:Nat):Option Site:=look st.sites o
def ai.set(st:ai)(t:Nat)(v:aP):ai:={st with cU:=cf st.cU t v}
def ai.df(st:ai)(o:Nat)(s:Site):ai:={st with sites:=cf st.sites o s}
@[simp] theorem ai.Gy(st:ai)(t u:Nat)(v:aP):(st.set t v).get u=if t=u then v else st.get u:=by
 unfold ai.set ai.get;rw[cv];by_cases h:t=u<;>simp[h]
@[simp] theorem ai.ac0(st:ai)(t o:Nat)(v:aP):(st.set t v).Y o=st.Y o:=rfl
@[simp] theorem ai.agL(st:ai)(t:Nat)(v:aP):(st.set t v).nt=st.nt:=rfl
@[simp] theorem ai._m(st:ai)(o u:Nat)(s:Site):(st.df o s).get u=st.get u:=rfl
@[simp] theorem ai.lO(st:ai)(o H:Nat)(s:Site):(st.df o s).Y H=if o=H then some s else st.Y H:=by
 unfold ai.df ai.Y;simp only[cv]
@[simp] theorem ai._6(st:ai)(o:Nat)(s:Site):(st.df o s).nt=st.nt:=rfl
def ou:(t:aJ)->den t->Value
 |.i64,n=>.int .i64 n
 |.bool,b=>.bool b
 |_,_=>undef
def ev(l:J):Value:=.string ⟨l.toArray⟩
def iK(arr:Array MapEntry):List (Value×Value):=arr.toList.map fun e=>(e.key,e.val)
def jd(F:List (J×Value)):List (Value×Value):=F.map fun p=>(ev p.1,p.2)
def o5(t:aJ)(es:List (J×den t)):List (Value×Value):=es.map fun p=>(ev p.1,ou t p.2)
def mP(w:World)(b:Nat)(t:aJ)(es:List (J×den t)):Prop:=∃arr clock,w.heap[b]? =some (.map arr clock)/\iK arr=o5 t es
theorem mP.of{w w':World}{b:Nat}{t:aJ}{es:List (J×den t)}(h:w'.heap[b]? =w.heap[b]?)(m:mP w b t es):mP w' b t es:=by
 obtain⟨arr,c,h1,h2⟩:=m;exact⟨arr,c,h.trans h1,h2⟩
theorem mP.lt{w:World}{b:Nat}{t:aJ}{es:List (J×den t)}(m:mP w b t es):b<w.heap.size:=by
 obtain⟨arr,c,h1,h2⟩:=m;rcases Nat.lt_or_ge b w.heap.size with h|h
 ·exact h
 ·rw[Array.getElem?_eq_none h] at h1;cases h1
inductive Rd(w:World)(av:Nat->Prop):aU->Value->Prop where
 |int (k:IntKind) (n:Int):Rd w av (.int k n) (.int k n)
 |bool (b:Bool):Rd w av (.bool b) (.bool b)
 |str (l:J) (s:ByteArray) (h:s.data.toList=l):Rd w av (.str l) (.string s)
 |nil (t:aJ):Rd w av (.sl t []) (.slice none 0 0)
 |sl (t:aJ) (xs:List (den t)) (a:Addr) (cap:Nat) (cs:List Value) (n:Nat) (hn:n=xs.length) (hcap:n<=cap) (hb:xs≠[]->¬av a.block)
   (hl:cs.length=(flat t xs).length)
   (hc:∀j u,cs[j]? =some u->w.cell? (a.add j)=some u)
   (hr:∀j (h:j<(flat t xs).length) (ah:j<cs.length),Rd w av ((flat t xs)[j]) (cs[j])):Rd w av (.sl t xs) (.slice (some a) n cap)
 |fn (g:FuncId) (bP:List (List aU)) (bs:List Nat) (jm:Nat->List Value) (lb:Array Value) (CT:lb=(bs.map fun b=>Value.pointer (some ⟨b,0,none⟩)).toArray) (gA:bs.length=bP.length)
   (hb:∀b,b∈bs->¬av b) (a':∀b,b∈bs->b<w.heap.size)
   (hl:∀i (h:i<bP.length),(jm i).length=(bP[i]).length)
   (hc:∀i (h:i<bs.length) j u,(jm i)[j]? =some u->w.cell? ⟨bs[i],j,none⟩=some u)
   (hr:∀i (h:i<bP.length) j (h1:j<(bP[i]).length) (h2:j<(jm i).length),Rd w av ((bP[i])[j]) ((jm i)[j])):
   Rd w av (.fn g bP) (.func (.func g) #[] lb)
 |rK (t:aJ):Rd w av (.map t []) (.map none)
 |map (t:aJ) (es:List (J×den t)) (b:Nat) (aA:t≠.strs) (hb:¬av b) (hm:mP w b t es):Rd w av (.map t es) (.map (some b))
 |maps (es:List (J×List J)) (b:Nat) (arr:Array MapEntry) (clock:Nat) (F:List (J×Value)) (hb:¬av b) (hm:w.heap[b]? =some (.map arr clock)) (af:iK arr=jd F) (hn:F.map (·.1)=es.map (·.1))
   (hl:F.length=es.length) (hr:∀i (h:i<es.length) (ah:i<F.length),Rd w av (.sl .str (es[i]).2) (F[i]).2):Rd w av (.map .strs es) (.map (some b))
 |rP (T:TypeId):Rd w av (.err T none) .nilIface
 |err (T:TypeId) (n:Int):Rd w av (.err T (some n)) (.iface T (.agg #[.int .i64 n]))
theorem Rd.ja{w:World}{av:Nat->Prop}{d:aU}{v:Value}(r:Rd w av d v):v.oneCell'=true:=by
 cases r<;>rfl
def w7(v:Value):Prop:=v=.slice none 0 0\/∃b n c,v=.slice (some ⟨b,0,none⟩) n c
def aW:Value->Option Nat
 |.slice (some a) _ _=>some a.block
 |.pointer (some a)=>some a.block
 |.map (some b)=>some b
 |_=>none
def bT:Value->Value
 |.tuple vs=>vs.toList.headD undef
 |v=>v
def bl:Value->List Nat
 |.tuple vs=>vs.toList.flatMap fun v=>(aW v).toList
 |v=>(aW v).toList
theorem fY{v:Value}{b:Nat}(h:aW v=some b):b∈bl v:=by
 cases v<;>first|(show b∈(aW _).toList;rw[h];simp)|cases h
section
variable (B:Nat->Value)(sites:List (Nat×Site))(w:World)(av:Nat->Prop)
def Ref(o s:Nat)(p:Prop):Prop:=∃Y,look sites o=some Y/\s<=Y.b9/\(Y.b9=s->p)
def dx:aD->Value->Prop
 |.d x,v=>Rd w av x v
 |.nil _,v=>v=.slice none 0 0
 |.own o s,v=>v.oneCell'=true/\Ref sites o s (v=bT (B o))
 |.ptr o s off,v=>∃b,v=.pointer (some ⟨b,off,none⟩)/\Ref sites o s (bT (B o)=.pointer (some ⟨b,0,none⟩))
 |.eH cells off,v=>∃b D,v=.pointer (some ⟨b,D+off,none⟩)/\¬av b/\b<w.heap.size/\∃cs:List Value,cs.length=cells.length/\(∀j u,cs[j]? =some u->w.cell? ⟨b,D+j,none⟩=some u)/\
   ∀j (h:j<cells.length) (ah:j<cs.length),Rd w av (cells[j]) (cs[j])
 |.eN o s t k off,v=>∃b D,v=.pointer (some ⟨b,D+(k*aC t+off),none⟩)/\Ref sites o s (∃n c,bT (B o)=.slice (some ⟨b,D,none⟩) n c)
 |.clo g bP,v=>∃vs:List Value,v=.func (.func g) #[] vs.toArray/\vs.length=bP.length/\∀i (h:i<bP.length) (ah:i<vs.length),Ref sites (bP[i]).1 (bP[i]).2 (vs[i]=bT (B (bP[i]).1))
 |.cL u,v=>v=u
 |.fresh _ _,_=>False
 |.gG _ _,_=>False
 |.eS,_=>True
 |.any,_=>True
def aJ.ei:aJ->Bool
 |.u8=>true
 |_=>false
def lj(u:Bool)(e:TypeId)(cur:Array Value)(bL:Nat×Nat):Prop:=(u=true->e=mq)/\(bL=(0,0)\/u=true/\cur.size<=bL.1)
def rowAt(w:World)(u:Bool)(e:TypeId)(size:Nat)(v:Value)(n:Nat)(xs:List Value):Prop:=
 xs.length=n*size/\((v=.slice none 0 0/\n=0)\/
  ∃g cap cur bL,v=.slice (some ⟨g,0,none⟩) n cap/\lj u e cur bL/\w.heap[g]? =some (.cells cur e bL)/\n<=cap/\cap<=maxLen/\cur.size=cap*size/\cur.toList.take (n*size)=xs)
theorem q3(w:World)(u:Bool)(e:TypeId)(size:Nat):rowAt w u e size (.slice none 0 0) 0 []:=⟨by simp,.inl ⟨rfl,rfl⟩⟩
theorem h6{w:World}{u:Bool}{e:TypeId}{size:Nat}{v:Value}{n:Nat}{xs:List Value}(h:rowAt w u e size v n xs):bT v=v/\bl v=(aW v).toList:=by
 rcases h.2 with⟨rfl,_⟩|⟨g,cap,cur,bL,rfl,_⟩<;>exact⟨rfl,rfl⟩
theorem vM{w:World}{u:Bool}{e:TypeId}{size:Nat}{v:Value}{n:Nat}{xs:List Value}{b:Nat}(h:rowAt w u e size v n xs)(hb:b∈bl v):aW v=some b:=by
 rw[(h6 h).2] at hb;simpa using hb
theorem oG{w w':World}{u:Bool}{e:TypeId}{size:Nat}{v:Value}{n:Nat}{xs:List Value}(h:rowAt w u e size v n xs)(hb:∀b,aW v=some b->w'.heap[b]? =w.heap[b]?):rowAt w' u e size v n xs:=by
 refine⟨h.1,?_⟩;rcases h.2 with hn|⟨g,cap,cur,bL,hv,r1,r2,c9⟩
 ·exact .inl hn
 ·refine .inr ⟨g,cap,cur,bL,hv,r1,?_,c9⟩;rw[hb g (by rw[hv];rfl)];exact r2
def ck(w:World)(av:Nat->Prop)(ds:List aU)(vs:List Value):Prop:=vs.length=ds.length/\∀j (h:j<ds.length) (ah:j<vs.length),Rd w av (ds[j]) (vs[j])
def aU.plain:aU->Bool
 |.sl _ _|.fn _ _|.map _ _=>false
 |_=>true
inductive Deep(w:World)(av:Nat->Prop):List aU->List Value->List Value->Prop where
 |nil:Deep w av [] [] []
 |row (u:aJ) (ys:List (den u)) (e:TypeId) (aa:List Value) (ag:∀d,d∈flat u ys->d.plain=true) {c:Value} {ds:List aU} {cs aw:List Value} (h:rowAt w u.ei e (aC u) c ys.length aa) (hr:ck w av (flat u ys) aa) (k:Deep w av ds cs aw):Deep w av (.sl u ys::ds) (c::cs) (c::aw)
 |leaf {d:aU} {c:Value} {ds:List aU} {cs aw:List Value} (ag:d.plain=true) (h:Rd w av d c) (k:Deep w av ds cs aw):Deep w av (d::ds) (c::cs) aw
def oY(w:World)(e:TypeId)(size:Nat)(v:Value)(n:Nat)(xs:List Value):Prop:=
 xs.length=n*size/\((v=.slice none 0 0/\n=0)\/
  ∃g D cap cur,v=.slice (some ⟨g,D,none⟩) n cap/\w.heap[g]? =some (.cells cur e (0,0))/\n<=cap/\cap<=maxLen/\D+cap*size<=cur.size/\(cur.toList.drop D).take (n*size)=xs)
inductive fQ(w:World)(av:Nat->Prop):List (J×Value)->List (J×Option (List J))->List Value->Prop where
 |nil:fQ w av [] [] []
 |l_ (k:J) (v:Value) {F:List (J×Value)} {es:List (J×Option (List J))} {aw:List Value} (r:fQ w av F es aw):fQ w av ((k,v)::F) ((k,none)::es) aw
 |row (k:J) (v:Value) (xs:List J) (e:TypeId) (aa:List Value) (h:rowAt w false e 1 v xs.length aa) (hr:ck w av (flat .str xs) aa) {F:List (J×Value)} {es:List (J×Option (List J))} {aw:List Value} (r:fQ w av F es aw):
   fQ w av ((k,v)::F) ((k,some xs)::es) (v::aw)
def nR(cells:List aD)(T:TypeId)(cur:List Value)(b:Nat):Prop:=cells.head?=some .eS->T=sr/\(cur.head?=some (.pointer none)\/cur.head?=some (.pointer (some ⟨b,0,none⟩)))
def gO:bH->Value->Prop
 |.am l,v=>dx B sites w av l v
 |.agg aa,v=>∃vs:List Value,v=.agg vs.toArray/\vs.length=aa.length/\∀j (h:j<aa.length) (ah:j<vs.length),dx B sites w av (aa[j]) (vs[j])
def ce:aP->Value->Prop
 |.av a,v=>gO B sites w av a v
 |.jE as,v=>∃vs:List Value,v=.tuple vs.toArray/\vs.length=as.length/\∀j (h:j<as.length) (ah:j<vs.length),gO B sites w av (as[j]) (vs[j])
def io(o:Nat):Site->Prop
 |.box _ cells=>∃b T,∃cur:List Value,B o=.pointer (some ⟨b,0,none⟩)/\w.heap[b]? =some (.cells cur.toArray T (0,0))/\cur.length=cells.length/\
   (∀u∈cur,u.oneCell'=true)/\nR cells T cur b/\∀j (h:j<cells.length) (ah:j<cur.length),dx B sites w av (cells[j]) (cur[j])
 |.row _ t xs=>∃e,∃cs:List Value,rowAt w t.ei e (aC t) (B o) xs.length cs/\∀j (h:j<(flat t xs).length) (ah:j<cs.length),Rd w av ((flat t xs)[j]) (cs[j])
 |.da _ t xs=>Rd w av (.sl t xs) (bT (B o))/\w7 (bT (B o))
 |.map _ t es=>∃b,B o=.map (some b)/\mP w b t es
 |.deep _ t xs=>∃e v,∃aw cs:List Value,B o=.tuple (v::aw).toArray/\(bl (B o)).Nodup/\rowAt w t.ei e (aC t) v xs.length cs/\Deep w av (flat t xs) cs aw
 |.eB _ es=>∃b arr clock,∃aw:List Value,B o=.tuple (.map (some b)::aw).toArray/\(bl (B o)).Nodup/\w.heap[b]? =some (.map arr clock)/\∃F,iK arr=jd F/\fQ w av F es aw
 |.tail _ t xs=>t.ei=false/\∃e,∃cs:List Value,oY w e (aC t) (B o) xs.length cs/\ck w av (flat t xs) cs
 |.dead _=>True
end
theorem hC{v:Value}{aw:List Value}{b:Nat}:b∈bl (.tuple (v::aw).toArray) <-> aW v=some b\/∃n,n∈aw/\aW n=some b:=by
 simp[bl]
def b2(sites:List (Nat×Site))(o:Nat):Prop:=∃Y,look sites o=some Y/\Y.live=true
def au(X:Nat->Prop)(B:Nat->Value)(sites:List (Nat×Site))(b:Nat):Prop:=X b\/∃o,b2 sites o/\b∈bl (B o)
structure Fr(O:List Nat)(U w:World):Prop where
 os:w.os=U.os
 tape:w.tape=U.tape
 output:w.output=U.output
 size:U.heap.size<=w.heap.size
 block:∀b,b<U.heap.size->b∉O->w.heap[b]? =U.heap[b]?
theorem Fr.refl(O:List Nat)(w:World):Fr O w w:=⟨rfl,rfl,rfl,Nat.le_refl _,fun _ _ _=>rfl⟩
structure iL(w:World)(O:List Nat)(X:Nat->Prop):Prop where
 ok:qF w
 O:∀b,b∈px->b∉O
 X:∀b,b∈px->¬X b
 lt:∀b,b∈px->b<w.heap.size
theorem iL.less{w:World}{O:List Nat}{X X':Nat->Prop}(G:iL w O X)(h:∀b,b∈px->X' b->X b):iL w O X':=⟨G.ok,G.O,fun b hb hx=>G.X b hb (h b hb hx),G.lt⟩
theorem iL.aio{w:World}{O:List Nat}{X X':Nat->Prop}(G:iL w O X)(h:∀b,X' b->X b\/b∈O):iL w O X':=⟨G.ok,G.O,fun b hb hx=>(h b hx).elim (G.X b hb) (G.O b hb),G.lt⟩
structure ak(U:World)(O:List Nat)(X:Nat->Prop)(B:Nat->Value)(st:ai)(tm:Array Value)(w:World):Prop where
 nt:tm.size=st.nt
 cU:∀t,ce B st.sites w (au X B st.sites) (st.get t) (tm.getD t undef)
 sites:∀o Y,look st.sites o=some Y->io B st.sites w (au X B st.sites) o Y
 dp:∀o H b,b2 st.sites o->b2 st.sites H->b∈bl (B o)->b∈bl (B H)->o=H
 cg:∀o b,b2 st.sites o->b∈bl (B o)->¬X b/\(b∈O\/U.heap.size<=b)
 frame:Fr O U w
 old:∀b,X b->b<w.heap.size
 fk:iL U O X
inductive cm:Type where
 |none
 |int (k:IntKind)
 |bool
 |str
 |ptr
 |func
 |slice (e:TypeId) (t:aJ) (bytes:Nat)
 |struct (b1:List (Nat×Nat)) (n:Nat) (z:List aD) (eq:Bool)
 |map (k e:TypeId) (t:aJ)
 |arr (e:TypeId) (t:aJ) (n:Nat)
 |iface
def x6:(t:aJ)->Option (den t)
 |.i64|.u8|.u32=>some (0:Int)
 |.bool=>some false
 |.str=>some ([]:J)
 |_=>none
def uC:aJ->Option aD
 |.i64=>some (.d (.int .i64 0))
 |.u8=>some (.d (.int .u8 0))
 |.u32=>some (.d (.int .u32 0))
 |.bool=>some (.d (.bool false))
 |.str=>some (.d (.str []))
 |_=>none
def cm.agg:cm->Bool
 |.struct _ _ _ _|.arr _ _ _=>true
 |_=>false
def cm.known:cm->Bool
 |.none=>false
 |_=>true
def cm.size:cm->Nat
 |.struct _ n _ _=>n
 |.arr _ _ n=>n
 |_=>1
def cm.zero:cm->Option (List aD)
 |.none=>Option.none
 |.int k=>some [.d (.int k 0)]
 |.bool=>some [.d (.bool false)]
 |.str=>some [.d (.str [])]
 |.ptr=>some [.cL (.pointer Option.none)]
 |.func=>some [.cL .nilFunc]
 |.slice _ t _=>some [.nil t]
 |.struct _ _ z _=>some z
 |.map _ _ _=>some [.cL (.map Option.none)]
 |.arr _ t n=>(uC t).map (List.replicate n)
 |.iface=>some [.cL .nilIface]
inductive Arg:Type where
 |av (a:bH)
 |ec (cells:List aD)
structure w5:Type 1 where
 L:Type
 comp:Option L
 ec:L->List (List aD)
 fc:L->List bH
 eW:L->List aD -- rows rG asf aiJ,as asg asF back
abbrev bb:=List Arg->w5
def w5.fail:w5:=⟨Unit,Option.none,fun _=>[],fun _=>[],fun _=>[]⟩
structure Ctx:Type 1 where
 tt:TypeId->cm
 b1:FuncId->Option bb
 lC:FuncId->Option FuncId:=fun _=>none
 ow:FuncId->Bool:=fun _=>false
 op:FuncId->Bool:=fun _=>false
 ij:FuncId->Bool:=fun _=>false -- a acr copy check
 bs:FuncId->Bool:=fun _=>false -- a acr String
 gt:Nat->Option ((t:aJ)×List (den t)):=fun _=>none -- n7 arQ tables
 eo:Bool:=false -- rows of rows Kw made as qf own,whole
structure dl:Type 1 where
 L:Type
 comp:Option L
 val:L->aP
 us:L->List (Nat×Site)
 su:L->Bool
def dl.fail:dl:=⟨Unit,Option.none,fun _=>.av (.am .any),fun _=>[],fun _=>false⟩
def dl.ok(v:aP):dl:=⟨Unit,some (),fun _=>v,fun _=>[],fun _=>true⟩
def dl.fe(v:aP)(us:List (Nat×Site)):dl:=⟨Unit,some (),fun _=>v,fun _=>us,fun _=>true⟩
def dl.eD{L:Type}(c:Option L)(f:L->aP):dl:=⟨L,c,f,fun _=>[],fun _=>true⟩
def dl.eA{L:Type}(c:Option L)(f:L->aP)(us:L->List (Nat×Site)):dl:=⟨L,c,f,us,fun _=>true⟩
def bd{aK:Type}(xs:List aK)(i:Int):Option aK:=if 0<=i then xs[i.toNat]? else none
def iz(n:Nat)(i:Int):Option Nat:=if 0<=i/\i<n then some i.toNat else none
def cA{aK:Type}(xs:List aK)(cp hi:Int):Option (List aK):=if 0<=cp/\cp<=hi/\hi<=xs.length then some ((xs.take hi.toNat).drop cp.toNat) else none
def room:Nat:=140737488355328
def cR{aK:Type}(bytes:Nat)(xs ys:List aK):Option (List aK):=if(xs.length+ys.length)*bytes<=room/\xs.length+ys.length<=maxLen then some (xs++ys) else none
def mr(s t:J):Option J:=if((s.length+t.length:Nat):Int)>IntKind.i64.max then none else some (s++t)
def qj(k:IntKind)(x y:Int):Option Int:=if y=0 then none else some (k.wrap (x.tdiv y))
def l9(x y:Int):Option Int:=if y=0 then none else some (x.tmod y)
def H9(k:IntKind)(x y:Int):Option Int:=if y<0 then none else some (k.wrap (x*2^(min y.toNat k.bits)))
def o_(k:IntKind)(x y:Int):Option Int:=if y<0 then none else some (x.fdiv (2^(min y.toNat k.bits)))
def uI{aK:Type}(bytes:Nat)(n c:Int)(z:aK):Option (List aK):=if 0<=n/\n<=c/\c*bytes<=room/\c<=maxLen then some (List.replicate n.toNat z) else none
def hJ(x y:Int):Int:=if y>x then y else x
def B8(x y:Int):Int:=if y<x then y else x
def UH(k:IntKind)(x y:Int):Int:=k.wrap (BitVec.ofInt k.bits x &&& BitVec.ofInt k.bits y).toNat
def V9(k:IntKind)(x y:Int):Int:=k.wrap (BitVec.ofInt k.bits x ||| BitVec.ofInt k.bits y).toNat
def nS(k:IntKind)(x y:Int):Int:=k.wrap (BitVec.ofInt k.bits x ^^^ BitVec.ofInt k.bits y).toNat
def bytesOf(s:J):List Int:=s.map fun b=>(b.toNat:Int)
def strOf(xs:List Int):J:=xs.map fun n=>UInt8.ofNat n.toNat
abbrev one(d:aU):aP:=.av (.am (.d d))
abbrev bZ(l:aD):aP:=.av (.am l)
def vX(ti:cm):Value->aP
 |.int k n=>one (.int k n)
 |.bool b=>one (.bool b)
 |.string s=>one (.str s.data.toList)
 |.slice none 0 0=>match ti with|.slice _ t _=>bZ (.nil t)|_=>bZ (.cL (.slice none 0 0))
 |.map none=>match ti with|.map _ _ t=>one (.map t [])|_=>bZ (.cL (.map none))
 |.agg _|.tuple _=>bZ .any
 |v=>bZ (.cL v)
def aS(C:Ctx)(st:ai)(T:TypeId):Operand->aP
 |.tmp t=>st.get t
 |.const v=>vX (C.tt T) v
 |.global g=>bZ (.cL (.pointer (some ⟨g,0,none⟩)))
 |.func f=>bZ (.clo f [])
def rowOf(st:ai)(o s:Nat):Option ((t:aJ)×List (den t)):=
 match st.Y o with
 |some (.row ar t xs)=>bif ar.beq s then some ⟨t,xs⟩ else none
 |some (.da ar t xs)=>bif ar.beq s then some ⟨t,xs⟩ else none
 |_=>none
def mI(st:ai)(o s:Nat):Option ((t:aJ)×List (den t)):=
 match st.Y o with
 |some (.deep ar t xs)=>bif ar.beq s then some ⟨t,xs⟩ else none
 |_=>none
def rC(st:ai)(o s:Nat):Option ((t:aJ)×List (den t)):=match rowOf st o s with
 |some x=>some x
 |none=>mI st o s
def oX(st:ai)(o s:Nat):Option ((t:aJ)×List (den t)):=
 match st.Y o with
 |some (.tail ar t xs)=>bif ar.beq s then some ⟨t,xs⟩ else none
 |_=>none
def o'(st:ai)(o s:Nat):Option ((t:aJ)×List (den t)):=match rowOf st o s with
 |some x=>some x
 |none=>oX st o s
def rD(st:ai)(o s:Nat):Option ((t:aJ)×List (den t)):=match rC st o s with
 |some x=>some x
 |none=>oX st o s
def ga(st:ai)(o s:Nat):Option (List aD):=
 match st.Y o with
 |some (.box ar cells)=>bif ar.beq s then some cells else none
 |_=>none
def aJ.xk:aJ->Bool
 |.strs=>true
 |_=>false
theorem aJ.Q2{t:aJ}(h:t.xk=false):t≠.strs:=by rintro rfl;cases h
def mapOf(st:ai):aD->Option ((t:aJ)×List (J×den t))
 |.d (.map t es)=>some ⟨t,es⟩
 |.own o s=>match st.Y o with
  |some (.map ar t es)=>bif ar.beq s&&!t.xk then some ⟨t,es⟩ else none
  |_=>none
 |_=>none
def dy{aK:Type}:List (J×aK)->J->Option aK
 |[],_=>none
 |(k,v)::r,n=>bif k==n then some v else dy r n
def c4{aK:Type}:List (J×aK)->J->aK->List (J×aK)
 |[],n,v=>[(n,v)]
 |(k,w)::r,n,v=>bif k==n then(k,v)::r else(k,w)::c4 r n v
def H7:(t:aJ)->aU->Option (den t)
 |.i64,.int .i64 n=>some n
 |.bool,.bool b=>some b
 |_,_=>none
def uh:(t:aJ)->Option (den t)->Option aU
 |.i64,D=>some (.int .i64 (D.getD 0))
 |.bool,D=>some (.bool (D.getD false))
 |.strs,D=>some (.sl .str (D.getD []))
 |_,_=>none
def qa(st:ai):aD->Option (Nat×Nat×List (J×Option (List J)))
 |.own o s=>match st.Y o with
  |some (.eB ar es)=>bif ar.beq s then some (o,s,es) else none
  |_=>none
 |_=>none
def q_(es:List (J×Option (List J)))(n:J):Option (List (J×Option (List J))×List J):=match dy es n with
 |none=>some (es,[])
 |some none=>none
 |some (some xs)=>some (c4 es n none,xs)
def o7:List (J×Option (List J))->Option (List (J×List J))
 |[]=>some []
 |(k,some xs)::r=>match o7 r with
  |some l=>some ((k,xs)::l)
  |none=>none
 |(_,none)::_=>none
def A6(s:Nat):aJ->Site
 |.strs=>.eB s []
 |t=>.map s t []
def a6(st:ai)(o:Nat):Nat:=match st.Y o with|some x=>x.b9+1|none=>0
def mZ(st:ai)(o s:Nat)(t:aJ)(xs:List (den t)):List (Nat×Site):=match st.Y o with
 |some (.da _ _ _)=>[]
 |_=>[(o,.da s t xs)]
def kd(st:ai):aD->Option (aU×List (Nat×Site))
 |.d v=>some (v,[])
 |.nil t=>some (.sl t [],[])
 |.own o s=>match rowOf st o s with
  |some ⟨t,xs⟩=>some (.sl t xs,mZ st o s t xs)
  |none=>match mI st o s with
   |some ⟨t,xs⟩=>some (.sl t xs,[(o,.da s t xs)])
   |none=>none
 |.clo g []=>some (.fn g [],[])
 |_=>none
def h_(st:ai):List aD->Option (List aU×List (Nat×Site))
 |[]=>some ([],[])
 |l::aa=>match kd st l,h_ st aa with
  |some (d,us),some (ds,vs)=>some (d::ds,us++vs)
  |_,_=>none
def aJ.h5:aJ->Bool
 |.pack|.recipe|.hunk|.ug|.strs=>true
 |_=>false
def sink(st:ai):aD->Option (aU×List (Nat×Site))
 |.d (.int k n)=>some (.int k n,[])
 |.d (.bool b)=>some (.bool b,[])
 |.d (.str s)=>some (.str s,[])
 |.nil t=>some (.sl t [],[])
 |.own o s=>match st.Y o with
  |some (.row ar t xs)=>bif ar.beq s&&!t.h5 then some (.sl t xs,[(o,.dead s)]) else none
  |_=>none
 |_=>none
def sinks(st:ai):List aD->Option (List aU×List (Nat×Site))
 |[]=>some ([],[])
 |l::aa=>match sink st l,sinks st aa with
  |some (d,us),some (ds,vs)=>some (d::ds,us++vs)
  |_,_=>none
def bH.cells:bH->List aD
 |.am l=>[l]
 |.agg aa=>aa
def aD.storable:aD->Bool
 |.any|.eS|.fresh _ _|.gG _ _|.eH _ _|.eN _ _ _ _ _=>false
 |.cL (.agg _)|.cL (.tuple _)=>false
 |_=>true
def gX:List aD->Bool
 |[]=>true
 |l::aa=>l.storable&&gX aa
def cut(agg:Bool)(off n:Nat)(aa:List aD):Option aP:=
 bif agg then(bif Nat.ble (off+n) aa.length then some (.av (.agg ((aa.drop off).take n))) else none)
 else match aa.drop off with|l::_=>some (bZ l)|[]=>none
def cu(ds:List aU):List aD:=ds.map .d
def bw{aK:Type}(old:List aK)(off:Nat)(new:List aK):List aK:=old.take off++new++old.drop (off+new.length)
def A8:aU->aU->Option Bool
 |.int k a,.int k' b=>if k=k' then some (a==b) else none
 |.bool a,.bool b=>some (a==b)
 |.str a,.str b=>some (a==b)
 |_,_=>none
def vY:List aD->List aD->Option Bool
 |[.d a],[.d b]=>A8 a b
 |.d a::as,.d b::bs=>match A8 a b,vY as bs with
  |some x,some y=>some (x&&y)
  |_,_=>none
 |_,_=>none
def Sp(op:BinOp)(k:IntKind)(x y:Int):dl:=
 match op with
 |.add=>.ok (one (.int k (k.wrap (x+y))))
 |.sub=>.ok (one (.int k (k.wrap (x-y))))
 |.mul=>.ok (one (.int k (k.wrap (x*y))))
 |.quo=>.eD (qj k x y) fun n=>one (.int k n)
 |.rem=>.eD (l9 x y) fun n=>one (.int k n)
 |.and=>.ok (one (.int k (UH k x y)))
 |.or=>.ok (one (.int k (V9 k x y)))
 |.xor=>.ok (one (.int k (nS k x y)))
 |.eql=>.ok (one (.bool (x==y)))
 |.neq=>.ok (one (.bool (x !=y)))
 |.lss=>.ok (one (.bool (decide (x<y))))
 |.leq=>.ok (one (.bool (decide (x<=y))))
 |.gtr=>.ok (one (.bool (decide (x>y))))
 |.geq=>.ok (one (.bool (decide (x>=y))))
 |_=>.fail
def R9(op:BinOp)(s t:J):dl:=
 match op with
 |.add=>.eD (mr s t) fun r=>one (.str r)
 |.eql=>.ok (one (.bool (s==t)))
 |.neq=>.ok (one (.bool (!(s==t))))
 |.lss=>.ok (one (.bool (Op.bytesLess s t)))
 |.leq=>.ok (one (.bool (Op.bytesLess s t||s==t)))
 |.gtr=>.ok (one (.bool (!(Op.bytesLess s t||s==t))))
 |.geq=>.ok (one (.bool (!(Op.bytesLess s t))))
 |_=>.fail
def Q4(op:BinOp)(k:IntKind)(a:Int)(k':IntKind)(b:Int):dl:=
 match op with
 |.shl=>.eD (H9 k a b) fun n=>one (.int k n)
 |.shr=>.eD (o_ k a b) fun n=>one (.int k n)
 |op=>if k=k' then Sp op k a b else .fail
def RD(op:BinOp)(ti:cm)(a b:Bool):dl:=
 match ti with
 |.bool=>match op with
  |.eql=>.ok (one (.bool (a==b)))
  |.neq=>.ok (one (.bool (!(a==b))))
  |_=>.fail
 |_=>.fail
def rO:List aD->List aD->Bool
 |[],[]=>true
 |.d (.int _ _)::z,.d (.int _ _)::l=>rO z l
 |.d (.bool _)::z,.d (.bool _)::l=>rO z l
 |.d (.str _)::z,.d (.str _)::l=>rO z l
 |_,_=>false
def SI(op:BinOp)(ti:cm)(xs ys:List aD):dl:=
 match ti with
 |.struct _ n z true=>bif xs.length.beq n&&rO z xs then
   match vY xs ys with
   |some b=>match op with
    |.eql=>.ok (one (.bool b))
    |.neq=>.ok (one (.bool (!b)))
    |_=>.fail
   |none=>.fail
  else .fail
 |_=>.fail
def BW(op:BinOp)(ti:cm)(D:Option Int):dl:=
 match ti with
 |.iface=>match op with
  |.eql=>.ok (one (.bool D.isNone))
  |.neq=>.ok (one (.bool D.isSome))
  |_=>.fail
 |_=>.fail
def A':Operand->Bool
 |.const .nilIface=>true
 |_=>false
def Hr(op:BinOp)(ti:cm):aP->dl
 |.av (.am (.d (.err _ D)))=>BW op ti D
 |.av (.am (.cL .nilIface))=>BW op ti none
 |_=>.fail
def IY(op:BinOp)(ti:cm)(x y:aP):dl:=
 match x,y with
 |.av (.am (.d (.int k a))),.av (.am (.d (.int k' b)))=>Q4 op k a k' b
 |.av (.am (.d (.str s))),.av (.am (.d (.str t)))=>R9 op s t
 |.av (.am (.d (.bool a))),.av (.am (.d (.bool b)))=>RD op ti a b
 |.av (.agg xs),.av (.agg ys)=>SI op ti xs ys
 |_,_=>.fail
def tZ(agg:Bool)(n:Nat)(st:ai)(a:aP):dl:=
 match a with
 |.av (.am (.ptr o s off))=>match ga st o s with
  |some cells=>match cut agg off n cells with|some v=>.ok v|none=>.fail
  |none=>.fail
 |.av (.am (.eH cells off))=>match cut agg off n (cu cells) with|some v=>.ok v|none=>.fail
 |.av (.am (.eN o s u k off))=>match o' st o s with
  |some ⟨t,xs⟩=>if t=u/\off+n<=aC t then .eD (xs[k]?) fun x=>match cut agg off n (cu (enc t x)) with|some v=>v|none=>bZ .any else .fail
  |none=>.fail
 |_=>.fail
def keys{aK:Type}:List (Nat×aK)->List Nat
 |[]=>[]
 |p::r=>p.1::keys r
def gd(n:Nat):List Nat->Bool
 |[]=>false
 |m::r=>n.beq m||gd n r
def e8:List Nat->Bool
 |[]=>true
 |n::r=>!gd n r&&e8 r
def aU.h9:aU->Bool
 |.int _ _|.bool _|.str _=>true
 |_=>false
def tl(n:Nat)(st:ai)(a:aP)(v:bH):dl:=
 bif v.cells.length.beq n then
 match a with
 |.av (.am (.ptr o s off))=>match ga st o s with
  |some cells=>bif Nat.ble (off+n) cells.length&&gX v.cells then .fe (bZ (.cL undef)) [(o,.box s (bw cells off v.cells))] else .fail
  |none=>.fail
 |.av (.am (.eN o s u k off))=>match st.Y o with
  |some (.row ar t xs)=>bif ar.beq s&&Nat.ble (off+n) (aC t)&&decide (t=u) then
    match h_ st v.cells with
    |some (ds,us)=>bif(look us o).isNone then .eA ((xs[k]?).bind fun x=>dec t (bw (enc t x) off ds)) (fun _=>bZ (.cL undef)) fun x=>us++[(o,.row s t (xs.set k x))] else .fail
    |none=>.fail
   else .fail
  |some (.deep ar t xs)=>bif ar.beq s&&decide (t=u) then(bif off.beq 0&&n.beq (aC t) then
    match sinks st v.cells with
    |some (ds,us)=>bif(look us o).isNone&&e8 (keys us) then .eA ((xs[k]?).bind fun _=>dec t ds) (fun _=>bZ (.cL undef)) fun x=>us++[(o,.deep s t (xs.set k x))] else .fail
    |none=>.fail
   else match v.cells with
    |[.d d]=>bif d.h9&&Nat.blt off (aC t) then .eA ((xs[k]?).bind fun x=>dec t (bw (enc t x) off [d])) (fun _=>bZ (.cL undef)) fun x=>[(o,.deep s t (xs.set k x))] else .fail
    |_=>.fail)
   else .fail
  |_=>.fail
 |_=>.fail
 else .fail
def sR(u:aJ)(st:ai)(x:aP)(i:Int):dl:=
 match x with
 |.av (.am (.d (.sl t xs)))=>if t=u then .eD (bd xs i) fun x=>bZ (.eH (enc t x) 0) else .fail
 |.av (.am (.own o s))=>match rD st o s with
  |some ⟨t,xs⟩=>if t=u then .eD (iz xs.length i) fun k=>bZ (.eN o s t k 0) else .fail
  |none=>.fail
 |_=>.fail
def DZ(off:Nat):aP->dl
 |.av (.am (.ptr o s D))=>.ok (bZ (.ptr o s (D+off)))
 |.av (.am (.eH cells D))=>.ok (bZ (.eH cells (D+off)))
 |.av (.am (.eN o s t k D))=>.ok (bZ (.eN o s t k (D+off)))
 |_=>.fail
def it(jA:Int):Option aP->Option Int
 |none=>some jA
 |some (.av (.am (.d (.int _ n))))=>some n
 |some _=>none
def tq(ti:cm)(st:ai)(x:aP)(cp hi:Option aP):dl:=
 match x with
 |.av (.am (.d (.str s)))=>match ti,it 0 cp,it s.length hi with
  |.str,some l,some h=>.eD (cA s l h) fun r=>one (.str r)
  |_,_,_=>.fail
 |.av (.am (.d (.sl t xs)))=>match ti,it 0 cp,it xs.length hi with
  |.slice _ u _,some l,some h=>if t=u then .eD (cA xs l h) fun r=>one (.sl t r) else .fail
  |_,_,_=>.fail
 |.av (.am (.nil t))=>match ti,it 0 cp,it 0 hi with
  |.slice _ _ _,some l,some h=>.eD (cA ([]:List (den t)) l h) fun r=>one (.sl t r)
  |_,_,_=>.fail
 |.av (.am (.own o s))=>match rowOf st o s with
  |some ⟨t,xs⟩=>match ti,it 0 cp,it xs.length hi with
   |.slice _ u _,some l,some h=>if t=u then .eA (cA xs l h) (fun r=>one (.sl t r)) fun _=>mZ st o s t xs else .fail
   |_,_,_=>.fail
  |none=>.fail
 |_=>.fail
def tB(st:ai):aP->Bool
 |.av (.am (.own o s))=>(oX st o s).isSome
 |_=>false
def tr(ti:cm)(dst:Nat)(st:ai)(x:aP)(cp hi:Option aP):dl:=
 match x with
 |.av (.am (.own o s))=>match oX st o s with
  |some ⟨t,xs⟩=>match ti,it 0 cp,hi with
   |.slice _ u _,some l,none=>if t=u then .eA (cA xs l xs.length) (fun _=>bZ (.own dst (a6 (st.df o (.dead s)) dst)))
     (fun r=>[(o,.dead s),(dst,.tail (a6 (st.df o (.dead s)) dst) t r)]) else .fail
   |_,_,_=>.fail
  |none=>.fail
 |_=>.fail
def uq(ti:cm)(st:ai)(x:aP):dl:=
 match ti,x with
 |.str,.av (.am (.d (.str s)))=>.ok (one (.int .i64 s.length))
 |.slice _ _ _,.av (.am (.d (.sl _ xs)))=>.ok (one (.int .i64 xs.length))
 |.slice _ _ _,.av (.am (.nil _))=>.ok (one (.int .i64 0))
 |.slice _ _ _,.av (.am (.own o s))=>match rD st o s with
  |some ⟨_,xs⟩=>.ok (one (.int .i64 xs.length))
  |none=>.fail
 |.map _ _ _,.av (.am l)=>match mapOf st l with
  |some ⟨_,es⟩=>.ok (one (.int .i64 es.length))
  |none=>.fail
 |_,_=>.fail
def tQ(st:ai):aP->Option aU
 |.av (.am (.d (.sl t xs)))=>some (.sl t xs)
 |.av (.am (.d (.str s)))=>some (.str s)
 |.av (.am (.nil t))=>some (.sl t [])
 |.av (.am (.own o s))=>match rowOf st o s with|some ⟨t,xs⟩=>some (.sl t xs)|none=>none
 |_=>none
def re(bytes:Nat)(t:aJ)(dst:Nat)(st:ai)(s:aP)(ys:List (den t)):dl:=
 match s with
 |.av (.am (.nil _))=>.eA (cR bytes [] ys) (fun _=>bZ (.own dst (a6 st dst))) fun r=>[(dst,.row (a6 st dst) t r)]
 |.av (.am (.own o s))=>match st.Y o with
  |some (.row ar bm xs)=>bif ar.beq s then
    if ah:bm=t then .eA (cR bytes (ah▸xs:List (den t)) ys) (fun _=>bZ (.own dst (a6 (st.df o (.dead s)) dst)))
     fun r=>[(o,.dead s),(dst,.row (a6 (st.df o (.dead s)) dst) t r)]
    else .fail
   else .fail
  |some (.tail ar bm xs)=>bif ar.beq s then
    if ah:bm=t then .eA (cR bytes (ah▸xs:List (den t)) ys) (fun _=>bZ (.own dst (a6 (st.df o (.dead s)) dst)))
     fun r=>[(o,.dead s),(dst,.tail (a6 (st.df o (.dead s)) dst) t r)]
    else .fail
   else .fail
  |_=>.fail
 |_=>.fail
def tg(bytes:Nat)(t:aJ)(dst:Nat)(st:ai)(s x:aP):dl:=
 match tQ st x with
 |none=>.fail
 |some d=>match d with
  |.sl u ys=>if h:u=t then re bytes t dst st s (h▸ys:List (den t)) else .fail
  |_=>.fail
def tj(bytes:Nat)(t:aJ)(dst:Nat)(st:ai)(s x:aP):dl:=
 match x with
 |.av (.am (.own H u))=>match mI st H u with
  |some ⟨bm,ys⟩=>if h:bm=t then(match s with
   |.av (.am (.nil _))=>.eA (cR bytes [] (h▸ys:List (den t))) (fun _=>bZ (.own dst (a6 (st.df H (.dead u)) dst))) fun r=>[(H,.dead u),(dst,.deep (a6 (st.df H (.dead u)) dst) t r)]
   |.av (.am (.own o s))=>match mI st o s with
    |some ⟨t2,xs⟩=>if h2:t2=t then(bif o.beq H then .fail else
      .eA (cR bytes (h2▸xs:List (den t)) (h▸ys)) (fun _=>bZ (.own dst (a6 ((st.df H (.dead u)).df o (.dead s)) dst)))
       fun r=>[(H,.dead u),(o,.dead s),(dst,.deep (a6 ((st.df H (.dead u)).df o (.dead s)) dst) t r)]) else .fail
    |none=>.fail
   |_=>.fail) else .fail
  |none=>.fail
 |_=>.fail
def wa(st:ai):aP->Bool
 |.av (.am (.own o s))=>(mI st o s).isSome
 |_=>false
def th(bytes:Nat)(t:aJ)(dst:Nat)(st:ai)(s x:aP):dl:=
 match x with
 |.av (.am (.d (.str y)))=>if h:t=.u8 then re bytes t dst st s (h▸(bytesOf y:List (den .u8))) else .fail
 |_=>.fail
def rJ(eo:Bool)(bytes o:Nat)(st:ai)(ty:aJ)(n m:Int)(z:List aD):dl:=match bif eo&&ty.h5 then sinks st z else none with
 |some (ds,us)=>match dec ty ds with
  |some eF=>bif us.isEmpty then .eA (uI bytes n m eF) (fun _=>bZ (.own o (a6 st o))) fun r=>[(o,.deep (a6 st o) ty r)] else .fail
  |none=>.fail
 |none=>match h_ st z with
  |some (ds,_)=>match dec ty ds with
   |some eF=>.eA (uI bytes n m eF) (fun _=>bZ (.own o (a6 st o))) fun r=>[(o,.row (a6 st o) ty r)]
   |none=>.fail
  |none=>.fail
def l'(t:aJ)(st:ai):List bH->Option (List (den t)×List (Nat×Site))
 |[]=>some ([],[])
 |a::as=>match h_ st a.cells with
  |some (ds,us)=>match dec t ds,l' t st as with
   |some x,some (xs,vs)=>some (x::xs,us++vs)
   |_,_=>none
  |none=>none
def nE(t:aJ)(st:ai):List bH->Option (List (den t)×List (Nat×Site))
 |[]=>some ([],[])
 |a::as=>match sinks st a.cells with
  |some (ds,us)=>match dec t ds,nE t st as with
   |some x,some (xs,vs)=>some (x::xs,us++vs)
   |_,_=>none
  |none=>none
def m6:aP->Option bH
 |.av a=>some a
 |.jE _=>none
def nQ:List aP->Option (List bH)
 |[]=>some []
 |v::vs=>match m6 v,nQ vs with|some a,some as=>some (a::as)|_,_=>none
def p2:Nat->List (Nat×Operand)->Bool
 |_,[]=>true
 |n,(i,_)::r=>i.beq n&&p2 (n+1) r
def isByte:cm->Bool
 |.int .u8=>true
 |_=>false
def uf(C:Ctx)(src dst:TypeId)(o:Nat)(st:ai)(x:aP):dl:=
 match C.tt src,C.tt dst,x with
 |.none,_,_=>.fail
 |_,.int k,.av (.am (.d (.int _ n)))=>.ok (one (.int k (k.wrap n)))
 |_,.str,.av (.am (.d (.str s)))=>.ok (one (.str s))
 |.slice e .u8 _,.str,.av (.am (.d (.sl .u8 xs)))=>bif isByte (C.tt e) then .ok (one (.str (strOf xs))) else .fail
 |.slice e .u8 _,.str,.av (.am (.nil _))=>bif isByte (C.tt e) then .ok (one (.str [])) else .fail
 |.slice e .u8 _,.str,.av (.am (.own H s))=>match rowOf st H s with
  |some ⟨.u8,xs⟩=>bif isByte (C.tt e) then .ok (one (.str (strOf xs))) else .fail
  |_=>.fail
 |.str,.slice e .u8 _,.av (.am (.d (.str s)))=>bif isByte (C.tt e) then .eA (if s.length<=maxLen then some () else none) (fun _=>bZ (.own o (a6 st o))) fun _=>[(o,.row (a6 st o) .u8 (bytesOf s))] else .fail
 |_,_,_=>.fail
def l1(st:ai):List (Nat×Nat)->Option (List (List aU)×List (Nat×Site)×List Nat)
 |[]=>some ([],[],[])
 |(o,s)::r=>match ga st o s with
  |some cells=>match h_ st cells,l1 st r with
   |some (ds,us),some (rest,vs,bs)=>some (ds::rest,us++vs,o::bs)
   |_,_=>none
  |none=>none
def nX(st:ai):aD->Option (aD×List (Nat×Site)×List Nat)
 |.eH cells 0=>some (.eH cells 0,[],[])
 |.clo g (c::cs)=>match l1 st (c::cs) with|some (ds,us,bs)=>some (.d (.fn g ds),us,bs)|none=>none
 |l=>match kd st l with|some (d,us)=>some (.d d,us,[])|none=>none
def mM(st:ai):List aD->Option (List aD×List (Nat×Site)×List Nat)
 |[]=>some ([],[],[])
 |l::aa=>match nX st l,mM st aa with
  |some (a,us,bs),some (as,vs,cs)=>some (a::as,us++vs,bs++cs)
  |_,_=>none
def nO(st:ai):aD->Option (aD×List (Nat×Site))
 |.d v=>some (.d v,[])
 |.nil t=>some (.fresh t [],[])
 |.own o s=>match st.Y o with
  |some (.row ar t xs)=>bif ar.beq s then some (.fresh t xs,[(o,.dead s)]) else none
  |some (.da ar t xs)=>bif ar.beq s then some (.d (.sl t xs),[]) else none
  |some (.deep ar t xs)=>bif ar.beq s then some (.gG t xs,[(o,.dead s)]) else none
  |_=>none
 |.eS=>some (.eS,[])
 |.cL v=>some (.cL v,[])
 |_=>none
def wu:List aD->List aD
 |.cL (.pointer none)::r=>.eS::r
 |l=>l
def kC(st:ai):List aD->Option (List aD×List (Nat×Site))
 |[]=>some ([],[])
 |l::aa=>match nO st l,kC st aa with
  |some (a,us),some (as,vs)=>some (a::as,us++vs)
  |_,_=>none
structure kE where
 as:List Arg
 eQ:List (Nat×Site) -- rows rG Kw eQ,as arY atu frozen
 f':List Nat -- boxes rG Kw eQ
 gone:List (Nat×Site) -- boxes rG go over,and rows in ash
 boxes:List (Nat×Nat) -- n7 boxes:Y,b9
 rows:List (Option (Nat×Nat)) -- n7 cells of ase holds aiJ rows:a ar6 Y,b9
def js(st:ai):List aP->Option kE
 |[]=>some ⟨[],[],[],[],[],[]⟩
 |.av (.am (.ptr o s 0))::vs=>match ga st o s,js st vs with
  |some cells,some r=>match kC st cells with
   |some (cs,gone)=>some ⟨.ec cs::r.as,r.eQ,r.f',((o,.dead s)::gone)++r.gone,(o,s)::r.boxes,r.rows⟩
   |none=>none
  |_,_=>none
 |.av (.am l)::vs=>match nX st l,js st vs with
  |some (a,us,bs),some r=>some ⟨.av (.am a)::r.as,us++r.eQ,bs++r.f',r.gone,r.boxes,[]⟩
  |_,_=>none
 |.av (.agg aa)::vs=>match mM st aa,js st vs with
  |some (as,us,bs),some r=>some ⟨.av (.agg as)::r.as,us++r.eQ,bs++r.f',r.gone,r.boxes,[]⟩
  |_,_=>none
 |_::_=>none
def mH(st:ai):aD->Option (aD×List (Nat×Site)×List (Nat×Site)×List Nat)
 |.own o s=>match nO st (.own o s) with|some (a,us)=>some (a,us,[],[])|none=>none
 |.nil t=>some (.fresh t [],[],[],[])
 |l=>match nX st l with|some (a,us,bs)=>some (a,[],us,bs)|none=>none
def mF(st:ai):List aD->Option (List aD×List (Nat×Site)×List (Nat×Site)×List Nat)
 |[]=>some ([],[],[],[])
 |l::aa=>match mH st l,mF st aa with
  |some (a,us,b1,bs),some (as,vs,gs,cs)=>some (a::as,us++vs,b1++gs,bs++cs)
  |_,_=>none
def aD.rc:aD->Bool
 |.fresh _ _|.gG _ _=>false
 |_=>true
def gl:List aD->Bool
 |[]=>true
 |l::aa=>l.rc&&gl aa
def l6(st:ai):aD->Option (Nat×Nat)
 |.own o s=>match st.Y o with
  |some (.row _ _ _)|some (.deep _ _ _)=>some (o,s)
  |_=>none
 |_=>none
def o4(st:ai)(aa dF:List aD):List (Option (Nat×Nat)):=bif gl dF then [] else aa.map (l6 st)
def k0(st:ai):List aP->Option kE
 |[]=>some ⟨[],[],[],[],[],[]⟩
 |.av (.am l)::vs=>match mH st l,k0 st vs with
  |some (a,us,aa,bs),some r=>some ⟨.av (.am a)::r.as,aa++r.eQ,bs++r.f',us++r.gone,r.boxes,o4 st [l] [a]++r.rows⟩
  |_,_=>none
 |.av (.agg as)::vs=>match mF st as,k0 st vs with
  |some (kf,us,aa,bs),some r=>some ⟨.av (.agg kf)::r.as,aa++r.eQ,bs++r.f',us++r.gone,r.boxes,o4 st as kf++r.rows⟩
  |_,_=>none
 |_::_=>none
def s_(b:Bool)(st:ai)(vs:List aP):Option kE:=bif b then k0 st vs else js st vs
def aD.h5:aD->Bool
 |.d (.sl _ _)|.d (.fn _ _)|.d (.map _ _)=>true
 |.d _=>false
 |.fresh t _=>t.h5
 |.eS|.cL _|.gG _ _=>false
 |_=>true
def oJ:List aD->Bool
 |[]=>false
 |l::aa=>l.h5||oJ aa
def sU:List bH->Bool
 |[]=>false
 |a::as=>oJ a.cells||sU as
def sT:List (List aD)->Bool
 |[]=>false
 |a::as=>oJ a||sT as
def take(st:ai)(n:Nat):List aD->List aD×List (Nat×Site)
 |[]=>([],[])
 |.fresh t xs::aa=>let r:=take st (n+1) aa;(.own n (a6 st n)::r.1,(n,.row (a6 st n) t xs)::r.2)
 |.gG t xs::aa=>let r:=take st (n+1) aa;(.own n (a6 st n)::r.1,(n,.deep (a6 st n) t xs)::r.2)
 |l::aa=>let r:=take st (n+1) aa;(l::r.1,r.2)
def dY(st:ai)(n:Nat):List bH->List bH×List (Nat×Site)
 |[]=>([],[])
 |.am l::as=>let x:=take st n [l];let r:=dY st (n+100) as;((match x.1 with|[fG]=>.am fG|aa=>.agg aa)::r.1,x.2++r.2)
 |.agg aa::as=>let x:=take st n aa;let r:=dY st (n+100) as;(.agg x.1::r.1,x.2++r.2)
def fq(st:ai):List (Nat×Nat)->List (List aD)->List (Nat×Site)
 |(o,s)::bs,cs::cJ=>let x:=take st (1000000+o*100) cs;x.2++(o,.box s x.1)::fq st bs cJ
 |_,_=>[]
def pY:List (Option (Nat×Nat))->List Nat
 |[]=>[]
 |none::r=>pY r
 |some p::r=>p.1::pY r
def e9:List (Option (Nat×Nat))->List aD->List (Nat×Site)
 |some (o,s)::r,.fresh t xs::aa=>(o,.row s t xs)::e9 r aa
 |some (o,s)::r,.gG t xs::aa=>(o,.deep s t xs)::e9 r aa
 |_::r,_::aa=>e9 r aa
 |_,_=>[]
def R':List bH->aP
 |[a]=>.av a
 |as=>.jE as
def e':List Nat->List Nat->Bool
 |[],_=>true
 |n::r,l=>!gd n l&&e' r l
def qi(dst:Nat)(st:ai)(S:bb)(a:kE):dl:=
 let r:=S a.as
 {L:=r.L,comp:=r.comp
  val:=fun y=>R' (dY st (2000000+dst*10000) (r.fc y)).1
  us:=fun y=>(bif sU (r.fc y)||sT (r.ec y)||oJ (r.eW y) then a.eQ else [])++a.gone++(fq st a.boxes (r.ec y)++e9 a.rows (r.eW y))++(dY st (2000000+dst*10000) (r.fc y)).2
  su:=fun y=>e8 (keys a.gone)&&e' (keys a.eQ++a.f') (keys a.gone)&&e8 (keys ((fq st a.boxes (r.ec y)++e9 a.rows (r.eW y))++(dY st (2000000+dst*10000) (r.fc y)).2))&&
   e' (keys a.eQ++a.f') (keys ((fq st a.boxes (r.ec y)++e9 a.rows (r.eW y))++(dY st (2000000+dst*10000) (r.fc y)).2))&&(!(sU (r.fc y)||sT (r.ec y)||oJ (r.eW y))||a.f'.isEmpty)&&(e8 (pY a.rows)&&e' (pY a.rows) (keys (fq st a.boxes (r.ec y))))}
def callee(v:aP):Option (FuncId×List (Nat×Nat)):=
 match v with
 |.av (.am (.clo g bP))=>some (g,bP)
 |_=>none
def gT(C:Ctx)(st:ai):List Operand->List TypeId->List aP
 |[],_=>[]
 |x::xs,[]=>aS C st 0 x::gT C st xs []
 |x::xs,T::cY=>aS C st T x::gT C st xs cY
def lX:List (List aU)->List Arg
 |[]=>[]
 |c::cs=>.av (.am (.eH c 0))::lX cs
def to(g:FuncId)(n:Nat)(st:ai):List aP->dl
 |[.av (.am (.d (.str s))),.av (.am (.d (.str p)))]=>.fe (bZ (.clo g [(n,a6 st n),(n+1,a6 st (n+1)),(n+2,a6 st (n+2))]))
   [(n,.box (a6 st n) [.d (.str p)]),(n+1,.box (a6 st (n+1)) [.d (.str s)]),(n+2,.box (a6 st (n+2)) [.d (.int .i64 0)])]
 |_=>.fail
def copyV(st:ai):List aP->dl
 |[.av (.am (.ptr o s 0))]=>match st.Y o with
  |some (.box ar [.eS,l])=>bif ar.beq s then .fe (.jE []) [(o,.box s [.eS,l])] else .fail
  |_=>.fail
 |_=>.fail
def s7(st:ai):List aP->dl
 |[.av (.am (.ptr o s 0))]=>match ga st o s with
  |some [_,.nil .u8]=>.ok (one (.str []))
  |some [_,.own H u]=>match st.Y H with
   |some (.row bv .u8 xs)=>bif bv.beq u then .fe (one (.str (strOf xs))) [(H,.da u .u8 xs)] else .fail
   |_=>.fail
  |_=>.fail
 |_=>.fail
def tU(n:Nat)(st:ai):List aP->dl
 |[.av (.am (.d (.sl .u8 xs)))]=>.fe (bZ (.ptr n (a6 st n) 0)) [(n,.box (a6 st n) [.d (.sl .u8 (xs.take 2000)),.d (.int .i64 0)])]
 |_=>.fail
def mD(C:Ctx)(dst:Nat)(st:ai)(f:aP)(vs:List aP):dl:=
  match f with
  |.av (.am (.clo g bP))=>match C.lC g with
   |some cK=>match bP with
    |[]=>to cK (3000000+dst*10) st vs
    |_=>.fail
   |none=>bif C.op g then(match bP with
    |[]=>tU (4000000+dst) st vs
    |_=>.fail) else bif C.ij g then(match bP with
    |[]=>copyV st vs
    |_=>.fail) else bif C.bs g then(match bP with
    |[]=>s7 st vs
    |_=>.fail) else match C.b1 g,s_ (C.ow g) st vs,l1 st bP with
    |some S,some a,some (cs,us,bs)=>qi dst st S {a with as:=a.as++lX cs,eQ:=a.eQ++us,f':=a.f'++bs}
    |_,_,_=>.fail
  |.av (.am (.d (.fn g bP)))=>match C.b1 g,js st vs with
    |some S,some a=>qi dst st S {a with as:=a.as++lX bP}
    |_,_=>.fail
  |_=>.fail
def Cn(t:aJ)(xs:List (den t))(n:Nat):List aD:=match x6 t with
 |some z=>(List.range n).flatMap fun j=>cu (enc t (xs.getD j z))
 |none=>[]
def uz(t:aJ):List aD->Option (List (den t))
 |[]=>some []
 |.d d::aa=>match dec t [d],uz t aa with
  |some x,some xs=>some (x::xs)
  |_,_=>none
 |_=>none
def long{aK:Type}(n:Nat)(xs:List aK):Option (List aK):=if xs.length=n then some xs else none
def rI(o:Nat)(st:ai)(t:aJ)(n:Nat)(xs:List (den t)):dl:=bif xs.length.beq n&&Nat.ble n 1000 then .fe (bZ (.eN o (a6 st o) t 0 0)) [(o,.row (a6 st o) t xs)] else .fail
def tM(o:Nat)(st:ai)(t:aJ)(n:Nat):dl:=match x6 t with
 |some z=>rI o st t n (List.replicate n z)
 |none=>.fail
def uB(o:Nat)(st:ai)(t:aJ)(n:Nat)(v:aP):dl:=match v with
 |.av (.agg aa)=>match uz t aa with
  |some xs=>rI o st t n xs
  |none=>.fail
 |_=>.fail
def t_(st:ai)(t:aJ)(n:Nat)(a:aP):dl:=match a with
 |.av (.am (.eN o s u 0 0))=>match rowOf st o s with
  |some ⟨bm,xs⟩=>if bm=t/\bm=u then .eD (long n xs) fun xs=>.av (.agg (Cn bm xs n)) else .fail
  |none=>.fail
 |_=>.fail
def tn(st:ai)(t:aJ)(n:Nat)(a:aP)(v:bH):dl:=match a,v with
 |.av (.am (.eN o s u 0 0)),.agg aa=>match st.Y o with
  |some (.row ar bm xs)=>if bm=t/\bm=u/\ar=s then(match uz bm aa with
   |some ys=>bif ys.length.beq n then .eA (long n xs) (fun _=>bZ (.cL undef)) fun _=>[(o,.row s bm ys)] else .fail
   |none=>.fail) else .fail
  |_=>.fail
 |_,_=>.fail
def sS(C:Ctx)(st:ai)(t:aJ)(n:Nat)(x:aP)(i:Int):dl:=match x with
 |.av (.am (.eN o s u 0 0))=>match rowOf st o s with
  |some ⟨bm,xs⟩=>if bm=t/\bm=u then .eD ((long n xs).bind fun xs=>iz xs.length i) fun k=>bZ (.eN o s bm k 0) else .fail
  |none=>.fail
 |.av (.am (.cL (.pointer (some ⟨g,0,none⟩))))=>match C.gt g with
  |some ⟨bm,xs⟩=>bif decide (bm=t)&&xs.length.beq n then .eD (bd xs i) fun x=>bZ (.eH (enc bm x) 0) else .fail
  |none=>.fail
 |_=>.fail
def Hl(t:aJ)(n:Nat)(x:aP)(i:Int):dl:=match x with
 |.av (.agg aa)=>match uz t aa with
  |some xs=>bif xs.length.beq n then .eD (bd xs i) fun x=>(match enc t x with|[d]=>bZ (.d d)|_=>bZ .any) else .fail
  |none=>.fail
 |_=>.fail
def ts(st:ai)(t:aJ)(n:Nat)(x:aP)(cp hi:Option aP):dl:=match x with
 |.av (.am (.eN o s u 0 0))=>match rowOf st o s,it 0 cp,it n hi with
  |some ⟨bm,xs⟩,some l,some h=>if bm=t/\bm=u then .eA ((long n xs).bind fun xs=>cA xs l h) (fun r=>bZ (.d (.sl bm r))) fun _=>mZ st o s bm xs else .fail
  |_,_,_=>.fail
 |_=>.fail
def lV(C:Ctx)(st:ai)(D:Oper):dl:=
 match D.op with
 |.makeMap t r=>match D.dst,C.tt t with
  |some o,.map _ _ ty=>match r with
   |none=>.fe (bZ (.own o (a6 st o))) [(o,A6 (a6 st o) ty)]
   |some x=>match aS C st 0 x with
    |.av (.am (.d (.int _ _)))=>.fe (bZ (.own o (a6 st o))) [(o,A6 (a6 st o) ty)]
    |_=>.fail
  |_,_=>.fail
 |.mapUpdate t m k x=>tz C st t m k x
 |.insert t m k x=>tz C st t m k x
 |.lookup t m k c=>match C.tt t,aS C st t m,aS C st 0 k with
  |.map _ _ ty,.av (.am l),.av (.am (.d (.str n)))=>match mapOf st l with
   |some ⟨u,es⟩=>bif decide (u=ty) then(match uh u (dy es n) with
    |some d=>.ok (bif c then .jE [.am (.d d),.am (.d (.bool (dy es n).isSome))] else one d)
    |none=>.fail) else .fail
   |none=>match ty,qa st l,D.dst with
    |.strs,some (o,s,es),some d=>bif c||o.beq d then .fail else .eA (q_ es n) (fun _=>bZ (.own d (a6 st d))) fun r=>[(o,.eB s r.1),(d,.row (a6 st d) .str r.2)]
    |_,_,_=>.fail
  |_,_,_=>.fail
 |.makeInterface t x=>match C.tt t,aS C st t x with
  |.struct _ _ _ _,.av (.agg [.d (.int .i64 n)])=>.ok (one (.err t (some n)))
  |_,_=>.fail
 |_=>.fail
where
 tz (C:Ctx) (st:ai) (t:TypeId) (m k x:Operand):dl:=match C.tt t,aS C st t m,aS C st 0 k,aS C st 0 x with
  |.map _ _ ty,.av (.am (.own o s)),.av (.am (.d (.str n))),.av (.am (.d d))=>match st.Y o with
   |some (.map ar u es)=>bif ar.beq s&&decide (u=ty) then(match H7 u d with
    |some v=>.fe (bZ (.cL undef)) [(o,.map s u (c4 es n v))]
    |none=>.fail) else .fail
   |_=>.fail
  |.map _ _ .strs,.av (.am (.own o s)),.av (.am (.d (.str n))),.av (.am (.own H u))=>match st.Y o,st.Y H with
   |some (.eB ar es),some (.row bv .str ys)=>bif ar.beq s&&bv.beq u then .fe (bZ (.cL undef)) [(H,.dead u),(o,.eB s (c4 es n (some ys)))] else .fail
   |_,_=>.fail
  |_,_,_,_=>.fail
def step(C:Ctx)(st:ai)(D:Oper):dl:=
 match D.op with
 |.move x|.assign x=>.ok (aS C st D.type x)
 |.pick c a b=>match aS C st D.type c with
  |.av (.am (.d (.bool true)))=>.ok (aS C st D.type a)
  |.av (.am (.d (.bool false)))=>.ok (aS C st D.type b)
  |_=>.fail
 |.alloc elem=>match D.dst,C.tt elem with
  |some o,.arr _ t n=>tM o st t n
  |some o,ti=>match ti.zero with
   |some z=>.fe (bZ (.ptr o (a6 st o) 0)) [(o,.box (a6 st o) (bif elem.beq sr then wu z else z))]
   |none=>.fail
  |_,_=>.fail
 |.box elem x=>match D.dst,C.tt elem with
  |some o,.arr _ t n=>uB o st t n (aS C st elem x)
  |some o,_=>match m6 (aS C st elem x) with
   |some a=>bif gX a.cells then .fe (bZ (.ptr o (a6 st o) 0)) [(o,.box (a6 st o) a.cells)] else .fail
   |none=>.fail
  |_,_=>.fail
 |.build t parts=>match C.tt t with
  |.struct b1 _ z _=>nK C st b1 z parts.toList
  |.arr _ ty n=>match uC ty with
   |some z=>nK C st ((List.range n).map fun j=>(j,1)) (List.replicate n z) parts.toList
   |none=>.fail
  |_=>.fail
 |.buildSlice t len parts=>match D.dst,C.tt t with
  |some o,.slice e ty _=>bif parts.toList.length.beq len&&p2 0 parts.toList&&Nat.ble (len*aC ty) 1000 then
    match nQ (parts.toList.map fun p=>aS C st e p.2) with
    |some as=>match bif C.eo&&ty.h5 then nE ty st as else none with
     |some (xs,us)=>bif e8 (keys us)&&(look us o).isNone then .fe (bZ (.own o (a6 st o))) (us++[(o,.deep (a6 st o) ty xs)]) else .fail
     |none=>match l' ty st as with
      |some (xs,us)=>.fe (bZ (.own o (a6 st o))) (us++[(o,.row (a6 st o) ty xs)])
      |none=>.fail
    |none=>.fail
   else .fail
  |_,_=>.fail
 |.load t a=>match C.tt t with
  |.arr _ ty n=>t_ st ty n (aS C st t a)
  |ti=>bif ti.known then tZ ti.agg ti.size st (aS C st t a) else .fail
 |.store t a x=>match m6 (aS C st t x) with
  |some v=>match C.tt t with
   |.arr _ ty n=>tn st ty n (aS C st t a) v
   |ti=>bif ti.known then tl ti.size st (aS C st t a) v else .fail
  |none=>.fail
 |.nilCheck x=>match aS C st D.type x with
  |.av (.am (.ptr o s f))=>.ok (bZ (.ptr o s f))
  |.av (.am (.eH cs f))=>.ok (bZ (.eH cs f))
  |.av (.am (.eN o s t k f))=>.ok (bZ (.eN o s t k f))
  |_=>.fail
 |.binOp op t x y _=>bif A' y then Hr op (C.tt t) (aS C st t x) else IY op (C.tt t) (aS C st t x) (aS C st t y)
 |.unOp op _ x=>match op,aS C st D.type x with
  |.not,.av (.am (.d (.bool b)))=>.ok (one (.bool (!b)))
  |.neg,.av (.am (.d (.int k n)))=>.ok (one (.int k (k.wrap (0-n))))
  |.xor,.av (.am (.d (.int k n)))=>.ok (one (.int k (nS k (if k.signed then-1 else k.max) n)))
  |_,_=>.fail
 |.convert src dst x=>(match D.dst with|some o=>uf C src dst o st (aS C st src x)|none=>.fail)
 |.makeFunc fn first captured=>match fn with
  |.func g=>bif first.toList.isEmpty then(match o6 C st captured.toList with|some bP=>.ok (bZ (.clo g bP))|none=>.fail) else .fail
  |_=>.fail
 |.makeSlice t l c=>match D.dst,C.tt t,aS C st 0 l,aS C st 0 c with
  |some o,.slice e ty bytes,.av (.am (.d (.int _ n))),.av (.am (.d (.int _ m)))=>match(C.tt e).zero with
   |some z=>rJ C.eo bytes o st ty n m z
   |none=>.fail
  |_,_,_,_=>.fail
 |.slice t x cp hi Di=>match Di with
  |none=>match C.tt t with
   |.arr _ ty n=>ts st ty n (aS C st t x) (cp.map (aS C st 0)) (hi.map (aS C st 0))
   |ti=>bif tB st (aS C st t x) then(match D.dst with
    |some d=>tr ti d st (aS C st t x) (cp.map (aS C st 0)) (hi.map (aS C st 0))
    |none=>.fail) else tq ti st (aS C st t x) (cp.map (aS C st 0)) (hi.map (aS C st 0))
  |some _=>.fail
 |.fieldAddr s x f=>match C.tt s with
  |.struct b1 _ _ _=>match b1[f]? with
   |some (off,_)=>DZ off (aS C st 0 x)
   |none=>.fail
  |_=>.fail
 |.indexAddr t x i=>match C.tt t,aS C st 0 i with
  |.slice _ ty _,.av (.am (.d (.int _ n)))=>sR ty st (aS C st t x) n
  |.arr _ ty m,.av (.am (.d (.int _ n)))=>sS C st ty m (aS C st t x) n
  |_,_=>.fail
 |.index t x i=>match C.tt t,aS C st t x,aS C st 0 i with
  |.str,.av (.am (.d (.str s))),.av (.am (.d (.int _ n)))=>.eD (bd s n) fun b=>one (.int .u8 b.toNat)
  |.arr _ ty m,v,.av (.am (.d (.int _ n)))=>Hl ty m v n
  |_,_,_=>.fail
 |.extract t i=>match aS C st 0 t with
  |.jE as=>match as[i]? with
   |some a=>.ok (.av a)
   |none=>.fail
  |_=>.fail
 |.call c=>match c.callee with
  |.value f=>match D.dst with
   |some d=>mD C d st (aS C st 0 f) (gT C st c.args.toList c.argTypes.toList)
   |none=>mD C 0 st (aS C st 0 f) (gT C st c.args.toList c.argTypes.toList)
  |.builtin b=>match b,D.dst,c.args.toList,c.argTypes.toList with
   |.len,_,[x],[t]=>uq (C.tt t) st (aS C st t x)
   |.append,some o,[s,x],[t,u]=>match C.tt t,C.tt u with
    |.slice _ ty bytes,.slice _ _ _=>bif wa st (aS C st u x) then tj bytes ty o st (aS C st t s) (aS C st u x) else tg bytes ty o st (aS C st t s) (aS C st u x)
    |.slice _ ty bytes,.str=>th bytes ty o st (aS C st t s) (aS C st u x)
    |_,_=>.fail
   |.max,_,[x,y],_=>match aS C st D.type x,aS C st D.type y with
    |.av (.am (.d (.int k a))),.av (.am (.d (.int _ b)))=>.ok (one (.int k (hJ a b)))
    |_,_=>.fail
   |.max,_,[x,y,z,u,v],_=>match aS C st D.type x,aS C st D.type y,aS C st D.type z,aS C st D.type u,aS C st D.type v with
    |.av (.am (.d (.int k a))),.av (.am (.d (.int _ b))),.av (.am (.d (.int _ c))),.av (.am (.d (.int _ d))),.av (.am (.d (.int _ e)))=>.ok (one (.int k (hJ (hJ (hJ (hJ a b) c) d) e)))
    |_,_,_,_,_=>.fail
   |.min,_,[x,y],_=>match aS C st D.type x,aS C st D.type y with
    |.av (.am (.d (.int k a))),.av (.am (.d (.int _ b)))=>.ok (one (.int k (B8 a b)))
    |_,_=>.fail
   |_,_,_,_=>.fail
  |_=>.fail
 |_=>lV C st D
where
 nK (C:Ctx) (st:ai) (b1:List (Nat×Nat)):List aD->List (Nat×Operand)->dl
  |z,[]=>.ok (.av (.agg z))
  |z,(i,x)::r=>match b1[i]?,m6 (aS C st 0 x) with
   |some (off,n),some a=>bif a.cells.length.beq n&&gX a.cells&&Nat.ble (off+n) z.length then nK C st b1 (bw z off a.cells) r else .fail
   |_,_=>.fail
 o6 (C:Ctx) (st:ai):List Operand->Option (List (Nat×Nat))
  |[]=>some []
  |x::r=>match aS C st 0 x,o6 C st r with
   |.av (.am (.ptr o s 0)),some l=>some ((o,s)::l)
   |_,_=>none
def Ha(C:Ctx)(st:ai)(D:Oper):Option (((t:aJ)×List (den t))×Bool):=
 match D.op with
 |.binOp op T x (.const (.slice none 0 0)) _=>match C.tt T with
  |.slice _ _ _=>match op with
   |.eql=>match aS C st T x with
    |.av (.am (.d (.sl t xs)))=>some (⟨t,xs⟩,false)
    |_=>none
   |.neq=>match aS C st T x with
    |.av (.am (.d (.sl t xs)))=>some (⟨t,xs⟩,true)
    |_=>none
   |_=>none
  |_=>none
 |_=>none
def aD.names:aD->List Nat
 |.own o _|.ptr o _ _|.eN o _ _ _ _=>[o]
 |.clo _ bP=>keys bP
 |_=>[]
def cS:List aD->List Nat
 |[]=>[]
 |l::aa=>l.names++cS aa
def pX:List bH->List Nat
 |[]=>[]
 |a::as=>cS a.cells++pX as
def aP.names:aP->List Nat
 |.av a=>cS a.cells
 |.jE as=>pX as
def yF(st:ai)(o:Nat):List Nat:=match st.Y o with
 |some (.box _ cells)=>cS cells
 |_=>[]
def eP(st:ai):List Nat->List Nat
 |[]=>[]
 |o::r=>o::(yF st o++eP st r)
def l3:Op->List Operand
 |.move x|.assign x|.makeInterface _ x|.box _ x|.load _ x|.nilCheck x|.unOp _ _ x|.convert _ _ x|.fieldAddr _ x _|.extract x _=>[x]
 |.pick c a b=>[c,a,b]
 |.build _ F|.buildSlice _ _ F=>F.toList.map (·.2)
 |.store _ a v|.binOp _ _ a v _|.makeSlice _ a v|.indexAddr _ a v|.index _ a v=>[a,v]
 |.makeFunc _ _ captured=>captured.toList
 |.slice _ x l h _=>x::(l.toList++h.toList)
 |.call c=>(match c.callee with|.value f=>[f]|_=>[])++c.args.toList
 |.lookup _ m k _=>[m,k]
 |.mapUpdate _ m k x|.insert _ m k x=>[m,k,x]
 |.makeMap _ r=>r.toList
 |_=>[]
def oQ(st:ai):List Operand->List Nat
 |[]=>[]
 |.tmp t::r=>(st.get t).names++oQ st r
 |_::r=>oQ st r
def pZ:List Operand->List Nat
 |[]=>[]
 |.tmp t::r=>t::pZ r
 |_::r=>pZ r
def Ba:Op->Bool
 |.call c=>match c.callee with
  |.value _=>true
  |_=>false
 |_=>false
def HF(C:Ctx):Op->List Nat
 |.makeSlice t _ _=>match C.tt t with
  |.slice e _ _=>match(C.tt e).zero with
   |some z=>cS z
   |none=>[]
  |_=>[]
 |_=>[]
def looks:Op->Bool
 |.load _ _|.store _ _ _|.slice _ _ _ _ _|.indexAddr _ _ _|.convert _ _ _|.buildSlice _ _ _|.call _|.lookup _ _ _ _|.mapUpdate _ _ _ _|.insert _ _ _ _=>true
 |_=>false
def HT(C:Ctx)(st:ai)(D:Oper):List Nat:=(bif looks D.op then eP st (oQ st (l3 D.op)) else [])++D.dst.toList++HF C D.op
def OO(u:Nat):List Oper->List Nat
 |[]=>[]
 |D::r=>(match D.op,D.dst with
  |.move (.tmp t),some d=>bif Nat.beq d u then [t] else []
  |_,_=>[])++OO u r
def EW(all:List Oper):List Oper->List Nat
 |[]=>[]
 |D::r=>(match D.op with
  |.slice _ (.tmp u) _ _ _=>u::OO u all
  |_=>[])++EW all r
def SF(st:ai)(t:Nat):List (Nat×Site):=match st.get t with
 |.av (.am (.own o s))=>match st.Y o with
  |some (.row ar t xs)=>bif ar.beq s then [(o,.da ar t xs)] else []
  |_=>[]
 |_=>[]
def Bl(st:ai):List Nat->List (Nat×Site)
 |[]=>[]
 |t::r=>SF st t++Bl st r
def ai.iu(st:ai):List (Nat×Site)->ai
 |[]=>st
 |(o,s)::r=>(st.df o s).iu r
def ai.cM(st:ai)(dst:Option Nat)(v:aP)(us:List (Nat×Site)):ai:=
 match dst with
 |some t=>(st.iu us).set t v
 |none=>st.iu us
def cd(st:ai):Option Nat->Bool
 |some t=>Nat.blt t st.nt
 |none=>true
abbrev AR:aP:=bZ (.cL undef)
section
variable {R:Type}
open Classical in
noncomputable def oK{t:aJ}(xs:List (den t))(a b:Option R):Option R:=if xs=[]->a=b then b else none
def k3(C:Ctx)(st:ai)(D:Oper)(K:ai->Option R):Option R:=
 bif cd st D.dst then(step C st D).comp.bind fun y=>bif(step C st D).su y then K (st.cM D.dst ((step C st D).val y) ((step C st D).us y)) else none else none
noncomputable def ww(C:Ctx)(st:ai)(D:Oper)(K:ai->Option R):Option R:=
 match Ha C st D with
 |some (⟨t,xs⟩,neg)=>bif cd st D.dst then oK xs (K (st.cM D.dst (one (.bool (!neg))) [])) (K (st.cM D.dst (one (.bool neg)) [])) else none
 |none=>k3 C st D K
def tu(st:ai)(D:Oper)(K:ai->Option R):Option R:=
 bif cd st D.dst then K (st.cM D.dst AR []) else none
noncomputable def vU(C:Ctx)(ops:Array Oper)(st:ai)(D:Oper)(K:ai->Option R):Option R:=
 match D.guard with
 |none=>ww C st D K
 |some (j,want)=>match(ops[j]?).bind (·.dst) with
  |some t=>match st.get t with
   |.av (.am (.d (.bool b)))=>bif(bif want then b else !b) then ww C (st.set t (one (.bool want))) D K else tu (st.set t (one (.bool (!want)))) D K
   |.av (.am (.cL (.tuple _)))=>tu st D K
   |_=>none
  |none=>none
structure rE:Type 1 where
 o:Nat
 s:Nat
 t:aJ
 xs:List (den t)
 k:Nat
 off:Nat
 S:bb
 i:IntKind
 n:Int
 d1:Nat
 eo:Nat
 v:aP
def ai.pa(st:ai)(q:rE):ai:=(st.set q.d1 (bZ .any)).set q.eo q.v
def v_(C:Ctx)(st:ai)(D:Oper):Option (Nat×aP):=match D.op,D.dst,D.guard with
 |.move x,some eo,none=>bif Nat.blt eo st.nt then some (eo,aS C st D.type x) else none
 |_,_,_=>none
def tW(C:Ctx)(st:ai)(o1 fE o2:Oper):Option rE:=
 match o1.op,o1.dst,o1.guard,o2.op,o2.guard with
 |.load T a,some d1,none,.call c,none=>match aS C st T a with
  |.av (.am (.eN o s u k off))=>match st.Y o,c.callee,c.args.toList with
   |some (.deep ar t xs),.value (.func g),[.tmp d2,x]=>match v_ C (st.set d1 (bZ .any)) fE with
    |some (eo,v)=>match C.tt T,aS C ((st.set d1 (bZ .any)).set eo v) 0 x,C.b1 g with
     |.slice _ _ _,.av (.am (.d (.int i n))),some S=>bif d2.beq d1&&ar.beq s&&decide (t=u)&&Nat.blt d1 st.nt&&!eo.beq d1 then some ⟨o,ar,t,xs,k,off,S,i,n,d1,eo,v⟩ else none
     |_,_,_=>none
    |none=>none
   |_,_,_=>none
  |_=>none
 |_,_,_,_,_=>none
def Si(st:ai)(o2:Oper)(q:rE)(x:den q.t)(K:ai->Option R):List bH->List (List aD)->List aD->Option R
 |[.am (.d d)],[],[.fresh bv n5]=>match dec q.t (bw (enc q.t x) q.off [.sl bv n5]) with
  |some dt=>bif d.h9&&!bv.h5&&cd st o2.dst then K ((st.pa q).cM o2.dst (one d) [(q.o,.deep q.s q.t (q.xs.set q.k dt))]) else none
  |none=>none
 |_,_,_=>none
def PC(st:ai)(o2:Oper)(q:rE)(K:ai->Option R):Option R:=
 (q.xs[q.k]?).bind fun x=>match(enc q.t x)[q.off]? with
  |some (.sl u ys)=>(q.S [.av (.am (.fresh u ys)),.av (.am (.d (.int q.i q.n)))]).comp.bind fun y=>
    Si st o2 q x K ((q.S [.av (.am (.fresh u ys)),.av (.am (.d (.int q.i q.n)))]).fc y) ((q.S [.av (.am (.fresh u ys)),.av (.am (.d (.int q.i q.n)))]).ec y) ((q.S [.av (.am (.fresh u ys)),.av (.am (.d (.int q.i q.n)))]).eW y)
  |_=>none
noncomputable def nF(C:Ctx)(ops:Array Oper):List Oper->ai->(ai->Option R)->Option R
 |[],st,K=>K st
 |[D],st,K=>vU C ops st D K
 |[D,o2],st,K=>vU C ops st D fun aj=>nF C ops [o2] aj K
 |D::fE::o2::r,st,K=>match tW C st D fE o2 with
  |some q=>PC st o2 q fun aj=>nF C ops r aj K
  |none=>vU C ops st D fun aj=>nF C ops (fE::o2::r) aj K
structure Rec where
 D:Oper
 go:Bool
 v:aP
 us:List (Nat×Site)
 lD:List Nat
 rn:List Nat
 C8:Bool
def wl:List Nat->Bool
 |[]=>false
 |n::r=>Nat.ble 1000000 n||wl r
def uo(d:Option Nat)(l:List Nat):Bool:=match d with|some d=>gd d l|none=>false
def mU(a b:Rec):Bool:=
 uo a.D.dst b.lD||uo a.D.dst b.D.dst.toList||uo b.D.dst a.lD||
 !e' (keys a.us) (b.rn++keys b.us)||!e' (keys b.us) a.rn||(a.C8&&wl (keys b.us))||(b.C8&&wl (keys a.us))
def k_(bs:List (Nat×Nat)):List Edge->Nat
 |[]=>0
 |e::r=>bif Region.binds .any e then(match look bs e.on with|some x=>Nat.lor (Nat.pow 2 e.on) (Nat.lor x (k_ bs r))|none=>k_ bs r) else k_ bs r
def tf(i:Nat):List Edge->Bool
 |[]=>true
 |e::r=>(!Region.binds .any e||Nat.blt e.on i)&&tf i r
def tx(xZ:Nat)(x:Rec):List (Nat×Rec)->Bool
 |[]=>true
 |(j,y)::r=>(Nat.testBit xZ j||!mU y x)&&tx xZ x r
def PR(i:Nat):List Oper->Bool
 |[]=>false
 |D::r=>(match D.guard with|some (j,_)=>Nat.beq i j|none=>false)||PR i r
def Is(g:Bool)(v:aP)(K:aP->Option R):Option R:=
 bif g then(match v with
  |.av (.am (.d (.bool b)))=>bif b then K (one (.bool true)) else K (one (.bool false))
  |v=>K v) else K v
def AL(C:Ctx)(g:Bool)(st:ai)(D:Oper)(gs:List Nat)(K:Rec->Option R):Option R:=
 (step C st D).comp.bind fun y=>bif(step C st D).su y then Is g ((step C st D).val y) fun v=>
  K ⟨D,true,v,(step C st D).us y,gs++pZ (l3 D.op),HT C st D,Ba D.op⟩ else none
def Fi(D:Oper)(gs:List Nat)(K:Rec->Option R):Option R:=K ⟨D,false,AR,[],gs,[],false⟩
def Ht(C:Ctx)(ops:Array Oper)(g:Bool)(st:ai)(D:Oper)(K:Rec->Option R):Option R:=
 match D.guard with
 |none=>AL C g st D [] K
 |some (j,want)=>match(ops[j]?).bind (·.dst) with
  |some t=>match st.get t with
   |.av (.am (.d (.bool b)))=>bif(bif want then b else !b) then AL C g st D [t] K else Fi D [t] K
   |.av (.am (.cL (.tuple _)))=>Fi D [t] K
   |_=>none
  |none=>none
def BA(C:Ctx)(ops:Array Oper):List Oper->Nat->List (Nat×Rec)->List (Nat×Nat)->ai->(ai->Option R)->Option R
 |[],_,_,_,st,K=>K st
 |D::r,i,bV,bs,st,K=>bif cd st D.dst&&tf i D.after.toList then Ht C ops (PR i r) st D fun x=>
   bif tx (k_ bs D.after.toList) x bV then BA C ops r (i+1) ((i,x)::bV) ((i,k_ bs D.after.toList)::bs) (st.cM D.dst x.v x.us) K else none
  else none
def P2(C:Ctx)(ops:Array Oper)(st:ai)(K:ai->Option R):Option R:=BA C ops ops.toList 0 [] [] (st.iu (Bl st (EW ops.toList ops.toList))) K
inductive Out:Type where
 |norm (st:ai)
 |exit (id:Nat) (st:ai)
 |ret (st:ai)
structure ale:Type 1 where
 L:Type
 comp:Option L
 out:L->Out
 run:(R:Type)->L->(Out->Option R)->Option R
 run_eq:∀(R:Type) (y:L) (K:Out->Option R),run R y K=K (out y)
abbrev hR:=ai->ale
structure h':Type 1 extends Ctx where
 pm:Nat->Option hR
def wrap(C:h')(p:Nat)(st:ai)(K:Out->Option R)(x:Option R):Option R:=
 match C.pm p with
 |some f=>(f st).comp.bind fun y=>(f st).run R y K
 |none=>x
noncomputable def exec(C:h'):Code->Nat->ai->(Out->Option R)->Option R
 |.skip,_,st,K=>K (.norm st)
 |.region _ ops false,p,st,K=>wrap C p st K (nF C.toCtx ops ops.toList st fun aj=>K (.norm aj))
 |.region _ ops true,p,st,K=>wrap C p st K (P2 C.toCtx ops st fun aj=>K (.norm aj))
 |.seq a b,p,st,K=>wrap C p st K (exec C a (2*p) st fun
  |.norm aj=>exec C b (2*p+1) aj K
  |D=>K D)
 |.cond c a b,p,st,K=>wrap C p st K (match aS C.toCtx st 0 c with
  |.av (.am (.d (.bool t)))=>bif t then exec C a (2*p) st K else exec C b (2*p+1) st K
  |_=>none)
 |.block id c,p,st,K=>wrap C p st K (exec C c (2*p) st fun
  |.exit jj aj=>bif jj.beq id then K (.norm aj) else K (.exit jj aj)
  |D=>K D)
 |.loop _,p,st,K=>wrap C p st K none
 |.rangeFunc _ _ _ _,p,st,K=>wrap C p st K none
 |.exit id,_,st,K=>K (.exit id st)
 |.ret,_,st,K=>K (.ret st)
 |_,_,_,_=>none
end
section
variable {B aE:Nat->Value}{sites bp:List (Nat×Site)}{w w':World}{av bX:Nat->Prop}
structure hd(B aE:Nat->Value)(sites bp:List (Nat×Site))(w w':World)(av bX:Nat->Prop):Prop where
 ref:∀o Y,look sites o=some Y->∃bF,look bp o=some bF/\Y.b9<=bF.b9/\(bF.b9=Y.b9->bT (aE o)=bT (B o))
 aW:∀b,¬av b->b<w.heap.size->w'.heap[b]? =w.heap[b]?
 av:∀b,¬av b->b<w.heap.size->¬bX b
theorem Rd.goes{d:aU}{v:Value}(G:hd B aE sites bp w w' av bX)(M:w.heap.size<=w'.heap.size)(asH:∀b,bX b->b<w'.heap.size)(r:Rd w av d v):Rd w' bX d v:=by
 induction r with
 |int k n=>exact .int k n
 |bool b=>exact .bool b
 |str l s h=>exact .str l s h
 |nil t=>exact .nil t
 |sl t xs a cap cs n hn hcap hb hl hc _ ih=>
  have key:xs≠[]->a.block<w.heap.size:=by
   intro hne;have pe:0<cs.length:=by
    rw[hl,dU];exact Nat.mul_pos (List.length_pos_iff.mpr hne) (jq t)
   have:=hc 0 (cs[0]) (List.getElem?_eq_getElem pe);have h2:=World.block_lt_of_cell? w _ this;have fP:(a.add 0).block=a.block:=by unfold Addr.add;split<;>rfl
   rwa[fP] at h2
  refine .sl t xs a cap cs n hn hcap (fun hx=>G.av _ (hb hx) (key hx)) hl (fun j u hu=>?_) ih
  have jc:=hc j u hu;have hne:xs≠[]:=by
   rintro rfl;have:cs=[]:=List.eq_nil_of_length_eq_zero (by simpa[flat] using hl)
   subst this;simp at hu
  have fP:(a.add j).block=a.block:=by unfold Addr.add;split<;>rfl
  rw[World.cell?_of_block (w:=w) (a:=a.add j) (by rw[fP];exact G.aW _ (hb hne) (key hne))]
  exact jc
 |fn g bP bs jm lb CT gA hb a' hl hc _ ih=>
  refine .fn g bP bs jm lb CT gA (fun b hm=>G.av b (hb b hm) (a' b hm)) (fun b hm=>Nat.lt_of_lt_of_le (a' b hm) M) hl (fun i hi j u hu=>?_) ih
  have jc:=hc i hi j u hu;have hm:bs[i]∈bs:=List.getElem_mem hi;rw[World.cell?_of_block (w:=w) (a:=⟨bs[i],j,none⟩) (G.aW _ (hb _ hm) (a' _ hm))];exact jc
 |rK t=>exact .rK t
 |rP T=>exact .rP T
 |err T n=>exact .err T n
 |map t es b aA hb hm=>exact .map t es b aA (G.av b hb hm.lt) (hm.of (G.aW b hb hm.lt))
 |maps es b arr clock F hb hm af hn hl _ ih=>have a':=(Array.getElem?_eq_some_iff.1 hm).1;exact .maps es b arr clock F (G.av b hb a') ((G.aW b hb a').trans hm) af hn hl ih
theorem Ref.goes{o s:Nat}{p kT:Prop}(G:hd B aE sites bp w w' av bX)(h:Ref sites o s p)(ag:bT (aE o)=bT (B o)->p->kT):Ref bp o s kT:=by
 obtain⟨Y,h1,h2,ab⟩:=h;obtain⟨bF,g1,g2,g3⟩:=G.ref o Y h1;refine⟨bF,g1,Nat.le_trans h2 g2,fun e=>?_⟩
 have:bF.b9=Y.b9:=by omega
 exact ag (g3 this) (ab (by omega))
theorem dx.goes{l:aD}{v:Value}(G:hd B aE sites bp w w' av bX)(M:w.heap.size<=w'.heap.size)(b':∀b,bX b->b<w'.heap.size)(h:dx B sites w av l v):dx aE bp w' bX l v:=by
 cases l with
 |d x=>exact Rd.goes G M b' h
 |nil t=>exact h
 |own o s=>exact⟨h.1,Ref.goes G h.2 (fun e p=>by rw[e];exact p)⟩
 |ptr o s off=>obtain⟨b,h1,h2⟩:=h;exact⟨b,h1,Ref.goes G h2 (fun e p=>by rw[e];exact p)⟩
 |eH cells off=>
  obtain⟨b,D,hv,hb,a',cs,hl,hc,hr⟩:=h;refine⟨b,D,hv,G.av b hb a',Nat.lt_of_lt_of_le a' M,cs,hl,fun j u hu=>?_,fun j h1 h2=>(hr j h1 h2).goes G M b'⟩
  have jc:=hc j u hu;rw[World.cell?_of_block (w:=w) (a:=⟨b,D+j,none⟩) (G.aW b hb a')];exact jc
 |eN o s t k off=>obtain⟨b,D,h1,h2⟩:=h;exact⟨b,D,h1,Ref.goes G h2 (fun e p=>by rw[e];exact p)⟩
 |clo g bP=>
  obtain⟨vs,hv,hl,hr⟩:=h;exact⟨vs,hv,hl,fun i h1 h2=>Ref.goes G (hr i h1 h2) (fun e p=>p.trans e.symm)⟩
 |cL u=>exact h
 |fresh t xs=>exact h
 |gG t xs=>exact h
 |eS=>trivial
 |any=>trivial
theorem gO.goes{a:bH}{v:Value}(G:hd B aE sites bp w w' av bX)(M:w.heap.size<=w'.heap.size)(b':∀b,bX b->b<w'.heap.size)(h:gO B sites w av a v):gO aE bp w' bX a v:=by
 cases a with
 |am l=>exact dx.goes G M b' h
 |agg aa=>
  obtain⟨vs,hv,hl,hr⟩:=h;exact⟨vs,hv,hl,fun j h1 h2=>(hr j h1 h2).goes G M b'⟩
theorem ce.goes{a:aP}{v:Value}(G:hd B aE sites bp w w' av bX)(M:w.heap.size<=w'.heap.size)(b':∀b,bX b->b<w'.heap.size)(h:ce B sites w av a v):ce aE bp w' bX a v:=by
 cases a with
 |av a=>exact gO.goes G M b' h
 |jE as=>
  obtain⟨vs,hv,hl,hr⟩:=h;exact⟨vs,hv,hl,fun j h1 h2=>(hr j h1 h2).goes G M b'⟩
theorem ck.goes{ds:List aU}{vs:List Value}(G:hd B aE sites bp w w' av bX)(M:w.heap.size<=w'.heap.size)(b':∀b,bX b->b<w'.heap.size)(h:ck w av ds vs):ck w' bX ds vs:=
 ⟨h.1,fun j h1 h2=>(h.2 j h1 h2).goes G M b'⟩
theorem Deep.goes{ds:List aU}{cs aw:List Value}(G:hd B aE sites bp w w' av bX)(M:w.heap.size<=w'.heap.size)(b':∀b,bX b->b<w'.heap.size)(h:Deep w av ds cs aw):
  (∀n,n∈aw->∀b,Jk.aW n=some b->w'.heap[b]? =w.heap[b]?)->Deep w' bX ds cs aw:=by
 induction h with
 |nil=>intro _;exact .nil
 |row u ys e aa ag h hr _ ih=>intro af;exact .row u ys e aa ag (oG h (af _ List.mem_cons_self)) (hr.goes G M b') (ih fun n hn=>af n (List.mem_cons_of_mem _ hn))
 |leaf ag h _ ih=>intro af;exact .leaf ag (h.goes G M b') (ih af)
theorem fQ.goes{F:List (J×Value)}{es:List (J×Option (List J))}{aw:List Value}(G:hd B aE sites bp w w' av bX)(M:w.heap.size<=w'.heap.size)(b':∀b,bX b->b<w'.heap.size)(h:fQ w av F es aw):
  (∀n,n∈aw->∀b,Jk.aW n=some b->w'.heap[b]? =w.heap[b]?)->fQ w' bX F es aw:=by
 induction h with
 |nil=>intro _;exact .nil
 |l_ k v _ ih=>intro af;exact .l_ k v (ih af)
 |row k v xs e aa h hr _ ih=>intro af;exact .row k v xs e aa (oG h (af _ List.mem_cons_self)) (hr.goes G M b') (ih fun n hn=>af n (List.mem_cons_of_mem _ hn))
theorem ZW{w w':World}{e:TypeId}{size:Nat}{v:Value}{n:Nat}{xs:List Value}(h:oY w e size v n xs)(hb:∀b,Jk.aW v=some b->w'.heap[b]? =w.heap[b]?):oY w' e size v n xs:=by
 refine⟨h.1,?_⟩;rcases h.2 with hn|⟨g,D,cap,cur,hv,r2,c9⟩
 ·exact .inl hn
 ·refine .inr ⟨g,D,cap,cur,hv,?_,c9⟩;rw[hb g (by rw[hv];rfl)];exact r2
theorem io.goes{o:Nat}{Y:Site}(G:hd B aE sites bp w w' av bX)(M:w.heap.size<=w'.heap.size)(b':∀b,bX b->b<w'.heap.size)(bQ:aE o=B o)
  (hb:Y.live=true->∀b,b∈Jk.bl (B o)->w'.heap[b]? =w.heap[b]?) (h:io B sites w av o Y):io aE bp w' bX o Y:=by
 cases Y with
 |box s cells=>
  obtain⟨b,T,cur,h1,h2,ab,aF,Kn,bo⟩:=h;have:=hb rfl b (fY (by rw[h1];rfl))
  exact⟨b,T,cur,bQ.trans h1,this.trans h2,ab,aF,Kn,fun j g1 g2=>(bo j g1 g2).goes G M b'⟩
 |row s t xs=>
  obtain⟨e,cs,h1,h2⟩:=h;refine⟨e,cs,?_,fun j g1 g2=>(h2 j g1 g2).goes G M b'⟩
  rw[bQ];exact oG h1 fun b ch=>hb rfl b (fY ch)
 |da s t xs=>exact⟨by rw[bQ];exact Rd.goes G M b' h.1,by rw[bQ];exact h.2⟩
 |map s t es=>
  obtain⟨b,h1,h2⟩:=h;exact⟨b,bQ.trans h1,h2.of (hb rfl b (fY (by rw[h1];rfl)))⟩
 |deep s t xs=>
  obtain⟨e,v,aw,cs,h1,h2,ab,aF⟩:=h;have af:∀b,aW v=some b\/(∃n,n∈aw/\aW n=some b)->w'.heap[b]? =w.heap[b]? :=fun b h=>hb rfl b (by rw[h1];exact hC.2 h)
  exact⟨e,v,aw,cs,bQ.trans h1,by rw[bQ];exact h2,oG ab fun b h=>af b (.inl h),aF.goes G M b' fun n hn b h=>af b (.inr ⟨n,hn,h⟩)⟩
 |eB s es=>
  obtain⟨b,arr,clock,aw,h1,h2,ab,F,bo,aF⟩:=h;have af:∀be,aW (.map (some b))=some be\/(∃n,n∈aw/\aW n=some be)->w'.heap[be]? =w.heap[be]? :=fun b h=>hb rfl b (by rw[h1];exact hC.2 h)
  exact⟨b,arr,clock,aw,bQ.trans h1,by rw[bQ];exact h2,(af b (.inl rfl)).trans ab,F,bo,aF.goes G M b' fun n hn b h=>af b (.inr ⟨n,hn,h⟩)⟩
 |tail s t xs=>
  obtain⟨h0,e,cs,h1,h2⟩:=h;refine⟨h0,e,cs,?_,h2.goes G M b'⟩;rw[bQ];exact ZW h1 fun b ch=>hb rfl b (fY ch)
 |dead s=>trivial
end
theorem ak.o9{U:World}{O:List Nat}{X:Nat->Prop}{B aE:Nat->Value}{st:ai}{bp:List (Nat×Site)}{tm:Array Value}{w w':World}
  (S:ak U O X B st tm w)
  (rN:∀o Y,look st.sites o=some Y->∃bF,look bp o=some bF/\Y.b9<=bF.b9/\(bF.b9=Y.b9->bT (aE o)=bT (B o)))
  (fP:∀b,¬au X B st.sites b->b<w.heap.size->w'.heap[b]? =w.heap[b]?)
  (b':∀b,¬au X B st.sites b->b<w.heap.size->¬au X aE bp b)
  (aku:(∀{a v},ce B st.sites w (au X B st.sites) a v->ce aE bp w' (au X aE bp) a v)->∀o bF,look bp o=some bF->
   (look st.sites o=some bF/\aE o=B o/\(bF.live=true->∀b,b∈bl (B o)->w'.heap[b]? =w.heap[b]?))\/io aE bp w' (au X aE bp) o bF)
  (aiG:∀o H b,b2 bp o->b2 bp H->b∈bl (aE o)->b∈bl (aE H)->o=H)
  (aiD:∀o b,b2 bp o->b∈bl (aE o)->¬X b/\(b∈O\/U.heap.size<=b))
  (a':∀o b,b2 bp o->b∈bl (aE o)->b<w'.heap.size)
  (agV:Fr O U w') (M:w.heap.size<=w'.heap.size):
  ak U O X aE {st with sites:=bp} tm w':=by
 have G:hd B aE st.sites bp w w' (au X B st.sites) (au X aE bp):=⟨rN,fP,b'⟩;have wX:∀b,au X aE bp b->b<w'.heap.size:=by
  rintro b (hx|⟨o,h1,h2⟩)
  ·exact Nat.lt_of_lt_of_le (S.old b hx) M
  ·exact a' o b h1 h2
 refine⟨S.nt,fun t=>(S.cU t).goes G M wX,fun o bF bn=>?_,aiG,aiD,agV,fun b h=>Nat.lt_of_lt_of_le (S.old b h) M,S.fk⟩
 rcases aku (fun h=>h.goes G M wX) o bF bn with⟨h1,h2,ab⟩|h
 ·exact(S.sites o bF h1).goes G M wX h2 ab
 ·exact h
def cB(tm:Array Value)(dst:Option Nat)(v:Value):Array Value:=
 match dst with
 |some d=>tm.setIfInBounds d v
 |none=>tm
section
variable {P:Program}{K:Act->World->Prop}{Q:Exit->Act->World->Prop}{D:Oper}{tm:Array Value}{w w':World}{vv:Value}
theorem nD(h:(execOp (Act.eval ⟨tm,[]⟩) D).run P w=.ok (.value vv) w')(af:K ⟨cB tm D.dst vv,[]⟩ w'):D.wp P ⟨tm,[]⟩ w K Q:=by
 unfold Oper.wp;rw[h,Oper.upon_value];cases Z:D.dst with
 |none=>simp only[Z,cB] at af;simpa[Act.put] using af
 |some d=>simp only[Z,cB] at af;simpa[Act.put] using af
theorem agi(h:(execOp (Act.eval ⟨tm,[]⟩) D).run P w=.ok .skip w')(af:K ⟨cB tm D.dst undef,[]⟩ w'):D.wp P ⟨tm,[]⟩ w K Q:=by
 unfold Oper.wp;rw[h,Oper.upon_skip];cases Z:D.dst with
 |none=>simp only[Z,cB] at af;simpa[Act.put] using af
 |some d=>simp only[Z,cB] at af;simpa[Act.put] using af
end
def ba(sites:List (Nat×Site)):List (Nat×Site)->List (Nat×Site)
 |[]=>sites
 |(o,s)::r=>ba (cf sites o s) r
theorem ai.vK(st:ai)(us:List (Nat×Site)):st.iu us={st with sites:=ba st.sites us}:=by
 induction us generalizing st with
 |nil=>rfl
 |cons p us ih=>obtain⟨o,s⟩:=p;simp only[ai.iu,ba];rw[ih];rfl
theorem i_(sites:List (Nat×Site))(us vs:List (Nat×Site)):ba sites (us++vs)=ba (ba sites us) vs:=by
 induction us generalizing sites with
 |nil=>rfl
 |cons p us ih=>obtain⟨o,s⟩:=p;simp only[List.cons_append,ba];exact ih _
section
variable {U:World}{O:List Nat}{X:Nat->Prop}{B:Nat->Value}{st:ai}{tm:Array Value}{w:World}
theorem ak.put(S:ak U O X B st tm w){t:Nat}{v:aP}{vv:Value}(aA:t<st.nt)(hv:ce B st.sites w (au X B st.sites) v vv):
  ak U O X B (st.set t v) (tm.setIfInBounds t vv) w:=by
 refine⟨by simpa using S.nt,fun u=>?_,S.sites,S.dp,S.cg,S.frame,S.old,S.fk⟩
 rw[ai.Gy];by_cases h:t=u
 ·subst h;simp only[if_true];have:(tm.setIfInBounds t vv).getD t undef=vv:=by
   have h1:t<tm.size:=by rw[S.nt];exact aA
   simp[Array.getD,h1]
  rw[this];exact hv
 ·simp only[h,if_false];have:(tm.setIfInBounds t vv).getD u undef=tm.getD u undef:=by
   simp only[Array.getD_eq_getD_getElem?,Array.getElem?_setIfInBounds,h,if_false]
  rw[this];exact S.cU u
theorem ak.cM{dst:Option Nat}{v:aP}{vv:Value}{us:List (Nat×Site)}(S:ak U O X B {st with sites:=ba st.sites us} tm w)
  (Z:cd st dst=true) (hv:ce B (ba st.sites us) w (au X B (ba st.sites us)) v vv):ak U O X B (st.cM dst v us) (cB tm dst vv) w:=by
 cases dst with
 |none=>simp only[ai.cM,ai.vK,cB];exact S
 |some t=>
  simp only[ai.cM,ai.vK,cB];have aA:t<st.nt:=by simpa[cd] using Z
  exact ak.put (st:={st with sites:=ba st.sites us}) S aA hv
theorem cV(S:ak U O X B st tm w)(C:Ctx)(T:TypeId)(x:Operand):ce B st.sites w (au X B st.sites) (aS C st T x) (Act.eval ⟨tm,[]⟩ x):=by
 cases x with
 |tmp t=>exact S.cU t
 |const v=>
  show ce _ _ _ _ (vX (C.tt T) v) v;unfold vX;split
  ·exact .int _ _
  ·exact .bool _
  ·exact .str _ _ rfl
  ·split<;>exact rfl
  ·split
   ·exact .rK _
   ·exact rfl
  ·trivial
  ·trivial
  ·exact rfl
 |global g=>exact rfl
 |func f=>
  refine⟨[],rfl,rfl,fun i h=>?_⟩
  simp at h
variable {P:Program}{C:Ctx}{D:Oper}{K:Act->World->Prop}{Q:Exit->Act->World->Prop}
def cG(P:Program)(U:World)(O:List Nat)(X:Nat->Prop)(st:ai)(tm:Array Value)(w:World)(D:Oper)(v:aP)(us:List (Nat×Site)):Prop:=
 ∀(K:Act->World->Prop) (Q:Exit->Act->World->Prop),(∀aE b6 w',ak U O X aE (st.cM D.dst v us) b6 w'->K ⟨b6,[]⟩ w')->D.wp P ⟨tm,[]⟩ w K Q
theorem dH(S:ak U O X B st tm w)(Z:cd st D.dst=true){v:aP}{vv:Value}
  (h:(execOp (Act.eval ⟨tm,[]⟩) D).run P w=.ok (.value vv) w) (hv:ce B st.sites w (au X B st.sites) v vv):cG P U O X st tm w D v []:=
 fun _ _ bO=>nD h (bO _ _ _ (ak.cM (us:=[]) S Z hv))
end
section
variable {P:Program}{w:World}
theorem YE(op:BinOp)(t:TypeId)(x y:Operand)(k k':IntKind)(a b:Int):(eqGuard op t x y (.int k a) (.int k' b)).run P w=.ok () w:=by
 unfold eqGuard;cases op<;>rfl
theorem Yx(op:BinOp)(t:TypeId)(x y:Operand)(a b:ByteArray):(eqGuard op t x y (.string a) (.string b)).run P w=.ok () w:=by
 unfold eqGuard;cases op<;>rfl
theorem Lo(op:BinOp)(t:TypeId)(x y:Operand)(a b:Bool):(eqGuard op t x y (.bool a) (.bool b)).run P w=.ok () w:=by
 unfold eqGuard;cases op<;>rfl
def Holds(r:dl)(d':aP->List (Nat×Site)->Prop):Prop:=∀y,r.comp=some y->r.su y=true->d' (r.val y) (r.us y)
theorem Holds.fail{d':aP->List (Nat×Site)->Prop}:Holds .fail d':=fun _ h _=>by cases h
theorem Holds.ok{v:aP}{d':aP->List (Nat×Site)->Prop}(h:d' v []):Holds (.ok v) d':=fun _ _ _=>h
theorem Holds.fe{v:aP}{us:List (Nat×Site)}{d':aP->List (Nat×Site)->Prop}(h:d' v us):Holds (.fe v us) d':=fun _ _ _=>h
theorem Holds.eD{L:Type}{c:Option L}{f:L->aP}{d':aP->List (Nat×Site)->Prop}(h:∀y,c=some y->d' (f y) []):Holds (.eD c f) d':=fun y al _=>h y al
theorem Holds.eA{L:Type}{c:Option L}{f:L->aP}{us:L->List (Nat×Site)}{d':aP->List (Nat×Site)->Prop}(h:∀y,c=some y->d' (f y) (us y)):Holds (.eA c f us) d':=fun y al _=>h y al
def Plain(P:Program)(w:World)(s:Sem Value)(v:aP)(us:List (Nat×Site)):Prop:=
 ∃vv d,s.run P w=.ok vv w/\us=[]/\v=one d/\∀av,Rd w av d vv
theorem Plain.mk{s:Sem Value}{vv:Value}{d:aU}(h:s.run P w=.ok vv w)(hr:∀av,Rd w av d vv):Plain P w s (one d) []:=⟨vv,d,h,rfl,rfl,hr⟩
theorem abk(op:BinOp)(T:TypeId)(k:IntKind)(a b:Int)(M:op≠.shl)(eU:op≠.shr):
  Holds (Sp op k a b) (Plain P w (binOp op T (.int k a) (.int k b))):=by
 cases op with
 |shl=>exact absurd rfl M
 |shr=>exact absurd rfl eU
 |andNot=>exact .fail
 |quo=>
  refine Holds.eD fun y al=>?_
  unfold qj at al;split at al
  ·cases al
  ·rename_i hb;cases al;exact .mk (by simp[binOp,Op.intDiv,hb]) fun av=>.int _ _
 |rem=>
  refine Holds.eD fun y al=>?_
  unfold l9 at al;split at al
  ·cases al
  ·rename_i hb;cases al;exact .mk (by simp[binOp,Op.intDiv,hb]) fun av=>.int _ _
 |add=>exact Holds.ok (.mk (by simp[binOp,Op.intArith]) fun av=>.int _ _)
 |sub=>exact Holds.ok (.mk (by simp[binOp,Op.intArith]) fun av=>.int _ _)
 |mul=>exact Holds.ok (.mk (by simp[binOp,Op.intArith]) fun av=>.int _ _)
 |and=>exact Holds.ok (.mk (by simp[binOp,Op.intBits,UH]) fun av=>.int _ _)
 |or=>exact Holds.ok (.mk (by simp[binOp,Op.intBits,V9]) fun av=>.int _ _)
 |xor=>exact Holds.ok (.mk (by simp[binOp,Op.intBits,nS]) fun av=>.int _ _)
 |eql=>exact Holds.ok (.mk (by simp[binOp,Op.intCmp]) fun av=>.bool _)
 |neq=>exact Holds.ok (.mk (by simp[binOp,Op.intCmp]) fun av=>.bool _)
 |lss=>exact Holds.ok (.mk (by simp[binOp,Op.intCmp]) fun av=>.bool _)
 |leq=>exact Holds.ok (.mk (by simp[binOp,Op.intCmp]) fun av=>.bool _)
 |gtr=>exact Holds.ok (.mk (by simp[binOp,Op.intCmp]) fun av=>.bool _)
 |geq=>exact Holds.ok (.mk (by simp[binOp,Op.intCmp]) fun av=>.bool _)
theorem abi(op:BinOp)(T:TypeId)(a b:ByteArray):
  Holds (R9 op a.data.toList b.data.toList) (Plain P w (binOp op T (.string a) (.string b))):=by
 have e1:a.toList=a.data.toList:=ByteArray.toList_eq a;have e2:b.toList=b.data.toList:=ByteArray.toList_eq b;have cx:a.data.toList.length=a.size:=rfl;have ea:b.data.toList.length=b.size:=rfl;cases op with
 |add=>
  refine Holds.eD fun y al=>?_
  simp only[mr,cx,ea] at al;split at al
  ·cases al
  ·rename_i hc;cases al;refine .mk (vv:=.string (a++b)) ?_ fun av=>.str _ _ (by simp[ByteArray.data_append])
   simp only[binOp,Op.stringOp,hc,if_false,Sem.run_pure]
 |eql=>exact Holds.ok (.mk (by rw[<-e1,<-e2];rfl) fun av=>.bool _)
 |neq=>exact Holds.ok (.mk (by rw[<-e1,<-e2];rfl) fun av=>.bool _)
 |lss=>exact Holds.ok (.mk (by rw[<-e1,<-e2];rfl) fun av=>.bool _)
 |leq=>exact Holds.ok (.mk (by rw[<-e1,<-e2];rfl) fun av=>.bool _)
 |gtr=>exact Holds.ok (.mk (by rw[<-e1,<-e2];rfl) fun av=>.bool _)
 |geq=>exact Holds.ok (.mk (by rw[<-e1,<-e2];rfl) fun av=>.bool _)
 |_=>exact .fail
end
def q9:aD->Option Value
 |.d (.int k n)=>some (.int k n)
 |.d (.bool b)=>some (.bool b)
 |.d (.str [])=>some (.string ⟨#[]⟩)
 |.nil _=>some (.slice none 0 0)
 |.cL (.pointer none)=>some (.pointer none)
 |.cL .nilFunc=>some .nilFunc
 |.cL (.map none)=>some (.map none)
 |.cL .nilIface=>some .nilIface
 |_=>none
def lT:List aD->Option (List Value)
 |[]=>some []
 |l::aa=>match q9 l,lT aa with
  |some v,some vs=>some (v::vs)
  |_,_=>none
theorem Ml{l:aD}{v:Value}(h:q9 l=some v)(B:Nat->Value)(sites:List (Nat×Site))(w:World)(av:Nat->Prop):dx B sites w av l v/\v.oneCell'=true:=by
 unfold q9 at h;split at h<;>first|cases h|skip
 ·exact⟨.int _ _,rfl⟩
 ·exact⟨.bool _,rfl⟩
 ·exact⟨.str _ _ rfl,rfl⟩
 ·exact⟨rfl,rfl⟩
 ·exact⟨rfl,rfl⟩
 ·exact⟨rfl,rfl⟩
 ·exact⟨rfl,rfl⟩
 ·exact⟨rfl,rfl⟩
theorem sP:∀{aa:List aD} {vs:List Value},lT aa=some vs->vs.length=aa.length/\(∀u∈vs,u.oneCell'=true)/\
  ∀(B:Nat->Value) (sites:List (Nat×Site)) (w:World) (av:Nat->Prop) j (h:j<aa.length) (ah:j<vs.length),dx B sites w av (aa[j]) (vs[j]):=by
 intro aa;induction aa with
 |nil=>intro vs h;simp[lT] at h;subst h;exact⟨rfl,fun u hu=>by simp at hu,fun _ _ _ _ j h=>by simp at h⟩
 |cons l aa ih=>
  intro vs h;simp only[lT] at h;split at h
  ·rename_i v cH h1 h2;cases h;obtain⟨g1,g2,g3⟩:=ih h2;refine⟨by simp[g1],fun u hu=>?_,fun B sites w av j hj iA=>?_⟩
   ·rcases List.mem_cons.1 hu with rfl|hu
    ·exact(Ml h1 (fun _=>undef) [] default (fun _=>False)).2
    ·exact g2 u hu
   ·cases j with
    |zero=>exact(Ml h1 _ _ _ _).1
    |succ j=>exact g3 B sites w av j (by simpa using hj) (by simpa using iA)
  ·cases h
def oR:Value->Value->Option Bool
 |.int k a,.int k' b=>if k=k' then some (a==b) else none
 |.bool a,.bool b=>some (a==b)
 |.string a,.string b=>some (a==b)
 |_,_=>none
def jP:List Value->List Value->Option Bool
 |[a],[b]=>oR a b
 |a::as,b::bs=>match oR a b,jP as bs with
  |some x,some y=>some (x&&y)
  |_,_=>none
 |_,_=>none
def qq:List aD->List Value->Bool
 |[],[]=>true
 |.d (.int _ _)::z,.int _ _::l=>qq z l
 |.d (.bool _)::z,.bool _::l=>qq z l
 |.d (.str _)::z,.string _::l=>qq z l
 |_,_=>false
def iw(P:Program)(T:TypeId)(d:TypeDesc)(z:Value):Prop:=
 P.underlying T=some d/\(∀b1,d≠.struct b1)/\(∀n e,d≠.array n e)/\(P.info? T).map (fun i=>(i.size,i.zero))=some (1,some z)
def mapElem(P:Program)(e:TypeId):aJ->Prop
 |.i64=>iw P e (.int .i64) (.int .i64 0)
 |.bool=>iw P e .bool (.bool false)
 |.strs=>∃bK,iw P e (.slice bK) (.slice none 0 0)
 |_=>False
def GU(P:Program)(e:TypeId):aJ->Prop
 |.i64=>iw P e (.int .i64) (.int .i64 0)
 |.u32=>iw P e (.int .u32) (.int .u32 0)
 |.bool=>iw P e .bool (.bool false)
 |.str=>iw P e .string (.string ⟨#[]⟩)
 |_=>False
def cm.ok(P:Program)(T:TypeId):cm->Prop
 |.none=>True
 |.int k=>iw P T (.int k) (.int k 0)
 |.bool=>iw P T .bool (.bool false)
 |.str=>iw P T .string (.string ⟨#[]⟩)
 |.ptr=>∃e,iw P T (.pointer e) (.pointer Option.none)
 |.func=>∃F lD v,iw P T (.func F lD v) .nilFunc
 |.slice e t bytes=>iw P T (.slice e) (.slice Option.none 0 0)/\∃z,(P.info? e).map (fun i=>(i.size,i.bytes,i.zero))=some (aC t,bytes,some z)/\z.cells.size=aC t/\(t.ei=true->e=mq)
 |.struct b1 n z eq=>∃fields:Array Field,P.underlying T=some (.struct fields)/\
   (fields.toList.mapM (fun f=>(P.info? f.type).map fun i=>(f.offset,i.size))=some b1/\∀p∈b1,p.2≠0)/\
   (∃fT,(P.info? T).map (fun i=>(i.size,i.zero))=some (n,some (.agg fT))/\lT z=some fT.toList/\z.length=n)/\
   (eq=true->P.eqGuardType P.depth T=false/\∀(vs us:List Value) (b:Bool) (w:World),jP vs us=some b->qq z vs=true->(Op.equal T (.agg vs.toArray) (.agg us.toArray)).run P w=.ok b w)
 |.map k e t=>iw P T (.map k e) (.map Option.none)/\P.underlying k=some .string/\mapElem P e t
 |.iface=>∃jl,iw P T (.interface jl) .nilIface
 |.arr e t n=>P.underlying T=some (.array n e)/\(∃fT z,(P.info? T).map (fun i=>(i.size,i.zero))=some (n,some (.agg fT))/\uC t=some z/\lT (List.replicate n z)=some fT.toList)/\GU P e t
section
variable {P:Program}{T:TypeId}{w:World}
theorem jM{i:TypeInfo}(h:P.info? T=some i):(typeInfo T).run P w=.ok i w:=by
 simp[typeInfo,h]
theorem cm.OJ{ti:cm}(h:ti.ok P T)(hn:ti≠.none):(sizeOf T).run P w=.ok ti.size w:=by
 have key:∀{z:Option Value} {n:Nat},(P.info? T).map (fun i=>(i.size,i.zero))=some (n,z)->(sizeOf T).run P w=.ok n w:=by
  intro z n h;cases hi:P.info? T with
  |none=>simp[hi] at h
  |some i=>
   simp only[hi,Option.map_some,Option.some.injEq,Prod.mk.injEq] at h;simp[sizeOf,jM hi,h.1]
 cases ti with
 |none=>exact absurd rfl hn
 |int k=>exact key h.2.2.2
 |bool=>exact key h.2.2.2
 |str=>exact key h.2.2.2
 |ptr=>obtain⟨e,h⟩:=h;exact key h.2.2.2
 |func=>obtain⟨_,_,_,h⟩:=h;exact key h.2.2.2
 |iface=>obtain⟨_,h⟩:=h;exact key h.2.2.2
 |slice e t b=>exact key h.1.2.2.2
 |map k e t=>exact key h.1.2.2.2
 |struct b1 n z eq=>obtain⟨fields,_,_,⟨fT,h,_⟩,_⟩:=h;exact key h
 |arr e t n=>obtain⟨_,⟨fT,z,h,_⟩,_⟩:=h;exact key h
theorem cm.zf{ti:cm}(h:ti.ok P T){z:List aD}(hz:ti.zero=some z):∃v,(zeroValue T).run P w=.ok v w/\lT z=some v.cells.toList:=by
 have key:∀{z:Value} {n:Nat},(P.info? T).map (fun i=>(i.size,i.zero))=some (n,some z)->(zeroValue T).run P w=.ok z w:=by
  intro z n h;cases hi:P.info? T with
  |none=>simp[hi] at h
  |some i=>
   simp only[hi,Option.map_some,Option.some.injEq,Prod.mk.injEq] at h;simp[zeroValue,jM hi,h.2]
 cases ti with
 |none=>cases hz
 |int k=>cases hz;exact⟨_,key h.2.2.2,rfl⟩
 |bool=>cases hz;exact⟨_,key h.2.2.2,rfl⟩
 |str=>cases hz;exact⟨_,key h.2.2.2,rfl⟩
 |ptr=>cases hz;obtain⟨e,h⟩:=h;exact⟨_,key h.2.2.2,rfl⟩
 |func=>cases hz;obtain⟨_,_,_,h⟩:=h;exact⟨_,key h.2.2.2,rfl⟩
 |iface=>cases hz;obtain⟨_,h⟩:=h;exact⟨_,key h.2.2.2,rfl⟩
 |slice e t b=>cases hz;exact⟨_,key h.1.2.2.2,rfl⟩
 |map k e t=>cases hz;exact⟨_,key h.1.2.2.2,rfl⟩
 |struct b1 n eF eq=>cases hz;obtain⟨fields,_,_,⟨fT,h,h2,_⟩,_⟩:=h;exact⟨_,key h,h2⟩
 |arr e t n=>
  obtain⟨_,⟨fT,z0,h,h1,h2⟩,_⟩:=h;simp only[cm.zero,h1,Option.map_some,Option.some.injEq] at hz;subst hz;exact⟨_,key h,h2⟩
theorem cm.Nu{ti:cm}(h:ti.ok P T)(hn:ti≠.none):(isAgg T).run P w=.ok ti.agg w:=by
 have key:∀{d:TypeDesc},P.underlying T=some d->(∀b1,d≠.struct b1)->(∀n e,d≠.array n e)->(isAgg T).run P w=.ok false w:=by
  intro d h h1 h2;simp only[isAgg,Sem.run_bind,run_underlying h,Result.andThen_ok];cases d<;>first|rfl|exact absurd rfl (h1 _)|exact absurd rfl (h2 _ _)
 cases ti with
 |none=>exact absurd rfl hn
 |int k=>exact key h.1 h.2.1 h.2.2.1
 |bool=>exact key h.1 h.2.1 h.2.2.1
 |str=>exact key h.1 h.2.1 h.2.2.1
 |ptr=>obtain⟨e,h⟩:=h;exact key h.1 h.2.1 h.2.2.1
 |func=>obtain⟨_,_,_,h⟩:=h;exact key h.1 h.2.1 h.2.2.1
 |iface=>obtain⟨_,h⟩:=h;exact key h.1 h.2.1 h.2.2.1
 |slice e t b=>exact key h.1.1 h.1.2.1 h.1.2.2.1
 |map k e t=>exact key h.1.1 h.1.2.1 h.1.2.2.1
 |struct b1 n z eq=>
  obtain⟨fields,h,_⟩:=h;simp only[isAgg,Sem.run_bind,run_underlying h,Result.andThen_ok];rfl
 |arr e t n=>
  obtain⟨h,_⟩:=h;simp only[isAgg,Sem.run_bind,run_underlying h,Result.andThen_ok];rfl
def tS(agg:Bool)(cs:List Value):Value:=bif agg then .agg cs.toArray else cs.headD undef
theorem sN{ti:cm}(h:ti.ok P T)(hn:ti≠.none)(a:Addr)(cs:List Value)(hl:cs.length=ti.size)(hc:∀j u,cs[j]? =some u->w.cell? (a.add j)=some u):
  (loadVar T a).run P w=.ok (tS ti.agg cs) w:=by
 simp only[loadVar,Sem.run_bind,cm.Nu h hn,Result.andThen_ok];cases IQ:ti.agg with
 |true=>
  simp only[if_true,Sem.run_bind,cm.OJ h hn,Result.andThen_ok,tS,cond_true];rw[<-hl,run_loadCells_list w a cs hc];rfl
 |false=>
  have h1:ti.size=1:=by cases ti<;>first|rfl|cases IQ
  rw[h1] at hl;match cs,hl with
  |[c],_=>
   have h0:=hc 0 c rfl;have aT:a.add 0=a:=by unfold Addr.add;simp
   rw[aT] at h0;simp[tS,h0]
end
section
variable {B:Nat->Value}{sites:List (Nat×Site)}{w:World}{av:Nat->Prop}
def cw(B:Nat->Value)(sites:List (Nat×Site))(w:World)(av:Nat->Prop)(aa:List aD)(vs:List Value):Prop:=
 vs.length=aa.length/\∀j (h:j<aa.length) (ah:j<vs.length),dx B sites w av (aa[j]) (vs[j])
theorem cw.nil:cw B sites w av [] []:=⟨rfl,fun j h=>by simp at h⟩
theorem cw.cons{l:aD}{aa:List aD}{v:Value}{vs:List Value}(h:dx B sites w av l v)(M:cw B sites w av aa vs):cw B sites w av (l::aa) (v::vs):=
 ⟨by simp[M.1],fun j h1 h2=>by
  cases j with
  |zero=>exact h
  |succ j=>exact M.2 j (by simpa using h1) (by simpa using h2)⟩
theorem cw.inv{l:aD}{aa:List aD}{vs:List Value}(h:cw B sites w av (l::aa) vs):∃v cH,vs=v::cH/\dx B sites w av l v/\cw B sites w av aa cH:=by
 obtain⟨h1,h2⟩:=h;match vs,h1 with
 |v::cH,h1=>
  exact⟨v,cH,rfl,h2 0 (by simp) (by simp),by simpa using h1,fun j g1 g2=>h2 (j+1) (by simpa using g1) (by simpa using g2)⟩
theorem cw.lW{vs:List Value}(h:cw B sites w av [] vs):vs=[]:=List.eq_nil_of_length_eq_zero h.1
theorem cw.drop{aa:List aD}{vs:List Value}(n:Nat)(h:cw B sites w av aa vs):cw B sites w av (aa.drop n) (vs.drop n):=
 ⟨by simp[h.1],fun j h1 h2=>by simp only[List.getElem_drop];exact h.2 _ (by simp at h1;omega) (by simp at h2;omega)⟩
theorem cw.take{aa:List aD}{vs:List Value}(n:Nat)(h:cw B sites w av aa vs):cw B sites w av (aa.take n) (vs.take n):=
 ⟨by simp[h.1],fun j h1 h2=>by simp only[List.getElem_take];exact h.2 _ (by simp at h1;omega) (by simp at h2;omega)⟩
theorem cw.append{aa dF:List aD}{vs cH:List Value}(h:cw B sites w av aa vs)(ah:cw B sites w av dF cH):cw B sites w av (aa++dF) (vs++cH):=by
 induction aa generalizing vs with
 |nil=>rw[h.lW];exact ah
 |cons l aa ih=>
  obtain⟨v,asM,rfl,h1,h2⟩:=h.inv;exact .cons h1 (ih h2)
theorem cw.bw{aa dF:List aD}{vs cH:List Value}(off:Nat)(h:cw B sites w av aa vs)(ah:cw B sites w av dF cH):cw B sites w av (Jk.bw aa off dF) (Jk.bw vs off cH):=by
 unfold Jk.bw;rw[ah.1];exact((h.take off).append ah).append (h.drop _)
theorem dx.ja{l:aD}{u:Value}(h:dx B sites w av l u)(dr:l.storable=true):u.oneCell'=true:=by
 cases l with
 |d x=>exact Rd.ja h
 |nil t=>rw[show u=_ from h];rfl
 |own o s=>exact h.1
 |ptr o s off=>obtain⟨b,rfl,_⟩:=h;rfl
 |eH c D=>cases dr
 |eN _ _ _ _ _=>cases dr
 |clo g bP=>obtain⟨vs,rfl,_⟩:=h;rfl
 |cL x=>rw[show u=x from h];cases x<;>first|rfl|cases dr
 |fresh t xs=>cases dr
 |gG t xs=>cases dr
 |eS=>cases dr
 |any=>cases dr
theorem cw.ja{aa:List aD}{vs:List Value}(h:cw B sites w av aa vs)(dr:gX aa=true):∀u∈vs,u.oneCell'=true:=by
 induction aa generalizing vs with
 |nil=>rw[h.lW];intro u hu;simp at hu
 |cons l aa ih=>
  obtain⟨v,cH,rfl,h1,h2⟩:=h.inv;simp only[gX,Bool.and_eq_true] at dr;intro u hu;rcases List.mem_cons.1 hu with rfl|hu
  ·exact h1.ja dr.1
  ·exact ih h2 dr.2 u hu
theorem gO.cells{a:bH}{v:Value}(h:gO B sites w av a v)(dr:gX a.cells=true):cw B sites w av a.cells v.cells.toList:=by
 cases a with
 |am l=>
  have h1:v.oneCell'=true:=dx.ja h (by simpa[bH.cells,gX] using dr)
  have:v.cells=#[v]:=by cases v<;>first|rfl|cases h1
  rw[this];exact .cons h .nil
 |agg aa=>
  obtain⟨vs,rfl,h1,h2⟩:=h;exact⟨h1,h2⟩
theorem RC{agg:Bool}{off n:Nat}{aa:List aD}{vs:List Value}{v:aP}(hc:cut agg off n aa=some v)(h1:agg=false->n=1)(h:cw B sites w av aa vs):
  off+n<=vs.length/\ce B sites w av v (tS agg ((vs.drop off).take n)):=by
 unfold cut at hc;cases agg with
 |true=>
  simp only[cond_true] at hc;cases hb:Nat.ble (off+n) aa.length with
  |false=>simp[hb] at hc
  |true=>
   simp only[hb,cond_true,Option.some.injEq] at hc;subst hc;have c7:off+n<=aa.length:=Nat.le_of_ble_eq_true hb;have:=(h.drop off).take n;exact⟨by rw[h.1];exact c7,_,rfl,this.1,this.2⟩
 |false=>
  simp only[cond_false] at hc;have hn:=h1 rfl;subst hn;cases Z:aa.drop off with
  |nil=>simp[Z] at hc
  |cons l r=>
   simp only[Z,Option.some.injEq] at hc;subst hc;have W5:=h.drop off;rw[Z] at W5;obtain⟨u,us,hu,hl,_⟩:=W5.inv;have hlen:off<aa.length:=by
    rcases Nat.lt_or_ge off aa.length with h|h
    ·exact h
    ·rw[List.drop_eq_nil_of_le h] at Z;cases Z
   refine⟨by rw[h.1];omega,?_⟩
   rw[hu];exact hl
theorem gp{ds:List aU}{vs:List Value}(hl:vs.length=ds.length)(h:∀j (h:j<ds.length) (ah:j<vs.length),Rd w av (ds[j]) (vs[j])):cw B sites w av (cu ds) vs:=
 ⟨by simp[cu,hl],fun j h1 h2=>by simp only[cu,List.getElem_map];exact h j (by simpa[cu] using h1) h2⟩
end
theorem fZ(b D j:Nat):(⟨b,D,none⟩:Addr).add j=⟨b,D+j,none⟩:=by
 unfold Addr.add;split<;>simp_all
def hH(w:World)(b D:Nat)(cs:List Value):Prop:=∀j u,cs[j]? =some u->w.cell? ⟨b,D+j,none⟩=some u
theorem hH.drop{w:World}{b D:Nat}{cs:List Value}(h:hH w b D cs)(m:Nat):hH w b (D+m) (cs.drop m):=by
 intro j u hu;rw[List.getElem?_drop] at hu;have:=h _ _ hu;rwa[Nat.add_assoc]
theorem hH.take{w:World}{b D:Nat}{cs:List Value}(h:hH w b D cs)(m:Nat):hH w b D (cs.take m):=by
 intro j u hu;rw[List.getElem?_take] at hu;split at hu
 ·exact h _ _ hu
 ·cases hu
theorem hH.row{w:World}{b:Nat}{cur:List Value}{T:TypeId}{cN:Nat×Nat}(h:w.heap[b]? =some (.cells cur.toArray T cN)):hH w b 0 cur:=by
 intro j u hu;rw[Nat.zero_add,cell_of_row w b j _ T cN h];simpa using hu
theorem vr(t:aJ)(xs:List (den t))(k:Nat)(x:den t)(hx:xs[k]? =some x):((flat t xs).drop (k*aC t)).take (aC t)=enc t x:=by
 apply List.ext_getElem?;intro j;rw[List.getElem?_take,List.getElem?_drop];split
 ·rename_i hj;exact flat_get t xs k j x hx hj
 ·rename_i hj;rw[List.getElem?_eq_none (by rw[fz];omega)]
section
variable {P:Program}{C:h'}{U:World}{O:List Nat}{X:Nat->Prop}{B:Nat->Value}{st:ai}{tm:Array Value}{w:World}
theorem ht{o s:Nat}{cells:List aD}(h:ga st o s=some cells):look st.sites o=some (.box s cells):=by
 unfold ga ai.Y at h;split at h
 ·rename_i ar jT hl;cases hb:ar.beq s with
  |false=>simp[hb] at h
  |true=>
   simp only[hb,cond_true,Option.some.injEq] at h;have:=Nat.eq_of_beq_eq_true hb;subst this h;exact hl
 ·cases h
theorem kj{o s:Nat}{t:aJ}{xs:List (den t)}(h:rowOf st o s=some ⟨t,xs⟩):look st.sites o=some (.row s t xs)\/look st.sites o=some (.da s t xs):=by
 unfold rowOf ai.Y at h;split at h
 ·rename_i ar bm ia hl;cases hb:ar.beq s with
  |false=>simp[hb] at h
  |true=>
   simp only[hb,cond_true,Option.some.injEq] at h;have:=Nat.eq_of_beq_eq_true hb;subst this;cases h;exact .inl hl
 ·rename_i ar bm ia hl;cases hb:ar.beq s with
  |false=>simp[hb] at h
  |true=>
   simp only[hb,cond_true,Option.some.injEq] at h;have:=Nat.eq_of_beq_eq_true hb;subst this;cases h;exact .inr hl
 ·cases h
theorem Ref.at{sites:List (Nat×Site)}{o s:Nat}{p:Prop}{Y:Site}(h:Ref sites o s p)(hl:look sites o=some Y)(M:Y.b9=s):p:=by
 obtain⟨bF,h1,_,ab⟩:=h;rw[hl] at h1;cases h1;exact ab M
theorem Ref.mk{sites:List (Nat×Site)}{o s:Nat}{p:Prop}{Y:Site}(hl:look sites o=some Y)(M:Y.b9=s)(ag:p):Ref sites o s p:=
 ⟨Y,hl,by omega,fun _=>ag⟩
theorem ak.box(S:ak U O X B st tm w){o s off:Nat}{cells:List aD}(h:look st.sites o=some (.box s cells)){v:Value}(hv:dx B st.sites w (au X B st.sites) (.ptr o s off) v):
  ∃b T cur,B o=.pointer (some ⟨b,0,none⟩)/\v=.pointer (some ⟨b,off,none⟩)/\w.heap[b]? =some (.cells (List.toArray cur) T (0,0))/\(∀u∈cur,u.oneCell'=true)/\cw B st.sites w (au X B st.sites) cells cur:=by
 obtain⟨b,T,cur,h1,h2,ab,aF,_,bo⟩:=S.sites o _ h;obtain⟨be,g2,g3⟩:=hv;have g1:=Ref.at g3 h rfl;rw[h1] at g1;cases g1;exact⟨b,T,cur,h1,g2,h2,aF,ab,bo⟩
theorem ak.row(S:ak U O X B st tm w){o s:Nat}{t:aJ}{xs:List (den t)}(h:rowOf st o s=some ⟨t,xs⟩):
  ∃cs:List Value,cw B st.sites w (au X B st.sites) (cu (flat t xs)) cs/\
   ((bT (B o)=.slice none 0 0/\xs=[])\/∃b c,bT (B o)=.slice (some ⟨b,0,none⟩) xs.length c/\hH w b 0 cs/\xs.length<=c):=by
 rcases kj h with h|h
 ·obtain⟨e,cs,h1,h2⟩:=S.sites o _ h;have hl:cs.length=(flat t xs).length:=by rw[dU];exact h1.1
  refine⟨cs,gp hl h2,?_⟩;rw[(h6 h1).1];rcases h1.2 with⟨hn,h0⟩|⟨g,cap,cur,bL,hv,_,hg,hnc,_,_,ho⟩
  ·exact .inl ⟨hn,List.eq_nil_of_length_eq_zero h0⟩
  ·refine .inr ⟨_,_,hv,fun j u hu=>?_,hnc⟩
   rw[Nat.zero_add,cell_of_row w g j cur e bL hg];rw[<-ho,List.getElem?_take] at hu;split at hu
   ·simpa using hu
   ·cases hu
 ·obtain⟨h1,bW⟩:Rd w (au X B st.sites) (.sl t xs) (bT (B o))/\w7 (bT (B o)):=S.sites o _ h;generalize hv:bT (B o)=v at h1 bW;cases h1 with
  |nil t=>exact⟨[],⟨rfl,fun j h=>by simp[cu,flat] at h⟩,.inl ⟨rfl,rfl⟩⟩
  |sl t xs a cap cs n hn hcap hb hl hc hr=>
   subst hn;rcases bW with bW|⟨b,n,c,bW⟩
   ·cases bW
   ·cases bW;exact⟨cs,gp hl hr,.inr ⟨b,cap,rfl,fun j u hu=>by have:=hc j u hu;rwa[fZ] at this,hcap⟩⟩
theorem DB{o s:Nat}{t:aJ}{xs:List (den t)}(h:oX st o s=some ⟨t,xs⟩):look st.sites o=some (.tail s t xs):=by
 unfold oX at h;split at h
 ·rename_i ar bm ia hl;cases hb:ar.beq s with
  |false=>simp[hb] at h
  |true=>
   simp only[hb,cond_true,Option.some.injEq] at h;have:=Nat.eq_of_beq_eq_true hb;subst this;cases h;exact hl
 ·cases h
theorem abn{o s:Nat}{t:aJ}{xs:List (den t)}(h:o' st o s=some ⟨t,xs⟩):rowOf st o s=some ⟨t,xs⟩\/look st.sites o=some (.tail s t xs):=by
 unfold o' at h;split at h
 ·rename_i x hx;cases h;exact .inl hx
 ·exact .inr (DB h)
theorem ak.tail(S:ak U O X B st tm w){o s:Nat}{t:aJ}{xs:List (den t)}(h:look st.sites o=some (.tail s t xs)):
  ∃cs:List Value,cw B st.sites w (au X B st.sites) (cu (flat t xs)) cs/\
   ((bT (B o)=.slice none 0 0/\xs=[])\/∃b D c,bT (B o)=.slice (some ⟨b,D,none⟩) xs.length c/\hH w b D cs/\xs.length<=c):=by
 obtain⟨_,e,cs,h1,h2⟩:=S.sites o _ h;refine⟨cs,gp h2.1.symm.symm h2.2,?_⟩;rcases h1.2 with⟨hn,h0⟩|⟨g,D,cap,cur,hv,hg,hnc,_,_,ho⟩
 ·exact .inl ⟨by rw[hn];rfl,List.eq_nil_of_length_eq_zero h0⟩
 ·refine .inr ⟨g,D,cap,by rw[hv];rfl,fun j u hu=>?_,hnc⟩
  rw[cell_of_row w g (D+j) cur e (0,0) hg];rw[<-ho,List.getElem?_take] at hu;split at hu
  ·rw[List.getElem?_drop] at hu;simpa using hu
  ·cases hu
theorem ak.o'(S:ak U O X B st tm w){o s:Nat}{t:aJ}{xs:List (den t)}(h:o' st o s=some ⟨t,xs⟩):
  (∃Y,look st.sites o=some Y/\Y.b9=s)/\∃cs:List Value,cw B st.sites w (au X B st.sites) (cu (flat t xs)) cs/\
   ((bT (B o)=.slice none 0 0/\xs=[])\/∃b D c,bT (B o)=.slice (some ⟨b,D,none⟩) xs.length c/\hH w b D cs/\xs.length<=c):=by
 rcases abn h with h|h
 ·refine⟨by rcases kj h with h|h<;>exact⟨_,h,rfl⟩,?_⟩
  obtain⟨cs,h1,h2⟩:=S.row h;exact⟨cs,h1,h2.imp id fun⟨b,c,h⟩=>⟨b,0,c,h⟩⟩
 ·exact⟨⟨_,h,rfl⟩,S.tail h⟩
def VD(g:Nat)(t:aJ)(xs:List (den t)):Prop:=g∈px/\∀w (av:Nat->Prop),qF w->∃T bL,∃cs:List Value,w.heap[g]? =some (.cells cs.toArray T bL)/\cs.length=(flat t xs).length/\∀j (h:j<(flat t xs).length) (ah:j<cs.length),Rd w av ((flat t xs)[j]) (cs[j])
structure CtxOk(P:Program)(C:Ctx):Prop where
 tt:∀T,(C.tt T).ok P T
 gt:∀g t xs,C.gt g=some ⟨t,xs⟩->VD g t xs
theorem E5{ti:cm}(h:ti.known=true):ti≠.none:=by rintro rfl;cases h
theorem Fo{ti:cm}(h:ti.agg=false):ti.size=1:=by cases ti<;>first|rfl|cases h
theorem ad4{agg:Bool}{off n:Nat}{aa:List aD}(h:off+n<=aa.length)(h1:agg=false->n=1):cut agg off n aa≠none:=by
 unfold cut;cases agg with
 |true=>
  have:Nat.ble (off+n) aa.length=true:=Nat.ble_eq_true_of_le h;simp[this]
 |false=>
  have:=h1 rfl;simp only[cond_false];cases Z:aa.drop off with
  |nil=>have:=congrArg List.length Z;simp at this;omega
  |cons l r=>simp
theorem afq(S:ak U O X B st tm w){C:Ctx}(aG:CtxOk P C){D:Oper}{T:TypeId}{x:Operand}(ap:D.op=.load T x)(Z:cd st D.dst=true)(af:(C.tt T).known=true):
  Holds (tZ (C.tt T).agg (C.tt T).size st (aS C st T x)) (cG P U O X st tm w D):=by
 have hn:=E5 af;have bx:=cV S C T x;have fin:∀{b p:Nat} {aa:List aD} {vs:List Value} {off:Nat} {v:aP},Act.eval ⟨tm,[]⟩ x=.pointer (some ⟨b,p+off,none⟩)->hH w b p vs->cw B st.sites w (au X B st.sites) aa vs->
   cut (C.tt T).agg off (C.tt T).size aa=some v->cG P U O X st tm w D v []:=by
  intro b p aa vs off v hx hc hl j3;obtain⟨c7,JZ⟩:=RC j3 Fo hl;refine dH S Z (vv:=tS (C.tt T).agg ((vs.drop off).take (C.tt T).size)) ?_ JZ;have cP:=sN (P:=P) (w:=w) (aG.tt T) hn ⟨b,p+off,none⟩ ((vs.drop off).take (C.tt T).size) (by simp;omega) (fun j u hu=>by rw[fZ];exact(hc.drop off).take _ j u hu)
  unfold execOp;simp only[ap,Instr.loadAt,Instr.sureAddr,hx,Sem.run_bind,Sem.run_pure,Result.andThen_ok,cP]
 unfold tZ;split
 ·rename_i o s off b5;rw[b5] at bx;split
  ·rename_i cells hb;split
   ·rename_i v j3;obtain⟨b,gk,cur,_,hv,hg,_,hl⟩:=S.box (ht hb) bx;exact Holds.ok (fin (p:=0) (by rw[Nat.zero_add];exact hv) (hH.row hg) hl j3)
   ·exact .fail
  ·exact .fail
 ·rename_i cells off b5;rw[b5] at bx;split
  ·rename_i v j3;obtain⟨b,p,hv,_,_,cs,hl,hc,hr⟩:=bx;exact Holds.ok (fin hv hc (gp hl hr) j3)
  ·exact .fail
 ·rename_i o s u k off b5;rw[b5] at bx;split
  ·rename_i t xs cC;split
   ·rename_i na;obtain⟨rfl,c7⟩:=na;refine Holds.eD fun y al=>?_
    have d_:xs[k]? =some y:=al;obtain⟨⟨Y,fB,jF⟩,cs,hl,jc⟩:=S.o' cC;obtain⟨b,cX,hv,wW⟩:=bx;obtain⟨n,c,bQ⟩:=Ref.at wW fB jF;cases j3:cut (C.tt T).agg off (C.tt T).size (cu (enc t y)) with
    |none=>exact absurd j3 (ad4 (by simpa[cu,fz] using c7) Fo)
    |some v=>
     rcases jc with⟨qm,_⟩|⟨be,o2,fW,ee,hcs,_⟩
     ·rw[bQ] at qm;cases qm
     ·rw[bQ] at ee;cases ee;have e1:cu (enc t y)=((cu (flat t xs)).drop (k*aC t)).take (aC t):=by
       rw[<-vr t xs k y d_];simp[cu,List.map_drop,List.map_take]
      rw[e1] at j3;exact fin (p:=cX+k*aC t) (by rw[Nat.add_assoc];exact hv) ((hcs.drop (k*aC t)).take (aC t)) ((hl.drop (k*aC t)).take (aC t)) j3
   ·exact .fail
  ·exact .fail
 ·exact .fail
end
section
variable {P:Program}{U:World}{O:List Nat}{X:Nat->Prop}{B:Nat->Value}{st:ai}{tm:Array Value}{w:World}
theorem s0{u:Bool}{e:TypeId}{size:Nat}{v:Value}{n:Nat}{xs:List Value}{b:Nat}(h:rowAt w u e size v n xs)(hb:aW v=some b):b<w.heap.size:=by
 rcases h.2 with⟨hn,_⟩|⟨g,cap,cur,bL,hv,_,hg,_⟩
 ·rw[hn] at hb;cases hb
 ·rw[hv] at hb;cases hb;exact(Array.getElem?_eq_some_iff.1 hg).1
theorem Deep.lt{av:Nat->Prop}{ds:List aU}{cs aw:List Value}(h:Deep w av ds cs aw):∀n,n∈aw->∀b,aW n=some b->b<w.heap.size:=by
 induction h with
 |nil=>intro n hn;cases hn
 |row u ys e aa _ h _ _ ih=>
  intro n hn b hb;rcases List.mem_cons.1 hn with rfl|hn
  ·exact s0 h hb
  ·exact ih n hn b hb
 |leaf _ _ _ ih=>exact ih
theorem fQ.lt{av:Nat->Prop}{F:List (J×Value)}{es:List (J×Option (List J))}{aw:List Value}(h:fQ w av F es aw):∀n,n∈aw->∀b,aW n=some b->b<w.heap.size:=by
 induction h with
 |nil=>intro n hn;cases hn
 |l_ _ _ _ ih=>exact ih
 |row _ _ _ _ _ h _ _ ih=>
  intro n hn b hb;rcases List.mem_cons.1 hn with rfl|hn
  ·exact s0 h hb
  ·exact ih n hn b hb
theorem aa8{e:TypeId}{size:Nat}{v:Value}{n:Nat}{xs:List Value}(h:oY w e size v n xs){b:Nat}(hb:b∈bl v):b<w.heap.size:=by
 rcases h.2 with⟨hn,_⟩|⟨g,D,cap,cur,hv,hg,_⟩
 ·rw[hn] at hb;cases hb
 ·rw[hv] at hb;have hb:b∈[g]:=hb;rw[List.mem_singleton.1 hb];exact(Array.getElem?_eq_some_iff.1 hg).1
theorem ak.dX(S:ak U O X B st tm w){o b:Nat}(hl:b2 st.sites o)(hb:b∈bl (B o)):b<w.heap.size:=by
 obtain⟨Y,h1,h2⟩:=hl;have:=S.sites o Y h1;cases Y with
 |box s cells=>
  obtain⟨be,T,cur,g1,g2,_⟩:=this;rw[g1] at hb;have hb:b∈[be]:=hb;rw[List.mem_singleton.1 hb];exact(Array.getElem?_eq_some_iff.1 g2).1
 |row s t xs=>
  obtain⟨e,cs,g1,_⟩:=this;exact s0 g1 (vM g1 hb)
 |map s t es=>
  obtain⟨be,g1,g2⟩:=this;rw[g1] at hb;have hb:b∈[be]:=hb;rw[List.mem_singleton.1 hb];exact g2.lt
 |deep s t xs=>
  obtain⟨e,v,aw,cs,g1,_,g2,g3⟩:=this;rw[g1] at hb;rcases hC.1 hb with hb|⟨n,hn,hb⟩
  ·exact s0 g2 hb
  ·exact g3.lt n hn b hb
 |eB s es=>
  obtain⟨be,arr,clock,aw,g1,_,g2,_,_,g3⟩:=this;rw[g1] at hb;rcases hC.1 hb with hb|⟨n,hn,hb⟩
  ·cases hb;exact(Array.getElem?_eq_some_iff.1 g2).1
  ·exact g3.lt n hn b hb
 |tail s t xs=>
  obtain⟨_,e,cs,g,_⟩:=this;exact aa8 g hb
 |da=>cases h2
 |dead=>cases h2
theorem A7{B aE:Nat->Value}{sites bp:List (Nat×Site)}{w w':World}{av bX:Nat->Prop}(go:∀{a:aP} {v:Value},ce B sites w av a v->ce aE bp w' bX a v){aa:List aD}{vs:List Value}
  (h:cw B sites w av aa vs):cw aE bp w' bX aa vs:=by
 obtain⟨cH,h1,h2,ab⟩:=go (a:=.av (.agg aa)) (v:=.agg vs.toArray) ⟨vs,rfl,h.1,h.2⟩;have:vs=cH:=by simpa using h1
 subst this;exact⟨h2,ab⟩
theorem iq{B aE:Nat->Value}{sites bp:List (Nat×Site)}{w w':World}{av bX:Nat->Prop}(go:∀{a:aP} {v:Value},ce B sites w av a v->ce aE bp w' bX a v){d:aU}{v:Value}
  (h:Rd w av d v):Rd w' bX d v:=go (a:=one d) (v:=v) h
theorem MF{sites:List (Nat×Site)}{o:Nat}{Y bF:Site}(hl:look sites o=some Y)(h:bF.live=Y.live)(H:Nat):b2 (cf sites o bF) H <-> b2 sites H:=by
 unfold b2;rw[cv];by_cases e:o=H
 ·subst e;simp only[if_true,hl,Option.some.injEq];constructor
  ·rintro⟨s,rfl,h2⟩;exact⟨Y,rfl,h▸h2⟩
  ·rintro⟨s,rfl,h2⟩;exact⟨bF,rfl,h▸h2⟩
 ·simp only[e,if_false]
theorem ak.write(S:ak U O X B st tm w){o b:Nat}{Y bF:Site}{cur uA:Array Value}{T:TypeId}{cN:Nat×Nat}(hl:look st.sites o=some Y)(fM:Y.live=true)(agU:bF.live=true)(M:bF.b9=Y.b9)
  (bQ:b∈bl (B o)) (hg:w.heap[b]? =some (.cells cur T cN))
  (eE:∀{bp:List (Nat×Site)} {w':World},bp=cf st.sites o bF->w'=w.setRow b uA->w'.heap[b]? =some (.cells uA T cN)->
   (∀{a v},ce B st.sites w (au X B st.sites) a v->ce B bp w' (au X B bp) a v)->io B bp w' (au X B bp) o bF):
  ak U O X B {st with sites:=cf st.sites o bF} tm (w.setRow b uA):=by
 have cI:b2 st.sites o:=⟨Y,hl,fM⟩;have mV:∀H,b2 (cf st.sites o bF) H <-> b2 st.sites H:=MF hl (agU.trans fM.symm);have b':∀be,au X B (cf st.sites o bF) be <-> au X B st.sites be:=by
  intro be;unfold au;simp only[mV]
 have hne:∀be,¬au X B st.sites be->be≠b:=by
  rintro be h rfl;exact h (.inr ⟨o,cI,bQ⟩)
 refine S.o9 (fun H s br=>?_) (fun be h _=>setRow_other w b be _ (hne be h)) (fun be h _=>by rw[b'];exact h) (fun go H s br=>?_) (fun H aN be h1 h2=>S.dp H aN be ((mV H).1 h1) ((mV aN).1 h2))
  (fun H be h=>S.cg H be ((mV H).1 h)) (fun H be h hb=>by rw[setRow_size];exact S.dX ((mV H).1 h) hb) ?_ (by rw[setRow_size];exact Nat.le_refl _)
 ·rw[cv];by_cases e:o=H
  ·subst e;rw[hl] at br;cases br;exact⟨bF,by simp,by omega,fun _=>rfl⟩
  ·exact⟨s,by simp[e,br],Nat.le_refl _,fun _=>rfl⟩
 ·rw[cv] at br;by_cases e:o=H
  ·subst e;simp only[if_true,Option.some.injEq] at br;subst br;exact .inr (eE rfl rfl (setRow_heap w b cur uA T cN hg) go)
  ·simp only[e,if_false] at br;refine .inl ⟨br,rfl,fun uv be ch=>setRow_other w b be _ ?_⟩
   rintro rfl;exact e (S.dp o H _ cI ⟨s,br,uv⟩ bQ ch)
 ·have aL:=S.frame;refine⟨aL.os,aL.tape,aL.output,by rw[setRow_size];exact aL.size,fun be h1 h2=>?_⟩
  rw[setRow_other w b be _ ?_]
  ·exact aL.block be h1 h2
  ·rintro rfl;rcases(S.cg o _ cI bQ).2 with h|h
   ·exact h2 h
   ·omega
theorem yR{av:Nat->Prop}{t:aJ}{xs:List (den t)}{e:TypeId}{v:Value}{cs:List Value}(h1:rowAt w t.ei e (aC t) v xs.length cs)(h2:ck w av (flat t xs) cs)(hb:∀b,aW v=some b->¬av b):Rd w av (.sl t xs) v/\w7 v:=by
 rcases h1.2 with⟨hn,h0⟩|⟨g,cap,cur,bL,hv,_,hg,hnc,_,_,ho⟩
 ·have:xs=[]:=List.eq_nil_of_length_eq_zero h0;subst this;rw[hn];exact⟨.nil t,.inl rfl⟩
 ·rw[hv];refine⟨?_,.inr ⟨_,_,_,rfl⟩⟩;refine .sl t xs _ cap cs xs.length rfl hnc (fun _=>hb g (by rw[hv];rfl)) h2.1 (fun j u hu=>?_) h2.2
  rw[fZ,Nat.zero_add,cell_of_row w g j cur e bL hg];rw[<-ho,List.getElem?_take] at hu;split at hu
  ·simpa using hu
  ·cases hu
theorem ck.cons{av:Nat->Prop}{d:aU}{ds:List aU}{v:Value}{vs:List Value}(h:Rd w av d v)(k:ck w av ds vs):ck w av (d::ds) (v::vs):=by
 refine⟨by simp[k.1],fun j g1 g2=>?_⟩
 cases j with
 |zero=>exact h
 |succ j=>exact k.2 j (by simpa using g1) (by simpa using g2)
theorem Deep.ans{w':World}{av bX:Nat->Prop}{ds:List aU}{cs aw:List Value}(h:Deep w av ds cs aw)(go:∀{d v},Rd w av d v->Rd w' bX d v):
  (∀n,n∈aw->∀b,aW n=some b->¬bX b/\w'.heap[b]? =w.heap[b]?)->ck w' bX ds cs:=by
 induction h with
 |nil=>intro _;exact⟨rfl,fun j h=>by simp at h⟩
 |row u ys e aa _ h hr _ ih=>
  intro af;refine .cons (yR (oG h fun b hb=>(af _ List.mem_cons_self b hb).2) ⟨hr.1,fun j g1 g2=>go (hr.2 j g1 g2)⟩ fun b hb=>(af _ List.mem_cons_self b hb).1).1 (ih fun n hn=>af n (List.mem_cons_of_mem _ hn))
 |leaf _ h _ ih=>intro af;exact .cons (go h) (ih af)
theorem ak.freeze(S:ak U O X B st tm w){o s:Nat}{t:aJ}{xs:List (den t)}(hl:look st.sites o=some (.row s t xs)\/look st.sites o=some (.deep s t xs)):
  ak U O X B {st with sites:=cf st.sites o (.da s t xs)} tm w:=by
 have cI:b2 st.sites o:=by rcases hl with hl|hl<;>exact⟨_,hl,rfl⟩
 have dz:∀H,b2 (cf st.sites o (.da s t xs)) H->b2 st.sites H/\H≠o:=by
  rintro H ⟨Y,h1,h2⟩;rw[cv] at h1;by_cases e:o=H
  ·subst e;simp at h1;subst h1;cases h2
  ·simp only[e,if_false] at h1;exact⟨⟨Y,h1,h2⟩,fun h=>e h.symm⟩
 have b':∀be,au X B (cf st.sites o (.da s t xs)) be->au X B st.sites be:=by
  rintro be (h|⟨H,h1,h2⟩)
  ·exact .inl h
  ·exact .inr ⟨H,(dz H h1).1,h2⟩
 have nc:∀b,b∈bl (B o)->¬au X B (cf st.sites o (.da s t xs)) b:=by
  rintro b hb (hx|⟨H,g1,g2⟩)
  ·exact(S.cg o b cI hb).1 hx
  ·obtain⟨g3,g4⟩:=dz H g1;exact g4 (S.dp H o b g3 cI g2 hb)
 refine S.o9 (fun H Y br=>?_) (fun _ _ _=>rfl) (fun be h _ ah=>h (b' be ah)) (fun go H Y br=>?_) (fun H aN be h1 h2=>S.dp H aN be (dz H h1).1 (dz aN h2).1)
  (fun H be h=>S.cg H be (dz H h).1) (fun H be h hb=>S.dX (dz H h).1 hb) S.frame (Nat.le_refl _)
 ·rw[cv];by_cases e:o=H
  ·subst e;refine⟨.da s t xs,by simp,?_,fun _=>rfl⟩
   rcases hl with hl|hl<;>rw[hl] at br<;>cases br<;>exact Nat.le_refl _
  ·exact⟨Y,by simp[e,br],Nat.le_refl _,fun _=>rfl⟩
 ·rw[cv] at br;by_cases e:o=H
  ·subst e;simp only[if_true,Option.some.injEq] at br;subst br;refine .inr ?_
   show Rd _ _ (.sl t xs) (bT (B o))/\w7 (bT (B o));rcases hl with hl|hl
   ·obtain⟨bK,cs,h1,h2⟩:=S.sites o _ hl;rw[(h6 h1).1];exact yR h1 ⟨by rw[dU];exact h1.1,fun j g1 g2=>iq go (h2 j g1 g2)⟩ fun b hb=>nc b (fY hb)
   ·obtain⟨bK,v,aw,cs,h0,_,h1,h2⟩:=S.sites o _ hl;have bW:bT (B o)=v:=by rw[h0];rfl
    rw[bW];exact yR h1 (h2.ans (iq go) fun n hn b hb=>⟨nc b (by rw[h0];exact hC.2 (.inr ⟨n,hn,hb⟩)),rfl⟩) fun b hb=>nc b (by rw[h0];exact hC.2 (.inl hb))
  ·simp only[e,if_false] at br;exact .inl ⟨br,rfl,fun _ _ _=>rfl⟩
theorem N_{aK:Type}(l:List (Nat×aK))(n:Nat)(v:aK)(h:look l n=some v):cf l n v=l:=by
 induction l with
 |nil=>simp[look] at h
 |cons p l ih=>
  obtain⟨k,u⟩:=p;simp only[look] at h;simp only[cf];cases hb:k.beq n with
  |true=>simp only[hb,cond_true,Option.some.injEq] at h;subst h;simp
  |false=>simp only[hb,cond_false] at h;simp[ih h]
def dJ(sites:List (Nat×Site))(us:List (Nat×Site)):Prop:=
 ∀o Y,(o,Y)∈us->∃s t,∃xs:List (den t),Y=.da s t xs/\(look sites o=some (.row s t xs)\/look sites o=some (.da s t xs)\/look sites o=some (.deep s t xs))
theorem dJ.nil{sites:List (Nat×Site)}:dJ sites []:=fun _ _ h=>by simp at h
theorem dJ.append{sites us vs:List (Nat×Site)}(h:dJ sites us)(ah:dJ sites vs):dJ sites (us++vs):=by
 intro o Y hm;rcases List.mem_append.1 hm with hm|hm
 ·exact h o Y hm
 ·exact ah o Y hm
theorem dJ.step{sites us:List (Nat×Site)}{o:Nat}{Y:Site}(h:dJ sites ((o,Y)::us)):dJ (cf sites o Y) us:=by
 obtain⟨s,t,xs,rfl,hl⟩:=h o Y (by simp)
 intro H bF hm;obtain⟨ar,bm,ia,rfl,fC⟩:=h H bF (by simp[hm])
 refine⟨ar,bm,ia,rfl,?_⟩;rw[cv];by_cases e:o=H
 ·subst e;simp only[if_true];right;left;rcases hl with hl|hl|hl<;>rcases fC with fC|fC|fC<;>rw[hl] at fC<;>cases fC<;>rfl
 ·simp only[e,if_false];exact fC
theorem ak.AI{us:List (Nat×Site)}:∀{st:ai},ak U O X B st tm w->dJ st.sites us->ak U O X B {st with sites:=ba st.sites us} tm w:=by
 induction us with
 |nil=>intro st S _;exact S
 |cons p us ih=>
  obtain⟨o,Y⟩:=p;intro st S h;have ah:=h.step;obtain⟨s,t,xs,rfl,hl⟩:=h o Y (by simp)
  simp only[ba];rcases hl with hl|hl|hl
  ·exact ih (S.freeze (.inl hl)) ah
  ·rw[N_ _ _ _ hl] at ah ⊢;exact ih S ah
  ·exact ih (S.freeze (.inr hl)) ah
theorem mB{us:List (Nat×Site)}:∀{sites:List (Nat×Site)},dJ sites us->∀o,(look (ba sites us) o=look sites o)\/(∃s t,∃xs:List (den t),(look sites o=some (.row s t xs)\/look sites o=some (.da s t xs)\/look sites o=some (.deep s t xs))/\look (ba sites us) o=some (.da s t xs)):=by
 induction us with
 |nil=>intro sites _ o;exact .inl rfl
 |cons p us ih=>
  obtain⟨H,Y⟩:=p;intro sites h o;obtain⟨s,t,xs,rfl,hl⟩:=h H Y (by simp)
  simp only[ba];have hc:=cv sites H o (.da s t xs);rcases ih h.step o with h1|⟨ar,bm,ia,h1,h2⟩
  ·by_cases e:H=o
   ·subst e;simp only[if_true] at hc;exact .inr ⟨s,t,xs,hl,h1.trans hc⟩
   ·simp only[e,if_false] at hc;exact .inl (h1.trans hc)
  ·by_cases e:H=o
   ·subst e;simp only[if_true] at hc;rw[hc] at h1;rcases h1 with h1|h1|h1
    ·cases h1
    ·cases h1;exact .inr ⟨s,t,xs,hl,h2⟩
    ·cases h1
   ·simp only[e,if_false] at hc;rw[hc] at h1;exact .inr ⟨ar,bm,ia,h1,h2⟩
theorem yl{us:List (Nat×Site)}:∀{sites:List (Nat×Site)},dJ sites us->∀{o s:Nat} {t:aJ} {xs:List (den t)},(o,Site.da s t xs)∈us->look (ba sites us) o=some (.da s t xs):=by
 intro sites h o s t xs hm;obtain⟨pH,t0,Cy,he,hl⟩:=h o _ hm;cases he;rcases mB h o with h1|⟨ar,bm,ia,h1,h2⟩
 ·-- named,and aqX arX
  induction us generalizing sites with
  |nil=>simp at hm
  |cons p us ih=>
   obtain⟨H,Y⟩:=p;simp only[ba] at h1 ⊢;rcases List.mem_cons.1 hm with hm|hm
   ·cases hm;rcases mB h.step o with h2|⟨ar,bm,ia,h2,ab⟩
    ·rw[h2,cv];simp
    ·rw[cv] at h2;simp at h2;obtain⟨rfl,rfl,h2⟩:=h2;rw[ab];cases h2;rfl
   ·have hc:=cv sites H o Y;by_cases e:H=o
    ·subst e;obtain⟨s1,t1,amY,rfl,hl1⟩:=h H Y (by simp)
     have:Site.da s1 t1 amY=Site.da s t xs:=by
      rcases hl with hl|hl|hl<;>rcases hl1 with hl1|hl1|hl1<;>rw[hl] at hl1<;>cases hl1<;>rfl
     cases this;simp only[if_true] at hc;rcases mB h.step H with h2|⟨ar,bm,ia,h2,ab⟩
     ·rw[h2,hc]
     ·rw[hc] at h2;rcases h2 with h2|h2|h2
      ·cases h2
      ·cases h2;exact ab
      ·cases h2
    ·simp only[e,if_false] at hc;refine ih h.step hm (by rw[hc];exact hl) ?_
     rw[h1,hc]
 ·rcases hl with hl|hl|hl<;>rcases h1 with h1|h1|h1<;>rw[hl] at h1<;>cases h1<;>exact h2
end
section
variable {P:Program}{U:World}{O:List Nat}{X:Nat->Prop}{B:Nat->Value}{st:ai}{tm:Array Value}{w:World}
structure lM(U:World)(O:List Nat)(X:Nat->Prop)(B:Nat->Value)(st:ai)(tm:Array Value)(w:World)(vs:List (Nat×Site)):Prop where
 old:ak U O X B st tm w
 bL:dJ st.sites vs
theorem lM.new{vs:List (Nat×Site)}(aL:lM U O X B st tm w vs):ak U O X B {st with sites:=ba st.sites vs} tm w:=aL.old.AI aL.bL
theorem lM.go{vs:List (Nat×Site)}(aL:lM U O X B st tm w vs){a:aP}{v:Value}(h:ce B st.sites w (au X B st.sites) a v):ce B (ba st.sites vs) w (au X B (ba st.sites vs)) a v:=by
 have dz:∀H,b2 (ba st.sites vs) H->b2 st.sites H:=by
  rintro H ⟨Y,h1,h2⟩;rcases mB aL.bL H with h|⟨s,t,xs,_,h⟩
  ·exact⟨Y,h▸h1,h2⟩
  ·rw[h] at h1;cases h1;cases h2
 refine h.goes ⟨fun o Y bn=>?_,fun _ _ _=>rfl,fun b hb _ ch=>hb ?_⟩ (Nat.le_refl _) ?_
 ·rcases mB aL.bL o with h|⟨s,t,xs,h1,h2⟩
  ·exact⟨Y,h.trans bn,Nat.le_refl _,fun _=>rfl⟩
  ·refine⟨_,h2,?_,fun _=>rfl⟩
   rw[bn] at h1;rcases h1 with h1|h1|h1<;>cases h1<;>exact Nat.le_refl _
 ·rcases ch with h|⟨H,h1,h2⟩
  ·exact .inl h
  ·exact .inr ⟨H,dz H h1,h2⟩
 ·rintro b (h|⟨H,h1,h2⟩)
  ·exact aL.old.old b h
  ·exact aL.old.dX (dz H h1) h2
theorem afB{o s:Nat}{t:aJ}{xs:List (den t)}(hr:rowOf st o s=some ⟨t,xs⟩):dJ st.sites (mZ st o s t xs):=by
 unfold mZ;split
 ·exact .nil
 ·intro H Y hm;simp only[List.mem_singleton,Prod.mk.injEq] at hm;obtain⟨rfl,rfl⟩:=hm;exact⟨s,t,xs,rfl,(kj hr).imp id .inl⟩
theorem OW{o s:Nat}{t:aJ}{xs:List (den t)}(hr:rowOf st o s=some ⟨t,xs⟩):ba st.sites (mZ st o s t xs)=ba st.sites [(o,.da s t xs)]:=by
 unfold mZ;split
 ·rename_i pH t0 Cy h0;have h0:look st.sites o=some (.da pH t0 Cy):=h0;simp only[ba];rcases kj hr with h|h
  ·rw[h0] at h;cases h
  ·exact(N_ _ _ _ h).symm
 ·rfl
theorem acb{sites us:List (Nat×Site)}(h:dJ sites us){o s:Nat}{t:aJ}{xs:List (den t)}(hl:look sites o=some (.da s t xs)):look (ba sites us) o=some (.da s t xs):=by
 rcases mB h o with h1|⟨ar,bm,ia,h1,h2⟩
 ·rw[h1];exact hl
 ·rw[hl] at h1;rcases h1 with h1|h1|h1
  ·cases h1
  ·cases h1;exact h2
  ·cases h1
theorem vo{o s:Nat}{t:aJ}{xs:List (den t)}(h:mI st o s=some ⟨t,xs⟩):look st.sites o=some (.deep s t xs):=by
 unfold mI at h;split at h
 ·rename_i ar bm ia M;cases hb:ar.beq s with
  |false=>rw[hb] at h;cases h
  |true=>
   rw[hb] at h;have:=Nat.eq_of_beq_eq_true hb;subst this;cases h;exact M
 ·cases h
theorem RB{l:aD}{d:aU}{us:List (Nat×Site)}(h:kd st l=some (d,us)):dJ st.sites us:=by
 unfold kd at h;split at h
 ·cases h;exact .nil
 ·cases h;exact .nil
 ·rename_i o s;split at h
  ·rename_i t xs hr;cases h;exact afB hr
  ·split at h
   ·rename_i t xs hr;cases h;intro H Y hm;simp only[List.mem_singleton,Prod.mk.injEq] at hm;obtain⟨rfl,rfl⟩:=hm;exact⟨s,t,xs,rfl,.inr (.inr (vo hr))⟩
   ·cases h
 ·cases h;exact .nil
 ·cases h
theorem RA{l:aD}{d:aU}{us vs:List (Nat×Site)}{v:Value}(h:kd st l=some (d,us))(hv:dx B st.sites w (au X B st.sites) l v)
  (aL:lM U O X B st tm w vs) (dz:∀p,p∈us->p∈vs):Rd w (au X B (ba st.sites vs)) d v:=by
 unfold kd at h;split at h
 ·cases h;exact iq aL.go hv
 ·cases h;rw[show v=_ from hv];exact .nil _
 ·rename_i o s;split at h
  ·rename_i t xs hr;cases h;have hl:look (ba st.sites vs) o=some (.da s t xs):=by
    unfold mZ at dz;split at dz
    ·rename_i pH t0 Cy h0;have h0:look st.sites o=some (.da pH t0 Cy):=h0;rcases kj hr with h|h
     ·rw[h0] at h;cases h
     ·exact acb aL.bL h
    ·exact yl aL.bL (dz _ (List.mem_singleton.2 rfl))
   have:=aL.new.sites o _ hl;have hN:v=bT (B o):=by
    rcases kj hr with h1|h1<;>exact Ref.at hv.2 h1 rfl
   rw[hN];exact this.1
  ·split at h
   ·rename_i t xs hr;cases h;have:=aL.new.sites o _ (yl aL.bL (dz _ (List.mem_singleton.2 rfl)));have hN:v=bT (B o):=Ref.at hv.2 (vo hr) rfl;rw[hN];exact this.1
   ·cases h
 ·rename_i g;cases h;obtain⟨aa,rfl,hl,_⟩:=hv;have:aa=[]:=List.eq_nil_of_length_eq_zero (by simpa using hl)
  subst this;exact .fn g [] [] (fun _=>[]) _ rfl rfl (fun b hb=>by simp at hb) (fun b hb=>by simp at hb) (fun i hi=>by simp at hi) (fun i hi=>by simp at hi) (fun i hi=>by simp at hi)
 ·cases h
theorem GQ:∀{aa:List aD} {ds:List aU} {us:List (Nat×Site)},h_ st aa=some (ds,us)->dJ st.sites us:=by
 intro aa;induction aa with
 |nil=>intro ds us h;simp only[h_] at h;cases h;exact .nil
 |cons l aa ih=>
  intro ds us h;simp only[h_] at h;split at h
  ·rename_i d u1 gU u2 h1 h2;cases h;exact(RB h1).append (ih h2)
  ·cases h
theorem AM:∀{aa:List aD} {ds:List aU} {us vs:List (Nat×Site)} {cs:List Value},h_ st aa=some (ds,us)->cw B st.sites w (au X B st.sites) aa cs->
  lM U O X B st tm w vs->(∀p,p∈us->p∈vs)->ck w (au X B (ba st.sites vs)) ds cs:=by
 intro aa;induction aa with
 |nil=>intro ds us vs cs h hl _ _;simp only[h_] at h;cases h;rw[hl.lW];exact⟨rfl,fun j h=>by simp at h⟩
 |cons l aa ih=>
  intro ds us vs cs h hl aL dz;simp only[h_] at h;split at h
  ·rename_i d u1 gU u2 h1 h2;cases h;obtain⟨c,ke,rfl,hc,hcs⟩:=hl.inv;have r1:=RA h1 hc aL (fun p ag=>dz p (List.mem_append.2 (.inl ag)))
   obtain⟨r2,c9⟩:=ih h2 hcs aL (fun p ag=>dz p (List.mem_append.2 (.inr ag)))
   refine⟨by simp[r2],fun j g1 g2=>?_⟩
   cases j with
   |zero=>exact r1
   |succ j=>exact c9 j (by simpa using g1) (by simpa using g2)
  ·cases h
theorem lj.run{P:Program}{u:Bool}(g D:Nat)(t:TypeId)(bL:Nat×Nat):∀(vs:List Value) (i:Nat) (cur:Array Value) (w:World),w.heap[g]? =some (.cells cur t bL)->lj u t cur bL->D+i+vs.length<=cur.size->(∀v∈vs,v.oneCell'=true)->
  (storeCells ⟨g,D,none⟩ vs i).run P w=.ok () (w.setRow g (cur.toList.take (D+i)++vs++cur.toList.drop (D+i+vs.length)).toArray)
 |[],i,cur,w,hg,_,_,_=>by
  simp only[storeCells,List.append_nil,List.length_nil,Nat.add_zero,List.take_append_drop,Array.toArray_toList];rw[setRow_self w g cur t bL hg];rfl
 |v::rest,i,cur,w,hg,hz,hl,h1=>by
  have hi:D+i<cur.size:=by simp at hl;omega
  have akT:(⟨g,D,none⟩:Addr).add i=⟨g,D+i,none⟩:=by unfold Addr.add;split<;>simp_all
  have jc:w.cell? ⟨g,D+i,none⟩=some cur[D+i]:=by simp[World.cell?,hg,hi]
  have akJ:w.frozen? ⟨g,D+i,none⟩=false:=by
   rcases hz.2 with rfl|⟨_,hz⟩
   ·simp[World.frozen?,hg]
   ·simp only[World.frozen?,hg];have:¬bL.1<=D+i:=by omega
    simp[this]
  have dr:(store ((⟨g,D,none⟩:Addr).add i) v).run P w=.ok () (w.setRow g (cur.setIfInBounds (D+i) v)):=by
   rw[akT,run_store P w _ v _ (h1 v (by simp)),jc]
   simp[akJ,setCell_eq_setRow w g (D+i) cur t bL v hg]
  have ih:=lj.run (P:=P) (u:=u) g D t bL rest (i+1) (cur.setIfInBounds (D+i) v) (w.setRow g (cur.setIfInBounds (D+i) v)) (setRow_heap w g cur _ t _ hg)
   ⟨hz.1,hz.2.imp id fun h=>⟨h.1,by simpa using h.2⟩⟩ (by simp at hl ⊢;omega) (fun x hx=>h1 x (by simp[hx]))
  simp only[storeCells,Sem.run_bind,dr,Result.andThen_ok,ih,setRow_setRow];congr 3
  have e:=list_seg_step cur.toList (D+i) v rest (by simp at hl ⊢;omega)
  simpa[Array.toList_setIfInBounds,Nat.add_assoc] using e
theorem Lq{u:Bool}{bL:Nat×Nat}{T:TypeId}{ti:cm}(h:ti.ok P T)(hn:ti≠.none){b off:Nat}{vv:Value}{cur:List Value}{gk:TypeId}(hg:w.heap[b]? =some (.cells cur.toArray gk bL))(hz:lj u gk cur.toArray bL)
  (hsz:vv.cells.toList.length=ti.size) (c7:off+vv.cells.toList.length<=cur.length) (h1:∀u∈vv.cells.toList,u.oneCell'=true):
  (storeVar T ⟨b,off,none⟩ vv).run P w=.ok () (w.setRow b (bw cur off vv.cells.toList).toArray):=by
 have M:vv.cells.size=ti.size:=by simpa using hsz
 have:=lj.run (P:=P) b off gk bL vv.cells.toList 0 cur.toArray w hg hz (by simpa using c7) h1
 simp only[storeVar,Sem.run_bind,cm.OJ h hn,Result.andThen_ok,M,ne_eq,not_true_eq_false,if_false];rw[this];simp[bw]
variable {D:Oper}
theorem qW{aE:Nat->Value}{w':World}{us:List (Nat×Site)}(S:ak U O X aE {st with sites:=ba st.sites us} tm w')(Z:cd st D.dst=true)
  (h:(execOp (Act.eval ⟨tm,[]⟩) D).run P w=.ok .skip w'):cG P U O X st tm w D (bZ (.cL undef)) us:=
 fun _ _ bO=>agi h (bO _ _ _ (ak.cM S Z rfl))
theorem ik{aE:Nat->Value}{w':World}{us:List (Nat×Site)}{v:aP}{vv:Value}(S:ak U O X aE {st with sites:=ba st.sites us} tm w')(Z:cd st D.dst=true)
  (h:(execOp (Act.eval ⟨tm,[]⟩) D).run P w=.ok (.value vv) w') (hv:ce aE (ba st.sites us) w' (au X aE (ba st.sites us)) v vv):cG P U O X st tm w D v us:=
 fun _ _ bO=>nD h (bO _ _ _ (ak.cM S Z hv))
theorem ny{aK:Type}(a:List aK)(off:Nat)(b:List aK)(h:off+b.length<=a.length):(bw a off b).length=a.length:=by
 unfold bw;simp only[List.length_append,List.length_take,List.length_drop];omega
theorem DD{aK:Type}(a:List aK)(off n:Nat)(b:List aK)(h:off+b.length<=n)(hn:n<=a.length):(bw a off b).take n=bw (a.take n) off b:=by
 unfold bw;apply List.ext_getElem?;intro j;simp only[List.getElem?_take,List.getElem?_append,List.length_append,List.length_take,List.getElem?_drop];have m1:min off a.length=off:=by omega
 have m2:min off (min n a.length)=off:=by omega
 simp only[m1,m2];by_cases c1:j<off
 ·have c2:j<n:=by omega
  have c3:j<off+b.length:=by omega
  simp[c1,c2,c3]
 ·by_cases c3:j<off+b.length
  ·have c2:j<n:=by omega
   simp[c1,c2,c3]
  ·have e:off+b.length+(j-(off+b.length))=j:=by omega
   simp[c1,c3,e]
theorem _N{cells aa:List aD}{T:TypeId}{cur vs:List Value}{b off:Nat}(h:nR cells T cur b)(hl:vs.length=aa.length)(gy:gX aa=true):nR (bw cells off aa) T (bw cur off vs) b:=by
 intro bW;unfold bw at bW ⊢;cases off with
 |zero=>
  cases aa with
  |nil=>
   cases vs with
   |nil=>simpa using h (by simpa using bW)
   |cons=>cases hl
  |cons l aa=>
   simp only[List.take_zero,List.nil_append,List.cons_append,List.head?_cons,Option.some.injEq] at bW;subst bW;cases gy
 |succ n=>
  cases cells with
  |nil=>
   cases aa with
   |nil=>simp at bW
   |cons l aa=>
    simp only[List.take_nil,List.nil_append,List.cons_append,List.head?_cons,Option.some.injEq] at bW;subst bW;cases gy
  |cons c cells=>
   simp only[List.take_succ_cons,List.cons_append,List.head?_cons,Option.some.injEq] at bW;subst bW;have:=h rfl;cases cur with
   |nil=>simp at this
   |cons v cur=>simpa using this
theorem ak.acW(S:ak U O X B st tm w){o s off:Nat}{cells aa:List aD}{v:Value}{vs:List Value}(hb:look st.sites o=some (.box s cells))(hv:dx B st.sites w (au X B st.sites) (.ptr o s off) v)
  (hl:cw B st.sites w (au X B st.sites) aa vs) (c7:off+aa.length<=cells.length) (h1:∀u∈vs,u.oneCell'=true) (gy:gX aa=true):
  ∃b T cur,v=.pointer (some ⟨b,off,none⟩)/\w.heap[b]? =some (.cells (List.toArray cur) T (0,0))/\off+vs.length<=cur.length/\
   ak U O X B {st with sites:=cf st.sites o (.box s (bw cells off aa))} tm (w.setRow b (bw cur off vs).toArray):=by
 obtain⟨b,T,cur,bQ,pn,hg,hK,lu⟩:=S.box hb hv;have jy:off+vs.length<=cur.length:=by rw[hl.1,lu.1];exact c7
 refine⟨b,T,cur,pn,hg,jy,?_⟩;have fB:nR cells T cur b:=by
  obtain⟨aO,dT,UF,ax,an,_,_,bG,_⟩:=S.sites o _ hb;rw[bQ] at ax;cases ax;rw[hg] at an;cases an;exact bG
 refine S.write hb rfl rfl rfl (fY (by rw[bQ];rfl)) hg (fun M hw lx go=>?_)
 have Us:=A7 go (lu.bw off hl);refine⟨b,T,_,bQ,lx,Us.1,fun u hu=>?_,_N fB hl.1 gy,Us.2⟩
 unfold bw at hu;simp only[List.mem_append] at hu;rcases hu with(hu|hu)|hu
 ·exact hK u (List.mem_of_mem_take hu)
 ·exact h1 u hu
 ·exact hK u (List.mem_of_mem_drop hu)
theorem iF{B:Nat->Value}{sites:List (Nat×Site)}{w:World}{av:Nat->Prop}{ds:List aU}{vs:List Value}(h:cw B sites w av (cu ds) vs):ck w av ds vs:=
 ⟨by simpa[cu] using h.1,fun j g1 g2=>by
  have:=h.2 j (by simpa[cu] using g1) g2
  simp only[cu,List.getElem_map] at this;exact this⟩
theorem Zr{w:World}{av:Nat->Prop}{t:aJ}{xs:List (den t)}{k:Nat}{dt:den t}{cs aw:List Value}(af:k<xs.length)(h:ck w av (flat t xs) cs)(ah:ck w av (enc t dt) aw):
  ck w av (flat t (xs.set k dt)) (bw cs (k*aC t) aw):=by
 have e:flat t (xs.set k dt)=bw (flat t xs) (k*aC t) (enc t dt):=by
  rw[adT,if_pos af];unfold bw;rw[fz,Nat.add_mul,Nat.one_mul]
 rw[e];have a:=gp (B:=fun _=>undef) (sites:=[]) h.1 h.2
 have b:=gp (B:=fun _=>undef) (sites:=[]) ah.1 ah.2
 have c:=a.bw (k*aC t) b;have e2:bw (cu (flat t xs)) (k*aC t) (cu (enc t dt))=cu (bw (flat t xs) (k*aC t) (enc t dt)):=by
  simp[bw,cu,List.map_append,List.map_take,List.map_drop]
 rw[e2] at c;exact iF c
theorem ak.acV(S:ak U O X B st tm w){o s k off:Nat}{t:aJ}{xs:List (den t)}{x dt:den t}{v:Value}{ds:List aU}{vs:List Value}(hb:look st.sites o=some (.row s t xs))
  (hv:dx B st.sites w (au X B st.sites) (.eN o s t k off) v) (hx:xs[k]? =some x) (kI:enc t dt=bw (enc t x) off ds)
  (hl:ck w (au X B st.sites) ds vs) (c7:off+ds.length<=aC t) (h1:∀u∈vs,u.oneCell'=true):
  ∃b T cur bL,v=.pointer (some ⟨b,k*aC t+off,none⟩)/\w.heap[b]? =some (.cells (List.toArray cur) T bL)/\lj t.ei T cur.toArray bL/\k*aC t+off+vs.length<=cur.length/\
   ak U O X B {st with sites:=cf st.sites o (.row s t (xs.set k dt))} tm (w.setRow b (bw cur (k*aC t+off) vs).toArray):=by
 obtain⟨b,D,pn,kK⟩:=hv;obtain⟨n,c,bQ⟩:=Ref.at kK hb rfl;obtain⟨e,cs,gL,c5⟩:=S.sites o _ hb;rw[(h6 gL).1] at bQ;have af:k<xs.length:=by
  rcases Nat.lt_or_ge k xs.length with h|h
  ·exact h
  ·rw[List.getElem?_eq_none h] at hx;cases hx
 obtain⟨sg,h⟩:=gL;rcases h with⟨hn,_⟩|⟨g,cap,cur,bL,hp,nh,hg,hnc,fD,hcs,ho⟩
 ·rw[bQ] at hn;cases hn
 ·rw[bQ] at hp;cases hp;have nf:(k+1)*aC t<=xs.length*aC t:=Nat.mul_le_mul_right _ af;have iT:xs.length*aC t<=c*aC t:=Nat.mul_le_mul_right _ hnc;rw[Nat.add_mul,Nat.one_mul] at nf;have j9:vs.length=ds.length:=hl.1;have hK:cur.toList.length=c*aC t:=by simpa using hcs
  have jy:k*aC t+off+vs.length<=cur.toList.length:=by omega
  refine⟨b,e,cur.toList,bL,by rw[pn,Nat.zero_add],by simpa using hg,by simpa using nh,jy,?_⟩
  refine S.write hb rfl rfl rfl (fY (by rw[bQ];rfl)) hg (fun M hw lx go=>?_)
  have asz:cs.length=xs.length*aC t:=sg;refine⟨e,bw cs (k*aC t+off) vs,⟨?_,.inr ⟨b,c,_,bL,?_,?_,lx,?_,fD,?_,?_⟩⟩,?_⟩
  ·rw[ny _ _ _ (by omega),List.length_set];exact sg
  ·rw[bQ,List.length_set]
  ·refine⟨nh.1,?_⟩;rcases nh.2 with h|⟨h,ah⟩
   ·exact .inl h
   ·refine .inr ⟨h,?_⟩;rw[List.size_toArray,ny _ _ _ jy];simpa using ah
  ·rw[List.length_set];exact hnc
  ·rw[List.size_toArray,ny _ _ _ jy];exact hK
  ·rw[<-ho,List.length_set,List.toList_toArray];exact DD _ _ _ _ (by omega) (by rw[hK];omega)
  ·have r0:ck w (au X B st.sites) (flat t xs) cs:=⟨by rw[dU];exact sg,c5⟩
   have fB:=vr t xs k x hx;have r1:ck w (au X B st.sites) (enc t x) ((cs.drop (k*aC t)).take (aC t)):=by
    have a:=gp (B:=fun _=>undef) (sites:=[]) r0.1 r0.2
    have be:=(a.drop (k*aC t)).take (aC t);have e2:((cu (flat t xs)).drop (k*aC t)).take (aC t)=cu (enc t x):=by
     rw[<-fB];simp[cu,List.map_drop,List.map_take]
    rw[e2] at be;exact iF be
   have r2:ck w (au X B st.sites) (enc t dt) (bw ((cs.drop (k*aC t)).take (aC t)) off vs):=by
    rw[kI];have a:=gp (B:=fun _=>undef) (sites:=[]) r1.1 r1.2
    have be:=gp (B:=fun _=>undef) (sites:=[]) hl.1 hl.2
    have fW:=a.bw off be;have e2:bw (cu (enc t x)) off (cu ds)=cu (bw (enc t x) off ds):=by
     simp[bw,cu,List.map_append,List.map_take,List.map_drop]
    rw[e2] at fW;exact iF fW
   have c9:=Zr af r0 r2;have b0:bw cs (k*aC t) (bw ((cs.drop (k*aC t)).take (aC t)) off vs)=bw cs (k*aC t+off) vs:=by
    unfold bw;apply List.ext_getElem?;intro j;simp only[List.getElem?_append,List.length_append,List.length_take,List.length_drop,List.getElem?_take,List.getElem?_drop];have m1:min (k*aC t) cs.length=k*aC t:=by omega
    have m2:min (k*aC t+off) cs.length=k*aC t+off:=by omega
    have m3:min (aC t) (cs.length-k*aC t)=aC t:=by omega
    have m4:min off (aC t)=off:=by omega
    simp only[m1,m2,m3,m4];by_cases c1:j<k*aC t
    ·have c2:j<k*aC t+off:=by omega
     have c3:j<k*aC t+off+vs.length:=by omega
     have eG:j<k*aC t+(off+vs.length+(aC t-(off+vs.length))):=by omega
     simp[c1,c2,c3,eG]
    ·by_cases c2:j<k*aC t+off
     ·have d1:j-k*aC t<off:=by omega
      have d2:j-k*aC t<off+vs.length:=by omega
      have d3:j-k*aC t<aC t:=by omega
      have c3:j<k*aC t+off+vs.length:=by omega
      have eG:j<k*aC t+(off+vs.length+(aC t-(off+vs.length))):=by omega
      have fI:k*aC t+(j-k*aC t)=j:=by omega
      simp[c1,c2,c3,eG,d1,d2,d3,fI]
     ·by_cases c3:j<k*aC t+off+vs.length
      ·have d1:¬j-k*aC t<off:=by omega
       have d2:j-k*aC t<off+vs.length:=by omega
       have eG:j<k*aC t+(off+vs.length+(aC t-(off+vs.length))):=by omega
       have fI:j-k*aC t-off=j-(k*aC t+off):=by omega
       simp[c1,c2,c3,eG,d1,d2,fI]
      ·by_cases eG:j<k*aC t+(off+vs.length+(aC t-(off+vs.length)))
       ·have d2:¬j-k*aC t<off+vs.length:=by omega
        have d1:¬j-k*aC t<off:=by omega
        have d5:off+vs.length+(j-k*aC t-(off+vs.length))<aC t:=by omega
        have fI:k*aC t+(off+vs.length+(j-k*aC t-(off+vs.length)))=k*aC t+off+vs.length+(j-(k*aC t+off+vs.length)):=by omega
        simp[c1,c2,c3,eG,d1,d2,d5,fI]
       ·have fI:k*aC t+(off+vs.length+(aC t-(off+vs.length)))+(j-(k*aC t+(off+vs.length+(aC t-(off+vs.length)))))=k*aC t+off+vs.length+(j-(k*aC t+off+vs.length)):=by omega
        simp[c1,c2,c3,eG,fI]
   rw[b0] at c9;exact fun j g1 g2=>iq go (c9.2 j g1 g2)
end
section
variable {P:Program}{U:World}{O:List Nat}{X:Nat->Prop}{B:Nat->Value}{st:ai}{tm:Array Value}{w:World}
theorem jp{o:Nat}{Y:Site}(h:look st.sites o=some Y):Y.b9<a6 st o:=by
 unfold a6 ai.Y;rw[h];exact Nat.lt_succ_self _
theorem ak.make(S:ak U O X B st tm w){o:Nat}{bF:Site}{nv:Value}{w':World}
  (hw:∀b,b<w.heap.size->w'.heap[b]? =w.heap[b]?) (hos:w'.os=w.os) (HN:w'.tape=w.tape) (wP:w'.output=w.output) (jX:w.heap.size<=w'.heap.size)
  (nH:∀Y,look st.sites o=some Y->Y.b9<bF.b9) (fP:∀b,b∈bl nv->w.heap.size<=b/\b<w'.heap.size)
  (eE:∀{bp:List (Nat×Site)} {aE:Nat->Value},bp=cf st.sites o bF->aE o=nv->(∀{a v},ce B st.sites w (au X B st.sites) a v->ce aE bp w' (au X aE bp) a v)->
   (∀b,w.heap.size<=b->b∉bl nv->¬au X aE bp b)->(bF.live=false->∀b,b∈bl nv->¬au X aE bp b)->io aE bp w' (au X aE bp) o bF):
  ak U O X (fun H=>if H=o then nv else B H) {st with sites:=cf st.sites o bF} tm w':=by
 have cI:∀H,b2 (cf st.sites o bF) H->(H=o/\bF.live=true)\/(H≠o/\b2 st.sites H):=by
  rintro H ⟨Y,h1,h2⟩;rw[cv] at h1;by_cases e:o=H
  ·subst e;simp at h1;subst h1;exact .inl ⟨rfl,h2⟩
  ·simp only[e,if_false] at h1;exact .inr ⟨fun h=>e h.symm,Y,h1,h2⟩
 have b':∀b,au X (fun H=>if H=o then nv else B H) (cf st.sites o bF) b->au X B st.sites b\/(b∈bl nv/\bF.live=true):=by
  rintro b (h|⟨H,h1,h2⟩)
  ·exact .inl (.inl h)
  ·rcases cI H h1 with⟨rfl,ab⟩|⟨ab,aF⟩
   ·simp at h2;exact .inr ⟨h2,ab⟩
   ·simp only[ab,if_false] at h2;exact .inl (.inr ⟨H,aF,h2⟩)
 have a':∀b,au X B st.sites b->b<w.heap.size:=by
  rintro b (h|⟨H,h1,h2⟩)
  ·exact S.old b h
  ·exact S.dX h1 h2
 refine S.o9 (fun H Y br=>?_) (fun b _ hb=>hw b hb) (fun b h hb ah=>?_) (fun go H Y br=>?_) (fun H aN b h1 h2 g1 g2=>?_) (fun H b h1 g1=>?_) (fun H b h1 g1=>?_) ?_ jX
 ·rw[cv];by_cases e:o=H
  ·subst e;exact⟨bF,by simp,Nat.le_of_lt (nH Y br),fun h=>by have:=nH Y br;omega⟩
  ·have bK:¬H=o:=fun h=>e h.symm
   exact⟨Y,by simp[e,br],Nat.le_refl _,fun _=>by simp[bK]⟩
 ·rcases b' b ah with ah|⟨ah,_⟩
  ·exact h ah
  ·have:=(fP b ah).1;omega
 ·rw[cv] at br;by_cases e:o=H
  ·subst e;simp only[if_true,Option.some.injEq] at br;subst br;refine .inr (eE rfl (by simp) go (fun b hb hne ah=>?_) (fun hl b hb ah=>?_))
   ·rcases b' b ah with ah|⟨ah,_⟩
    ·have:=a' b ah;omega
    ·exact hne ah
   ·rcases b' b ah with ah|⟨_,ah⟩
    ·have:=a' b ah;have:=(fP b hb).1;omega
    ·rw[hl] at ah;cases ah
  ·have bK:¬H=o:=fun h=>e h.symm
   simp only[e,if_false] at br;exact .inl ⟨br,by simp[bK],fun hl b hb=>hw b (S.dX ⟨Y,br,hl⟩ hb)⟩
 ·rcases cI H h1 with⟨rfl,_⟩|⟨n1,cx⟩<;>rcases cI aN h2 with⟨rfl,_⟩|⟨n2,ea⟩
  ·rfl
  ·simp only[if_true] at g1;simp only[n2,if_false] at g2;have:=S.dX ea g2;have:=(fP b g1).1;omega
  ·simp only[if_true] at g2;simp only[n1,if_false] at g1;have:=S.dX cx g1;have:=(fP b g2).1;omega
  ·simp only[n1,if_false] at g1;simp only[n2,if_false] at g2;exact S.dp H aN b cx ea g1 g2
 ·rcases cI H h1 with⟨rfl,_⟩|⟨n1,cx⟩
  ·simp only[if_true] at g1;have hb:=(fP b g1).1;exact⟨fun hx=>by have:=S.old b hx;have:=S.frame.size;omega,.inr (Nat.le_trans S.frame.size hb)⟩
  ·simp only[n1,if_false] at g1;exact S.cg H b cx g1
 ·rcases cI H h1 with⟨rfl,_⟩|⟨n1,cx⟩
  ·simp only[if_true] at g1;exact(fP b g1).2
  ·simp only[n1,if_false] at g1;exact Nat.lt_of_lt_of_le (S.dX cx g1) jX
 ·have aL:=S.frame;exact⟨hos.trans aL.os,HN.trans aL.tape,wP.trans aL.output,Nat.le_trans aL.size jX,fun b h1 h2=>(hw b (Nat.lt_of_lt_of_le h1 aL.size)).trans (aL.block b h1 h2)⟩
theorem ak.GV(S:ak U O X B st tm w){o dst s:Nat}{HH ir:Site}(hl:look st.sites o=some HH)(agT:HH.live=true)(r':HH.b9=s)(lp:ir.b9=a6 (st.df o (.dead s)) dst){nv:Value}{w':World}
  (hg:w.grownBy w' (B o).ownBlock) (fP:∀b,b∈bl nv->b<w'.heap.size/\(b∈bl (B o)\/w.heap.size<=b))
  (eE:∀{bp:List (Nat×Site)} {aE:Nat->Value},aE dst=nv->(∀{a v},ce B st.sites w (au X B st.sites) a v->ce aE bp w' (au X aE bp) a v)->
   io aE bp w' (au X aE bp) dst ir):
  ak U O X (fun H=>if H=dst then nv else B H) {st with sites:=ba st.sites [(o,.dead s),(dst,ir)]} tm w':=by
 have bn:b2 st.sites o:=⟨_,hl,agT⟩;have is:∀H,look (ba st.sites [(o,.dead s),(dst,ir)]) H=
   if dst=H then some ir else if o=H then some (.dead s) else look st.sites H:=by
  intro H;simp only[ba,cv]
 have nH:∀Y,look st.sites dst=some Y->Y.b9<a6 (st.df o (.dead s)) dst:=by
  intro Y h;unfold a6;rw[ai.lO];by_cases e:o=dst
  ·subst e;rw[hl] at h;cases h;rw[r'];simp[Site.b9]
  ·simp only[e,if_false,ai.Y,h];exact Nat.lt_succ_self _
 have cI:∀H,b2 (ba st.sites [(o,.dead s),(dst,ir)]) H->H=dst\/(H≠dst/\H≠o/\b2 st.sites H):=by
  rintro H ⟨Y,h1,h2⟩;rw[is] at h1;by_cases e:dst=H
  ·exact .inl e.symm
  ·simp only[e,if_false] at h1;by_cases e2:o=H
   ·simp only[e2,if_true,Option.some.injEq] at h1;subst h1;cases h2
   ·simp only[e2,if_false] at h1;exact .inr ⟨fun h=>e h.symm,fun h=>e2 h.symm,Y,h1,h2⟩
 have aks:∀b,(B o).ownBlock=some b->b∈bl (B o):=by
  intro b hb;refine fY ?_
  cases hv:B o<;>rw[hv] at hb<;>first|cases hb|skip
  rename_i a n c;cases a<;>first|exact hb|cases hb
 have wF:∀b,b<w.heap.size->b∉bl (B o)->w'.heap[b]? =w.heap[b]? :=fun b hb hne=>hg.block b hb (fun e=>hne (aks b e.symm))
 refine S.o9 (fun H Y br=>?_) (fun b h hb=>wF b hb (fun e=>h (.inr ⟨o,bn,e⟩))) (fun b h hb ah=>?_) (fun go H Y br=>?_) (fun H aN b h1 h2 g1 g2=>?_) (fun H b h1 g1=>?_) (fun H b h1 g1=>?_) ?_ hg.size
 ·rw[is];by_cases e:dst=H
  ·subst e;refine⟨ir,by simp,?_,fun h=>?_⟩
   ·rw[lp];exact Nat.le_of_lt (nH Y br)
   ·have:=nH Y br;rw[lp] at h;omega
  ·have bK:¬H=dst:=fun h=>e h.symm
   by_cases e2:o=H
   ·subst e2;rw[hl] at br;cases br;exact⟨.dead s,by simp[e],Nat.le_of_eq r',fun _=>by simp[bK]⟩
   ·exact⟨Y,by simp[e,e2,br],Nat.le_refl _,fun _=>by simp[bK]⟩
 ·rcases ah with ah|⟨H,h1,h2⟩
  ·exact h (.inl ah)
  ·rcases cI H h1 with rfl|⟨n1,_,cx⟩
   ·simp only[if_true] at h2;rcases(fP b h2).2 with ab|ab
    ·exact h (.inr ⟨o,bn,ab⟩)
    ·omega
   ·simp only[n1,if_false] at h2;exact h (.inr ⟨H,cx,h2⟩)
 ·rw[is] at br;by_cases e:dst=H
  ·subst e;simp only[if_true,Option.some.injEq] at br;subst br;exact .inr (eE (by simp) go)
  ·have bK:¬H=dst:=fun h=>e h.symm
   simp only[e,if_false] at br;by_cases e2:o=H
   ·simp only[e2,if_true,Option.some.injEq] at br;subst br;exact .inr trivial
   ·simp only[e2,if_false] at br;refine .inl ⟨br,by simp[bK],fun fC b hb=>?_⟩
    have WI:b2 st.sites H:=⟨Y,br,fC⟩;exact wF b (S.dX WI hb) (fun h=>e2 (S.dp o H b bn WI h hb))
 ·have key:∀H b,H≠dst->H≠o->b2 st.sites H->b∈bl (B H)->b∉bl nv:=by
   intro H b n1 n2 cx hb hn;rcases(fP b hn).2 with ab|ab
   ·exact n2 (S.dp H o b cx bn hb ab)
   ·have:=S.dX cx hb;omega
  rcases cI H h1 with rfl|⟨n1,m1,cx⟩<;>rcases cI aN h2 with rfl|⟨n2,m2,ea⟩
  ·rfl
  ·simp only[if_true] at g1;simp only[n2,if_false] at g2;exact absurd g1 (key aN b n2 m2 ea g2)
  ·simp only[if_true] at g2;simp only[n1,if_false] at g1;exact absurd g2 (key H b n1 m1 cx g1)
  ·simp only[n1,if_false] at g1;simp only[n2,if_false] at g2;exact S.dp H aN b cx ea g1 g2
 ·rcases cI H h1 with rfl|⟨n1,_,cx⟩
  ·simp only[if_true] at g1;rcases(fP b g1).2 with ab|ab
   ·exact S.cg o b bn ab
   ·exact⟨fun hx=>by have:=S.old b hx;have:=S.frame.size;omega,.inr (Nat.le_trans S.frame.size ab)⟩
  ·simp only[n1,if_false] at g1;exact S.cg H b cx g1
 ·rcases cI H h1 with rfl|⟨n1,_,cx⟩
  ·simp only[if_true] at g1;exact(fP b g1).1
  ·simp only[n1,if_false] at g1;exact Nat.lt_of_lt_of_le (S.dX cx g1) hg.size
 ·have aL:=S.frame;refine⟨hg.os.trans aL.os,hg.tape.trans aL.tape,hg.output.trans aL.output,Nat.le_trans aL.size hg.size,fun b h1 h2=>?_⟩
  rw[wF b (Nat.lt_of_lt_of_le h1 aL.size) (fun e=>?_)]
  ·exact aL.block b h1 h2
  ·rcases(S.cg o b bn e).2 with h|h
   ·exact h2 h
   ·omega
theorem ak.append(S:ak U O X B st tm w){o dst s:Nat}{t:aJ}{xs r:List (den t)}(hl:look st.sites o=some (.row s t xs)){nv:Value}{w':World}
  (hg:w.grownBy w' (B o).ownBlock) (fP:∀b,b∈bl nv->b<w'.heap.size/\(b∈bl (B o)\/w.heap.size<=b))
  (eE:∀{bp:List (Nat×Site)} {aE:Nat->Value},aE dst=nv->(∀{a v},ce B st.sites w (au X B st.sites) a v->ce aE bp w' (au X aE bp) a v)->
   io aE bp w' (au X aE bp) dst (.row (a6 (st.df o (.dead s)) dst) t r)):
  ak U O X (fun H=>if H=dst then nv else B H) {st with sites:=ba st.sites [(o,.dead s),(dst,.row (a6 (st.df o (.dead s)) dst) t r)]} tm w':=
 S.GV hl rfl rfl rfl hg fP eE
end
def Src(w:World)(size:Nat)(x:Value)(m:Nat)(news:List Value):Prop:=
 news.length=m*size/\(∀u∈news,u.oneCell'=true)/\((x=.slice none 0 0/\m=0)\/(∃a c,x=.slice (some a) m c/\∀j u,news[j]? =some u->w.cell? (a.add j)=some u)\/∃s:ByteArray,x=.string s/\m=s.size/\size=1/\news=s.data.toList.map fun b=>Value.int .u8 b.toNat)
theorem Src.run{P:Program}{w w2:World}{size m:Nat}{x:Value}{news:List Value}(h:Src w size x m news)(hw:w2.heap=w.heap):(Builtin.firstCells size m x).run P w2=.ok news.toArray w2:=by
 obtain⟨h1,_,h2⟩:=h;rcases h2 with⟨rfl,rfl⟩|⟨a,c,rfl,ab⟩|⟨s,rfl,rfl,rfl,rfl⟩
 ·have:news=[]:=List.eq_nil_of_length_eq_zero (by simpa using h1)
  subst this;exact run_firstCells_none w2 size 0 0 0
 ·refine run_firstCells_some w2 size m a m c news h1 (fun j u hu=>?_)
  have:=ab j u hu;unfold World.cell? at this ⊢;rw[hw];exact this
 ·have e:s.extract 0 s.size=s:=by simp
  show Result.ok ((s.extract 0 s.size).data.map fun b=>Value.int .u8 b.toNat) w2=_
  rw[e];congr 1
  apply Array.ext';simp
theorem Src.len{P:Program}{w w2:World}{size m:Nat}{x:Value}{news:List Value}(h:Src w size x m news):(Builtin.lenOf x).run P w2=.ok m w2:=by
 obtain⟨_,_,h2⟩:=h;rcases h2 with⟨rfl,rfl⟩|⟨a,c,rfl,_⟩|⟨s,rfl,rfl,_⟩<;>rfl
theorem sO{P:Program}{u:Bool}(w:World)(T qM ty e:TypeId)(eX:u=true->e=mq)(i:TypeInfo)(z:Value)(size bytes:Nat)(aA:P.underlying T=some (.slice e))(fR:(∃ex,P.underlying qM=some (.slice ex))\/P.underlying qM=some .string)(hi:P.info? e=some i)
  (hz:i.zero=some z) (jX:i.size=size) (kP:i.bytes=bytes) (hzs:z.cells.size=size) (hsz:0<size)
  (v:Value) (n:Nat) (xs:List Value) (gL:∃bK,rowAt w u bK size v n xs) (x:Value) (m:Nat) (news:List Value) (hsrc:Src w size x m news)
  (sq:n+m<=maxLen) (wb:(n+m)*bytes<=140737488355328):
  ∃v' w',(Builtin.append_ #[T,qM] ty #[v,x]).run P w=.ok v' w'/\(∃bK,rowAt w' u bK size v' (n+m) (xs++news))/\w.grownBy w' v.ownBlock/\
   ∀b,aW v'=some b->b<w'.heap.size/\(aW v=some b\/w.heap.size<=b):=by
 subst jX kP;obtain⟨bK,j',gL⟩:=gL;have tC:n+m<=9223372036854775807:=by simp only[maxLen] at sq;omega
 have hlen:(xs++news).length=(n+m)*i.size:=by rw[List.length_append,j',hsrc.1,Nat.add_mul]
 have grown:∀(old:Nat),old<n+m->∀(row:Option Nat),
   rowAt (w.drew.alloc (.cells (xs.toArray++news.toArray++Builtin.zeroCells z.cells (grownCap w (n+m) old e-(n+m))) e)) u e i.size
    (.slice (some ⟨w.heap.size,0,none⟩) (n+m) (grownCap w (n+m) old e)) (n+m) (xs++news)/\
   w.grownBy (w.drew.alloc (.cells (xs.toArray++news.toArray++Builtin.zeroCells z.cells (grownCap w (n+m) old e-(n+m))) e)) row:=by
  intro old ap row;have uX:=grownCap_ge w (n+m) old e;have fD:grownCap w (n+m) old e<=maxLen:=grownCap_le_maxLen w (n+m) old e sq;refine⟨⟨hlen,.inr ⟨w.heap.size,_,_,(0,0),rfl,⟨eX,.inl rfl⟩,heap_alloc_new w.drew _,uX,fD,?_,?_⟩⟩,⟨rfl,rfl,rfl,by simp,fun k af _=>RowKit.Below.heap_alloc w.drew _ k af⟩⟩
  ·simp only[Array.size_append,List.size_toArray,size_zeroCells,hzs,j',hsrc.1,<-Nat.add_mul];congr 1
   omega
  ·simp only[Array.toList_append,List.append_assoc];rw[<-List.append_assoc,<-hlen];exact List.take_left
 have Q0:∀{c:Nat} {D:Obj} {v:Value} b,aW (.slice (some ⟨w.heap.size,0,none⟩) (n+m) c)=some b->b<(w.drew.alloc D).heap.size/\(aW v=some b\/w.heap.size<=b):=by
  intro c D v b hb;cases hb;exact⟨by simp,.inr (Nat.le_refl _)⟩
 rcases gL with⟨rfl,rfl⟩|⟨g,cap,cur,bL,rfl,gS,hg,hnc,fD,hcs,kx⟩
 ·have hx:xs=[]:=List.eq_nil_of_length_eq_zero (by simpa using j')
  subst hx;by_cases hm:m=0
  ·subst hm;have hn:news=[]:=List.eq_nil_of_length_eq_zero (by simpa using hsrc.1)
   subst hn;refine⟨.slice none 0 0,w,?_,⟨e,q3 w u e i.size⟩,⟨rfl,rfl,rfl,Nat.le_refl _,fun _ _ _=>rfl⟩,fun b hb=>by cases hb⟩
   rcases fR with⟨ex,fR⟩|fR<;>simp[Builtin.append_,run_underlying aA,run_underlying fR,sizeOf,typeInfo,hi,hsrc.len,hsrc.run (w2:=w) rfl]
  ·have xH:=grown 0 (by omega) (Value.ownBlock (.slice none 0 0))
   refine⟨_,_,?_,⟨e,xH.1⟩,xH.2,Q0⟩;have wY:¬(9223372036854775807<(m:Int)):=by omega
   have hb:=wb;simp only[Nat.zero_add] at hb;have wZ:¬(281474976710656<Builtin.nextslicecap m 0*i.bytes):=by rw[nextslicecap_zero (by omega)];omega
   rcases fR with⟨ex,fR⟩|fR<;>simp[Builtin.append_,run_underlying aA,run_underlying fR,sizeOf,typeInfo,zeroValue,hi,hz,hsrc.len,hm,wY,wZ,Question.forced,run_firstCells_none,hsrc.run (w2:=w.drew) rfl,newRow,grownCap]
 ·by_cases hroom:n+m<=cap
  ·have iv:n*i.size+news.length<=cur.size:=by rw[hsrc.1,hcs,<-Nat.add_mul];exact Nat.mul_le_mul_right _ hroom
   have dr:=lj.run (P:=P) g (n*i.size) bK bL news 0 cur w hg gS (by simpa using iv) hsrc.2.1
   simp only[Nat.add_zero] at dr;refine⟨.slice (some ⟨g,0,none⟩) (n+m) cap,w.setRow g (cur.toList.take (n*i.size)++news++cur.toList.drop (n*i.size+news.length)).toArray,?_,
    ⟨bK,hlen,.inr ⟨g,cap,_,bL,rfl,⟨gS.1,gS.2.imp id (fun h=>⟨h.1,?_⟩)⟩,setRow_heap w g cur _ bK _ hg,hroom,fD,?_,?_⟩⟩,⟨rfl,rfl,rfl,by simp,fun k _ af=>setRow_other w g k _ (fun e=>af (by simp[Value.ownBlock,e]))⟩,fun b hb=>?_⟩
   ·rcases fR with⟨ex,fR⟩|fR<;>simp[Builtin.append_,run_underlying aA,run_underlying fR,sizeOf,typeInfo,hi,hsrc.len,hroom,hsrc.run (w2:=w) rfl,Addr.add_lit,dr]
   ·have:=h.2;simp only[List.size_toArray,List.length_append,List.length_take,List.length_drop,Array.length_toList];omega
   ·simp only[List.size_toArray,List.length_append,List.length_take,List.length_drop,Array.length_toList];omega
   ·rw[kx,<-hlen];exact List.take_left
   ·cases hb;exact⟨by rw[setRow_size];exact(Array.getElem?_eq_some_iff.1 hg).1,.inl rfl⟩
  ·have xH:=grown cap (by omega) (Value.ownBlock (.slice (some ⟨g,0,none⟩) n cap))
   refine⟨_,_,?_,⟨e,xH.1⟩,xH.2,Q0⟩;have holds:∀j u,xs[j]? =some u->w.drew.cell? ((⟨g,0,none⟩:Addr).add j)=some u:=by
    intro j u hu;rw[fZ,Nat.zero_add,World.cell?_drew,cell_of_row w g j cur bK bL hg];rw[<-kx,List.getElem?_take] at hu;split at hu
    ·simpa using hu
    ·cases hu
   have wY:¬(9223372036854775807<((n:Int)+(m:Int))):=by omega
   have iv:=growslice_fits (need:=n+m) (old:=cap) (bytes:=i.bytes) (by omega) wb
   have wZ:¬(281474976710656<Builtin.nextslicecap (n+m) cap*i.bytes):=by omega
   have uY:=run_firstCells_some (P:=P) w.drew i.size n ⟨g,0,none⟩ n cap xs j' holds;rcases fR with⟨ex,fR⟩|fR<;>simp[Builtin.append_,run_underlying aA,run_underlying fR,sizeOf,typeInfo,zeroValue,hi,hz,hsrc.len,hroom,wY,wZ,Question.forced,hsrc.run (w2:=w.drew) rfl,uY,newRow,grownCap]
   all_goals
    congr 2
    apply Array.ext';simp[List.append_assoc]
theorem rowAt.tail{w:World}{e:TypeId}{size:Nat}{v:Value}{n:Nat}{xs:List Value}(h:rowAt w false e size v n xs):oY w e size v n xs:=by
 refine⟨h.1,h.2.imp id ?_⟩;rintro⟨g,cap,cur,bL,h1,h2,ab,aF,bo,dk,hZ⟩;have gS:bL=(0,0):=by rcases h2.2 with h|⟨h,_⟩<;>first|exact h|cases h
 subst gS;exact⟨g,0,cap,cur,h1,ab,aF,bo,by rw[dk,Nat.zero_add];exact Nat.le_refl _,by simpa using hZ⟩
theorem YF{P:Program}(w:World)(T qM ty e:TypeId)(i:TypeInfo)(z:Value)(size bytes:Nat)(aA:P.underlying T=some (.slice e))(fR:(∃ex,P.underlying qM=some (.slice ex))\/P.underlying qM=some .string)(hi:P.info? e=some i)
  (hz:i.zero=some z) (jX:i.size=size) (kP:i.bytes=bytes) (hzs:z.cells.size=size) (hsz:0<size)
  (v:Value) (n:Nat) (xs:List Value) (gL:∃bK,oY w bK size v n xs) (x:Value) (m:Nat) (news:List Value) (hsrc:Src w size x m news)
  (sq:n+m<=maxLen) (wb:(n+m)*bytes<=140737488355328):
  ∃v' w',(Builtin.append_ #[T,qM] ty #[v,x]).run P w=.ok v' w'/\(∃bK,oY w' bK size v' (n+m) (xs++news))/\w.grownBy w' v.ownBlock/\
   ∀b,aW v'=some b->b<w'.heap.size/\(aW v=some b\/w.heap.size<=b):=by
 obtain⟨bK,j',gL⟩:=gL;rcases gL with⟨hv,hn⟩|⟨g,D,cap,cur,rfl,hg,hnc,fD,hcs,kx⟩
 ·obtain⟨v',w',h1,⟨e2,h2⟩,ab,aF⟩:=sO (P:=P) (u:=false) w T qM ty e (fun h=>by cases h) i z size bytes aA fR hi hz jX kP hzs hsz v n xs ⟨bK,j',.inl ⟨hv,hn⟩⟩ x m news hsrc sq wb
  exact⟨v',w',h1,⟨e2,h2.tail⟩,ab,aF⟩
 ·subst jX kP;have tC:n+m<=9223372036854775807:=by simp only[maxLen] at sq;omega
  have hlen:(xs++news).length=(n+m)*i.size:=by rw[List.length_append,j',hsrc.1,Nat.add_mul]
  by_cases hroom:n+m<=cap
  ·have c7:(n+m)*i.size<=cap*i.size:=Nat.mul_le_mul_right _ hroom;rw[Nat.add_mul] at c7;have iv:(D+n*i.size)+0+news.length<=cur.size:=by rw[hsrc.1];omega
   have dr:=lj.run (P:=P) (u:=false) g (D+n*i.size) bK (0,0) news 0 cur w hg ⟨(fun h=>by cases h),.inl rfl⟩ iv hsrc.2.1
   simp only[Nat.add_zero] at dr;refine⟨.slice (some ⟨g,D,none⟩) (n+m) cap,w.setRow g (cur.toList.take (D+n*i.size)++news++cur.toList.drop (D+n*i.size+news.length)).toArray,?_,
    ⟨bK,hlen,.inr ⟨g,D,cap,_,rfl,setRow_heap w g cur _ bK _ hg,hroom,fD,?_,?_⟩⟩,⟨rfl,rfl,rfl,by simp,fun k _ af=>setRow_other w g k _ (fun e=>af (by simp[Value.ownBlock,e]))⟩,fun b hb=>?_⟩
   ·rcases fR with⟨ex,fR⟩|fR<;>simp[Builtin.append_,run_underlying aA,run_underlying fR,sizeOf,typeInfo,hi,hsrc.len,hroom,hsrc.run (w2:=w) rfl,Addr.add_lit,dr]
   ·simp only[List.size_toArray,List.length_append,List.length_take,List.length_drop,Array.length_toList];omega
   ·have asZ:D+cap*i.size<=cur.toList.length:=by simpa using hcs
    rw[List.toList_toArray,List.append_assoc,List.drop_append_of_le_length (by rw[List.length_take];omega),List.drop_take,show D+n*i.size-D=n*i.size from by omega,kx,<-List.append_assoc,<-hlen]
    exact List.take_left
   ·cases hb;exact⟨by rw[setRow_size];exact(Array.getElem?_eq_some_iff.1 hg).1,.inl rfl⟩
  ·have uX:=grownCap_ge w (n+m) cap e;have akO:grownCap w (n+m) cap e<=maxLen:=grownCap_le_maxLen w (n+m) cap e sq;refine⟨.slice (some ⟨w.heap.size,0,none⟩) (n+m) (grownCap w (n+m) cap e),w.drew.alloc (.cells (xs.toArray++news.toArray++Builtin.zeroCells z.cells (grownCap w (n+m) cap e-(n+m))) e),?_,
    ⟨e,hlen,.inr ⟨w.heap.size,0,_,_,rfl,heap_alloc_new w.drew _,uX,akO,?_,?_⟩⟩,⟨rfl,rfl,rfl,by simp,fun k af _=>RowKit.Below.heap_alloc w.drew _ k af⟩,fun b hb=>?_⟩
   ·have holds:∀j u,xs[j]? =some u->w.drew.cell? ((⟨g,D,none⟩:Addr).add j)=some u:=by
     intro j u hu;rw[fZ,World.cell?_drew,cell_of_row w g (D+j) cur bK (0,0) hg];rw[<-kx,List.getElem?_take] at hu;split at hu
     ·rw[List.getElem?_drop] at hu;simpa using hu
     ·cases hu
    have wY:¬(9223372036854775807<((n:Int)+(m:Int))):=by omega
    have iv:=growslice_fits (need:=n+m) (old:=cap) (bytes:=i.bytes) (by omega) wb
    have wZ:¬(281474976710656<Builtin.nextslicecap (n+m) cap*i.bytes):=by omega
    have uY:=run_firstCells_some (P:=P) w.drew i.size n ⟨g,D,none⟩ n cap xs j' holds;rcases fR with⟨ex,fR⟩|fR<;>simp[Builtin.append_,run_underlying aA,run_underlying fR,sizeOf,typeInfo,zeroValue,hi,hz,hsrc.len,hroom,wY,wZ,Question.forced,hsrc.run (w2:=w.drew) rfl,uY,newRow,grownCap]
    all_goals
     congr 2
     apply Array.ext';simp[List.append_assoc]
   ·simp only[Array.size_append,List.size_toArray,size_zeroCells,hzs,j',hsrc.1,<-Nat.add_mul,Nat.zero_add];refine Nat.le_of_eq ?_
    congr 1
    omega
   ·simp only[Array.toList_append,List.append_assoc,List.drop_zero];rw[<-List.append_assoc,<-hlen];exact List.take_left
   ·cases hb;exact⟨by simp,.inr (Nat.le_refl _)⟩
section
variable {P:Program}{U:World}{O:List Nat}{X:Nat->Prop}{B:Nat->Value}{st:ai}{tm:Array Value}{w:World}{D:Oper}
theorem acX(S:ak U O X B st tm w){x:aP}{v:Value}{t:aJ}{ys:List (den t)}(hx:ce B st.sites w (au X B st.sites) x v)(h:tQ st x=some (.sl t ys)):
  ∃news,Src w (aC t) v ys.length news/\ck w (au X B st.sites) (flat t ys) news:=by
 have one:∀{news:List Value},cw B st.sites w (au X B st.sites) (cu (flat t ys)) news->(∀u∈news,u.oneCell'=true):=by
  intro news h;refine h.ja ?_
  unfold cu;generalize flat t ys=l;induction l with
  |nil=>rfl
  |cons d l ih=>simpa[gX,aD.storable] using ih
 unfold tQ at h;split at h
 ·rename_i bm ia;cases h;have hx:Rd w (au X B st.sites) (.sl t ys) v:=hx;cases hx with
  |nil t=>exact⟨[],⟨by simp,fun u hu=>by simp at hu,.inl ⟨rfl,rfl⟩⟩,rfl,fun j h=>by simp[flat] at h⟩
  |sl t xs a cap cs n hn hcap hb hl hc hr=>
   subst hn;have lu:=gp (B:=B) (sites:=st.sites) hl hr;exact⟨cs,⟨by rw[hl,dU],one lu,.inr (.inl ⟨a,cap,rfl,hc⟩)⟩,hl,hr⟩
 ·cases h
 ·rename_i bm;cases h;rw[show v=_ from hx]
  exact⟨[],⟨by simp,fun u hu=>by simp at hu,.inl ⟨rfl,rfl⟩⟩,rfl,fun j h=>by simp[flat] at h⟩
 ·rename_i o s;split at h
  ·rename_i bm ia hr;cases h;obtain⟨cs,hl,hc⟩:=S.row hr;have hv:v=bT (B o):=by
    rcases kj hr with h1|h1<;>exact Ref.at hx.2 h1 rfl
   have cn:=iF hl;refine⟨cs,⟨by rw[cn.1,dU],one hl,?_⟩,cn⟩
   rw[hv];rcases hc with⟨h1,h2⟩|⟨b,c,h1,h2,_⟩
   ·subst h2;exact .inl ⟨h1,rfl⟩
   ·exact .inr (.inl ⟨⟨b,0,none⟩,c,h1,fun j u hu=>by rw[fZ];exact h2 j u hu⟩)
  ·cases h
 ·cases h
theorem MP(S:ak U O X B st tm w){C:Ctx}(aG:CtxOk P C){T ew:TypeId}{s x:Operand}{e:TypeId}{t:aJ}{bytes:Nat}{dst:Nat}(aZ:C.tt T=.slice e t bytes)(ua:(∃ex,P.underlying ew=some (.slice ex))\/P.underlying ew=some .string)
  (ap:D.op=.call {callee:=.builtin .append,args:=#[s,x],argTypes:=#[T,ew]}) (dh:D.dst=some dst) (Z:cd st D.dst=true) {ys:List (den t)} {news:List Value} (hsrc:Src w (aC t) (Act.eval ⟨tm,[]⟩ x) ys.length news)
  (c5:ck w (au X B st.sites) (flat t ys) news):Holds (re bytes t dst st (aS C st T s) ys) (cG P U O X st tm w D):=by
 have bA:=aG.tt T;rw[aZ] at bA;obtain⟨⟨ef,_⟩,z,hinfo,hzs,eX⟩:=bA;obtain⟨i,hi,mm⟩:∃i,P.info? e=some i/\(i.size,i.bytes,i.zero)=(aC t,bytes,some z):=by
  cases ao:P.info? e with
  |none=>simp[ao] at hinfo
  |some i=>exact⟨i,rfl,by simpa[ao] using hinfo⟩
 simp only[Prod.mk.injEq] at mm;obtain⟨mm,uU,sk⟩:=mm;have nY:=cV S C T s;have runs:∀{v':Value} {w':World},(Builtin.append_ #[T,ew] D.type #[Act.eval ⟨tm,[]⟩ s,Act.eval ⟨tm,[]⟩ x]).run P w=.ok v' w'->
   (execOp (Act.eval ⟨tm,[]⟩) D).run P w=.ok (.value v') w':=by
  intro v' w' h;unfold execOp;simp only[ap,resolve,invoke,builtin,Sem.run_bind,Sem.run_pure,Result.andThen_ok,List.map_toArray,List.map_cons,List.map_nil,h]
 have one:∀{u:Bool} {bK:TypeId} {v':Value} {n m:Nat} {l:List Value} {w':World},rowAt w' u bK n v' m l->v'.oneCell'=true:=by
  intro u bK v' n m l w' h;rcases h.2 with⟨rfl,_⟩|⟨g,cap,cur,bL,rfl,_⟩<;>rfl
 unfold re;split
 ·-- a nil slice
  rename_i t2 b5;rw[b5] at nY;have qm:Act.eval ⟨tm,[]⟩ s=.slice none 0 0:=nY;refine Holds.eA fun r hr=>?_
  have cn:cR bytes [] ys=some r:=hr;unfold cR at cn;split at cn
  ·rename_i hb;cases cn;simp only[List.length_nil,Nat.zero_add,room] at hb;obtain⟨v',w',h1,⟨bK,h2⟩,ab,aF⟩:=sO (P:=P) (u:=t.ei) w T ew D.type e eX i z (aC t) bytes ef ua hi sk mm uU hzs (jq _) (.slice none 0 0) 0 [] ⟨e,q3 w _ e _⟩ _ _ news hsrc
    (by rw[Nat.zero_add];exact hb.2) (by rw[Nat.zero_add];exact hb.1)
   rw[Nat.zero_add,List.nil_append] at h2;have b3:=S.make (o:=dst) (bF:=.row (a6 st dst) t ([]++ys)) (nv:=v') (w':=w') (fun b hb=>ab.block b hb (by simp[Value.ownBlock])) ab.os ab.tape ab.output ab.size
    (fun Y M=>jp M) (fun b hb=>by
     obtain⟨g1,g2⟩:=aF b (vM h2 hb);rcases g2 with g2|g2
     ·cases g2
     ·exact⟨g2,g1⟩) (fun M bQ go _ _=>by
     refine⟨bK,news,by rw[bQ];simpa using h2,?_⟩
     intro j g1 g2;have api:j<(flat t ys).length:=by simpa using g1
     simpa using iq go (c5.2 j api g2))
   refine ik (us:=[(dst,.row (a6 st dst) t ([]++ys))]) b3 Z (runs (by rw[qm];exact h1)) ?_
   refine⟨one h2,Ref.mk (Y:=.row (a6 st dst) t ([]++ys)) ?_ rfl (by simp[(h6 h2).1])⟩
   simp only[ba,cv];simp
  ·cases cn
 ·-- a row of qf own
  rename_i o s2 b5;rw[b5] at nY;split
  ·rename_i fU t2 xs fr;have k5:look st.sites o=some (.row fU t2 xs):=fr;cases uZ:fU.beq s2 with
   |false=>simp only[cond_false];exact .fail
   |true=>
    have jF:=Nat.eq_of_beq_eq_true uZ;subst jF;simp only[cond_true];split
    ·rename_i hk;subst hk;refine Holds.eA fun r hr=>?_
     have cn:cR bytes xs ys=some r:=hr;unfold cR at cn;split at cn
     ·rename_i hb;cases cn;simp only[room] at hb;have hv:Act.eval ⟨tm,[]⟩ s=bT (B o):=Ref.at nY.2 k5 rfl;obtain⟨gi,cs,gL,hcs⟩:=S.sites o _ k5;rw[(h6 gL).1] at hv;obtain⟨v',w',h1,⟨bK,h2⟩,ab,aF⟩:=sO (P:=P) w T ew D.type e eX i z (aC t2) bytes ef ua hi sk mm uU hzs (jq _) (B o) xs.length cs ⟨gi,gL⟩ _ _ news hsrc hb.2 hb.1;have b3:=S.append (dst:=dst) (r:=xs++ys) k5 (nv:=v') (w':=w') ab (fun b hb=>by
       obtain⟨ax,an⟩:=aF b (vM h2 hb);exact⟨ax,an.imp fY id⟩) (fun bQ go=>by
       refine⟨bK,cs++news,by rw[bQ,List.length_append];exact h2,?_⟩
       have rX:ck w (au X B st.sites) (flat t2 xs) cs:=⟨by rw[dU];exact gL.1,hcs⟩
       have jz:=iF ((gp (B:=B) (sites:=st.sites) rX.1 rX.2).append (gp (B:=B) (sites:=st.sites) c5.1 c5.2)|>fun h=>by
        rw[show cu (flat t2 xs)++cu (flat t2 ys)=cu (flat t2 (xs++ys)) from by simp[cu,lP]] at h
        exact h)
       intro j g1 g2;exact iq go (jz.2 j g1 g2))
      refine ik (us:=[(o,.dead fU),(dst,.row (a6 (st.df o (.dead fU)) dst) t2 (xs++ys))]) b3 Z (runs (by rw[hv];exact h1)) ?_
      refine⟨one h2,Ref.mk (Y:=.row (a6 (st.df o (.dead fU)) dst) t2 (xs++ys)) ?_ rfl (by simp[(h6 h2).1])⟩
      simp only[ba,cv];simp
     ·cases cn
    ·exact .fail
  ·rename_i fU t2 xs fr;have k5:look st.sites o=some (.tail fU t2 xs):=fr;cases uZ:fU.beq s2 with
   |false=>simp only[cond_false];exact .fail
   |true=>
    have jF:=Nat.eq_of_beq_eq_true uZ;subst jF;simp only[cond_true];split
    ·rename_i hk;subst hk;refine Holds.eA fun r hr=>?_
     have cn:cR bytes xs ys=some r:=hr;unfold cR at cn;split at cn
     ·rename_i hb;cases cn;simp only[room] at hb;have hv:Act.eval ⟨tm,[]⟩ s=bT (B o):=Ref.at nY.2 k5 rfl;obtain⟨xx,gi,cs,gL,hcs⟩:=S.sites o _ k5;have uV:∀{w:World} {e:TypeId} {v:Value} {n:Nat} {l:List Value},oY w e (aC t2) v n l->bT v=v/\bl v=(aW v).toList/\v.oneCell'=true:=by
       intro w e v n l h;rcases h.2 with⟨rfl,_⟩|⟨_,_,_,_,rfl,_⟩<;>exact⟨rfl,rfl,rfl⟩
      rw[(uV gL).1] at hv;obtain⟨v',w',h1,⟨bK,h2⟩,ab,aF⟩:=YF (P:=P) w T ew D.type e i z (aC t2) bytes ef ua hi sk mm uU hzs (jq _) (B o) xs.length cs ⟨gi,gL⟩ _ _ news hsrc hb.2 hb.1;have b3:=S.GV (dst:=dst) (ir:=.tail (a6 (st.df o (.dead fU)) dst) t2 (xs++ys)) k5 rfl rfl rfl (nv:=v') (w':=w') ab (fun b hb=>by
       rw[(uV h2).2.1] at hb;obtain⟨ax,an⟩:=aF b (by simpa using hb)
       exact⟨ax,an.imp fY id⟩) (fun bQ go=>by
       refine⟨xx,bK,cs++news,by rw[bQ,List.length_append];exact h2,?_⟩
       have jz:=iF ((gp (B:=B) (sites:=st.sites) hcs.1 hcs.2).append (gp (B:=B) (sites:=st.sites) c5.1 c5.2)|>fun h=>by
        rw[show cu (flat t2 xs)++cu (flat t2 ys)=cu (flat t2 (xs++ys)) from by simp[cu,lP]] at h
        exact h)
       exact⟨jz.1,fun j g1 g2=>iq go (jz.2 j g1 g2)⟩)
      refine ik (us:=[(o,.dead fU),(dst,.tail (a6 (st.df o (.dead fU)) dst) t2 (xs++ys))]) b3 Z (runs (by rw[hv];exact h1)) ?_
      refine⟨(uV h2).2.2,Ref.mk (Y:=.tail (a6 (st.df o (.dead fU)) dst) t2 (xs++ys)) ?_ rfl (by simp[(uV h2).1])⟩
      simp only[ba,cv];simp
     ·cases cn
    ·exact .fail
  ·exact .fail
 ·exact .fail
theorem aco(S:ak U O X B st tm w){C:Ctx}(aG:CtxOk P C){T ew:TypeId}{s x:Operand}{e ex:TypeId}{t u:aJ}{bytes aO:Nat}{dst:Nat}(aZ:C.tt T=.slice e t bytes)(eX:C.tt ew=.slice ex u aO)
  (ap:D.op=.call {callee:=.builtin .append,args:=#[s,x],argTypes:=#[T,ew]}) (dh:D.dst=some dst) (Z:cd st D.dst=true):
  Holds (tg bytes t dst st (aS C st T s) (aS C st ew x)) (cG P U O X st tm w D):=by
 have qD:=aG.tt ew;rw[eX] at qD;unfold tg;split
 ·exact .fail
 ·rename_i d nj;split
  ·rename_i bm ys;split
   ·rename_i hk;subst hk;obtain⟨news,hsrc,c5⟩:=acX S (cV S C ew x) nj;exact MP S aG aZ (.inl ⟨_,qD.1.1⟩) ap dh Z hsrc c5
   ·exact .fail
  ·exact .fail
theorem aaF(S:ak U O X B st tm w){C:Ctx}(aG:CtxOk P C){T ew:TypeId}{s x:Operand}{e:TypeId}{t:aJ}{bytes:Nat}{dst:Nat}(aZ:C.tt T=.slice e t bytes)(eX:C.tt ew=.str)
  (ap:D.op=.call {callee:=.builtin .append,args:=#[s,x],argTypes:=#[T,ew]}) (dh:D.dst=some dst) (Z:cd st D.dst=true):
  Holds (th bytes t dst st (aS C st T s) (aS C st ew x)) (cG P U O X st tm w D):=by
 have qD:=aG.tt ew;rw[eX] at qD;have bx:=cV S C ew x;unfold th;split
 ·rename_i y hx;rw[hx] at bx;split
  ·rename_i hk;subst hk;have bx:Rd w (au X B st.sites) (.str y) (Act.eval ⟨tm,[]⟩ x):=bx;generalize hv:Act.eval ⟨tm,[]⟩ x=v at bx;cases bx with
   |str _ b hb=>
    subst hb;refine MP S aG aZ (.inr qD.1) ap dh Z (news:=b.data.toList.map fun b=>Value.int .u8 b.toNat) ?_ ?_
    ·rw[hv];refine⟨by simp[bytesOf,aC],fun u hu=>?_,.inr (.inr ⟨b,rfl,?_,rfl,rfl⟩)⟩
     ·obtain⟨c,_,rfl⟩:=List.mem_map.1 hu;rfl
     ·simp only[bytesOf,List.length_map,Array.length_toList];rfl
    ·have e1:flat .u8 (bytesOf b.data.toList)=(b.data.toList.map fun b=>aU.int .u8 b.toNat):=by
      unfold flat bytesOf;rw[List.flatMap_map];generalize b.data.toList=l;induction l with
      |nil=>rfl
      |cons a l ih=>simp only[List.flatMap_cons,List.map_cons,ih];rfl
     rw[e1];refine⟨by simp,fun j g1 g2=>?_⟩
     simp only[List.getElem_map];exact .int _ _
  ·exact .fail
 ·exact .fail
end
theorem foldl_set:∀(vs:List Value) (off k:Nat) (arr:Array Value),off+k+vs.length<=arr.size->
  (vs.zipIdx k).foldl (fun cs (x:Value×Nat)=>cs.setIfInBounds (off+x.2) x.1) arr=(bw arr.toList (off+k) vs).toArray:=by
 intro vs;induction vs with
 |nil=>intro off k arr h;simp[bw]
 |cons v vs ih=>
  intro off k arr h;simp only[List.zipIdx_cons,List.foldl_cons];rw[ih off (k+1) _ (by simp at h ⊢;omega)]
  congr 1
  simp only[List.length_cons] at h;unfold bw;rw[Array.toList_setIfInBounds];apply List.ext_getElem?;intro j;simp only[List.getElem?_append,List.length_append,List.length_take,List.length_set,List.getElem?_take,List.getElem?_drop,List.getElem?_set,List.length_cons,Array.length_toList];have m1:min (off+k) arr.size=off+k:=by omega
  have m2:min (off+(k+1)) arr.size=off+(k+1):=by omega
  simp only[m1,m2];by_cases c1:j<off+k
  ·have c2:j<off+(k+1):=by omega
   have c3:j<off+(k+1)+vs.length:=by omega
   have eG:j<off+k+(vs.length+1):=by omega
   have kg:¬off+k=j:=by omega
   simp[c1,c2,c3,eG,kg]
  ·by_cases c0:j=off+k
   ·subst c0;have c2:off+k<off+(k+1):=by omega
    have c3:off+k<off+(k+1)+vs.length:=by omega
    have eG:off+k<off+k+(vs.length+1):=by omega
    have kg:off+k<arr.size:=by omega
    simp[c2,c3,eG,kg]
   ·by_cases eG:j<off+k+(vs.length+1)
    ·have c2:¬j<off+(k+1):=by omega
     have c3:j<off+(k+1)+vs.length:=by omega
     have e:j-(off+k)=(j-(off+(k+1)))+1:=by omega
     simp[c1,c2,c3,eG,e]
    ·have c3:¬j<off+(k+1)+vs.length:=by omega
     have kg:¬off+k=off+(k+1)+vs.length+(j-(off+(k+1)+vs.length)):=by omega
     have e:off+(k+1)+vs.length+(j-(off+(k+1)+vs.length))=off+k+(vs.length+1)+(j-(off+k+(vs.length+1))):=by omega
     simp[c3,eG,kg,e];try(intro bo;exfalso;omega)
theorem Md(v:Value)(off:Nat)(arr:Array Value)(h:off+v.cells.size<=arr.size):
  v.cells.zipIdx.foldl (fun cs (x:Value×Nat)=>cs.setIfInBounds (off+x.2) x.1) arr=(bw arr.toList off v.cells.toList).toArray:=by
 rw[<-Array.foldl_toList,Array.toList_zipIdx];exact foldl_set v.cells.toList off 0 arr (by simpa using h)
theorem MK(s:Nat):∀(vs:List (Nat×Value)) (n:Nat) (cells:Array Value),(∀j (h:j<vs.length),(vs[j]).1=n+j)->(∀p,p∈vs->p.2.cells.size=s)->(n+vs.length)*s<=cells.size->
  Instr.fill (fun i=>some (i*s,s)) cells vs=some (bw cells.toList (n*s) (vs.flatMap fun p=>p.2.cells.toList)).toArray:=by
 intro vs;induction vs with
 |nil=>intro n cells _ _ _;simp[Instr.fill,bw]
 |cons p vs ih=>
  obtain⟨i,v⟩:=p;intro n cells hi M c7;have h0:i=n:=hi 0 (Nat.zero_lt_succ _);subst h0;have hv:v.cells.size=s:=M (i,v) (by simp)
  have jy:i*s+s<=cells.size:=by
   have:(i+1)*s<=(i+(vs.length+1))*s:=Nat.mul_le_mul_right _ (by omega)
   simp only[List.length_cons] at c7;rw[Nat.add_mul,Nat.one_mul] at this;omega
  simp only[Instr.fill,hv];rw[if_neg (by simp;omega)]
  have qg:=Md v (i*s) cells (by omega)
  rw[qg];have hlen:v.cells.toList.length=s:=by simpa using hv
  have akm:(bw cells.toList (i*s) v.cells.toList).length=cells.toList.length:=ny _ _ _ (by simp;omega)
  rw[ih (i+1) _ (fun j h=>by have:=hi (j+1) (by simpa using h);simp at this;omega) (fun p ag=>M p (by simp[ag])) (by
   simp only[List.length_cons] at c7;simp only[List.size_toArray,akm,Array.length_toList];have e:i+1+vs.length=i+(vs.length+1):=by omega
   rw[e];exact c7)]
  congr 2
  simp only[List.flatMap_cons,List.toList_toArray];have od:(vs.flatMap fun p=>p.2.cells.toList).length=vs.length*s:=by
   clear ih hi c7;induction vs with
   |nil=>simp
   |cons q vs xm=>
    have:q.2.cells.toList.length=s:=by simpa using M q (by simp)
    rw[List.flatMap_cons,List.length_append,this,xm (fun p ag=>M p (by rcases List.mem_cons.1 ag with h|h<;>simp[h])),List.length_cons,Nat.add_mul];omega
  have akB:(i+(vs.length+1))*s<=cells.size:=by simpa using c7
  rw[Nat.add_mul,Nat.add_mul] at akB;unfold bw;apply List.ext_getElem?;intro j;have e1:(i+1)*s=i*s+s:=by rw[Nat.add_mul,Nat.one_mul]
  simp only[List.getElem?_append,List.length_append,List.length_take,List.getElem?_take,List.getElem?_drop,List.length_drop,Array.length_toList,hlen,od,e1];have m1:min (i*s) cells.size=i*s:=by omega
  have m2:min (i*s+s) (i*s+s+(cells.size-(i*s+s)))=i*s+s:=by omega
  simp only[m1,m2];by_cases c1:j<i*s
  ·have c2:j<i*s+s:=by omega
   have c3:j<i*s+s+vs.length*s:=by omega
   have eG:j<i*s+(s+vs.length*s):=by omega
   simp[c1,c2,c3,eG]
  ·by_cases c2:j<i*s+s
   ·have c3:j<i*s+s+vs.length*s:=by omega
    have eG:j<i*s+(s+vs.length*s):=by omega
    have kg:j-i*s<s:=by omega
    simp[c1,c2,c3,eG,kg]
   ·by_cases c3:j<i*s+s+vs.length*s
    ·have eG:j<i*s+(s+vs.length*s):=by omega
     have kg:¬j-i*s<s:=by omega
     have e:j-i*s-s=j-(i*s+s):=by omega
     simp[c1,c2,c3,eG,kg,e]
    ·have eG:¬j<i*s+(s+vs.length*s):=by omega
     have kg:¬i*s+s+vs.length*s+(j-(i*s+s+vs.length*s))<i*s:=by omega
     have c6:¬i*s+s+vs.length*s+(j-(i*s+s+vs.length*s))<i*s+s:=by omega
     have e:i*s+s+(i*s+s+vs.length*s+(j-(i*s+s+vs.length*s))-(i*s+s))=i*s+(s+vs.length*s)+(j-(i*s+(s+vs.length*s))):=by omega
     simp[c3,eG,kg,c6,e]
theorem aaj:∀(l:List (Nat×Operand)) (n:Nat),p2 n l=true->∀j (h:j<l.length),(l[j]).1=n+j:=by
 intro l;induction l with
 |nil=>intro n _ j h;simp at h
 |cons p l ih=>
  obtain⟨i,x⟩:=p;intro n h j hj;simp only[p2,Bool.and_eq_true] at h;cases j with
  |zero=>simpa using Nat.eq_of_beq_eq_true h.1
  |succ j=>have:=ih (n+1) h.2 j (by simpa using hj);simp;omega
section
variable {P:Program}{U:World}{O:List Nat}{X:Nat->Prop}{B:Nat->Value}{st:ai}{tm:Array Value}{w:World}{D:Oper}
theorem YS{aa:List aD}(h:gX aa=true):aa.head?≠some .eS:=by
 intro bW;cases aa with
 |nil=>cases bW
 |cons l r=>
  simp only[List.head?_cons,Option.some.injEq] at bW;subst bW;cases h
theorem ak.PH(S:ak U O X B st tm w){o:Nat}{cells:List aD}{vs:List Value}{T:TypeId}(hl:cw B st.sites w (au X B st.sites) cells vs)(h1:∀u∈vs,u.oneCell'=true)(gy:nR cells T vs w.heap.size):
  ak U O X (fun H=>if H=o then .pointer (some ⟨w.heap.size,0,none⟩) else B H) {st with sites:=cf st.sites o (.box (a6 st o) cells)} tm (w.alloc (.cells vs.toArray T (0,0))):=
 S.make (fun b hb=>RowKit.Below.heap_alloc w _ b hb) rfl rfl rfl (by simp) (fun Y M=>jp M) (fun b hb=>by have hb:=List.mem_singleton.1 hb;subst hb;exact⟨Nat.le_refl _,by simp⟩)
  (fun M bQ go _ _=>⟨w.heap.size,T,vs,bQ,heap_alloc_new w _,hl.1,h1,gy,fun j g1 g2=>(A7 go hl).2 j g1 g2⟩)
theorem ac1{B:Nat->Value}{sites:List (Nat×Site)}{av:Nat->Prop}{cells:List aD}{T:TypeId}{cur:List Value}{b:Nat}(aZ:T=sr)(h:cw B sites w av cells cur)(M:cells.head?≠some .eS):cw B sites w av (wu cells) cur/\nR (wu cells) T cur b:=by
 unfold wu;split
 ·obtain⟨v,vs,rfl,h1,h2⟩:=h.inv;exact⟨.cons (show dx B sites w av .eS v from trivial) h2,fun _=>⟨aZ,.inl (by rw[show v=_ from h1];rfl)⟩⟩
 ·exact⟨h,fun ah=>absurd ah M⟩
theorem aee(S:ak U O X B st tm w){C:Ctx}(aG:CtxOk P C){elem:TypeId}{z:List aD}{o:Nat}(ap:D.op=.alloc elem)(dh:D.dst=some o)(hz:(C.tt elem).zero=some z)(Z:cd st D.dst=true):
  cG P U O X st tm w D (bZ (.ptr o (a6 st o) 0)) [(o,.box (a6 st o) (bif elem.beq sr then wu z else z))]:=by
 obtain⟨v,hv,hzv⟩:=cm.zf (w:=w) (aG.tt elem) hz;obtain⟨h1,h2,ab⟩:=sP hzv;have gy:z.head?≠some .eS:=by
  intro bW;cases z with
  |nil=>cases bW
  |cons l r=>
   simp only[List.head?_cons,Option.some.injEq] at bW;subst bW;simp[lT,q9] at hzv
 have cP:(execOp (Act.eval ⟨tm,[]⟩) D).run P w=.ok (.value (.pointer (some ⟨w.heap.size,0,none⟩))) (w.alloc (.cells v.cells.toList.toArray elem (0,0))):=by
  unfold execOp;simp[ap,Instr.alloc,hv,newVar,newRow]
 have key:∀cells,cw B st.sites w (au X B st.sites) cells v.cells.toList->nR cells elem v.cells.toList w.heap.size->
   cG P U O X st tm w D (bZ (.ptr o (a6 st o) 0)) [(o,.box (a6 st o) cells)]:=by
  intro cells hl M;have b3:=S.PH (o:=o) (T:=elem) hl h2 M;refine ik (us:=[(o,.box (a6 st o) cells)]) b3 Z (vv:=.pointer (some ⟨w.heap.size,0,none⟩)) cP ?_
  refine⟨_,rfl,Ref.mk (Y:=.box (a6 st o) cells) ?_ rfl (by simp[bT])⟩
  simp only[ba,cv];simp
 cases aZ:elem.beq sr with
 |false=>exact key z ⟨h1,ab _ _ _ _⟩ fun h=>absurd h gy
 |true=>
  obtain⟨ax,an⟩:=ac1 (b:=w.heap.size) (Nat.eq_of_beq_eq_true aZ) (⟨h1,ab B st.sites w (au X B st.sites)⟩:cw B st.sites w (au X B st.sites) z v.cells.toList) gy;exact key _ ax an
theorem ag8(S:ak U O X B st tm w){elem:TypeId}{x:Operand}{a:bH}{o:Nat}(ap:D.op=.box elem x)(dh:D.dst=some o)(aT:gO B st.sites w (au X B st.sites) a (Act.eval ⟨tm,[]⟩ x))
  (dr:gX a.cells=true) (Z:cd st D.dst=true):cG P U O X st tm w D (bZ (.ptr o (a6 st o) 0)) [(o,.box (a6 st o) a.cells)]:=by
 have hl:=aT.cells dr;have b3:=S.PH (o:=o) (T:=elem) hl (hl.ja dr) (fun h=>absurd h (YS dr))
 refine ik (us:=[(o,.box (a6 st o) a.cells)]) b3 Z (vv:=.pointer (some ⟨w.heap.size,0,none⟩)) ?_ ?_
 ·unfold execOp;simp[ap,Instr.box,newVar,newRow]
 ·refine⟨_,rfl,Ref.mk (Y:=.box (a6 st o) a.cells) ?_ rfl (by simp[bT])⟩
  simp only[ba,cv];simp
theorem ak.F6(S:ak U O X B st tm w){o:Nat}{t:aJ}{xs:List (den t)}{cs rest:List Value}{T:TypeId}{cap:Nat}(hl:ck w (au X B st.sites) (flat t xs) cs)(hcap:cs.length+rest.length=cap*aC t)(hm:cap<=maxLen)(eX:t.ei=true->T=mq):
  ak U O X (fun H=>if H=o then .slice (some ⟨w.heap.size,0,none⟩) xs.length cap else B H) {st with sites:=cf st.sites o (.row (a6 st o) t xs)} tm (w.alloc (.cells (cs++rest).toArray T (0,0))):=by
 have hcl:cs.length=xs.length*aC t:=by rw[hl.1,dU]
 have c7:xs.length<=cap:=by
  have:xs.length*aC t<=cap*aC t:=by omega
  exact Nat.le_of_mul_le_mul_right this (jq t)
 refine S.make (fun b hb=>RowKit.Below.heap_alloc w _ b hb) rfl rfl rfl (by simp) (fun Y M=>jp M) (fun b hb=>by have hb:=List.mem_singleton.1 hb;subst hb;exact⟨Nat.le_refl _,by simp⟩)
  (fun M bQ go _ _=>⟨T,cs,⟨hcl,.inr ⟨w.heap.size,cap,_,(0,0),bQ,⟨eX,.inl rfl⟩,heap_alloc_new w _,c7,hm,?_,?_⟩⟩,fun j g1 g2=>iq go (hl.2 j g1 g2)⟩)
 ·simp[hcap]
 ·rw[<-hcl];simp
theorem afG:∀{as:List bH} {t:aJ} {xs:List (den t)} {us vs:List (Nat×Site)} {ws:List Value},l' t st as=some (xs,us)->ws.length=as.length->
  (∀j (h:j<as.length) (ah:j<ws.length),gO B st.sites w (au X B st.sites) (as[j]) (ws[j]))->lM U O X B st tm w vs->(∀p,p∈us->p∈vs)->
  xs.length=as.length/\ck w (au X B (ba st.sites vs)) (flat t xs) (ws.flatMap fun v=>v.cells.toList)/\∀v,v∈ws->v.cells.size=aC t:=by
 intro as;induction as with
 |nil=>
  intro t xs us vs ws h hl _ _ _;simp only[l'] at h;cases h;have:ws=[]:=List.eq_nil_of_length_eq_zero hl;subst this;exact⟨rfl,⟨rfl,fun j h=>by simp[flat] at h⟩,fun v hv=>by simp at hv⟩
 |cons a as ih=>
  intro t xs us vs ws h hl eE aL dz;match ws,hl with
  |v::ws,hl=>
  simp only[l'] at h;split at h
  ·rename_i ds u1 mW;split at h
   ·rename_i x ia u2 eC l4;cases h;have b':=eE 0 (by simp) (by simp)
    simp only[List.getElem_cons_zero] at b';have dr:gX a.cells=true:=by
     clear l4 ih eE b' hl eC;generalize a.cells=aa at mW;induction aa generalizing ds u1 with
     |nil=>rfl
     |cons l aa ih=>
      simp only[h_] at mW;split at mW
      ·rename_i d X0 gU pG h1 h2;simp only[gX,Bool.and_eq_true];refine⟨?_,ih _ _ (fun p ag=>dz p (by cases mW;rcases List.mem_append.1 ag with h|h<;>simp[h])) h2⟩
       unfold kd at h1;split at h1<;>first|rfl|cases h1
      ·cases mW
    have hl1:=b'.cells dr;have se:=AM mW hl1 aL (fun p ag=>dz p (List.mem_append.2 (.inl ag)))
    obtain⟨g1,g2,g3⟩:=ih l4 (by simpa using hl) (fun j h1 h2=>eE (j+1) (by simpa using h1) (by simpa using h2)) aL (fun p ag=>dz p (List.mem_append.2 (.inr ag)))
    have pg:=oW _ _ _ eC;refine⟨by simp[g1],?_,fun u hu=>?_⟩
    ·simp only[flat,List.flatMap_cons];rw[pg];have:=iF ((gp (B:=B) (sites:=st.sites) se.1 se.2).append (gp (B:=B) (sites:=st.sites) g2.1 g2.2)|>fun h=>by
      rw[show cu ds++cu (flat t ia)=cu (ds++flat t ia) from by simp[cu]] at h
      exact h)
     exact this
    ·rcases List.mem_cons.1 hu with rfl|hu
     ·have:u.cells.toList.length=ds.length:=se.1;rw[<-pg,fz] at this;simpa using this
     ·exact g3 u hu
   ·cases h
  ·cases h
theorem afH:∀{as:List bH} {t:aJ} {xs:List (den t)} {us:List (Nat×Site)},l' t st as=some (xs,us)->dJ st.sites us:=by
 intro as;induction as with
 |nil=>intro t xs us h;simp only[l'] at h;cases h;exact .nil
 |cons a as ih=>
  intro t xs us h;simp only[l'] at h;split at h
  ·rename_i ds u1 mW;split at h
   ·rename_i x ia u2 eC l4;cases h;exact(GQ mW).append (ih l4)
   ·cases h
  ·cases h
theorem Yz{us:List (Nat×Site)}(h:dJ st.sites us)(o:Nat):a6 {st with sites:=ba st.sites us} o=a6 st o:=by
 unfold a6 ai.Y;simp only;rcases mB h o with h1|⟨s,t,xs,h1,h2⟩
 ·rw[h1]
 ·rw[h2];rcases h1 with h1|h1|h1<;>rw[h1]<;>rfl
end
section
variable {P:Program}{U:World}{O:List Nat}{X:Nat->Prop}{B:Nat->Value}{st:ai}{tm:Array Value}{w:World}{D:Oper}
theorem q4{v:aP}{a:bH}(h:m6 v=some a):v=.av a:=by
 cases v with
 |av b=>cases h;rfl
 |jE _=>cases h
theorem MM:∀{vs:List aP} {as:List bH},nQ vs=some as->vs.length=as.length/\∀j (h:j<vs.length) (ah:j<as.length),vs[j]=.av (as[j]):=by
 intro vs;induction vs with
 |nil=>intro as h;simp only[nQ] at h;cases h;exact⟨rfl,fun j h=>by simp at h⟩
 |cons v vs ih=>
  intro as h;simp only[nQ] at h;split at h
  ·rename_i a kf h1 h2;cases h;obtain⟨g1,g2⟩:=ih h2;refine⟨by simp[g1],fun j ax an=>?_⟩
   cases j with
   |zero=>exact q4 h1
   |succ j=>exact g2 j (by simpa using ax) (by simpa using an)
  ·cases h
theorem oF{C:Ctx}(aG:CtxOk P C){T e:TypeId}{t:aJ}{bytes:Nat}(aZ:C.tt T=.slice e t bytes):
  P.underlying T=some (.slice e)/\∃i z,P.info? e=some i/\i.size=aC t/\i.bytes=bytes/\i.zero=some z/\z.cells.size=aC t/\(t.ei=true->e=mq):=by
 have bA:=aG.tt T;rw[aZ] at bA;obtain⟨⟨ef,_⟩,z,hinfo,hzs⟩:=bA;refine⟨ef,?_⟩;cases ao:P.info? e with
 |none=>simp[ao] at hinfo
 |some i=>
  simp only[ao,Option.map_some,Option.some.injEq,Prod.mk.injEq] at hinfo;exact⟨i,z,rfl,hinfo.1,hinfo.2.1,hinfo.2.2,hzs⟩
theorem Lu{C:Ctx}(aG:CtxOk P C){T e:TypeId}{t:aJ}{bytes len:Nat}{parts:Array (Nat×Operand)}(aZ:C.tt T=.slice e t bytes)(hlen:parts.toList.length=len)(mT:p2 0 parts.toList=true)(tC:len*aC t<=1000)
  {ws:List Value} (xr:ws=parts.toList.map fun p=>Act.eval ⟨tm,[]⟩ p.2) (hcs:∀v,v∈ws->v.cells.size=aC t) (hcl:(ws.flatMap fun v=>v.cells.toList).length=len*aC t):
  (Instr.buildSlice T len (parts.map fun(x:Nat×Operand)=>(x.1,Act.eval ⟨tm,[]⟩ x.2))).run P w=
   .ok (.slice (some ⟨w.heap.size,0,none⟩) len len) (w.alloc (.cells (ws.flatMap fun v=>v.cells.toList).toArray e)):=by
 obtain⟨ef,i,z,hi,gM,pt,lw,hzs,eX⟩:=oF aG aZ;have agR:(parts.map fun(x:Nat×Operand)=>(x.1,Act.eval ⟨tm,[]⟩ x.2)).toList=parts.toList.map fun p=>(p.1,Act.eval ⟨tm,[]⟩ p.2):=by simp
 have aiF:((parts.toList.map fun p=>(p.1,Act.eval ⟨tm,[]⟩ p.2)).flatMap fun p:Nat×Value=>p.2.cells.toList)=ws.flatMap fun v=>v.cells.toList:=by
  simp[xr,List.flatMap_map]
 by_cases h0:len*i.size=0
 ·have j':len=0:=by
   rcases Nat.mul_eq_zero.1 h0 with h|h
   ·exact h
   ·have:=jq t;omega
  subst j';have ps:parts.toList=[]:=List.eq_nil_of_length_eq_zero hlen;have an9:ws=[]:=by simp[xr,ps]
  have aon:parts=#[]:=by simpa using ps
  rw[an9];have kM:∀f:Nat->Value,Array.map f (Array.range 0)=#[]:=fun f=>by apply Array.ext';simp
  simp[Instr.buildSlice,run_underlying ef,sizeOf,typeInfo,hi,aon,Instr.fill,newRow,kM]
 ·refine run_buildSlice w T e len _ _ i z ef hi lw (by rw[gM];omega) h0 ?_
  rw[agR];have aiu:(((Array.range (len*i.size)).map fun x=>z.cells[x%z.cells.size]!)).size=len*i.size:=by simp
  have:=MK (aC t) (parts.toList.map fun p=>(p.1,Act.eval ⟨tm,[]⟩ p.2)) 0 ((Array.range (len*i.size)).map fun x=>z.cells[x%z.cells.size]!)
   (fun j h=>by have:=aaj _ 0 mT j (by simpa using h);simpa using this)
   (fun p ag=>by
    obtain⟨q,ao,rfl⟩:=List.mem_map.1 ag;exact hcs _ (by rw[xr];exact List.mem_map.2 ⟨q,ao,rfl⟩))
   (by rw[aiu,gM];simp[hlen])
  rw[gM] at this ⊢;rw[this,aiF];congr 2
  unfold bw;rw[Nat.zero_mul,List.take_zero,List.nil_append,Nat.zero_add,hcl,List.drop_eq_nil_of_le (by simp),List.append_nil]
theorem Y4(S:ak U O X B st tm w){C:Ctx}(aG:CtxOk P C){T e:TypeId}{t:aJ}{bytes len o:Nat}{parts:Array (Nat×Operand)}(aZ:C.tt T=.slice e t bytes)(ap:D.op=.buildSlice T len parts)
  (dh:D.dst=some o) (Z:cd st D.dst=true) (hlen:parts.toList.length=len) (mT:p2 0 parts.toList=true) (tC:len*aC t<=1000) {as:List bH} {xs:List (den t)} {us:List (Nat×Site)}
  (has:nQ (parts.toList.map fun p=>aS C st e p.2)=some as) (eC:l' t st as=some (xs,us)):
  cG P U O X st tm w D (bZ (.own o (a6 st o))) (us++[(o,.row (a6 st o) t xs)]):=by
 obtain⟨ef,i,z,hi,gM,pt,lw,hzs,eX⟩:=oF aG aZ;have gS:=afH eC;have aL:lM U O X B st tm w us:=⟨S,gS⟩;obtain⟨xQ,ly⟩:=MM has;let ws:List Value:=parts.toList.map fun p=>Act.eval ⟨tm,[]⟩ p.2
 have xt:ws.length=as.length:=by rw[<-xQ];simp[ws]
 have Iy:∀j (h:j<as.length) (ah:j<ws.length),gO B st.sites w (au X B st.sites) (as[j]) (ws[j]):=by
  intro j h1 h2;have hj:j<(parts.toList.map fun p=>aS C st e p.2).length:=by rw[xQ];exact h1
  have:=ly j hj h1;simp only[List.getElem_map] at this;have bx:=cV S C e (parts.toList[j]'(by simpa using hj)).2
  rw[this] at bx;have ab:ce B st.sites w (au X B st.sites) (.av (as[j])) (ws[j]):=by simpa[ws] using bx
  exact ab
 obtain⟨qu,c5,hcs⟩:=afG eC xt Iy aL (fun p ag=>ag)
 have ru:xs.length=len:=by rw[qu,<-xt];simpa[ws] using hlen
 have hcl:(ws.flatMap fun v=>v.cells.toList).length=len*aC t:=by rw[c5.1,dU,ru]
 have hm:len<=maxLen:=by
  have:len*1<=len*aC t:=Nat.mul_le_mul_left _ (jq t);unfold maxLen;omega
 have b3:=aL.new.F6 (o:=o) (xs:=xs) (cs:=ws.flatMap fun v=>v.cells.toList) (rest:=[]) (T:=e) (cap:=len) (by exact c5) (by simp[hcl]) hm eX
 rw[Yz gS,ru,List.append_nil] at b3;have qc:ba st.sites (us++[(o,.row (a6 st o) t xs)])=cf (ba st.sites us) o (.row (a6 st o) t xs):=by rw[i_];rfl
 have cP:(Instr.buildSlice T len (parts.map fun(x:Nat×Operand)=>(x.1,Act.eval ⟨tm,[]⟩ x.2))).run P w=
   .ok (.slice (some ⟨w.heap.size,0,none⟩) len len) (w.alloc (.cells (ws.flatMap fun v=>v.cells.toList).toArray e)):=Lu aG aZ hlen mT tC rfl hcs hcl
 refine ik (us:=us++[(o,.row (a6 st o) t xs)]) (by rw[qc];exact b3) Z (vv:=.slice (some ⟨w.heap.size,0,none⟩) len len) ?_ ?_
 ·unfold execOp;simp only[ap,Sem.run_bind];have HP:=cP;simp only[HP,Result.andThen_ok,Sem.run_pure]
 ·rw[qc];refine⟨rfl,Ref.mk (Y:=.row (a6 st o) t xs) ?_ rfl (by simp[bT])⟩
  simp only[cv];simp
theorem YU{w:World}{av:Nat->Prop}{t:aJ}{z:den t}{gB:List Value}(h:ck w av (enc t z) gB)(n:Nat):ck w av (flat t (List.replicate n z)) ((List.replicate n gB).flatten):=by
 induction n with
 |zero=>exact⟨rfl,fun j h=>by simp[flat] at h⟩
 |succ n ih=>
  have:=iF ((gp (B:=fun _=>undef) (sites:=[]) h.1 h.2).append (gp (B:=fun _=>undef) (sites:=[]) ih.1 ih.2)|>fun h=>by
   rw[show cu (enc t z)++cu (flat t (List.replicate n z))=cu (enc t z++flat t (List.replicate n z)) from by simp[cu]] at h
   exact h)
  simpa[List.replicate_succ,flat,List.flatMap_cons] using this
theorem abq(z:Array Value)(n:Nat)(hz:0<z.size):((Array.range (n*z.size)).map fun x=>z[x%z.size]!).toList=(List.replicate n z.toList).flatten:=by
 induction n with
 |zero=>simp
 |succ n ih=>
  rw[List.replicate_succ',List.flatten_append];rw[<-ih];apply List.ext_getElem?;intro j;have e:(n+1)*z.size=n*z.size+z.size:=by rw[Nat.add_mul,Nat.one_mul]
  simp only[Array.toList_map,Array.toList_range,List.getElem?_map,List.getElem?_append,List.length_map,List.length_range,List.flatten_cons,List.flatten_nil,List.append_nil,e];by_cases h1:j<n*z.size
  ·rw[List.getElem?_range (by omega)];simp[h1]
  ·by_cases h2:j<n*z.size+z.size
   ·rw[List.getElem?_range h2];have ab:j-n*z.size<z.size:=by omega
    have aF:j%z.size=j-n*z.size:=by
     have:j=z.size*n+(j-n*z.size):=by rw[Nat.mul_comm];omega
     conv=>lhs;rw[this]
     rw[Nat.mul_add_mod,Nat.mod_eq_of_lt ab]
    simp[h1,aF,ab]
   ·rw[List.getElem?_eq_none (by simp;omega)]
    have ab:¬j-n*z.size<z.size:=by omega
    simp[h1,ab]
theorem ZH{l:aD}{v:Value}{d:aU}{us:List (Nat×Site)}(h:q9 l=some v)(k:kd st l=some (d,us)):us=[]:=by
 cases l with
 |d x=>simp[kd] at k;exact k.2
 |nil t=>simp[kd] at k;exact k.2
 |own o s=>simp[q9] at h
 |clo g bP=>simp[q9] at h
 |_=>simp[kd] at k
theorem Lz{C:Ctx}{T e:TypeId}{t:aJ}{bytes:Nat}{kn km:IntKind}{n m:Int}{i:TypeInfo}{v:Value}(ef:P.underlying T=some (.slice e))(hi:P.info? e=some i)(gM:i.size=aC t)(pt:i.bytes=bytes)
  (lw:i.zero=some v) (hzs:v.cells.size=aC t) (bc:0<=n) (aO:n<=m) (ca:m*bytes<=room) (pM:m<=maxLen):
  (Instr.makeSlice T (.int kn n) (.int km m)).run P w=.ok (.slice (some ⟨w.heap.size,0,none⟩) n.toNat m.toNat) (w.alloc (.cells ((List.replicate m.toNat v.cells.toList).flatten).toArray e)):=by
 unfold maxLen at pM;have b_:IntKind.i64.wrap n=n:=IntWalk.i64_in n (by omega)
 have w2:IntKind.i64.wrap m=m:=IntWalk.i64_in m (by omega)
 have wQ:(decide (m<0)||decide (((i.bytes:Nat):Int)*m>2^48))=false:=by
  unfold room at ca;rw[pt];have:(bytes:Int)*m<=140737488355328:=by rw[Int.mul_comm];exact ca
  simp;omega
 have nI:((Array.range (m.toNat*i.size)).map fun x=>v.cells[x%v.cells.size]!)=((List.replicate m.toNat v.cells.toList).flatten).toArray:=by
  rw[<-abq v.cells m.toNat (by rw[hzs];exact jq t),hzs,gM]
 have J9:¬n<0:=by omega
 have iS:¬n>m:=by omega
 unfold Instr.makeSlice;simp only[Sem.run_bind,run_underlying ef,Result.andThen_ok,asInt,asIntOf,Sem.run_pure,jM hi,b_,w2,wQ,Bool.false_eq_true,J9,iS,decide_false,Bool.or_false,Bool.or_self,if_false,
  run_askRoom,sizeOf]
 by_cases hz0:m.toNat*i.size=0
 ·have uR:m.toNat=0:=by
   rcases Nat.mul_eq_zero.1 hz0 with h|h
   ·exact h
   ·have:=jq t;omega
  have kM:∀f:Nat->Value,Array.map f (Array.range 0)=#[]:=fun f=>by apply Array.ext';simp
  simp[uR,newRow,kM]
 ·simp[hz0,lw,zeroValue,jM hi,newRow,nI]
theorem Zu(S:ak U O X B st tm w){C:Ctx}(aG:CtxOk P C){T e:TypeId}{t:aJ}{bytes o:Nat}{l c:Operand}{kn km:IntKind}{n m:Int}{z:List aD}{ds:List aU}{us:List (Nat×Site)}{eF:den t}(aZ:C.tt T=.slice e t bytes)(ap:D.op=.makeSlice T l c)
  (dh:D.dst=some o) (Z:cd st D.dst=true) (hl:aS C st 0 l=.av (.am (.d (.int kn n)))) (hc:aS C st 0 c=.av (.am (.d (.int km m)))) (hz:(C.tt e).zero=some z) (eI:h_ st z=some (ds,us)) (eC:dec t ds=some eF):
  ∀r,uI bytes n m eF=some r->cG P U O X st tm w D (bZ (.own o (a6 st o))) [(o,.row (a6 st o) t r)]:=by
 intro r hr;obtain⟨ef,i,fT,hi,gM,pt,lw,hzs,eX⟩:=oF aG aZ;obtain⟨v,hv,hzv⟩:=cm.zf (w:=w) (aG.tt e) hz;have JU:v=fT:=by
  simp[zeroValue,typeInfo,hi,lw] at hv;exact hv.symm
 subst JU;obtain⟨h1,h2,ab⟩:=sP hzv;have ej:us=[]:=by
  clear eC hz ab h2 h1;have key:∀{aa:List aD} {vs:List Value} {ds:List aU} {us:List (Nat×Site)},lT aa=some vs->h_ st aa=some (ds,us)->us=[]:=by
   intro aa;induction aa with
   |nil=>intro vs ds us _ h;simp only[h_] at h;cases h;rfl
   |cons l aa ih=>
    intro vs ds us h1 h2;simp only[lT] at h1;split at h1
    ·rename_i v cH g1 g2;simp only[h_] at h2;split at h2
     ·rename_i d X0 gU pG ax an;cases h2;rw[ih g2 an,List.append_nil];exact ZH g1 ax
     ·cases h2
    ·cases h1
  exact key hzv eI
 subst ej;have aL:lM U O X B st tm w []:=⟨S,.nil⟩;have hrz:ck w (au X B st.sites) ds v.cells.toList:=AM eI ⟨h1,ab _ _ _ _⟩ aL (fun p ag=>ag)
 rw[<-oW _ _ _ eC] at hrz;unfold uI at hr;split at hr
 ·rename_i hb;obtain⟨bc,aO,ca,pM⟩:=hb;cases hr;have e1:Act.eval ⟨tm,[]⟩ l=.int kn n:=by
   have:=cV S C 0 l;rw[hl] at this;have this:Rd _ _ (.int kn n) _:=this;generalize Act.eval ⟨tm,[]⟩ l=u at this;cases this;rfl
  have e2:Act.eval ⟨tm,[]⟩ c=.int km m:=by
   have:=cV S C 0 c;rw[hc] at this;have this:Rd _ _ (.int km m) _:=this;generalize Act.eval ⟨tm,[]⟩ c=u at this;cases this;rfl
  have wO:=YU hrz n.toNat;have hlen:((List.replicate n.toNat v.cells.toList).flatten).length=n.toNat*aC t:=by
   rw[wO.1,dU,List.length_replicate]
  have qb:(List.replicate m.toNat v.cells.toList).flatten=(List.replicate n.toNat v.cells.toList).flatten++(List.replicate (m.toNat-n.toNat) v.cells.toList).flatten:=by
   rw[<-List.flatten_append,List.replicate_append_replicate];congr 2;omega
  have hcap:((List.replicate n.toNat v.cells.toList).flatten).length+((List.replicate (m.toNat-n.toNat) v.cells.toList).flatten).length=m.toNat*aC t:=by
   rw[<-List.length_append,<-qb];simp[hzs]
  have wR:m.toNat<=maxLen:=by omega
  have b3:=S.F6 (o:=o) (T:=e) wO hcap wR eX;rw[List.length_replicate,<-qb] at b3;refine ik (us:=[(o,.row (a6 st o) t (List.replicate n.toNat eF))]) b3 Z (vv:=.slice (some ⟨w.heap.size,0,none⟩) n.toNat m.toNat) ?_ ?_
  ·unfold execOp;simp only[ap,e1,e2,Sem.run_bind];have cP:=Lz (C:=C) (w:=w) (kn:=kn) (km:=km) ef hi gM pt lw hzs bc aO ca pM;simp only[cP,Result.andThen_ok,Sem.run_pure]
  ·refine⟨rfl,Ref.mk (Y:=.row (a6 st o) t (List.replicate n.toNat eF)) ?_ rfl (by simp[bT])⟩
   simp only[ba,cv];simp
 ·cases hr
end
theorem abT{aK iW:Type}(g:aK->Option iW):∀{l:List aK} {r:List iW},l.mapM g=some r->∀{i:Nat} {y:iW},r[i]? =some y->∃x,l[i]? =some x/\g x=some y:=by
 intro l;induction l with
 |nil=>intro r h i y al;simp at h;subst h;simp at al
 |cons x l ih=>
  intro r h i y al;simp only[List.mapM_cons,Option.bind_eq_bind,Option.pure_def] at h;cases hx:g x with
  |none=>simp[hx] at h
  |some z=>
   cases hl:l.mapM g with
   |none=>simp[hx,hl] at h
   |some kS=>
    simp only[hx,hl,Option.bind_some,Option.some.injEq] at h;subst h;cases i with
    |zero=>simp at al;subst al;exact⟨x,by simp,hx⟩
    |succ i=>simp at al;simpa using ih hl al
section
variable {P:Program}{U:World}{O:List Nat}{X:Nat->Prop}{B:Nat->Value}{st:ai}{tm:Array Value}{w:World}{D:Oper}
theorem iJ{k:IntKind}{n:Int}{v:Value}{av:Nat->Prop}(h:Rd w av (.int k n) v):v=.int k n:=by cases h;rfl
theorem jR{b:Bool}{v:Value}{av:Nat->Prop}(h:Rd w av (.bool b) v):v=.bool b:=by cases h;rfl
theorem gF{s:J}{v:Value}{av:Nat->Prop}(h:Rd w av (.str s) v):∃b:ByteArray,v=.string b/\b.data.toList=s:=by
 cases h with
 |str l s h=>exact⟨s,rfl,h⟩
theorem kt(S:ak U O X B st tm w){C:Ctx}{T:TypeId}{x:Operand}{k:IntKind}{n:Int}(h:aS C st T x=.av (.am (.d (.int k n)))):Act.eval ⟨tm,[]⟩ x=.int k n:=by
 have:=cV S C T x;rw[h] at this;exact iJ this
theorem GO(S:ak U O X B st tm w){C:Ctx}{T:TypeId}{x:Operand}{b:Bool}(h:aS C st T x=.av (.am (.d (.bool b)))):Act.eval ⟨tm,[]⟩ x=.bool b:=by
 have:=cV S C T x;rw[h] at this;exact jR this
theorem ag2(S:ak U O X B st tm w){C:Ctx}{T:TypeId}{x:Operand}{s:J}(h:aS C st T x=.av (.am (.d (.str s)))):∃b:ByteArray,Act.eval ⟨tm,[]⟩ x=.string b/\b.data.toList=s:=by
 have:=cV S C T x;rw[h] at this;exact gF this
theorem ZX{C:Ctx}(aG:CtxOk P C){T:TypeId}{b1:List (Nat×Nat)}{n:Nat}{z:List aD}{eq:Bool}(aZ:C.tt T=.struct b1 n z eq):(cm.struct b1 n z eq).ok P T:=by
 have:=aG.tt T;rwa[aZ] at this
theorem ZD(S:ak U O X B st tm w){C:Ctx}(aG:CtxOk P C){T:TypeId}{x:Operand}{f off KU:Nat}{b1:List (Nat×Nat)}{n:Nat}{z:List aD}{eq:Bool}(aZ:C.tt T=.struct b1 n z eq)(ap:D.op=.fieldAddr T x f)
  (Z:cd st D.dst=true) (hf:b1[f]? =some (off,KU)):Holds (DZ off (aS C st 0 x)) (cG P U O X st tm w D):=by
 obtain⟨fields,ef,⟨akw,xC⟩,_⟩:=ZX aG aZ;obtain⟨Ye,h1,h2⟩:=abT _ akw hf;have h1':fields[f]? =some Ye:=by simpa using h1
 cases hi:P.info? Ye.type with
 |none=>simp[hi] at h2
 |some i=>
  simp only[hi,Option.map_some,Option.some.injEq,Prod.mk.injEq] at h2;have hsz:i.size≠0:=by rw[h2.2];exact xC (off,KU) (List.mem_of_getElem? hf)
  have bx:=cV S C 0 x;have run:∀{b p:Nat},Act.eval ⟨tm,[]⟩ x=.pointer (some ⟨b,p,none⟩)->(execOp (Act.eval ⟨tm,[]⟩) D).run P w=.ok (.value (.pointer (some ⟨b,p+off,none⟩))) w:=by
   intro b p hx;unfold execOp;simp only[ap,hx,Instr.fieldAt,Instr.sureAddr,Sem.run_bind,run_underlying ef,Result.andThen_ok,h1',Sem.run_pure,fieldPlace,sizeOf,jM hi,hsz,if_false,h2.1,fZ]
  unfold DZ;split
  ·rename_i o s p b5;rw[b5] at bx;obtain⟨b,ax,an⟩:=bx;exact Holds.ok (dH S Z (run ax) ⟨b,rfl,an⟩)
  ·rename_i cells p b5;rw[b5] at bx;obtain⟨b,q,ax,an⟩:=bx;refine Holds.ok (dH S Z (run ax) ⟨b,q,by rw[Nat.add_assoc],an⟩)
  ·rename_i o s t k p b5;rw[b5] at bx;obtain⟨b,q,ax,an⟩:=bx;exact Holds.ok (dH S Z (run ax) ⟨b,q,by rw[Nat.add_assoc,Nat.add_assoc],an⟩)
  ·exact .fail
end
theorem vH(n:Nat)(l:List Nat):gd n l=true <-> n∈l:=by
 induction l with
 |nil=>simp[gd]
 |cons m l ih=>
  simp only[gd,Bool.or_eq_true,ih,List.mem_cons];constructor
  ·rintro(h|h)
   ·exact .inl (Nat.eq_of_beq_eq_true h)
   ·exact .inr h
  ·rintro(rfl|h)
   ·exact .inl (Nat.beq_refl n)
   ·exact .inr h
theorem pR(l:List Nat):e8 l=true <-> l.Nodup:=by
 induction l with
 |nil=>simp[e8]
 |cons n l ih=>
  simp only[e8,Bool.and_eq_true,ih,List.nodup_cons,Bool.not_eq_true'];constructor
  ·rintro⟨h1,h2⟩;exact⟨fun h=>(by rw[(vH n l).2 h] at h1;cases h1),h2⟩
  ·rintro⟨h1,h2⟩;refine⟨?_,h2⟩;cases h:gd n l with
   |false=>rfl
   |true=>exact absurd ((vH n l).1 h) h1
theorem lN{sites us:List (Nat×Site)}{o:Nat}(h:o∉keys us):look (ba sites us) o=look sites o:=by
 induction us generalizing sites with
 |nil=>rfl
 |cons p us ih=>
  obtain⟨n,s⟩:=p;simp only[keys,List.mem_cons,not_or] at h;simp only[ba];rw[ih h.2,cv];have:¬n=o:=fun e=>h.1 e.symm
  simp[this]
theorem E1{aK:Type}{us:List (Nat×aK)}{o:Nat}{s:aK}(h:(o,s)∈us):o∈keys us:=by
 induction us with
 |nil=>simp at h
 |cons p us ih=>
  rcases List.mem_cons.1 h with rfl|h
  ·exact List.mem_cons_self
  ·exact List.mem_cons_of_mem _ (ih h)
theorem pW{aK:Type}{us:List (Nat×aK)}{o:Nat}(h:o∈keys us):∃s,(o,s)∈us:=by
 induction us with
 |nil=>simp[keys] at h
 |cons p us ih=>
  obtain⟨n,s⟩:=p;rcases List.mem_cons.1 h with h|h
  ·exact⟨s,by rw[h];exact List.mem_cons_self⟩
  ·obtain⟨ar,ah⟩:=ih h;exact⟨ar,List.mem_cons_of_mem _ ah⟩
theorem gW{aK:Type}(a b:List (Nat×aK)):keys (a++b)=keys a++keys b:=by
 induction a with
 |nil=>rfl
 |cons p a ih=>simp[keys,ih]
section
variable {P:Program}{U:World}{O:List Nat}{X:Nat->Prop}{B:Nat->Value}{st:ai}{tm:Array Value}{w:World}{D:Oper}
def cz(B:Nat->Value)(ks:List Nat):List Nat:=ks.flatMap fun o=>bl (B o)
theorem kY(a b:List Nat):cz B (a++b)=cz B a++cz B b:=by simp[cz]
def fa(sites:List (Nat×Site))(us:List (Nat×Site)):Prop:=∀o ar,(o,ar)∈us->∃Y,look sites o=some Y/\Y.live=true/\ar=.dead Y.b9
theorem fa.nil{sites:List (Nat×Site)}:fa sites []:=fun _ _ h=>by simp at h
theorem fa.append{sites us vs:List (Nat×Site)}(h:fa sites us)(ah:fa sites vs):fa sites (us++vs):=by
 intro o s hm;rcases List.mem_append.1 hm with hm|hm
 ·exact h o s hm
 ·exact ah o s hm
theorem aak:∀{us:List (Nat×Site)} {sites:List (Nat×Site)},fa sites us->∀H,(H∉keys us/\look (ba sites us) H=look sites H)\/(H∈keys us/\∃Y,look sites H=some Y/\Y.live=true/\look (ba sites us) H=some (.dead Y.b9)):=by
 intro us;induction us with
 |nil=>intro sites _ H;exact .inl ⟨by simp[keys],rfl⟩
 |cons p us ih=>
  obtain⟨o,s⟩:=p;intro sites h H;obtain⟨Y,h1,h2,rfl⟩:=h o s List.mem_cons_self;by_cases hm:H∈keys us
  ·obtain⟨ar,hO⟩:=pW hm;obtain⟨bF,ax,an,rfl⟩:=h H ar (List.mem_cons_of_mem _ hO);refine .inr ⟨List.mem_cons_of_mem _ hm,bF,ax,an,?_⟩;have:∀(us:List (Nat×Site)) (sites:List (Nat×Site)),(∀s,(H,s)∈us->s=.dead bF.b9)->H∈keys us->look (ba sites us) H=some (.dead bF.b9):=by
    intro us;induction us with
    |nil=>intro _ _ h;simp[keys] at h
    |cons q us xm=>
     obtain⟨aN,r⟩:=q;intro sites M af;simp only[ba];by_cases iT:H∈keys us
     ·exact xm _ (fun s eU=>M s (List.mem_cons_of_mem _ eU)) iT
     ·rw[lN iT,cv];rcases List.mem_cons.1 af with rfl|af
      ·rw[M r List.mem_cons_self];simp
      ·exact absurd af iT
   simp only[ba];refine this us _ (fun s M=>?_) hm
   obtain⟨s2,g1,g2,g3⟩:=h H s (List.mem_cons_of_mem _ M);rw[ax] at g1;cases g1;exact g3
  ·simp only[ba];rw[lN hm,cv];by_cases e:o=H
   ·subst e;exact .inr ⟨List.mem_cons_self,Y,h1,h2,by simp⟩
   ·exact .inl ⟨fun af=>(List.mem_cons.1 af).elim (fun h=>e h.symm) hm,by simp[e]⟩
theorem Deep.len{av:Nat->Prop}{ds:List aU}{cs aw:List Value}(h:Deep w av ds cs aw):cs.length=ds.length:=by
 induction h with
 |nil=>rfl
 |row _ _ _ _ _ _ _ _ ih=>simp[ih]
 |leaf _ _ _ ih=>simp[ih]
theorem Deep.cM{av:Nat->Prop}{ds gU:List aU}{cs ke aw n8:List Value}(h:Deep w av ds cs aw)(ah:Deep w av gU ke n8):Deep w av (ds++gU) (cs++ke) (aw++n8):=by
 induction h with
 |nil=>exact ah
 |row u ys e aa ag h hr _ ih=>exact .row u ys e aa ag h hr ih
 |leaf ag h _ ih=>exact .leaf ag h ih
theorem Deep.inv{av:Nat->Prop}:∀{ds gU:List aU} {cs aw:List Value},Deep w av (ds++gU) cs aw->∃ss Xi fg kG,cs=ss++Xi/\aw=fg++kG/\Deep w av ds ss fg/\Deep w av gU Xi kG:=by
 intro ds;induction ds with
 |nil=>intro gU cs aw h;exact⟨[],cs,[],aw,rfl,rfl,.nil,h⟩
 |cons d ds ih=>
  intro gU cs aw h;cases h with
  |row u ys e aa ag h hr k=>
   obtain⟨c1,c2,n1,n2,rfl,rfl,ax,an⟩:=ih k;exact⟨_::c1,c2,_::n1,n2,rfl,rfl,.row u ys e aa ag h hr ax,an⟩
  |leaf ag h k=>
   obtain⟨c1,c2,n1,n2,rfl,rfl,ax,an⟩:=ih k;exact⟨_::c1,c2,n1,n2,rfl,rfl,.leaf ag h ax,an⟩
theorem Deep.map{w':World}{av bX:Nat->Prop}{ds:List aU}{cs aw:List Value}(h:Deep w av ds cs aw)(go:∀{d v},Rd w av d v->Rd w' bX d v):
  (∀n,n∈aw->∀b,aW n=some b->w'.heap[b]? =w.heap[b]?)->Deep w' bX ds cs aw:=by
 induction h with
 |nil=>intro _;exact .nil
 |row u ys e aa ag h hr _ ih=>intro af;exact .row u ys e aa ag (oG h (af _ List.mem_cons_self)) ⟨hr.1,fun j g1 g2=>go (hr.2 j g1 g2)⟩ (ih fun n hn=>af n (List.mem_cons_of_mem _ hn))
 |leaf ag h _ ih=>intro af;exact .leaf ag (go h) (ih af)
theorem Deep.one{av:Nat->Prop}{ds:List aU}{cs aw:List Value}(h:Deep w av ds cs aw):∀u∈cs,u.oneCell'=true:=by
 induction h with
 |nil=>intro u hu;cases hu
 |row u ys e aa _ h _ _ ih=>
  intro v hv;rcases List.mem_cons.1 hv with rfl|hv
  ·rcases h.2 with⟨h,_⟩|⟨_,_,_,_,h,_⟩<;>rw[h]<;>rfl
  ·exact ih v hv
 |leaf _ h _ ih=>
  intro v hv;rcases List.mem_cons.1 hv with rfl|hv
  ·exact h.ja
  ·exact ih v hv
theorem aaH{o s:Nat}{t:aJ}{xs:List (den t)}(h:rC st o s=some ⟨t,xs⟩):rowOf st o s=some ⟨t,xs⟩\/mI st o s=some ⟨t,xs⟩:=by
 unfold rC at h;split at h
 ·rename_i x hx;cases h;exact .inl hx
 ·exact .inr h
theorem ak.any(S:ak U O X B st tm w){o s:Nat}{t:aJ}{xs:List (den t)}(h:rC st o s=some ⟨t,xs⟩):
  (∃Y,look st.sites o=some Y/\Y.b9=s)/\((bT (B o)=.slice none 0 0/\xs=[])\/∃b c,bT (B o)=.slice (some ⟨b,0,none⟩) xs.length c):=by
 rcases aaH h with h|h
 ·obtain⟨cs,_,hc⟩:=S.row h;refine⟨by rcases kj h with h|h<;>exact⟨_,h,rfl⟩,hc.imp id fun⟨b,c,h,_⟩=>⟨b,c,h⟩⟩
 ·have hl:=vo h;obtain⟨e,v,aw,cs,h1,_,h2,_⟩:=S.sites o _ hl;refine⟨⟨_,hl,rfl⟩,?_⟩;rw[h1];show(v=_/\_)\/∃b c,v=_;rcases h2.2 with⟨hv,h0⟩|⟨g,cap,cur,bL,hv,_⟩
  ·exact .inl ⟨hv,List.eq_nil_of_length_eq_zero h0⟩
  ·exact .inr ⟨g,cap,hv⟩
theorem ak.all(S:ak U O X B st tm w){o s:Nat}{t:aJ}{xs:List (den t)}(h:rD st o s=some ⟨t,xs⟩):
  (∃Y,look st.sites o=some Y/\Y.b9=s)/\((bT (B o)=.slice none 0 0/\xs=[])\/∃b D c,bT (B o)=.slice (some ⟨b,D,none⟩) xs.length c):=by
 unfold rD at h;split at h
 ·rename_i x hx;cases h;obtain⟨h1,h2⟩:=S.any hx;exact⟨h1,h2.imp id fun⟨b,c,h⟩=>⟨b,0,c,h⟩⟩
 ·have hl:=DB h;obtain⟨cs,_,h2⟩:=S.tail hl;exact⟨⟨_,hl,rfl⟩,h2.imp id fun⟨b,D,c,h,_⟩=>⟨b,D,c,h⟩⟩
theorem ak.QZ(S:ak U O X B st tm w){o:Nat}(h:b2 st.sites o):(bl (B o)).Nodup:=by
 obtain⟨Y,h1,h2⟩:=h;have:=S.sites o Y h1;cases Y with
 |box s cells=>obtain⟨b,T,cur,g,_⟩:=this;rw[g];simp[bl,aW]
 |row s t xs=>
  obtain⟨e,cs,g,_⟩:=this;rw[(h6 g).2];cases aW (B o)<;>simp
 |map s t es=>obtain⟨b,g,_⟩:=this;rw[g];simp[bl,aW]
 |deep s t xs=>obtain⟨e,v,aw,cs,g1,g2,_⟩:=this;exact g2
 |eB s es=>obtain⟨b,arr,clock,aw,g1,g2,_⟩:=this;exact g2
 |tail s t xs=>
  obtain⟨_,e,cs,g,_⟩:=this;rcases g.2 with⟨g,_⟩|⟨_,_,_,_,g,_⟩<;>rw[g]<;>simp[bl,aW]
 |da=>cases h2
 |dead=>cases h2
theorem ak.G_(S:ak U O X B st tm w):∀{ks:List Nat},(∀H,H∈ks->b2 st.sites H)->ks.Nodup->(cz B ks).Nodup:=by
 intro ks;induction ks with
 |nil=>intro _ _;simp[cz]
 |cons k ks ih=>
  intro hl hn;obtain⟨n1,n2⟩:=List.nodup_cons.1 hn;unfold cz;rw[List.flatMap_cons];refine List.nodup_append.2 ⟨S.QZ (hl k List.mem_cons_self),ih (fun H h=>hl H (List.mem_cons_of_mem _ h)) n2,fun a aT b hb e=>?_⟩
  subst e;obtain⟨H,br,hb⟩:=List.mem_flatMap.1 hb;exact n1 (S.dp k H a (hl k List.mem_cons_self) (hl H (List.mem_cons_of_mem _ br)) aT hb▸br)
theorem ak.uw(S:ak U O X B st tm w){o:Nat}{bF:Site}{nv:Value}{w':World}{ks:List (Nat×Site)}{K:List Nat}(kN:fa st.sites ks)(bO:∀H,H∈K <-> H∈keys ks\/H=o/\b2 st.sites o)
  (hw:∀b,b<w.heap.size->(∀H,H∈K->b∉bl (B H))->w'.heap[b]? =w.heap[b]?) (hos:w'.os=w.os) (HN:w'.tape=w.tape) (wP:w'.output=w.output) (jX:w.heap.size<=w'.heap.size)
  (fM:bF.live=true) (nH:∀Y,look st.sites o=some Y->Y.b9<bF.b9\/(Y.b9=bF.b9/\bT nv=bT (B o)))
  (fP:∀b,b∈bl nv->b<w'.heap.size/\((∃H,H∈K/\b∈bl (B H))\/w.heap.size<=b))
  (eE:∀{bp:List (Nat×Site)} {aE:Nat->Value},aE o=nv->(∀{a v},ce B st.sites w (au X B st.sites) a v->ce aE bp w' (au X aE bp) a v)->
   io aE bp w' (au X aE bp) o bF):
  ak U O X (fun H=>if H=o then nv else B H) {st with sites:=cf (ba st.sites ks) o bF} tm w':=by
 have qy:=aak kN;have hold:∀H,H∈K->b2 st.sites H:=by
  intro H h;rcases(bO H).1 h with h|⟨rfl,h⟩
  ·rcases qy H with⟨ah,_⟩|⟨_,Y,h1,h2,_⟩
   ·exact absurd h ah
   ·exact⟨Y,h1,h2⟩
  ·exact h
 have cI:∀H,b2 (cf (ba st.sites ks) o bF) H->H=o\/(H≠o/\H∉K/\b2 st.sites H):=by
  rintro H ⟨Y,h1,h2⟩;rw[cv] at h1;by_cases e:o=H
  ·exact .inl e.symm
  ·simp only[e,if_false] at h1;rcases qy H with⟨ax,an⟩|⟨ax,s,an,bG,ci⟩
   ·exact .inr ⟨fun h=>e h.symm,fun h=>((bO H).1 h).elim ax fun h=>e h.1.symm,Y,an▸h1,h2⟩
   ·rw[ci] at h1;cases h1;cases h2
 have wF:∀H b,H∉K->b2 st.sites H->b∈bl (B H)->w'.heap[b]? =w.heap[b]? :=fun H b h1 h2 ab=>hw b (S.dX h2 ab) fun aN xn hb=>h1 (S.dp H aN b h2 (hold aN xn) ab hb▸xn)
 refine S.o9 (fun H Y br=>?_) (fun b h hb=>hw b hb fun H br ah=>h (.inr ⟨H,hold H br,ah⟩)) (fun b h hb ah=>?_) (fun go H Y br=>?_) (fun H aN b h1 h2 g1 g2=>?_) (fun H b h1 g1=>?_) (fun H b h1 g1=>?_) ?_ jX
 ·rw[cv];by_cases e:o=H
  ·subst e;refine⟨bF,by simp,?_,fun h=>?_⟩
   ·rcases nH Y br with h|⟨h,_⟩<;>omega
   ·rcases nH Y br with ah|⟨_,ah⟩
    ·omega
    ·simpa using ah
  ·have bK:¬H=o:=fun h=>e h.symm
   rcases qy H with⟨ax,an⟩|⟨ax,s,an,bG,ci⟩
   ·exact⟨Y,by simp[e,an,br],Nat.le_refl _,fun _=>by simp[bK]⟩
   ·rw[br] at an;cases an;exact⟨.dead Y.b9,by simp[e,ci],Nat.le_refl _,fun _=>by simp[bK]⟩
 ·rcases ah with ah|⟨H,h1,h2⟩
  ·exact h (.inl ah)
  ·rcases cI H h1 with rfl|⟨n1,n2,cx⟩
   ·simp only[if_true] at h2;rcases(fP b h2).2 with⟨aN,ab,aF⟩|ab
    ·exact h (.inr ⟨aN,hold aN ab,aF⟩)
    ·omega
   ·simp only[n1,if_false] at h2;exact h (.inr ⟨H,cx,h2⟩)
 ·rw[cv] at br;by_cases e:o=H
  ·subst e;simp only[if_true,Option.some.injEq] at br;subst br;exact .inr (eE (by simp) go)
  ·have bK:¬H=o:=fun h=>e h.symm
   simp only[e,if_false] at br;rcases qy H with⟨ax,an⟩|⟨ax,s,an,bG,ci⟩
   ·exact .inl ⟨an▸br,by simp[bK],fun hl b hb=>wF H b (fun h=>((bO H).1 h).elim ax fun h=>e h.1.symm) ⟨Y,an▸br,hl⟩ hb⟩
   ·rw[ci] at br;cases br;exact .inr trivial
 ·have key:∀H b,H∉K->b2 st.sites H->b∈bl (B H)->b∉bl nv:=by
   intro H b n2 cx hb hn;rcases(fP b hn).2 with⟨aN,ab,aF⟩|ab
   ·exact n2 (S.dp H aN b cx (hold aN ab) hb aF▸ab)
   ·have:=S.dX cx hb;omega
  rcases cI H h1 with rfl|⟨n1,m1,cx⟩<;>rcases cI aN h2 with rfl|⟨n2,m2,ea⟩
  ·rfl
  ·simp only[if_true] at g1;simp only[n2,if_false] at g2;exact absurd g1 (key aN b m2 ea g2)
  ·simp only[if_true] at g2;simp only[n1,if_false] at g1;exact absurd g2 (key H b m1 cx g1)
  ·simp only[n1,if_false] at g1;simp only[n2,if_false] at g2;exact S.dp H aN b cx ea g1 g2
 ·rcases cI H h1 with rfl|⟨n1,_,cx⟩
  ·simp only[if_true] at g1;rcases(fP b g1).2 with⟨aN,ab,aF⟩|ab
   ·exact S.cg aN b (hold aN ab) aF
   ·exact⟨fun hx=>by have:=S.old b hx;have:=S.frame.size;omega,.inr (Nat.le_trans S.frame.size ab)⟩
  ·simp only[n1,if_false] at g1;exact S.cg H b cx g1
 ·rcases cI H h1 with rfl|⟨n1,_,cx⟩
  ·simp only[if_true] at g1;exact(fP b g1).1
  ·simp only[n1,if_false] at g1;exact Nat.lt_of_lt_of_le (S.dX cx g1) jX
 ·have aL:=S.frame;refine⟨hos.trans aL.os,HN.trans aL.tape,wP.trans aL.output,Nat.le_trans aL.size jX,fun b h1 h2=>?_⟩
  rw[hw b (Nat.lt_of_lt_of_le h1 aL.size) (fun H br hb=>?_)]
  ·exact aL.block b h1 h2
  ·rcases(S.cg H b (hold H br) hb).2 with h|h
   ·exact h2 h
   ·omega
theorem aat{t:aJ}(h:t.h5=false)(x:den t):∀d,d∈enc t x->d.plain=true:=by
 cases t<;>first|(cases h;done)|(intro d Z;simp only[enc,List.mem_cons,List.not_mem_nil,or_false] at Z;(rcases Z with rfl|rfl|rfl|rfl|rfl);all_goals rfl)|skip
 all_goals(intro d Z;simp only[enc,List.mem_cons,List.not_mem_nil,or_false] at Z)
 all_goals first|(subst Z;rfl)|(rcases Z with rfl|rfl<;>rfl)|(rcases Z with rfl|rfl|rfl<;>rfl)|(rcases Z with rfl|rfl|rfl|rfl<;>rfl)
theorem DY{t:aJ}(h:t.h5=false){xs:List (den t)}:∀d,d∈flat t xs->d.plain=true:=by
 intro d Z;simp only[flat,List.mem_flatMap] at Z;obtain⟨x,_,hx⟩:=Z;exact aat h x d hx
theorem EX(S:ak U O X B st tm w):∀{aa:List aD} {ds:List aU} {us:List (Nat×Site)} {vs:List Value},sinks st aa=some (ds,us)->cw B st.sites w (au X B st.sites) aa vs->
  fa st.sites us/\∃aw,Deep w (au X B st.sites) ds vs aw/\(aw.flatMap fun v=>(aW v).toList)=cz B (keys us):=by
 intro aa;induction aa with
 |nil=>intro ds us vs h hl;simp only[sinks] at h;cases h;rw[hl.lW];exact⟨.nil,[],.nil,rfl⟩
 |cons l aa ih=>
  intro ds us vs h hl;simp only[sinks] at h;split at h
  ·rename_i d u1 gU u2 h1 h2;cases h;obtain⟨v,cH,rfl,hv,hvs⟩:=hl.inv;obtain⟨g2,aw,an,bG⟩:=ih h2 hvs;unfold sink at h1;split at h1
   ·cases h1;exact⟨g2,aw,.leaf rfl hv an,bG⟩
   ·cases h1;exact⟨g2,aw,.leaf rfl hv an,bG⟩
   ·cases h1;exact⟨g2,aw,.leaf rfl hv an,bG⟩
   ·rename_i t;cases h1;have hv:v=.slice none 0 0:=hv;subst hv;exact⟨g2,_::aw,.row t [] 0 [] (fun d h=>by simp[flat] at h) (q3 w _ _ _) ⟨rfl,fun j h=>by simp[flat] at h⟩ an,by rw[List.flatMap_cons,bG];rfl⟩
   ·rename_i o s;split at h1
    ·rename_i ar t xs fr;cases hb:(ar.beq s&&!t.h5) with
     |false=>rw[hb] at h1;cases h1
     |true=>
      rw[hb] at h1;simp only[Bool.and_eq_true,Bool.not_eq_true'] at hb;have:=Nat.eq_of_beq_eq_true hb.1;subst this;cases h1;have ao:look st.sites o=some (.row ar t xs):=fr;obtain⟨e,cs,r1,r2⟩:=S.sites o _ ao;have hN:v=B o:=(Ref.at hv.2 ao rfl).trans (h6 r1).1;subst hN;refine⟨fun H ar hm=>?_,B o::aw,.row t xs e cs (DY hb.2) r1 ⟨by rw[dU];exact r1.1,r2⟩ an,?_⟩
      ·rcases List.mem_cons.1 hm with hm|hm
       ·cases hm;exact⟨_,ao,rfl,rfl⟩
       ·exact g2 H ar hm
      ·rw[List.flatMap_cons,bG,<-(h6 r1).2];rfl
    ·cases h1
   ·cases h1
  ·cases h
theorem Ls{aa:List aD}:∀{ds:List aU} {us:List (Nat×Site)},sinks st aa=some (ds,us)->gX aa=true:=by
 induction aa with
 |nil=>intro ds us _;rfl
 |cons l aa ih=>
  intro ds us h;simp only[sinks] at h;split at h
  ·rename_i d u1 gU u2 h1 h2;simp only[gX,Bool.and_eq_true];refine⟨?_,ih h2⟩;unfold sink at h1;split at h1<;>first|rfl|cases h1
  ·cases h
theorem abh(S:ak U O X B st tm w):∀{as:List bH} {t:aJ} {xs:List (den t)} {us:List (Nat×Site)} {ws:List Value},nE t st as=some (xs,us)->ws.length=as.length->
  (∀j (h:j<as.length) (ah:j<ws.length),gO B st.sites w (au X B st.sites) (as[j]) (ws[j]))->
  xs.length=as.length/\fa st.sites us/\(∃aw,Deep w (au X B st.sites) (flat t xs) (ws.flatMap fun v=>v.cells.toList) aw/\(aw.flatMap fun v=>(aW v).toList)=cz B (keys us))/\∀v,v∈ws->v.cells.size=aC t:=by
 intro as;induction as with
 |nil=>
  intro t xs us ws h hl _;simp only[nE] at h;cases h;have:ws=[]:=List.eq_nil_of_length_eq_zero hl;subst this;exact⟨rfl,.nil,⟨[],.nil,rfl⟩,fun v hv=>by simp at hv⟩
 |cons a as ih=>
  intro t xs us ws h hl eE;match ws,hl with
  |v::ws,hl=>
  simp only[nE] at h;split at h
  ·rename_i ds u1 mW;split at h
   ·rename_i x ia u2 eC l4;cases h;have b':=eE 0 (by simp) (by simp)
    simp only[List.getElem_cons_zero] at b';have hl1:=b'.cells (Ls mW);obtain⟨g1,fg,d1,bc⟩:=EX S mW hl1;obtain⟨g2,g3,⟨kG,d2,aO⟩,g4⟩:=ih l4 (by simpa using hl) (fun j h1 h2=>eE (j+1) (by simpa using h1) (by simpa using h2))
    have pg:=oW _ _ _ eC;refine⟨by simp[g2],g1.append g3,⟨fg++kG,?_,?_⟩,fun u hu=>?_⟩
    ·simp only[flat,List.flatMap_cons];rw[pg];exact d1.cM d2
    ·rw[List.flatMap_append,bc,aO,gW,kY]
    ·rcases List.mem_cons.1 hu with rfl|hu
     ·have:u.cells.toList.length=ds.length:=d1.len;rw[<-pg,fz] at this;simpa using this
     ·exact g4 u hu
   ·cases h
  ·cases h
theorem L8{aK:Type}{us:List (Nat×aK)}{o:Nat}(h:(look us o).isNone=true):o∉keys us:=by
 induction us with
 |nil=>simp[keys]
 |cons p us ih=>
  obtain⟨n,s⟩:=p;simp only[look] at h;cases hb:n.beq o with
  |true=>rw[hb] at h;cases h
  |false=>
   rw[hb] at h;intro hm;rcases List.mem_cons.1 hm with rfl|hm
   ·rw[Nat.beq_refl] at hb;cases hb
   ·exact ih h hm
theorem y7(t:aJ){xs:List (den t)}{k:Nat}(af:k<xs.length)(dt:den t):flat t (xs.set k dt)=flat t (xs.take k)++(enc t dt++flat t (xs.drop (k+1))):=by
 rw[List.set_eq_take_append_cons_drop,if_pos af,lP];rfl
theorem Fh(t:aJ){xs:List (den t)}{k:Nat}{x:den t}(hx:xs[k]? =some x):flat t xs=flat t (xs.take k)++(enc t x++flat t (xs.drop (k+1))):=by
 have af:k<xs.length:=(List.getElem?_eq_some_iff.1 hx).1;have:=y7 t af x;rw[<-this];congr 1
 have kI:xs[k]=x:=(List.getElem?_eq_some_iff.1 hx).2;rw[<-kI,List.set_getElem_self]
theorem ak.aa9(S:ak U O X B st tm w){o s k:Nat}{t:aJ}{xs:List (den t)}{x dt:den t}{v:Value}{us:List (Nat×Site)}{vs aw:List Value}(hb:look st.sites o=some (.deep s t xs))
  (hv:dx B st.sites w (au X B st.sites) (.eN o s t k 0) v) (hx:xs[k]? =some x) (ej:fa st.sites us) (hn:(keys us).Nodup) (bn:o∉keys us)
  (Z:Deep w (au X B st.sites) (enc t dt) vs aw) (gy:(aw.flatMap fun v=>(aW v).toList)=cz B (keys us)):
  ∃b T cur bL nv,v=.pointer (some ⟨b,k*aC t,none⟩)/\w.heap[b]? =some (.cells (List.toArray cur) T bL)/\lj t.ei T cur.toArray bL/\k*aC t+vs.length<=cur.length/\
   ak U O X (fun H=>if H=o then nv else B H) {st with sites:=cf (ba st.sites us) o (.deep s t (xs.set k dt))} tm (w.setRow b (bw cur (k*aC t) vs).toArray):=by
 obtain⟨b,D,pn,kK⟩:=hv;obtain⟨n,c,bQ⟩:=Ref.at kK hb rfl;obtain⟨e,v0,jh,cs,h0,dm,cC,l5⟩:=S.sites o _ hb;have af:k<xs.length:=(List.getElem?_eq_some_iff.1 hx).1;rw[h0] at bQ;replace bQ:v0=.slice (some ⟨b,D,none⟩) n c:=bQ
 obtain⟨sg,h⟩:=cC;rcases h with⟨fw,_⟩|⟨g,cap,cur,bL,hp,nh,hg,hnc,fD,hcs,ho⟩
 ·rw[bQ] at fw;cases fw
 ·rw[bQ] at hp;cases hp;have nf:(k+1)*aC t<=xs.length*aC t:=Nat.mul_le_mul_right _ af;have iT:xs.length*aC t<=c*aC t:=Nat.mul_le_mul_right _ hnc;rw[Nat.add_mul,Nat.one_mul] at nf;have j9:vs.length=aC t:=by rw[Z.len,fz]
  have hK:cur.toList.length=c*aC t:=by simpa using hcs
  have jy:k*aC t+vs.length<=cur.toList.length:=by omega
  rw[Fh t hx] at l5;obtain⟨c1,Xj,n1,ib,rfl,rfl,d1,d23⟩:=l5.inv;obtain⟨c2,c3,n2,kU,rfl,rfl,d2,d3⟩:=d23.inv;have cx:c1.length=k*aC t:=by rw[d1.len,dU,List.length_take,Nat.min_eq_left (Nat.le_of_lt af)]
  have ea:c2.length=aC t:=by rw[d2.len,fz]
  have fM:b2 st.sites o:=⟨_,hb,rfl⟩;have ph:b∈bl (B o):=by rw[h0];exact hC.2 (.inl (by rw[bQ];rfl))
  have Sv:aW v0=some b:=by rw[bQ];rfl
  have old:∀H,H∈keys us->b2 st.sites H:=fun H h=>by
   obtain⟨ar,ah⟩:=pW h;obtain⟨Y,ax,an,_⟩:=ej H ar ah;exact⟨Y,ax,an⟩
  have asq:∀y,y∈n1++(n2++kU)->∀be,aW y=some be->be∈bl (B o):=fun y al be ch=>by rw[h0];exact hC.2 (.inr ⟨y,al,ch⟩)
  have CL:∀y,y∈aw->∀be,aW y=some be->∃H,H∈keys us/\be∈bl (B H):=fun y al be ch=>by
   have:be∈aw.flatMap fun v=>(aW v).toList:=List.mem_flatMap.2 ⟨y,al,by rw[ch];simp⟩
   rw[gy] at this;exact List.mem_flatMap.1 this
  have BS:bl (.tuple (v0::(n1++(aw++kU))).toArray)=b::((n1.flatMap fun v=>(aW v).toList)++(cz B (keys us)++kU.flatMap fun v=>(aW v).toList)):=by
   simp[bl,Sv,gy]
  have ue:bl (B o)=b::((n1.flatMap fun v=>(aW v).toList)++((n2.flatMap fun v=>(aW v).toList)++kU.flatMap fun v=>(aW v).toList)):=by
   rw[h0];simp[bl,Sv]
  refine⟨b,e,cur.toList,bL,.tuple (v0::(n1++(aw++kU))).toArray,by simpa using pn,by simpa using hg,by simpa using nh,jy,?_⟩
  refine S.uw (K:=o::keys us) ej (fun H=>?_) (fun be ch hne=>setRow_other w b be _ ?_) rfl rfl rfl (by rw[setRow_size];exact Nat.le_refl _) rfl (fun Y M=>?_) (fun be ch=>?_) (fun {bp aE} ee go=>?_)
  ·constructor
   ·intro h;rcases List.mem_cons.1 h with rfl|h
    ·exact .inr ⟨rfl,fM⟩
    ·exact .inl h
   ·rintro(h|⟨rfl,_⟩)
    ·exact List.mem_cons_of_mem _ h
    ·exact List.mem_cons_self
  ·rintro rfl;exact hne o List.mem_cons_self ph
  ·rw[hb] at M;cases M;exact .inr ⟨rfl,by rw[h0];rfl⟩
  ·rw[setRow_size];rw[BS] at ch;have:(∃H,H∈o::keys us/\be∈bl (B H)):=by
    simp only[List.mem_cons,List.mem_append] at ch;rcases ch with rfl|ch|ch|ch
    ·exact⟨o,List.mem_cons_self,ph⟩
    ·exact⟨o,List.mem_cons_self,by rw[ue];simp only[List.mem_cons,List.mem_append];exact .inr (.inl ch)⟩
    ·obtain⟨H,h1,h2⟩:=List.mem_flatMap.1 ch;exact⟨H,List.mem_cons_of_mem _ h1,h2⟩
    ·exact⟨o,List.mem_cons_self,by rw[ue];simp only[List.mem_cons,List.mem_append];exact .inr (.inr (.inr ch))⟩
   refine⟨?_,.inl this⟩;obtain⟨H,h1,h2⟩:=this;rcases List.mem_cons.1 h1 with rfl|h1
   ·exact S.dX fM h2
   ·exact S.dX (old H h1) h2
  ·have lx:=setRow_heap w b cur (bw cur.toList (k*aC t) vs).toArray e bL hg;have hb1:b∉(n1.flatMap fun v=>(aW v).toList)++((n2.flatMap fun v=>(aW v).toList)++kU.flatMap fun v=>(aW v).toList):=by
    have:=dm;rw[ue] at this;exact(List.nodup_cons.1 this).1
   have jZ:∀y,y∈n1++(aw++kU)->∀be,aW y=some be->(w.setRow b (bw cur.toList (k*aC t) vs).toArray).heap[be]? =w.heap[be]? :=by
    intro y al be ch;refine setRow_other w b be _ ?_
    rintro rfl;simp only[List.mem_append] at al;rcases al with al|al|al
    ·exact hb1 (List.mem_append.2 (.inl (List.mem_flatMap.2 ⟨y,al,by rw[ch];simp⟩)))
    ·obtain⟨H,h1,h2⟩:=CL y al _ ch;exact bn (S.dp o H _ fM (old H h1) ph h2▸h1)
    ·exact hb1 (List.mem_append.2 (.inr (List.mem_append.2 (.inr (List.mem_flatMap.2 ⟨y,al,by rw[ch];simp⟩)))))
   refine⟨e,v0,n1++(aw++kU),c1++(vs++c3),ee,?_,⟨?_,.inr ⟨b,c,_,bL,?_,?_,lx,?_,fD,?_,?_⟩⟩,?_⟩
   ·rw[ee,BS];have hu:=S.G_ old hn;rw[ue] at dm;obtain⟨m1,m2⟩:=List.nodup_cons.1 dm;obtain⟨m3,m4,m5⟩:=List.nodup_append.1 m2;obtain⟨X4,sG,atn⟩:=List.nodup_append.1 m4;have apart:∀a,a∈cz B (keys us)->a∉bl (B o):=by
     intro a aT pw;obtain⟨H,h1,h2⟩:=List.mem_flatMap.1 aT;exact bn (S.dp o H a fM (old H h1) pw h2▸h1)
    refine List.nodup_cons.2 ⟨fun h=>?_,List.nodup_append.2 ⟨m3,List.nodup_append.2 ⟨hu,sG,fun a aT be ch e=>?_⟩,fun a aT be ch e=>?_⟩⟩
    ·simp only[List.mem_append] at h;rcases h with h|h|h
     ·exact m1 (List.mem_append.2 (.inl h))
     ·exact apart _ h ph
     ·exact m1 (List.mem_append.2 (.inr (List.mem_append.2 (.inr h))))
    ·subst e;exact apart a aT (by rw[ue];simp only[List.mem_cons,List.mem_append];exact .inr (.inr (.inr ch)))
    ·subst e;rcases List.mem_append.1 ch with ch|ch
     ·exact apart a ch (by rw[ue];simp only[List.mem_cons,List.mem_append];exact .inr (.inl aT))
     ·exact m5 a aT a (List.mem_append.2 (.inr ch)) rfl
   ·rw[List.length_set];simp only[List.length_append] at sg ⊢;omega
   ·rw[bQ,List.length_set]
   ·refine⟨nh.1,?_⟩;rcases nh.2 with h|⟨h,ah⟩
    ·exact .inl h
    ·refine .inr ⟨h,?_⟩;rw[List.size_toArray,ny _ _ _ jy];simpa using ah
   ·rw[List.length_set];exact hnc
   ·rw[List.size_toArray,ny _ _ _ jy];exact hK
   ·rw[List.length_set,List.toList_toArray,DD _ _ _ _ (by omega) (by rw[hK];omega),ho]
    unfold bw;rw[<-cx,List.take_left' rfl,j9,<-ea,<-List.append_assoc,<-List.append_assoc,<-List.length_append,List.drop_left' rfl]
   ·rw[y7 t af];have kb:∀{d v},Rd w (au X B st.sites) d v->Rd _ (au X aE bp) d v:=iq go;exact(d1.map kb fun y al=>jZ y (List.mem_append.2 (.inl al))).cM ((Z.map kb fun y al=>jZ y (List.mem_append.2 (.inr (List.mem_append.2 (.inl al))))).cM (d3.map kb fun y al=>jZ y (List.mem_append.2 (.inr (List.mem_append.2 (.inr al))))))
theorem acg(t:aJ)(x dt:den t):(enc t x).map aU.plain=(enc t dt).map aU.plain:=by cases t<;>rfl
theorem Me{d:aU}(h:d.h9=true):d.plain=true:=by cases d<;>first|rfl|cases h
theorem Rz{t:aJ}{x:den t}{off:Nat}(h:off<aC t):∃d,(enc t x)[off]? =some d/\enc t x=(enc t x).take off++d::(enc t x).drop (off+1):=by
 have hl:off<(enc t x).length:=by rw[fz];exact h
 refine⟨(enc t x)[off],List.getElem?_eq_getElem hl,?_⟩;rw[List.getElem_cons_drop,List.take_append_drop]
theorem Mt{aK:Type}{l:List aK}{off:Nat}{d:aK}:bw l off [d]=l.take off++d::l.drop (off+1):=by simp[bw]
theorem Zi{aK:Type}{a b c:List aK}{y z:aK}{p:Nat}(h:p=a.length+b.length):bw (a++((b++y::c))) p [z]=a++(b++z::c):=by
 subst h;unfold bw;rw[<-List.append_assoc,<-List.length_append,List.take_left' rfl];have:(a++b++y::c).drop ((a++b).length+[z].length)=c:=by
  rw[List.drop_append,List.drop_eq_nil_of_le (by simp)]
  simp
 rw[this];simp
theorem ak._K(S:ak U O X B st tm w){o s k off:Nat}{t:aJ}{xs:List (den t)}{x dt:den t}{v u:Value}{d:aU}(hb:look st.sites o=some (.deep s t xs))
  (hv:dx B st.sites w (au X B st.sites) (.eN o s t k off) v) (hx:xs[k]? =some x) (Z:dec t (bw (enc t x) off [d])=some dt) (ag:d.h9=true) (ap:off<aC t) (hu:Rd w (au X B st.sites) d u):
  ∃b T cur bL,v=.pointer (some ⟨b,k*aC t+off,none⟩)/\w.heap[b]? =some (.cells (List.toArray cur) T bL)/\lj t.ei T cur.toArray bL/\k*aC t+off+1<=cur.length/\
   ak U O X B {st with sites:=cf st.sites o (.deep s t (xs.set k dt))} tm (w.setRow b (bw cur (k*aC t+off) [u]).toArray):=by
 obtain⟨b,D,pn,kK⟩:=hv;obtain⟨n,c,bQ⟩:=Ref.at kK hb rfl;obtain⟨e,v0,jh,cs,h0,dm,cC,l5⟩:=S.sites o _ hb;have af:k<xs.length:=(List.getElem?_eq_some_iff.1 hx).1;rw[h0] at bQ;replace bQ:v0=.slice (some ⟨b,D,none⟩) n c:=bQ
 obtain⟨sg,h⟩:=cC;rcases h with⟨fw,_⟩|⟨g,cap,cur,bL,hp,nh,hg,hnc,fD,hcs,ho⟩
 ·rw[bQ] at fw;cases fw
 ·rw[bQ] at hp;cases hp;have nf:(k+1)*aC t<=xs.length*aC t:=Nat.mul_le_mul_right _ af;have iT:xs.length*aC t<=c*aC t:=Nat.mul_le_mul_right _ hnc;rw[Nat.add_mul,Nat.one_mul] at nf;have hK:cur.toList.length=c*aC t:=by simpa using hcs
  have jy:k*aC t+off+[u].length<=cur.toList.length:=by simp only[List.length_singleton];omega
  rw[Fh t hx] at l5;obtain⟨c1,Xj,n1,ib,rfl,rfl,d1,d23⟩:=l5.inv;obtain⟨c2,c3,n2,kU,rfl,rfl,d2,d3⟩:=d23.inv;have cx:c1.length=k*aC t:=by rw[d1.len,dU,List.length_take,Nat.min_eq_left (Nat.le_of_lt af)]
  have ea:c2.length=aC t:=by rw[d2.len,fz]
  obtain⟨d0,C0,pg⟩:=Rz (x:=x) ap;have BQ:enc t dt=(enc t x).take off++d::(enc t x).drop (off+1):=by rw[oW _ _ _ Z,Mt]
  have ps:d0.plain=true:=by
   have h1:=congrArg (fun l=>l[off]?) (acg t x dt)
   simp only[List.getElem?_map,C0,Option.map_some] at h1;have h2:(enc t dt)[off]? =some d:=by
    rw[BQ,List.getElem?_append_right (by simp[fz];omega)]
    simp[fz,Nat.min_eq_left (Nat.le_of_lt ap)]
   rw[h2] at h1;simp only[Option.map_some,Option.some.injEq] at h1;rw[h1];exact Me ag
  rw[pg] at d2;obtain⟨ye,apx,qO,xf,rfl,rfl,pK,apv⟩:=d2.inv;have ato:ye.length=off:=by rw[pK.len,List.length_take,fz];omega
  have fM:b2 st.sites o:=⟨_,hb,rfl⟩;have ph:b∈bl (B o):=by rw[h0];exact hC.2 (.inl (by rw[bQ];rfl))
  obtain⟨c0,ij,rfl,apt⟩:∃c0 ij,apx=c0::ij/\Deep w (au X B st.sites) ((enc t x).drop (off+1)) ij xf:=by
   cases apv with
   |row u ys e aa mj h hr k'=>cases ps
   |leaf mj h k'=>exact⟨_,_,rfl,k'⟩
  have HO:(fun H=>if H=o then B o else B H)=B:=by funext H;by_cases e:H=o<;>simp[e]
  have G:=S.uw (o:=o) (bF:=.deep s t (xs.set k dt)) (nv:=B o) (w':=w.setRow b (bw cur.toList (k*aC t+off) [u]).toArray) (ks:=[]) (K:=[o]) .nil (fun H=>by simp[keys];intro e;subst e;exact fM)
   (fun be ch hne=>setRow_other w b be _ (by rintro rfl;exact hne o (by simp) ph)) rfl rfl rfl (by rw[setRow_size];exact Nat.le_refl _) rfl (fun Y M=>by rw[hb] at M;cases M;exact .inr ⟨rfl,rfl⟩)
   (fun be ch=>⟨by rw[setRow_size];exact S.dX fM ch,.inl ⟨o,by simp,ch⟩⟩) (fun {bp aE} ee go=>?_)
  ·rw[HO] at G;exact⟨b,e,cur.toList,bL,by rw[pn,Nat.zero_add],by simpa using hg,by simpa using nh,by simpa using jy,G⟩
  ·have lx:=setRow_heap w b cur (bw cur.toList (k*aC t+off) [u]).toArray e bL hg;have hb1:∀y,y∈n1++(qO++xf++kU)->∀be,aW y=some be->be≠b:=by
    rintro y al be ch rfl;have:=dm;rw[h0] at this;simp only[bl,List.flatMap_cons] at this;rw[bQ] at this;exact(List.nodup_append.1 this).2.2 be (by simp[aW]) be (List.mem_flatMap.2 ⟨y,al,by rw[ch];simp⟩) rfl
   have jZ:∀y,y∈n1++(qO++xf++kU)->∀be,aW y=some be->(w.setRow b (bw cur.toList (k*aC t+off) [u]).toArray).heap[be]? =w.heap[be]? :=fun y al be ch=>setRow_other w b be _ (hb1 y al be ch)
   have kb:∀{d v},Rd w (au X B st.sites) d v->Rd _ (au X aE bp) d v:=iq go;refine⟨e,v0,n1++(qO++xf++kU),c1++((ye++u::ij)++c3),ee.trans h0,by rw[ee];exact dm,⟨?_,.inr ⟨b,c,_,bL,?_,?_,lx,?_,fD,?_,?_⟩⟩,?_⟩
   ·rw[List.length_set];simp only[List.length_append,List.length_cons] at sg ⊢;omega
   ·rw[bQ,List.length_set]
   ·refine⟨nh.1,?_⟩;rcases nh.2 with h|⟨h,ah⟩
    ·exact .inl h
    ·refine .inr ⟨h,?_⟩;rw[List.size_toArray,ny _ _ _ jy];simpa using ah
   ·rw[List.length_set];exact hnc
   ·rw[List.size_toArray,ny _ _ _ jy];exact hK
   ·rw[List.length_set,List.toList_toArray,DD _ _ _ _ (by simp only[List.length_singleton];omega) (by rw[hK];omega),ho]
    simp only[List.append_assoc,List.cons_append];exact Zi (by omega)
   ·rw[y7 t af,BQ];exact(d1.map kb fun y al=>jZ y (List.mem_append.2 (.inl al))).cM ((((pK.map kb fun y al=>jZ y (by simp[al])).cM (.leaf (Me ag) (kb hu) (apt.map kb fun y al=>jZ y (by simp[al])))):Deep _ _ _ _ (qO++xf)).cM
     (d3.map kb fun y al=>jZ y (by simp[al])))
theorem ak.OQ(S:ak U O X B st tm w){o:Nat}{t:aJ}{xs:List (den t)}{us:List (Nat×Site)}{cs aw rest:List Value}{T:TypeId}{cap:Nat}(ej:fa st.sites us)(hn:(keys us).Nodup)(bn:o∉keys us)
  (Z:Deep w (au X B st.sites) (flat t xs) cs aw) (gy:(aw.flatMap fun v=>(aW v).toList)=cz B (keys us)) (hcap:cs.length+rest.length=cap*aC t) (hm:cap<=maxLen) (eX:t.ei=true->T=mq):
  ak U O X (fun H=>if H=o then .tuple (.slice (some ⟨w.heap.size,0,none⟩) xs.length cap::aw).toArray else B H) {st with sites:=cf (ba st.sites us) o (.deep (a6 st o) t xs)} tm (w.alloc (.cells (cs++rest).toArray T (0,0))):=by
 have hcl:cs.length=xs.length*aC t:=by rw[Z.len,dU]
 have c7:xs.length<=cap:=by
  have:xs.length*aC t<=cap*aC t:=by omega
  exact Nat.le_of_mul_le_mul_right this (jq t)
 have old:∀H,H∈keys us->b2 st.sites H:=fun H h=>by
  obtain⟨ar,ah⟩:=pW h;obtain⟨Y,ax,an,_⟩:=ej H ar ah;exact⟨Y,ax,an⟩
 obtain⟨K,bO⟩:∃K:List Nat,∀H,H∈K <-> H∈keys us\/H=o/\b2 st.sites o:=by
  by_cases h:b2 st.sites o
  ·exact⟨o::keys us,fun H=>by simp[h,or_comm]⟩
  ·exact⟨keys us,fun H=>by simp[h]⟩
 have CL:∀y,y∈aw->∀be,aW y=some be->∃H,H∈keys us/\be∈bl (B H):=fun y al be ch=>by
  have:be∈aw.flatMap fun v=>(aW v).toList:=List.mem_flatMap.2 ⟨y,al,by rw[ch];simp⟩
  rw[gy] at this;exact List.mem_flatMap.1 this
 have BS:bl (.tuple (.slice (some ⟨w.heap.size,0,none⟩) xs.length cap::aw).toArray)=w.heap.size::cz B (keys us):=by
  simp only[bl,List.flatMap_cons,gy];rfl
 refine S.uw (K:=K) ej bO (fun b hb _=>RowKit.Below.heap_alloc w _ b hb) rfl rfl rfl (by simp) rfl (fun Y M=>.inl (jp M)) (fun b hb=>?_) (fun {bp aE} ee go=>?_)
 ·rcases hC.1 hb with hb|⟨n,fw,hb⟩
  ·have hb:w.heap.size=b:=Option.some.inj hb;subst hb;exact⟨by simp,.inr (Nat.le_refl _)⟩
  ·obtain⟨H,h1,h2⟩:=CL n fw b hb;have:=S.dX (old H h1) h2;exact⟨by simp;omega,.inl ⟨H,(bO H).2 (.inl h1),h2⟩⟩
 ·refine⟨T,_,aw,cs,ee,?_,⟨hcl,.inr ⟨w.heap.size,cap,_,(0,0),rfl,⟨eX,.inl rfl⟩,heap_alloc_new w _,c7,hm,by simp[hcap],by rw[<-hcl];simp⟩⟩,?_⟩
  ·rw[ee,BS,List.nodup_cons];refine⟨fun h=>?_,S.G_ old hn⟩
   obtain⟨H,h1,h2⟩:=List.mem_flatMap.1 h;have:=S.dX (old H h1) h2;omega
  ·refine Z.map (fun h=>iq go h) fun n fw b hb=>?_
   obtain⟨H,h1,h2⟩:=CL n fw b hb;exact RowKit.Below.heap_alloc w _ b (S.dX (old H h1) h2)
theorem YK(S:ak U O X B st tm w){C:Ctx}(aG:CtxOk P C){T e:TypeId}{t:aJ}{bytes len o:Nat}{parts:Array (Nat×Operand)}(aZ:C.tt T=.slice e t bytes)(ap:D.op=.buildSlice T len parts)
  (Z:cd st D.dst=true) (hlen:parts.toList.length=len) (mT:p2 0 parts.toList=true) (tC:len*aC t<=1000) {as:List bH} {xs:List (den t)} {us:List (Nat×Site)}
  (has:nQ (parts.toList.map fun p=>aS C st e p.2)=some as) (eC:nE t st as=some (xs,us)) (hn:(keys us).Nodup) (bn:o∉keys us):
  cG P U O X st tm w D (bZ (.own o (a6 st o))) (us++[(o,.deep (a6 st o) t xs)]):=by
 obtain⟨ef,i,z,hi,gM,pt,lw,hzs,eX⟩:=oF aG aZ;obtain⟨xQ,ly⟩:=MM has;let ws:List Value:=parts.toList.map fun p=>Act.eval ⟨tm,[]⟩ p.2
 have xt:ws.length=as.length:=by rw[<-xQ];simp[ws]
 have Iy:∀j (h:j<as.length) (ah:j<ws.length),gO B st.sites w (au X B st.sites) (as[j]) (ws[j]):=by
  intro j h1 h2;have hj:j<(parts.toList.map fun p=>aS C st e p.2).length:=by rw[xQ];exact h1
  have:=ly j hj h1;simp only[List.getElem_map] at this;have bx:=cV S C e (parts.toList[j]'(by simpa using hj)).2
  rw[this] at bx;have ab:ce B st.sites w (au X B st.sites) (.av (as[j])) (ws[j]):=by simpa[ws] using bx
  exact ab
 obtain⟨qu,ej,⟨aw,xN,gy⟩,hcs⟩:=abh S eC xt Iy;have ru:xs.length=len:=by rw[qu,<-xt];simpa[ws] using hlen
 have hcl:(ws.flatMap fun v=>v.cells.toList).length=len*aC t:=by rw[xN.len,dU,ru]
 have hm:len<=maxLen:=by
  have:len*1<=len*aC t:=Nat.mul_le_mul_left _ (jq t);unfold maxLen;omega
 have b3:=S.OQ (o:=o) (rest:=[]) (T:=e) (cap:=len) ej hn bn xN gy (by simp[hcl]) hm eX
 rw[ru,List.append_nil] at b3;have qc:ba st.sites (us++[(o,.deep (a6 st o) t xs)])=cf (ba st.sites us) o (.deep (a6 st o) t xs):=by rw[i_];rfl
 have cP:=Lu (tm:=tm) (w:=w) aG aZ hlen mT tC (ws:=ws) rfl hcs hcl;refine ik (us:=us++[(o,.deep (a6 st o) t xs)]) (by rw[qc];exact b3) Z (vv:=.slice (some ⟨w.heap.size,0,none⟩) len len) ?_ ?_
 ·unfold execOp;simp only[ap,Sem.run_bind];have HP:=cP;simp only[HP,Result.andThen_ok,Sem.run_pure]
 ·rw[qc];refine⟨rfl,Ref.mk (Y:=.deep (a6 st o) t xs) ?_ rfl (by simp[bT])⟩
  simp only[cv];simp
theorem YJ{av:Nat->Prop}{t:aJ}{z:den t}{gB aw:List Value}(h:Deep w av (enc t z) gB aw)(n:Nat):Deep w av (flat t (List.replicate n z)) ((List.replicate n gB).flatten) ((List.replicate n aw).flatten):=by
 induction n with
 |zero=>exact .nil
 |succ n ih=>
  have:=h.cM ih;simpa[List.replicate_succ,flat,List.flatMap_cons] using this
theorem YX(S:ak U O X B st tm w){C:Ctx}(aG:CtxOk P C){T e:TypeId}{t:aJ}{bytes o:Nat}{l c:Operand}{kn km:IntKind}{n m:Int}{z:List aD}{ds:List aU}{us:List (Nat×Site)}{eF:den t}(aZ:C.tt T=.slice e t bytes)(ap:D.op=.makeSlice T l c)
  (Z:cd st D.dst=true) (hl:aS C st 0 l=.av (.am (.d (.int kn n)))) (hc:aS C st 0 c=.av (.am (.d (.int km m)))) (hz:(C.tt e).zero=some z) (eI:sinks st z=some (ds,us)) (ej:us.isEmpty=true) (eC:dec t ds=some eF):
  ∀r,uI bytes n m eF=some r->cG P U O X st tm w D (bZ (.own o (a6 st o))) [(o,.deep (a6 st o) t r)]:=by
 intro r hr;obtain⟨ef,i,fT,hi,gM,pt,lw,hzs,eX⟩:=oF aG aZ;obtain⟨v,hv,hzv⟩:=cm.zf (w:=w) (aG.tt e) hz;have JU:v=fT:=by
  simp[zeroValue,typeInfo,hi,lw] at hv;exact hv.symm
 subst JU;obtain⟨h1,h2,ab⟩:=sP hzv;have ej:us=[]:=List.isEmpty_iff.1 ej;subst ej;obtain⟨_,aw,W4,xC⟩:=EX S eI ⟨h1,ab _ _ _ _⟩;rw[<-oW _ _ _ eC] at W4;have xC:(aw.flatMap fun v=>(aW v).toList)=[]:=xC
 unfold uI at hr;split at hr
 ·rename_i hb;obtain⟨bc,aO,ca,pM⟩:=hb;cases hr;have e1:Act.eval ⟨tm,[]⟩ l=.int kn n:=by
   have:=cV S C 0 l;rw[hl] at this;have this:Rd _ _ (.int kn n) _:=this;generalize Act.eval ⟨tm,[]⟩ l=u at this;cases this;rfl
  have e2:Act.eval ⟨tm,[]⟩ c=.int km m:=by
   have:=cV S C 0 c;rw[hc] at this;have this:Rd _ _ (.int km m) _:=this;generalize Act.eval ⟨tm,[]⟩ c=u at this;cases this;rfl
  have wO:=YJ W4 n.toNat;have hlen:((List.replicate n.toNat v.cells.toList).flatten).length=n.toNat*aC t:=by
   rw[wO.len,dU,List.length_replicate]
  have qb:(List.replicate m.toNat v.cells.toList).flatten=(List.replicate n.toNat v.cells.toList).flatten++(List.replicate (m.toNat-n.toNat) v.cells.toList).flatten:=by
   rw[<-List.flatten_append,List.replicate_append_replicate];congr 2;omega
  have hcap:((List.replicate n.toNat v.cells.toList).flatten).length+((List.replicate (m.toNat-n.toNat) v.cells.toList).flatten).length=m.toNat*aC t:=by
   rw[<-List.length_append,<-qb];simp[hzs]
  have wR:m.toNat<=maxLen:=by omega
  have gy:(((List.replicate n.toNat aw).flatten).flatMap fun v=>(aW v).toList)=cz B (keys ([]:List (Nat×Site))):=by
   have:∀k,(((List.replicate k aw).flatten).flatMap fun v=>(aW v).toList)=[]:=fun k=>by
    induction k with
    |zero=>rfl
    |succ k ih=>rw[List.replicate_succ,List.flatten_cons,List.flatMap_append,xC,ih];rfl
   exact this _
  have b3:=S.OQ (o:=o) (T:=e) (us:=[]) .nil List.nodup_nil (by simp[keys]) wO gy hcap wR eX
  rw[List.length_replicate,<-qb] at b3;refine ik (us:=[(o,.deep (a6 st o) t (List.replicate n.toNat eF))]) b3 Z (vv:=.slice (some ⟨w.heap.size,0,none⟩) n.toNat m.toNat) ?_ ?_
  ·unfold execOp;simp only[ap,e1,e2,Sem.run_bind];have cP:=Lz (C:=C) (w:=w) (kn:=kn) (km:=km) ef hi gM pt lw hzs bc aO ca pM;simp only[cP,Result.andThen_ok,Sem.run_pure]
  ·refine⟨rfl,Ref.mk (Y:=.deep (a6 st o) t (List.replicate n.toNat eF)) ?_ rfl (by simp[bT])⟩
   simp only[ba,cv];simp
 ·cases hr
theorem Src.agK{u:Bool}{e:TypeId}{size n:Nat}{v:Value}{cs:List Value}(h:rowAt w u e size v n cs)(hone:∀x∈cs,x.oneCell'=true):Src w size v n cs:=by
 refine⟨h.1,hone,?_⟩;rcases h.2 with⟨h1,h2⟩|⟨g,cap,cur,bL,h1,_,hg,_,_,_,ho⟩
 ·exact .inl ⟨h1,h2⟩
 ·refine .inr (.inl ⟨⟨g,0,none⟩,cap,h1,fun j u hu=>?_⟩)
  rw[fZ,Nat.zero_add,cell_of_row w g j cur e bL hg];rw[<-ho,List.getElem?_take] at hu;split at hu
  ·simpa using hu
  ·cases hu
theorem Py{v:Value}{b:Nat}(h:v.ownBlock=some b):aW v=some b:=by
 cases v<;>first|cases h|skip
 rename_i a n c;cases a<;>first|exact h|cases h
theorem ak.MQ(S:ak U O X B st tm w){dst b9:Nat}{t:aJ}{xs ys:List (den t)}{ks:List (Nat×Site)}{v0 v':Value}{C7 ss jh fg:List Value}{w':World}{bK:TypeId}(kN:fa st.sites ks)
  (d0:Deep w (au X B st.sites) (flat t xs) C7 jh) (d1:Deep w (au X B st.sites) (flat t ys) ss fg) (hA:(bl (.tuple (v0::(jh++fg)).toArray)).Nodup) (Cg:∀b,b∈bl (.tuple (v0::(jh++fg)).toArray)->∃H,H∈keys ks/\b∈bl (B H))
  (h2:rowAt w' t.ei bK (aC t) v' (xs.length+ys.length) (C7++ss)) (ab:w.grownBy w' v0.ownBlock) (aF:∀b,aW v'=some b->b<w'.heap.size/\(aW v0=some b\/w.heap.size<=b)) (nH:∀Y,look st.sites dst=some Y->Y.b9<b9):
  ak U O X (fun H=>if H=dst then .tuple (v'::(jh++fg)).toArray else B H) {st with sites:=cf (ba st.sites ks) dst (.deep b9 t (xs++ys))} tm w':=by
 have old:∀H,H∈keys ks->b2 st.sites H:=fun H h=>by
  obtain⟨ar,ah⟩:=pW h;obtain⟨Y,ax,an,_⟩:=kN H ar ah;exact⟨Y,ax,an⟩
 obtain⟨K,bO⟩:∃K:List Nat,∀H,H∈K <-> H∈keys ks\/H=dst/\b2 st.sites dst:=by
  by_cases h:b2 st.sites dst
  ·exact⟨dst::keys ks,fun H=>by simp[h,or_comm]⟩
  ·exact⟨keys ks,fun H=>by simp[h]⟩
 have WL:∀b,aW v0=some b->b∈bl (.tuple (v0::(jh++fg)).toArray):=fun b h=>hC.2 (.inl h)
 have xl:∀n,n∈jh++fg->∀b,aW n=some b->b∈bl (.tuple (v0::(jh++fg)).toArray):=fun n hn b h=>hC.2 (.inr ⟨n,hn,h⟩)
 have lt:∀b,b∈bl (.tuple (v0::(jh++fg)).toArray)->b<w.heap.size:=fun b hb=>by
  obtain⟨H,ax,an⟩:=Cg b hb;exact S.dX (old H ax) an
 have Dm:bl (.tuple (v0::(jh++fg)).toArray)=(aW v0).toList++(jh++fg).flatMap fun v=>(aW v).toList:=by simp only[bl,List.flatMap_cons]
 have arh:bl (.tuple (v'::(jh++fg)).toArray)=(aW v').toList++(jh++fg).flatMap fun v=>(aW v).toList:=by simp only[bl,List.flatMap_cons]
 rw[Dm] at hA;obtain⟨a1,a2,a3⟩:=List.nodup_append.1 hA;have jZ:∀n,n∈jh++fg->∀b,aW n=some b->w'.heap[b]? =w.heap[b]? :=fun n hn b hb=>ab.block b (lt b (xl n hn b hb)) fun e=>
  a3 b (by rw[Py e.symm];simp) b (List.mem_flatMap.2 ⟨n,hn,by rw[hb];simp⟩) rfl
 refine S.uw (K:=K) kN bO (fun b hb hne=>ab.block b hb fun e=>?_) ab.os ab.tape ab.output ab.size rfl (fun Y M=>.inl (nH Y M)) (fun b hb=>?_) (fun {bp aE} ee go=>?_)
 ·obtain⟨H,ax,an⟩:=Cg b (WL b (Py e.symm));exact hne H ((bO H).2 (.inl ax)) an
 ·rcases hC.1 hb with hb|⟨n,hn,hb⟩
  ·obtain⟨ax,an⟩:=aF b hb;refine⟨ax,an.imp (fun h=>?_) id⟩
   obtain⟨H,ax,an⟩:=Cg b (WL b h);exact⟨H,(bO H).2 (.inl ax),an⟩
  ·have hm:=xl n hn b hb;obtain⟨H,ax,an⟩:=Cg b hm;exact⟨Nat.lt_of_lt_of_le (lt b hm) ab.size,.inl ⟨H,(bO H).2 (.inl ax),an⟩⟩
 ·refine⟨bK,v',jh++fg,C7++ss,ee,?_,by rw[List.length_append];exact h2,?_⟩
  ·rw[ee,arh];refine List.nodup_append.2 ⟨by cases aW v'<;>simp,a2,fun b hb c hc e=>?_⟩
   subst e;have hb:=Option.mem_toList.1 hb;rcases(aF b hb).2 with h|h
   ·exact a3 b (by rw[h];simp) b hc rfl
   ·have:=lt b (by rw[Dm];exact List.mem_append.2 (.inr hc))
    omega
  ·have kb:∀{d:aU} {v:Value},Rd w (au X B st.sites) d v->Rd w' (au X aE bp) d v:=fun h=>iq go h
   rw[lP];exact(d0.map kb fun n hn=>jZ n (List.mem_append.2 (.inl hn))).cM (d1.map kb fun n hn=>jZ n (List.mem_append.2 (.inr hn)))
theorem Ly{o s dst:Nat}{Y:Site}(h:look st.sites o=some Y)(M:Y.b9=s):a6 (st.df o (.dead s)) dst=a6 st dst:=by
 unfold a6;rw[ai.lO];by_cases e:o=dst
 ·subst e;simp only[if_true,ai.Y,h,M];rfl
 ·simp only[e,if_false]
theorem aaG(S:ak U O X B st tm w){C:Ctx}(aG:CtxOk P C){T ew:TypeId}{s x:Operand}{e ex:TypeId}{t u:aJ}{bytes aO:Nat}{dst:Nat}(aZ:C.tt T=.slice e t bytes)(eX:C.tt ew=.slice ex u aO)
  (ap:D.op=.call {callee:=.builtin .append,args:=#[s,x],argTypes:=#[T,ew]}) (dh:D.dst=some dst) (Z:cd st D.dst=true):
  Holds (tj bytes t dst st (aS C st T s) (aS C st ew x)) (cG P U O X st tm w D):=by
 have qD:=aG.tt ew;rw[eX] at qD;have ua:(∃ex,P.underlying ew=some (.slice ex))\/P.underlying ew=some .string:=.inl ⟨_,qD.1.1⟩;obtain⟨ef,i,z,hi,mm,uU,sk,hzs,W9⟩:=oF aG aZ;have nY:=cV S C T s;have qo:=cV S C ew x;have runs:∀{v':Value} {w':World},(Builtin.append_ #[T,ew] D.type #[Act.eval ⟨tm,[]⟩ s,Act.eval ⟨tm,[]⟩ x]).run P w=.ok v' w'->
   (execOp (Act.eval ⟨tm,[]⟩) D).run P w=.ok (.value v') w':=by
  intro v' w' h;unfold execOp;simp only[ap,resolve,invoke,builtin,Sem.run_bind,Sem.run_pure,Result.andThen_ok,List.map_toArray,List.map_cons,List.map_nil,h]
 have one:∀{u:Bool} {bK:TypeId} {v':Value} {n m:Nat} {l:List Value} {w':World},rowAt w' u bK n v' m l->v'.oneCell'=true:=by
  intro u bK v' n m l w' h;rcases h.2 with⟨rfl,_⟩|⟨g,cap,cur,bL,rfl,_⟩<;>rfl
 unfold tj;split
 ·rename_i H s1 akL;rw[akL] at qo;split
  ·rename_i bm ys akq;split
   ·rename_i hk;subst hk;have uu:=vo akq;obtain⟨as7,V0,wL,IW,St,T',aic,Hu⟩:=S.sites H _ uu;have rW:Act.eval ⟨tm,[]⟩ x=V0:=(Ref.at qo.2 uu rfl:_=bT (B H)).trans (by rw[St];rfl)
    have hsrc:Src w (aC bm) (Act.eval ⟨tm,[]⟩ x) ys.length IW:=by rw[rW];exact .agK aic Hu.one
    have Cj:bl (B H)=(aW V0).toList++wL.flatMap fun v=>(aW v).toList:=by rw[St];simp only[bl,List.flatMap_cons]
    rw[Cj] at T';obtain⟨_,Sj,_⟩:=List.nodup_append.1 T';have Cf:∀d,a6 (st.df H (.dead s1)) d=a6 st d:=fun d=>Ly uu rfl
    split
    ·-- Dg nothing
     rename_i t2 b5;rw[b5] at nY;have qm:Act.eval ⟨tm,[]⟩ s=.slice none 0 0:=nY;refine Holds.eA fun r hr=>?_
     have cn:cR bytes [] ys=some r:=hr;unfold cR at cn;split at cn
     ·rename_i hb;cases cn;simp only[List.length_nil,Nat.zero_add,room] at hb;obtain⟨v',w',h1,⟨bK,h2⟩,ab,aF⟩:=sO (P:=P) (u:=bm.ei) w T ew D.type e W9 i z (aC bm) bytes ef ua hi sk mm uU hzs (jq _) (.slice none 0 0) 0 [] ⟨e,q3 w _ e _⟩ _ _ IW hsrc
       (by rw[Nat.zero_add];exact hb.2) (by rw[Nat.zero_add];exact hb.1)
      have iZ:bl (.tuple (Value.slice none 0 0::([]++wL)).toArray)=wL.flatMap fun v=>(aW v).toList:=by simp only[bl,List.flatMap_cons,List.nil_append];rfl
      have b3:=S.MQ (dst:=dst) (b9:=a6 (st.df H (.dead s1)) dst) (ks:=[(H,.dead s1)]) (xs:=[]) (ys:=ys) (v0:=.slice none 0 0) (jh:=[]) (C7:=[]) (fun aN ar hm=>by
       simp only[List.mem_singleton,Prod.mk.injEq] at hm;obtain⟨rfl,rfl⟩:=hm;exact⟨_,uu,rfl,rfl⟩) .nil Hu (by rw[iZ];exact Sj) (fun b hb=>⟨H,by simp[keys],by rw[iZ] at hb;rw[Cj];exact List.mem_append.2 (.inr hb)⟩) h2 ab aF (fun Y M=>by rw[Cf];exact jp M)
      refine ik (us:=[(H,.dead s1),(dst,.deep (a6 (st.df H (.dead s1)) dst) bm ([]++ys))]) b3 Z (runs (by rw[qm];exact h1)) ?_
      refine⟨one h2,Ref.mk (Y:=.deep (a6 (st.df H (.dead s1)) dst) bm ([]++ys)) ?_ rfl (by simp[bT])⟩
      simp only[ba,cv];simp
     ·cases cn
    ·-- Dg a deep row
     rename_i o s2 b5;rw[b5] at nY;split
     ·rename_i t2 xs akr;split
      ·rename_i hk;subst hk;cases uZ:o.beq H with
       |true=>exact .fail
       |false=>
        have hne:o≠H:=fun e=>by subst e;rw[Nat.beq_refl] at uZ;cases uZ
        simp only[cond_false];refine Holds.eA fun r hr=>?_
        have cn:cR bytes xs ys=some r:=hr;unfold cR at cn;split at cn
        ·rename_i hb;cases cn;simp only[room] at hb;have wS:=vo akr;obtain⟨as8,uD,Iq,ak6,Su,Ua,aid,ag6⟩:=S.sites o _ wS;have JZ:Act.eval ⟨tm,[]⟩ s=uD:=(Ref.at nY.2 wS rfl:_=bT (B o)).trans (by rw[Su];rfl)
         have IT:bl (B o)=(aW uD).toList++Iq.flatMap fun v=>(aW v).toList:=by rw[Su];simp only[bl,List.flatMap_cons]
         rw[IT] at Ua;obtain⟨v',w',h1,⟨bK,h2⟩,ab,aF⟩:=sO (P:=P) (u:=t2.ei) w T ew D.type e W9 i z (aC t2) bytes ef ua hi sk mm uU hzs (jq _) uD xs.length ak6 ⟨_,aid⟩ _ _ IW hsrc hb.2 hb.1;have iZ:bl (.tuple (uD::(Iq++wL)).toArray)=((aW uD).toList++Iq.flatMap fun v=>(aW v).toList)++wL.flatMap fun v=>(aW v).toList:=by
          simp only[bl,List.flatMap_cons,List.flatMap_append,List.append_assoc]
         have Ce:a6 ((st.df H (.dead s1)).df o (.dead s2)) dst=a6 st dst:=by
          have:(st.df H (.dead s1)).Y o=some (.deep s2 t2 xs):=by
           rw[ai.lO,if_neg (fun e=>hne e.symm)]
           exact wS
          exact(Ly (st:=st.df H (.dead s1)) (s:=s2) this rfl).trans (Cf dst)
         have b3:=S.MQ (dst:=dst) (b9:=a6 ((st.df H (.dead s1)).df o (.dead s2)) dst) (ks:=[(H,.dead s1),(o,.dead s2)]) (xs:=xs) (ys:=ys) (v0:=uD) (fun aN ar hm=>by
          simp only[List.mem_cons,List.not_mem_nil,or_false,Prod.mk.injEq] at hm;rcases hm with⟨rfl,rfl⟩|⟨rfl,rfl⟩
          ·exact⟨_,uu,rfl,rfl⟩
          ·exact⟨_,wS,rfl,rfl⟩) ag6 Hu (by
           rw[iZ];refine List.nodup_append.2 ⟨Ua,Sj,fun b hb c hc e=>?_⟩
           subst e;exact hne (S.dp o H b ⟨_,wS,rfl⟩ ⟨_,uu,rfl⟩ (by rw[IT];exact hb) (by rw[Cj];exact List.mem_append.2 (.inr hc)))) (fun b hb=>by
           rw[iZ] at hb;rcases List.mem_append.1 hb with hb|hb
           ·exact⟨o,by simp[keys],by rw[IT];exact hb⟩
           ·exact⟨H,by simp[keys],by rw[Cj];exact List.mem_append.2 (.inr hb)⟩) h2 ab aF (fun Y M=>by rw[Ce];exact jp M)
         refine ik (us:=[(H,.dead s1),(o,.dead s2),(dst,.deep (a6 ((st.df H (.dead s1)).df o (.dead s2)) dst) t2 (xs++ys))]) b3 Z (runs (by rw[JZ];exact h1)) ?_
         refine⟨one h2,Ref.mk (Y:=.deep (a6 ((st.df H (.dead s1)).df o (.dead s2)) dst) t2 (xs++ys)) ?_ rfl (by simp[bT])⟩
         simp only[ba,cv];simp
        ·cases cn
      ·exact .fail
     ·exact .fail
    ·exact .fail
   ·exact .fail
  ·exact .fail
 ·exact .fail
end
section
variable {P:Program}{U:World}{O:List Nat}{X:Nat->Prop}{B:Nat->Value}{st:ai}{tm:Array Value}{w:World}{D:Oper}
theorem acU(S:ak U O X B st tm w){C:Ctx}(aG:CtxOk P C){T:TypeId}{a x:Operand}{v:bH}(ap:D.op=.store T a x)(Z:cd st D.dst=true)(af:(C.tt T).known=true)(hv:m6 (aS C st T x)=some v):
  Holds (tl (C.tt T).size st (aS C st T a) v) (cG P U O X st tm w D):=by
 have hn:=E5 af;have pu:=cV S C T a;have hex:=cV S C T x;rw[q4 hv] at hex;have hex:gO B st.sites w (au X B st.sites) v (Act.eval ⟨tm,[]⟩ x):=hex;have run:∀{b p:Nat} {cur:List Value} {gk:TypeId} {u:Bool} {bL:Nat×Nat},Act.eval ⟨tm,[]⟩ a=.pointer (some ⟨b,p,none⟩)->w.heap[b]? =some (.cells cur.toArray gk bL)->lj u gk cur.toArray bL->(Act.eval ⟨tm,[]⟩ x).cells.toList.length=(C.tt T).size->
   p+(Act.eval ⟨tm,[]⟩ x).cells.toList.length<=cur.length->(∀u∈(Act.eval ⟨tm,[]⟩ x).cells.toList,u.oneCell'=true)->
   (execOp (Act.eval ⟨tm,[]⟩) D).run P w=.ok .skip (w.setRow b (bw cur p (Act.eval ⟨tm,[]⟩ x).cells.toList).toArray):=by
  intro b p cur gk u bL h1 h2 hz ab aF bo;unfold execOp;simp only[ap,h1,Instr.storeAt,Instr.sureAddr,Sem.run_bind,Sem.run_pure,Result.andThen_ok,Lq (aG.tt T) hn h2 hz ab aF bo]
 unfold tl;cases hlen:v.cells.length.beq (C.tt T).size with
 |false=>simp only[cond_false];exact .fail
 |true=>
  have rs:=Nat.eq_of_beq_eq_true hlen;simp only[cond_true];split
  ·rename_i o s off b5;rw[b5] at pu;split
   ·rename_i cells hb;cases hc:(Nat.ble (off+(C.tt T).size) cells.length&&gX v.cells) with
    |false=>simp only[cond_false];exact .fail
    |true=>
     simp only[cond_true];simp only[Bool.and_eq_true] at hc;have c7:=Nat.le_of_ble_eq_true hc.1;have hl:=hex.cells hc.2;obtain⟨b,gk,cur,h1,h2,ab,b3⟩:=S.acW (ht hb) pu hl (by rw[rs];exact c7) (hl.ja hc.2) hc.2
     exact Holds.fe (qW (us:=[(o,.box s (bw cells off v.cells))]) b3 Z (run (u:=false) h1 h2 ⟨(fun h=>by cases h),.inl rfl⟩ (by rw[hl.1];exact rs) ab (hl.ja hc.2)))
   ·exact .fail
  ·rename_i o s u k off b5;rw[b5] at pu;split
   ·rename_i ar t xs fr;have k5:look st.sites o=some (.row ar t xs):=fr;cases hc:(ar.beq s&&Nat.ble (off+(C.tt T).size) (aC t)&&decide (t=u)) with
    |false=>simp only[cond_false];exact .fail
    |true=>
     simp only[cond_true];simp only[Bool.and_eq_true,decide_eq_true_eq] at hc;obtain⟨⟨qB,nk⟩,rfl⟩:=hc;have:=Nat.eq_of_beq_eq_true qB;subst this;have c7:=Nat.le_of_ble_eq_true nk;split
     ·rename_i ds us eI;cases iS:(look us o).isNone with
      |false=>simp only[cond_false];exact .fail
      |true=>
       simp only[cond_true];refine Holds.eA fun dt kI=>?_
       have j0:((xs[k]?).bind fun x=>dec t (bw (enc t x) off ds))=some dt:=kI
       cases m9:xs[k]? with
       |none=>rw[m9] at j0;cases j0
       |some qL=>
        rw[m9] at j0;have eC:dec t (bw (enc t qL) off ds)=some dt:=j0;have gS:=GQ eI;have aL:lM U O X B st tm w us:=⟨S,gS⟩;have dr:gX v.cells=true:=by
         clear hlen rs kI j0 eC iS gS aL;revert eI
         generalize v.cells=aa;intro eI;induction aa generalizing ds us with
         |nil=>rfl
         |cons l aa ih=>
          simp only[h_] at eI;split at eI
          ·rename_i d X0 gU pG h1 h2;simp only[gX,Bool.and_eq_true];refine⟨?_,ih _ _ h2⟩;unfold kd at h1;split at h1<;>first|rfl|cases h1
          ·cases eI
        have hl:=hex.cells dr;have hr:=AM eI hl aL (fun p ag=>ag)
        have hdl:ds.length=(C.tt T).size:=by
         have:=hr.1;rw[hl.1] at this;omega
        have wQ:look (ba st.sites us) o=some (.row ar t xs):=by
         rcases mB gS o with h|⟨s2,t2,asK,h,ah⟩
         ·rw[h];exact k5
         ·exfalso
          have:∀(us:List (Nat×Site)) (sites:List (Nat×Site)),look us o=none->look (ba sites us) o=look sites o:=by
           intro us;induction us with
           |nil=>intro sites _;rfl
           |cons p us ih=>
            obtain⟨H,Y⟩:=p;intro sites BP;simp only[look] at BP;cases hb:H.beq o with
            |true=>simp[hb] at BP
            |false=>
             simp only[hb,cond_false] at BP;simp only[ba];rw[ih _ BP,cv,if_neg];rintro rfl;simp at hb
          have ab:=this us st.sites (by simpa using iS)
          rw[ah,k5] at ab;cases ab
        have akM:=aL.go (a:=.av (.am (.eN o ar t k off))) pu;obtain⟨b,gk,cur,bL,h1,h2,hz,ab,b3⟩:=aL.new.acV wQ akM m9 (oW _ _ _ eC) hr (by rw[hdl];exact c7) (hl.ja dr)
        refine qW (aE:=B) (us:=us++[(o,.row ar t (xs.set k dt))]) ?_ Z (run h1 h2 hz (by rw[hl.1];exact rs) ab (hl.ja dr))
        rw[i_];exact b3
     ·exact .fail
   ·rename_i ar t xs fr;have k5:look st.sites o=some (.deep ar t xs):=fr;cases hc:(ar.beq s&&decide (t=u)) with
    |false=>simp only[cond_false];exact .fail
    |true=>
    simp only[cond_true];simp only[Bool.and_eq_true,decide_eq_true_eq] at hc;obtain⟨qB,rfl⟩:=hc;have:=Nat.eq_of_beq_eq_true qB;subst this;cases hc:(off.beq 0&&(C.tt T).size.beq (aC t)) with
    |false=>
     simp only[cond_false];split
     ·rename_i d nI;cases ao:(d.h9&&Nat.blt off (aC t)) with
      |false=>simp only[cond_false];exact .fail
      |true=>
       simp only[cond_true];simp only[Bool.and_eq_true] at ao;have uQ:off<aC t:=Nat.le_of_ble_eq_true ao.2;refine Holds.eA fun dt kI=>?_
       have j0:((xs[k]?).bind fun x=>dec t (bw (enc t x) off [d]))=some dt:=kI
       cases m9:xs[k]? with
       |none=>rw[m9] at j0;cases j0
       |some qL=>
        rw[m9] at j0;have eC:dec t (bw (enc t qL) off [d])=some dt:=j0;have hl:=hex.cells (by rw[nI];rfl)
        rw[nI] at hl;obtain⟨ig,r0,hu,uL,r4⟩:=hl.inv;have kM:r0=[]:=r4.lW;subst kM;obtain⟨b,gk,cur,bL,h1,h2,hz,ab,b3⟩:=S._K k5 pu m9 eC ao.1 uQ uL;have J8:(C.tt T).size=1:=by rw[<-rs,nI];rfl
        have cP:=run h1 h2 hz (by rw[hu,J8];rfl) (by rw[hu];exact ab) (by rw[hu];intro v hv;rw[List.mem_singleton.1 hv];exact Rd.ja uL)
        rw[hu] at cP;refine qW (aE:=B) (us:=[(o,.deep ar t (xs.set k dt))]) ?_ Z cP;exact b3
     ·exact .fail
    |true=>
     simp only[cond_true];simp only[Bool.and_eq_true] at hc;obtain⟨qC,nk⟩:=hc;have:=Nat.eq_of_beq_eq_true qC;subst this;split
     ·rename_i ds us eI;cases iS:((look us o).isNone&&e8 (keys us)) with
      |false=>simp only[cond_false];exact .fail
      |true=>
       simp only[cond_true];rw[Bool.and_eq_true] at iS;refine Holds.eA fun dt kI=>?_
       have j0:((xs[k]?).bind fun _=>dec t ds)=some dt:=kI
       cases m9:xs[k]? with
       |none=>rw[m9] at j0;cases j0
       |some qL=>
        rw[m9] at j0;have eC:dec t ds=some dt:=j0;have hl:=hex.cells (Ls eI);obtain⟨g1,aw,g2,g3⟩:=EX S eI hl;rw[<-oW _ _ _ eC] at g2;obtain⟨b,gk,cur,bL,nv,h1,h2,hz,ab,b3⟩:=S.aa9 k5 pu m9 g1 ((pR _).1 iS.2) (L8 iS.1) g2 g3;refine qW (aE:=fun H=>if H=o then nv else B H) (us:=us++[(o,.deep ar t (xs.set k dt))]) ?_ Z (run h1 h2 hz (by rw[hl.1];exact rs) ab g2.one)
        rw[i_];exact b3
     ·exact .fail
   ·exact .fail
  ·exact .fail
theorem ZA(S:ak U O X B st tm w){C:Ctx}(aG:CtxOk P C){T e:TypeId}{t:aJ}{bytes:Nat}{x i:Operand}{k:IntKind}{n:Int}(aZ:C.tt T=.slice e t bytes)(hi:aS C st 0 i=.av (.am (.d (.int k n))))(ap:D.op=.indexAddr T x i)
  (Z:cd st D.dst=true):
  Holds (sR t st (aS C st T x) n) (cG P U O X st tm w D):=by
 obtain⟨ef,inf,z,j2,gM,pt,lw,hzs,_⟩:=oF aG aZ;have wV:=kt S hi;have bx:=cV S C T x;have run:∀{a:Addr} {len cap:Nat},Act.eval ⟨tm,[]⟩ x=.slice (some a) len cap->0<=n->n<len->(execOp (Act.eval ⟨tm,[]⟩) D).run P w=.ok (.value (.pointer (some (a.add (n.toNat*aC t))))) w:=by
  intro a len cap hx h0 h1;unfold execOp;simp[ap,hx,wV,Instr.indexAt,asIntOf,run_underlying ef,h0,h1,sizeOf,jM j2,gM]
 unfold sR;split
 ·rename_i u xs b5;split;case isFalse=>exact .fail
  rename_i na;subst na;rw[b5] at bx;have bx:Rd w (au X B st.sites) (.sl u xs) (Act.eval ⟨tm,[]⟩ x):=bx;refine Holds.eD fun y al=>?_
  have d_:bd xs n=some y:=al;unfold bd at d_;split at d_
  ·rename_i h0;have a':n.toNat<xs.length:=by
    rcases Nat.lt_or_ge n.toNat xs.length with h|h
    ·exact h
    ·rw[List.getElem?_eq_none h] at d_;cases d_
   generalize hx:Act.eval ⟨tm,[]⟩ x=v at bx;cases bx with
   |nil=>simp at a'
   |sl _ _ a cap cs m hm hcap hb hl hc hr=>
    subst hm;have hne:xs≠[]:=by rintro rfl;simp at a'
    have cC:ck w (au X B st.sites) (flat u xs) cs:=⟨hl,hr⟩;have lo:a.spot=none:=by
     have pe:0<cs.length:=by rw[hl,dU];exact Nat.mul_pos (List.length_pos_iff.mpr hne) (jq u)
     have h1:=hc 0 cs[0] (List.getElem?_eq_getElem pe);have h2:a.add 0=a:=by unfold Addr.add;simp
     rw[h2] at h1;unfold World.cell? at h1;split at h1
     ·cases M:a.spot with
      |none=>rfl
      |some _=>simp[M] at h1
     ·cases h1
    obtain⟨pN,Do,apA⟩:=a;simp only at lo;subst lo;have hcs:hH w pN Do cs:=fun j v hv=>by have:=hc j v hv;rwa[fZ] at this
    refine dH S Z (run hx h0 (by omega)) ?_
    rw[fZ];have fB:=vr u xs n.toNat y d_;have wD:=(hcs.drop (n.toNat*aC u)).take (aC u);have lu:=((gp (B:=B) (sites:=st.sites) hl hr).drop (n.toNat*aC u)).take (aC u);have e2:((cu (flat u xs)).drop (n.toNat*aC u)).take (aC u)=cu (enc u y):=by
     rw[<-fB];simp[cu,List.map_drop,List.map_take]
    rw[e2] at lu;have c5:=iF lu;have j1:pN<w.heap.size:=by
     have pe:0<cs.length:=by rw[hl,dU];exact Nat.mul_pos (List.length_pos_iff.mpr hne) (jq u)
     exact World.block_lt_of_cell? w _ (hcs 0 cs[0] (List.getElem?_eq_getElem pe))
    exact⟨pN,Do+n.toNat*aC u,by rw[Nat.add_zero],hb hne,j1,_,c5.1,wD,c5.2⟩
  ·cases d_
 ·rename_i o s b5;rw[b5] at bx;split
  ·rename_i u xs cC;split;case isFalse=>exact .fail
   rename_i na;subst na;refine Holds.eD fun y al=>?_
   have d_:iz xs.length n=some y:=al;unfold iz at d_;split at d_
   ·rename_i hb;cases d_;obtain⟨⟨Y,fB,jF⟩,jc⟩:=S.all cC;have hv:Act.eval ⟨tm,[]⟩ x=bT (B o):=Ref.at bx.2 fB jF;rcases jc with⟨hn,m_⟩|⟨b,q,c,bQ⟩
    ·subst m_;simp at hb;omega
    ·refine dH S Z (run (by rw[hv];exact bQ) hb.1 hb.2) ?_
     rw[fZ];exact⟨b,q,by rw[Nat.add_zero],Ref.mk fB jF ⟨_,_,bQ⟩⟩
   ·cases d_
  ·exact .fail
 ·exact .fail
end
section
variable {P:Program}{U:World}{O:List Nat}{X:Nat->Prop}{B:Nat->Value}{st:ai}{tm:Array Value}{w:World}{D:Oper}
theorem Fk(S:ak U O X B st tm w){C:Ctx}{cp:Option Operand}{jA l:Int}(h:it jA (cp.map (aS C st 0))=some l):
  (cp=none/\l=jA)\/∃x k,cp=some x/\Act.eval ⟨tm,[]⟩ x=.int k l:=by
 cases cp with
 |none=>simp only[Option.map_none,it,Option.some.injEq] at h;exact .inl ⟨rfl,h.symm⟩
 |some x=>
  simp only[Option.map_some] at h;generalize hx:aS C st 0 x=v at h;unfold it at h;split at h
  ·rename_i b5;cases b5
  ·rename_i k n b5;cases h;cases b5;exact .inr ⟨x,k,rfl,kt S hx⟩
  ·cases h
theorem ED(t:aJ)(xs:List (den t))(n:Nat):flat t (xs.take n)=(flat t xs).take (n*aC t):=by
 rcases Nat.lt_or_ge xs.length n with h|h
 ·rw[List.take_of_length_le (Nat.le_of_lt h),List.take_of_length_le (by rw[dU];exact Nat.mul_le_mul_right _ (Nat.le_of_lt h))]
 ·have:=lP t (xs.take n) (xs.drop n);rw[List.take_append_drop] at this;rw[this,List.take_left' (by rw[dU,List.length_take,Nat.min_eq_left h])]
theorem NO(t:aJ)(xs:List (den t))(n:Nat):flat t (xs.drop n)=(flat t xs).drop (n*aC t):=by
 rcases Nat.lt_or_ge xs.length n with h|h
 ·rw[List.drop_eq_nil_of_le (Nat.le_of_lt h),List.drop_eq_nil_of_le (by rw[dU];exact Nat.mul_le_mul_right _ (Nat.le_of_lt h))]
  rfl
 ·have:=lP t (xs.take n) (xs.drop n);rw[List.take_append_drop] at this;rw[this,List.drop_left' (by rw[dU,List.length_take,Nat.min_eq_left h])]
theorem yw{P:Program}{w:World}(isSlice:Bool)(len cap:Nat)(cp hi:Option Value)(l h:Int)(fS:(cp=none/\l=0)\/∃k,cp=some (.int k l))(iV:(hi=none/\h=len)\/∃k,hi=some (.int k h))
  (h0:0<=l) (h1:l<=h) (h2:h<=len) (hc:len<=cap):(Instr.sliceBounds isSlice len cap cp hi none).run P w=.ok (l.toNat,h.toNat,cap) w:=by
 have bW:0<=h:=by omega
 have W0:h<=cap:=by omega
 have aoe:((h.toNat:Nat):Int)=h:=Int.toNat_of_nonneg bW;rcases fS with⟨rfl,rfl⟩|⟨k,rfl⟩<;>rcases iV with⟨rfl,rfl⟩|⟨k',rfl⟩
 ·simp[Instr.sliceBounds]
 ·simp[Instr.sliceBounds,Instr.sliceBound,asIntOf,bW,W0]
 ·simp[Instr.sliceBounds,Instr.sliceBound,asIntOf,h0,h1]
 ·simp[Instr.sliceBounds,Instr.sliceBound,asIntOf,bW,W0,h0,aoe,h1]
theorem acT(s:ByteArray)(l h:Nat)(h2:h<=s.size):(s.extract l h).data.toList=(s.data.toList.take h).drop l:=by
 rw[ByteArray.data_extract,Array.toList_extract];simp[List.extract_eq_take_drop,List.drop_take]
theorem Qt{w:World}{av:Nat->Prop}{t:aJ}{xs:List (den t)}{b D:Nat}{cs:List Value}(hb:xs≠[]->¬av b)(hr:ck w av (flat t xs) cs)(hc:hH w b D cs)(l h:Nat)(h1:l<=h)(h2:h<=xs.length)(a:Addr)(fW:Nat)(W7:h-l<=fW)
  (aT:a=⟨b,D+l*aC t,none⟩\/l=h) (xR:a.block=b):Rd w av (.sl t ((xs.take h).drop l)) (.slice (some a) (h-l) fW):=by
 have hlen:((xs.take h).drop l).length=h-l:=by simp;omega
 by_cases WV:l=h
 ·subst WV;have:(xs.take l).drop l=[]:=List.eq_nil_of_length_eq_zero (by rw[hlen];omega)
  rw[this];exact .sl t [] a fW [] _ (by simp) W7 (fun hx=>absurd rfl hx) rfl (fun j u hu=>by simp at hu) (fun j h=>by simp[flat] at h)
 ·rcases aT with aT|aT
  ·subst aT;have hf:flat t ((xs.take h).drop l)=((flat t xs).take (h*aC t)).drop (l*aC t):=by
    rw[NO,ED]
   have lu:=((gp (B:=fun _=>undef) (sites:=[]) hr.1 hr.2).take (h*aC t)).drop (l*aC t)
   have e2:((cu (flat t xs)).take (h*aC t)).drop (l*aC t)=cu (flat t ((xs.take h).drop l)):=by
    rw[hf];simp[cu,List.map_drop,List.map_take]
   rw[e2] at lu;have cn:=iF lu;refine .sl t _ _ fW _ _ hlen.symm W7 (fun hx=>hb ?_) cn.1 (fun j u hu=>?_) cn.2
   ·rintro rfl;simp at hx
   ·rw[fZ];exact((hc.take (h*aC t)).drop (l*aC t)) j u hu
  ·exact absurd aT WV
theorem F3{w:World}{av:Nat->Prop}{t:aJ}{xs:List (den t)}{a:Addr}{cs:List Value}(hb:xs≠[]->¬av a.block)(hr:ck w av (flat t xs) cs)(hc:∀j u,cs[j]? =some u->w.cell? (a.add j)=some u)
  (l h cap:Nat) (h1:l<=h) (h2:h<=xs.length) (hcap:xs.length<=cap):
  Rd w av (.sl t ((xs.take h).drop l)) (.slice (if cap=l then some a else(some a).map (·.add (l*aC t))) (h-l) (cap-l)):=by
 by_cases hx:xs=[]
 ·subst hx;have:h=0:=by simpa using h2
  subst this;have j':l=0:=by omega
  subst j';have:((if cap=0 then some a else(some a).map (·.add (0*aC t))):Option Addr)=some a:=by
   split
   ·rfl
   ·simp[Addr.add]
  rw[this];exact .sl t [] a (cap-0) [] 0 rfl (by omega) (fun hx=>absurd rfl hx) rfl (fun j u hu=>by simp at hu) (fun j h=>by simp[flat] at h)
 ·have lo:a.spot=none:=by
   have pe:0<cs.length:=by rw[hr.1,dU];exact Nat.mul_pos (List.length_pos_iff.mpr hx) (jq t)
   have h1:=hc 0 cs[0] (List.getElem?_eq_getElem pe);have h2:a.add 0=a:=by unfold Addr.add;simp
   rw[h2] at h1;unfold World.cell? at h1;split at h1
   ·cases M:a.spot with
    |none=>rfl
    |some _=>simp[M] at h1
   ·cases h1
  obtain⟨pN,Do,apA⟩:=a;simp only at lo;subst lo;have hcs:hH w pN Do cs:=fun j v hv=>by have:=hc j v hv;rwa[fZ] at this
  split
  ·rename_i e;exact Qt hb hr hcs l h h1 h2 _ _ (by omega) (.inr (by omega)) rfl
  ·simp only[Option.map_some,fZ];exact Qt hb hr hcs l h h1 h2 _ _ (by omega) (.inl rfl) rfl
theorem Nh{v:aP}{us j7:List (Nat×Site)}(e:ba st.sites us=ba st.sites j7)(h:cG P U O X st tm w D v us):cG P U O X st tm w D v j7:=by
 have:st.cM D.dst v j7=st.cM D.dst v us:=by cases D.dst<;>simp only[ai.cM,ai.vK,e]
 intro K Q bO;rw[this] at bO;exact h K Q bO
theorem acZ(S:ak U O X B st tm w){C:Ctx}(aG:CtxOk P C){T:TypeId}{x:Operand}{cp hi:Option Operand}(ap:D.op=.slice T x cp hi none)(Z:cd st D.dst=true):
  Holds (tq (C.tt T) st (aS C st T x) (cp.map (aS C st 0)) (hi.map (aS C st 0))) (cG P U O X st tm w D):=by
 have bx:=cV S C T x;have pf:∀{cp:Option Operand} {jA l:Int},it jA (cp.map (aS C st 0))=some l->(cp.map (Act.eval ⟨tm,[]⟩)=none/\l=jA)\/∃k,cp.map (Act.eval ⟨tm,[]⟩)=some (.int k l):=by
  intro cp jA l h;rcases Fk S h with⟨rfl,ah⟩|⟨x,k,rfl,ah⟩
  ·exact .inl ⟨rfl,ah⟩
  ·exact .inr ⟨k,by simp[ah]⟩
 have runs:∀{vv:Value},(Instr.sliceAt T (Act.eval ⟨tm,[]⟩ x) (cp.map (Act.eval ⟨tm,[]⟩)) (hi.map (Act.eval ⟨tm,[]⟩)) none).run P w=.ok vv w->(execOp (Act.eval ⟨tm,[]⟩) D).run P w=.ok (.value vv) w:=by
  intro vv h;unfold execOp;simp only[ap,Option.map_none,Sem.run_bind,h,Result.andThen_ok,Sem.run_pure]
 have wv:∀{e:TypeId} {t:aJ} {bytes:Nat} {a:Option Addr} {len cap:Nat} {l h:Int},C.tt T=.slice e t bytes->Act.eval ⟨tm,[]⟩ x=.slice a len cap->it 0 (cp.map (aS C st 0))=some l->it len (hi.map (aS C st 0))=some h->
   0<=l->l<=h->h<=len->len<=cap->(execOp (Act.eval ⟨tm,[]⟩) D).run P w=.ok (.value (.slice (if cap=l.toNat then a else a.map (·.add (l.toNat*aC t))) (h.toNat-l.toNat) (cap-l.toNat))) w:=by
  intro e t bytes a len cap l h aZ hx fS iV h0 h1 h2 hc;obtain⟨ef,inf,z,j2,gM,_⟩:=oF aG aZ;refine runs ?_
  have hb:=yw (P:=P) (w:=w) true len cap (cp.map (Act.eval ⟨tm,[]⟩)) (hi.map (Act.eval ⟨tm,[]⟩)) l h (pf fS) (pf iV) h0 h1 h2 hc;simp only[Instr.sliceAt,Instr.slice,Sem.run_bind,run_underlying ef,Result.andThen_ok,hx,hb,sizeOf,jM j2,gM,Sem.run_pure]
 unfold tq;split
 ·rename_i s b5;rw[b5] at bx;obtain⟨b,hx,M⟩:=gF bx;split
  ·rename_i l h aZ fS iV;have bA:=aG.tt T;rw[aZ] at bA;refine Holds.eD fun r hr=>?_
   have cn:cA s l h=some r:=hr;unfold cA at cn;split at cn
   ·rename_i hb;obtain⟨h0,h1,h2⟩:=hb;cases cn;have hsz:s.length=b.size:=by rw[<-M];rfl
    rw[hsz] at h2 iV;refine dH S Z (vv:=.string (b.extract l.toNat h.toNat)) (runs ?_) (.str _ _ ?_)
    ·have hb:=yw (P:=P) (w:=w) false b.size b.size (cp.map (Act.eval ⟨tm,[]⟩)) (hi.map (Act.eval ⟨tm,[]⟩)) l h (pf fS) (pf iV) h0 h1 h2 (Nat.le_refl _);simp[Instr.sliceAt,Instr.slice,run_underlying bA.1,hx,hb]
    ·rw[acT b _ _ (by omega),M]
   ·cases cn
  ·exact .fail
 ·rename_i t xs b5;rw[b5] at bx;have bx:Rd w (au X B st.sites) (.sl t xs) (Act.eval ⟨tm,[]⟩ x):=bx;split
  ·rename_i e u bytes l h aZ fS iV;split;case isFalse=>exact .fail
   rename_i na;subst na;refine Holds.eD fun r hr=>?_
   have cn:cA xs l h=some r:=hr;unfold cA at cn;split at cn
   ·rename_i hb;obtain⟨h0,h1,h2⟩:=hb;cases cn;generalize hx:Act.eval ⟨tm,[]⟩ x=v at bx;cases bx with
    |nil=>
     have bW:h=0:=by simp at h2;omega
     have hl:l=0:=by omega
     subst bW hl;refine dH S Z (wv aZ hx fS iV h0 h1 h2 (Nat.le_refl _)) ?_
     simp only[List.take_nil,List.drop_nil];exact Rd.nil t
    |sl _ _ a cap cs m hm hcap hb hl hc hr=>
     subst hm;refine dH S Z (wv aZ hx fS iV h0 h1 h2 hcap) ?_
     exact F3 hb ⟨hl,hr⟩ hc l.toNat h.toNat cap (by omega) (by omega) hcap
   ·cases cn
  ·exact .fail
 ·rename_i t b5;rw[b5] at bx;have hx:Act.eval ⟨tm,[]⟩ x=.slice none 0 0:=bx;split
  ·rename_i e u bytes l h aZ fS iV;refine Holds.eD fun r hr=>?_
   have cn:cA ([]:List (den t)) l h=some r:=hr;unfold cA at cn;split at cn
   ·rename_i hb;obtain⟨h0,h1,h2⟩:=hb;cases cn;have bW:h=0:=by simp at h2;omega
    have hl:l=0:=by omega
    subst bW hl;refine dH S Z (wv aZ hx fS iV h0 h1 h2 (Nat.le_refl _)) ?_
    simp only[List.take_nil,List.drop_nil];exact Rd.nil t
   ·cases cn
  ·exact .fail
 ·rename_i o s b5;rw[b5] at bx;split
  ·rename_i t xs cC;split
   ·rename_i e u bytes l h aZ fS iV;split;case isFalse=>exact .fail
    rename_i na;subst na;refine Holds.eA fun r hr=>?_
    have cn:cA xs l h=some r:=hr;unfold cA at cn;split at cn
    ·rename_i hb;obtain⟨h0,h1,h2⟩:=hb;cases cn;refine Nh (us:=[(o,.da s t xs)]) (OW cC).symm ?_
     have gS:dJ st.sites [(o,.da s t xs)]:=by
      intro H Y hm;simp only[List.mem_singleton,Prod.mk.injEq] at hm;obtain⟨rfl,rfl⟩:=hm;exact⟨s,t,xs,rfl,(kj cC).imp id .inl⟩
     have aL:lM U O X B st tm w [(o,.da s t xs)]:=⟨S,gS⟩;have qy:=yl gS (List.mem_singleton.2 rfl);obtain⟨c5,SB⟩:=aL.new.sites o _ qy;have hv:Act.eval ⟨tm,[]⟩ x=bT (B o):=by
      rcases kj cC with h1|h1<;>exact Ref.at bx.2 h1 rfl
     generalize hx:bT (B o)=v at c5 SB;rw[hx] at hv;cases c5 with
     |nil=>
      have bW:h=0:=by simp at h2;omega
      have hl:l=0:=by omega
      subst bW hl;refine ik (us:=[(o,.da s t [])]) aL.new Z (wv aZ hv fS iV h0 h1 h2 (Nat.le_refl _)) ?_
      simp only[List.take_nil,List.drop_nil];exact Rd.nil t
     |sl _ _ a cap cs m hm hcap hb hl hc hr=>
      subst hm;refine ik (us:=[(o,.da s t xs)]) aL.new Z (wv aZ hv fS iV h0 h1 h2 hcap) ?_
      exact F3 hb ⟨hl,hr⟩ hc l.toNat h.toNat cap (by omega) (by omega) hcap
    ·cases cn
   ·exact .fail
  ·exact .fail
 ·exact .fail
theorem abe(S:ak U O X B st tm w){C:Ctx}(aG:CtxOk P C){T:TypeId}{x:Operand}{cp hi:Option Operand}{dst:Nat}(ap:D.op=.slice T x cp hi none)(dh:D.dst=some dst)(Z:cd st D.dst=true):
  Holds (tr (C.tt T) dst st (aS C st T x) (cp.map (aS C st 0)) (hi.map (aS C st 0))) (cG P U O X st tm w D):=by
 have bx:=cV S C T x;have pf:∀{cp:Option Operand} {jA l:Int},it jA (cp.map (aS C st 0))=some l->(cp.map (Act.eval ⟨tm,[]⟩)=none/\l=jA)\/∃k,cp.map (Act.eval ⟨tm,[]⟩)=some (.int k l):=by
  intro cp jA l h;rcases Fk S h with⟨rfl,ah⟩|⟨x,k,rfl,ah⟩
  ·exact .inl ⟨rfl,ah⟩
  ·exact .inr ⟨k,by simp[ah]⟩
 unfold tr;split
 ·rename_i o s b5;rw[b5] at bx;split
  ·rename_i t xs cC;split
   ·rename_i e u bytes l aZ fS iV;split;case isFalse=>exact .fail
    rename_i na;subst na;refine Holds.eA fun r hr=>?_
    have cn:cA xs l xs.length=some r:=hr;unfold cA at cn;split at cn
    ·rename_i hb;obtain⟨h0,h1,h2⟩:=hb;cases cn;have hl:=DB cC;obtain⟨xx,bK,cs,aA,c5⟩:=S.sites o _ hl;have hv:Act.eval ⟨tm,[]⟩ x=bT (B o):=Ref.at bx.2 hl rfl;have cP:∀{a:Option Addr} {cap:Nat},Act.eval ⟨tm,[]⟩ x=.slice a xs.length cap->xs.length<=cap->(execOp (Act.eval ⟨tm,[]⟩) D).run P w=.ok (.value (.slice (if cap=l.toNat then a else a.map (·.add (l.toNat*aC t))) (xs.length-l.toNat) (cap-l.toNat))) w:=by
      intro a cap hx hc;obtain⟨ef,inf,z,j2,gM,_⟩:=oF aG aZ;have hb:=yw (P:=P) (w:=w) true xs.length cap (cp.map (Act.eval ⟨tm,[]⟩)) (hi.map (Act.eval ⟨tm,[]⟩)) l xs.length (pf fS) (.inl ⟨by cases hi with
       |none=>rfl
       |some _=>simp at iV,rfl⟩) h0 h1 h2 hc
      unfold execOp;simp only[ap,Option.map_none,Instr.sliceAt,Instr.slice,Sem.run_bind,run_underlying ef,Result.andThen_ok,hx,hb,sizeOf,jM j2,gM,Sem.run_pure,Int.toNat_natCast]
     have wD:ck w (au X B st.sites) (flat t (xs.drop l.toNat)) (cs.drop (l.toNat*aC t)):=by
      have h:=iF ((gp (B:=B) (sites:=st.sites) c5.1 c5.2).drop (l.toNat*aC t)|>fun h=>by
       rw[show(cu (flat t xs)).drop (l.toNat*aC t)=cu (flat t (xs.drop l.toNat)) from by
        have e1:flat t xs=flat t (xs.take l.toNat)++flat t (xs.drop l.toNat):=by rw[<-lP,List.take_append_drop]
        have e2:(flat t (xs.take l.toNat)).length=l.toNat*aC t:=by rw[dU,List.length_take,Nat.min_eq_left (by omega)]
        rw[e1,cu,List.map_append,List.drop_append,List.drop_eq_nil_of_le (by simp[e2]),List.length_map,e2,Nat.sub_self,List.drop_zero,List.nil_append];rfl] at h
       exact h)
      exact h
     have main:∃nv,(execOp (Act.eval ⟨tm,[]⟩) D).run P w=.ok (.value nv) w/\bT nv=nv/\nv.oneCell'=true/\(∀b,b∈bl nv->b∈bl (B o))/\oY w bK (aC t) nv (xs.drop l.toNat).length (cs.drop (l.toNat*aC t)):=by
      have hlen:(cs.drop (l.toNat*aC t)).length=(xs.drop l.toNat).length*aC t:=by rw[wD.1,dU]
      rcases aA.2 with⟨hn,hz⟩|⟨g,q,cap,cur,hN,hg,hnc,fD,hcs,ho⟩
      ·have m_:xs=[]:=List.eq_nil_of_length_eq_zero hz;subst m_;have j':l=0:=by simp at h1;omega
       subst j';have hx:Act.eval ⟨tm,[]⟩ x=.slice none 0 0:=by rw[hv,hn];rfl
       refine⟨_,cP hx (Nat.le_refl _),rfl,rfl,(fun b hb=>by cases hb),hlen,.inl ⟨rfl,by simp⟩⟩
      ·have hx:Act.eval ⟨tm,[]⟩ x=.slice (some ⟨g,q,none⟩) xs.length cap:=by rw[hv,hN];rfl
       refine⟨_,cP hx hnc,rfl,rfl,fun b hb=>?_,hlen,.inr ?_⟩
       ·rw[hN];by_cases hc:cap=l.toNat
        ·rw[if_pos hc] at hb;exact hb
        ·rw[if_neg hc] at hb;simp only[Option.map_some,fZ] at hb;exact hb
       ·by_cases hc:cap=l.toNat
        ·rw[if_pos hc];have qu:xs.length=l.toNat:=by omega
         refine⟨g,q,_,cur,by rw[List.length_drop],hg,by rw[List.length_drop];omega,by omega,by rw[hc,Nat.sub_self,Nat.zero_mul];omega,?_⟩
         rw[List.length_drop,qu,Nat.sub_self,Nat.zero_mul,List.take_zero,List.drop_eq_nil_of_le];rw[aA.1,qu];exact Nat.le_refl _
        ·rw[if_neg hc];have c7:l.toNat<=cap:=by omega
         have hmul:cap*aC t=l.toNat*aC t+(cap-l.toNat)*aC t:=by rw[<-Nat.add_mul];congr 1;omega
         refine⟨g,q+l.toNat*aC t,cap-l.toNat,cur,by simp only[Option.map_some,fZ,List.length_drop],hg,by rw[List.length_drop];omega,by omega,by omega,?_⟩
         rw[<-ho,List.drop_take,List.drop_drop,List.length_drop,Nat.sub_mul]
     obtain⟨nv,se,sd,J3,WQ,aoi⟩:=main;have fH:(xs.take (xs.length:Int).toNat).drop l.toNat=xs.drop l.toNat:=by rw[Int.toNat_natCast,List.take_length]
     rw[fH];have b3:=S.GV (dst:=dst) (ir:=.tail (a6 (st.df o (.dead s)) dst) t (xs.drop l.toNat)) hl rfl rfl rfl (nv:=nv) (w':=w) ⟨rfl,rfl,rfl,Nat.le_refl _,fun _ _ _=>rfl⟩
      (fun b hb=>⟨S.dX ⟨_,hl,rfl⟩ (WQ b hb),.inl (WQ b hb)⟩) (fun bQ go=>⟨xx,bK,_,by rw[bQ];exact aoi,wD.1,fun j g1 g2=>iq go (wD.2 j g1 g2)⟩)
     refine ik (us:=[(o,.dead s),(dst,.tail (a6 (st.df o (.dead s)) dst) t (xs.drop l.toNat))]) b3 Z se ?_
     refine⟨J3,Ref.mk (Y:=.tail (a6 (st.df o (.dead s)) dst) t (xs.drop l.toNat)) ?_ rfl (by simp[sd])⟩
     simp only[ba,cv];simp
    ·cases cn
   ·exact .fail
  ·exact .fail
 ·exact .fail
end
section
variable {P:Program}{U:World}{O:List Nat}{X:Nat->Prop}{B:Nat->Value}{st:ai}{tm:Array Value}{w:World}{D:Oper}
theorem afg{av:Nat->Prop}{o s:Nat}{t:aJ}{xs:List (den t)}{v:Value}(h:ce B st.sites w av (bZ (.own o s)) v)(hr:rowOf st o s=some ⟨t,xs⟩):v=bT (B o):=by
 rcases kj hr with h1|h1<;>exact Ref.at h.2 h1 rfl
theorem PG(S:ak U O X B st tm w){o s:Nat}{v:Value}{t:aJ}{es:List (J×den t)}(h:dx B st.sites w (au X B st.sites) (.own o s) v)(hm:mapOf st (.own o s)=some ⟨t,es⟩):
  t≠.strs/\∃b,v=.map (some b)/\mP w b t es:=by
 simp only[mapOf] at hm;split at hm
 ·rename_i ar u hQ hl;cases hb:(ar.beq s&&!u.xk) with
  |false=>rw[hb] at hm;cases hm
  |true=>
   rw[hb] at hm;simp only[Bool.and_eq_true,Bool.not_eq_true'] at hb;have M:=Nat.eq_of_beq_eq_true hb.1;subst M;cases hm;have hl:look st.sites o=some (.map ar _ es):=hl;have hv:v=bT (B o):=Ref.at h.2 hl rfl;obtain⟨b,h1,h2⟩:=S.sites o _ hl;exact⟨aJ.Q2 hb.2,b,by rw[hv,h1];rfl,h2⟩
 ·cases hm
theorem NB{l:aD}{t:aJ}{es:List (J×den t)}(hm:mapOf st l=some ⟨t,es⟩):l=.d (.map t es)\/∃o s,l=.own o s:=by
 cases l<;>first|(cases hm;done)|skip
 ·rename_i v;cases v<;>first|(cases hm;done)|skip
  simp only[mapOf,Option.some.injEq,Sigma.mk.injEq] at hm;obtain⟨rfl,h⟩:=hm;cases h;exact .inl rfl
 ·exact .inr ⟨_,_,rfl⟩
theorem PF(S:ak U O X B st tm w){l:aD}{v:Value}{t:aJ}{es:List (J×den t)}(aA:t≠.strs)(h:dx B st.sites w (au X B st.sites) l v)(hm:mapOf st l=some ⟨t,es⟩):
  (v=.map none/\es=[])\/∃b,v=.map (some b)/\mP w b t es:=by
 rcases NB hm with rfl|⟨o,s,rfl⟩
 ·have h:Rd w (au X B st.sites) (.map t es) v:=h;cases h with
  |rK=>exact .inl ⟨rfl,rfl⟩
  |map _ _ b _ hb hm=>exact .inr ⟨b,rfl,hm⟩
  |maps=>exact absurd rfl aA
 ·exact .inr (PG S h hm).2
theorem OP(S:ak U O X B st tm w){l:aD}{v:Value}{es:List (J×List J)}(h:dx B st.sites w (au X B st.sites) l v)(hm:mapOf st l=some ⟨.strs,es⟩):
  (v=.map none/\es=[])\/∃b arr clock,∃F:List (J×Value),v=.map (some b)/\w.heap[b]? =some (.map arr clock)/\F.length=es.length/\iK arr=jd F/\F.map (·.1)=es.map (·.1)/\
   ∀i (h1:i<es.length) (h2:i<F.length),Rd w (au X B st.sites) (.sl .str (es[i]).2) (F[i]).2:=by
 rcases NB hm with rfl|⟨o,s,rfl⟩
 ·have h:Rd w (au X B st.sites) (.map .strs es) v:=h;cases h with
  |rK=>exact .inl ⟨rfl,rfl⟩
  |map _ _ b aA hb hm=>exact absurd rfl aA
  |maps _ b arr clock F hb hm af hn hl hr=>exact .inr ⟨b,arr,clock,F,rfl,hm,hl,af,hn,hr⟩
 ·exact absurd rfl (PG S h hm).1
theorem mP.size{b:Nat}{t:aJ}{es:List (J×den t)}{arr:Array MapEntry}(h:iK arr=o5 t es):arr.size=es.length:=by
 have:=congrArg List.length h;simpa[iK,o5] using this
theorem afo(S:ak U O X B st tm w){l:aD}{v:Value}{t:aJ}{es:List (J×den t)}(h:dx B st.sites w (au X B st.sites) l v)(hm:mapOf st l=some ⟨t,es⟩):
  (v=.map none/\es=[])\/∃b arr clock,v=.map (some b)/\w.heap[b]? =some (.map arr clock)/\arr.size=es.length:=by
 by_cases aA:t=.strs
 ·subst aA;rcases OP S h hm with h|⟨b,arr,clock,vs,h1,h2,ab,aF,_⟩
  ·exact .inl h
  ·refine .inr ⟨b,arr,clock,h1,h2,?_⟩;have:=congrArg List.length aF;simpa[iK,jd,ab] using this
 ·rcases PF S aA h hm with h|⟨b,h1,arr,clock,h2,ab⟩
  ·exact .inl h
  ·exact .inr ⟨b,arr,clock,h1,h2,mP.size (b:=b) ab⟩
theorem agN(S:ak U O X B st tm w){C:Ctx}(aG:CtxOk P C){T:TypeId}{x:Operand}(ap:D.op=.call {callee:=.builtin .len,args:=#[x],argTypes:=#[T]})(Z:cd st D.dst=true):
  Holds (uq (C.tt T) st (aS C st T x)) (cG P U O X st tm w D):=by
 have bx:=cV S C T x;have bA:=aG.tt T;have run:∀{vv:Value},(Builtin.len_ #[T] D.type #[Act.eval ⟨tm,[]⟩ x]).run P w=.ok vv w->(execOp (Act.eval ⟨tm,[]⟩) D).run P w=.ok (.value vv) w:=by
  intro vv h;unfold execOp;simp only[ap,resolve,invoke,builtin,Sem.run_bind,Sem.run_pure,Result.andThen_ok,List.map_toArray,List.map_cons,List.map_nil,h]
 unfold uq;split
 ·rename_i s aZ b5;rw[b5] at bx;rw[aZ] at bA;obtain⟨b,hx,M⟩:=gF bx;refine Holds.ok (dH S Z (run (vv:=.int .i64 s.length) ?_) (.int _ _));have:s.length=b.size:=by rw[<-M];rfl
  simp[Builtin.len_,hx,run_underlying bA.1,goInt,this]
 ·rename_i e t b u xs aZ b5;rw[b5] at bx;rw[aZ] at bA;have bx:Rd w (au X B st.sites) (.sl u xs) (Act.eval ⟨tm,[]⟩ x):=bx;refine Holds.ok (dH S Z (run (vv:=.int .i64 xs.length) ?_) (.int _ _));generalize Act.eval ⟨tm,[]⟩ x=v at bx;cases bx with
  |nil=>simp[Builtin.len_,run_underlying bA.1.1,goInt]
  |sl _ _ a cap cs n hn hcap hb hl hc hr=>simp[Builtin.len_,run_underlying bA.1.1,goInt,hn]
 ·rename_i e t b u aZ b5;rw[b5] at bx;rw[aZ] at bA;have hx:Act.eval ⟨tm,[]⟩ x=.slice none 0 0:=bx;exact Holds.ok (dH S Z (run (vv:=.int .i64 0) (by simp[Builtin.len_,hx,run_underlying bA.1.1,goInt])) (.int _ _))
 ·rename_i e t b o s aZ b5;rw[b5] at bx;rw[aZ] at bA;split
  ·rename_i u xs cC;obtain⟨⟨Y,fB,jF⟩,hc⟩:=S.all cC;have hv:Act.eval ⟨tm,[]⟩ x=bT (B o):=Ref.at bx.2 fB jF;refine Holds.ok (dH S Z (run (vv:=.int .i64 xs.length) ?_) (.int _ _));rcases hc with⟨h1,h2⟩|⟨be,q,c,h1⟩
   ·subst h2;simp[Builtin.len_,hv,h1,run_underlying bA.1.1,goInt]
   ·simp[Builtin.len_,hv,h1,run_underlying bA.1.1,goInt]
  ·exact .fail
 ·rename_i e6 fH u l aZ b5;rw[b5] at bx;rw[aZ] at bA;split
  ·rename_i bv es hm;refine Holds.ok (dH S Z (run (vv:=.int .i64 es.length) ?_) (.int _ _));rcases afo S bx hm with⟨h1,rfl⟩|⟨b,arr,c,h1,h2,hsz⟩
   ·simp[Builtin.len_,h1,run_underlying bA.1.1,goInt]
   ·simp[Builtin.len_,h1,run_underlying bA.1.1,goInt,MapKept.run_getObj_map h2,hsz,Result.andThen]
  ·exact .fail
 ·exact .fail
theorem adN(S:ak U O X B st tm w){C:Ctx}(aG:CtxOk P C){T:TypeId}{x i:Operand}{s:J}{k:IntKind}{n:Int}(ap:D.op=.index T x i)(Z:cd st D.dst=true)(aZ:C.tt T=.str)
  (hx:aS C st T x=.av (.am (.d (.str s)))) (hi:aS C st 0 i=.av (.am (.d (.int k n)))):Holds (.eD (bd s n) fun b=>one (.int .u8 b.toNat)) (cG P U O X st tm w D):=by
 have bA:=aG.tt T;rw[aZ] at bA;obtain⟨b,hb,M⟩:=ag2 S hx;have hn:=kt S hi;refine Holds.eD fun y al=>?_
 have d_:bd s n=some y:=al;unfold bd at d_;split at d_
 ·rename_i h0;refine dH S Z (vv:=.int .u8 y.toNat) ?_ (.int _ _);have kB:b[n.toNat]? =some y:=by
   have:n.toNat<s.length:=by
    rcases Nat.lt_or_ge n.toNat s.length with h|h
    ·exact h
    ·rw[List.getElem?_eq_none h] at d_;cases d_
   rw[<-M] at d_ this;have hsz:n.toNat<b.size:=this;rw[getElem?_pos b n.toNat hsz];rw[List.getElem?_eq_getElem this] at d_;have ab:b.data[n.toNat]=y:=by simpa using d_
   rw[<-ab];rfl
  unfold execOp;simp[ap,hb,hn,Instr.index,asIntOf,run_underlying bA.1,h0,kB]
 ·cases d_
theorem bytes_beq(x y:ByteArray):(x==y)=(x.data.toList==y.data.toList):=by
 obtain⟨a⟩:=x;obtain⟨b⟩:=y;have h:((⟨a⟩:ByteArray)==⟨b⟩)=(a==b):=rfl;rw[h,Bool.eq_iff_iff];simp
theorem adU:∀{z aa:List aD} {vs:List Value},rO z aa=true->cw B st.sites w (au X B st.sites) aa vs->qq z vs=true:=by
 intro z;induction z with
 |nil=>
  intro aa vs h h1;cases aa with
  |nil=>rw[h1.lW];rfl
  |cons l aa=>cases h
 |cons c z ih=>
  intro aa vs h h1;unfold rO at h;split at h
  ·rename_i hz;cases hz
  ·rename_i b5;cases b5;obtain⟨v,cH,rfl,a1,a2⟩:=h1.inv;rw[iJ a1];exact ih h a2
  ·rename_i b5;cases b5;obtain⟨v,cH,rfl,a1,a2⟩:=h1.inv;rw[jR a1];exact ih h a2
  ·rename_i b5;cases b5;obtain⟨v,cH,rfl,a1,a2⟩:=h1.inv;obtain⟨x,rfl,hx⟩:=gF a1;exact ih h a2
  ·cases h
theorem _t:∀{aa jl:List aD} {vs us:List Value} {b:Bool},vY aa jl=some b->cw B st.sites w (au X B st.sites) aa vs->cw B st.sites w (au X B st.sites) jl us->jP vs us=some b:=by
 have leaf:∀{d e:aU} {v u:Value} {b:Bool} {av:Nat->Prop},A8 d e=some b->Rd w av d v->Rd w av e u->oR v u=some b:=by
  intro d e v u b av h h1 h2;unfold A8 at h;split at h
  ·rw[iJ h1,iJ h2];exact h
  ·rw[jR h1,jR h2];exact h
  ·obtain⟨x,rfl,hx⟩:=gF h1;obtain⟨y,rfl,al⟩:=gF h2;subst hx al;cases h;show some (x==y)=some (x.data.toList==y.data.toList);rw[bytes_beq]
  ·cases h
 intro aa;induction aa with
 |nil=>intro jl vs us b h _ _;cases jl<;>simp[vY] at h
 |cons l aa ih=>
  intro jl vs us b h h1 h2;obtain⟨v,cH,rfl,a1,a2⟩:=h1.inv;unfold vY at h;split at h
  ·rename_i d e b5;cases b5;obtain⟨u,j7,rfl,bc,aO⟩:=h2.inv;rw[a2.lW,aO.lW];exact leaf h a1 bc
  ·rename_i d ds e es hne b5;cases b5;obtain⟨u,j7,rfl,bc,aO⟩:=h2.inv;split at h
   ·rename_i x y hx al;cases h;have e1:=leaf hx a1 bc;have e2:=ih al a2 aO;match cH,j7,e2 with
    |[],[],e2=>simp[jP] at e2
    |[],_::_,e2=>simp[jP] at e2
    |_::_,[],e2=>simp[jP] at e2
    |v2::asL,u2::asN,e2=>rw[jP,e1,e2];simp
   ·cases h
  ·cases h
theorem run_equal_bool{T:TypeId}(h:P.underlying T=some .bool)(a b:Bool):(Op.equal T (.bool a) (.bool b)).run P w=.ok (a==b) w:=by
 have e:Op.maxDepth=9999+1:=rfl;unfold Op.equal;rw[e];unfold Op.equalIn;simp only[Sem.run_bind,run_underlying h,Result.andThen_ok,Sem.run_pure]
theorem run_eql_bool{T:TypeId}(h:P.underlying T=some .bool)(a b:Bool):(binOp .eql T (.bool a) (.bool b)).run P w=.ok (.bool (a==b)) w:=by
 show((do pure (.bool (<-Op.equal T (.bool a) (.bool b)))):Sem Value).run P w=_
 simp only[Sem.run_bind,run_equal_bool h,Result.andThen_ok,Sem.run_pure]
theorem run_neq_bool{T:TypeId}(h:P.underlying T=some .bool)(a b:Bool):(binOp .neq T (.bool a) (.bool b)).run P w=.ok (.bool (!(a==b))) w:=by
 show((do pure (.bool (!(<-Op.equal T (.bool a) (.bool b))))):Sem Value).run P w=_
 simp only[Sem.run_bind,run_equal_bool h,Result.andThen_ok,Sem.run_pure]
theorem afN(S:ak U O X B st tm w){C:Ctx}(aG:CtxOk P C){op:BinOp}{T oo:TypeId}{x y:Operand}(ap:D.op=.binOp op T x y oo)(Z:cd st D.dst=true):
  Holds (IY op (C.tt T) (aS C st T x) (aS C st T y)) (cG P U O X st tm w D):=by
 have hx:=cV S C T x;have al:=cV S C T y;have bA:=aG.tt T;have run:∀{vv:Value},(eqGuard op T x y (Act.eval ⟨tm,[]⟩ x) (Act.eval ⟨tm,[]⟩ y)).run P w=.ok () w->(binOp op T (Act.eval ⟨tm,[]⟩ x) (Act.eval ⟨tm,[]⟩ y)).run P w=.ok vv w->
   (execOp (Act.eval ⟨tm,[]⟩) D).run P w=.ok (.value vv) w:=by
  intro vv h1 h2;unfold execOp;simp only[ap,Sem.run_bind,h1,h2,Result.andThen_ok,Sem.run_pure]
 have plain:∀{r:dl},(eqGuard op T x y (Act.eval ⟨tm,[]⟩ x) (Act.eval ⟨tm,[]⟩ y)).run P w=.ok () w->Holds r (Plain P w (binOp op T (Act.eval ⟨tm,[]⟩ x) (Act.eval ⟨tm,[]⟩ y)))->Holds r (cG P U O X st tm w D):=by
  intro r h1 h2 z hz hc;obtain⟨vv,d,g1,g2,g3,g4⟩:=h2 z hz hc;rw[g2,g3];exact dH S Z (run h1 g1) (g4 _)
 unfold IY;split
 ·rename_i k a k' b ln mh;rw[ln] at hx;rw[mh] at al;refine plain (by rw[iJ hx,iJ al];exact YE _ _ _ _ _ _ _ _) ?_
  rw[iJ hx,iJ al];unfold Q4;split
  ·refine Holds.eD fun n hn=>?_
   have fw:H9 k a b=some n:=hn;unfold H9 at fw;split at fw
   ·cases fw
   ·rename_i hb;cases fw;exact .mk (by simp[binOp,Op.shift,hb]) fun av=>.int _ _
  ·refine Holds.eD fun n hn=>?_
   have fw:o_ k a b=some n:=hn;unfold o_ at fw;split at fw
   ·cases fw
   ·rename_i hb;cases fw;exact .mk (by simp[binOp,Op.shift,hb]) fun av=>.int _ _
  ·rename_i h1 h2;split
   ·rename_i af;subst af;exact abk _ T k a b h1 h2
   ·exact .fail
 ·rename_i s t ln mh;rw[ln] at hx;rw[mh] at al;obtain⟨a,aT,M⟩:=gF hx;obtain⟨b,hb,aA⟩:=gF al;subst M aA;refine plain (by rw[aT,hb];exact Yx _ _ _ _ _ _) ?_
  rw[aT,hb];exact abi op T a b
 ·rename_i a b ln mh;rw[ln] at hx;rw[mh] at al;unfold RD;split
  ·rename_i aZ;rw[aZ] at bA;split
   ·refine plain (by rw[jR hx,jR al];exact Lo _ _ _ _ _ _) (Holds.ok ?_)
    rw[jR hx,jR al];exact .mk (run_eql_bool bA.1 _ _) fun av=>.bool _
   ·refine plain (by rw[jR hx,jR al];exact Lo _ _ _ _ _ _) (Holds.ok ?_)
    rw[jR hx,jR al];exact .mk (run_neq_bool bA.1 _ _) fun av=>.bool _
   ·exact .fail
  ·exact .fail
 ·rename_i xs ys ln mh;rw[ln] at hx;rw[mh] at al;unfold SI;split
  ·rename_i b1 n z aZ;rw[aZ] at bA;cases hl:xs.length.beq n&&rO z xs with
   |false=>exact .fail
   |true=>
    simp only[cond_true];simp only[Bool.and_eq_true] at hl;have fC:=Nat.eq_of_beq_eq_true hl.1;split
    ·rename_i b hb;obtain⟨vs,hv,j_,kK⟩:=hx;obtain⟨us,hu,uL,r4⟩:=al;have C1:=_t hb ⟨j_,kK⟩ ⟨uL,r4⟩;obtain⟨fields,ef,_,⟨fT,hz,_,_⟩,b5⟩:=bA;obtain⟨hg,IH⟩:=b5 rfl;have:=IH vs us b w C1 (adU hl.2 ⟨j_,kK⟩);split
     ·refine plain ?_ (Holds.ok ?_)
      ·rw[hv,hu];simp[eqGuard,hg]
      ·rw[hv,hu];refine .mk (vv:=.bool b) ?_ fun av=>.bool _
       show((do pure (.bool (<-Op.equal T (.agg vs.toArray) (.agg us.toArray)))):Sem Value).run P w=_
       simp only[Sem.run_bind,this,Result.andThen_ok,Sem.run_pure]
     ·refine plain ?_ (Holds.ok ?_)
      ·rw[hv,hu];simp[eqGuard,hg]
      ·rw[hv,hu];refine .mk (vv:=.bool (!b)) ?_ fun av=>.bool _
       show((do pure (.bool (!(<-Op.equal T (.agg vs.toArray) (.agg us.toArray))))):Sem Value).run P w=_
       simp only[Sem.run_bind,this,Result.andThen_ok,Sem.run_pure]
     ·exact .fail
    ·exact .fail
  ·exact .fail
 ·exact .fail
theorem Zn{T:TypeId}{jl:Array (String×TypeId)}(aA:P.underlying T=some (.interface jl))(gk:TypeId)(cX:Option Int)(v:Value)(hv:v=match cX with|none=>.nilIface|some n=>.iface gk (.agg #[.int .i64 n])):
  (Op.equal T v .nilIface).run P w=.ok cX.isNone w:=by
 have h:∀d:Nat,(Op.equalIn (d+1) T v .nilIface).run P w=.ok cX.isNone w:=fun d=>by
  subst hv;cases cX<;>simp[Op.equalIn,run_underlying aA]
 exact h 9999
theorem acd(S:ak U O X B st tm w){C:Ctx}(aG:CtxOk P C){op:BinOp}{T oo:TypeId}{x y:Operand}(ap:D.op=.binOp op T x y oo)(Z:cd st D.dst=true)(hn:A' y=true):
  Holds (Hr op (C.tt T) (aS C st T x)) (cG P U O X st tm w D):=by
 have al:y=.const .nilIface:=by
  unfold A' at hn;split at hn
  ·rfl
  ·cases hn
 subst al;have hx:=cV S C T x;have bA:=aG.tt T;have key:∀(gk:TypeId) (cX:Option Int),(Act.eval ⟨tm,[]⟩ x=match cX with|none=>.nilIface|some n=>.iface gk (.agg #[.int .i64 n]))->Holds (BW op (C.tt T) cX) (cG P U O X st tm w D):=by
  intro gk cX hv;unfold BW;split
  ·rename_i aZ;rw[aZ] at bA;obtain⟨jl,bA⟩:=bA;have he:=Zn (P:=P) (w:=w) bA.1 gk cX _ hv;have hg:(eqGuard op T x (.const .nilIface) (Act.eval ⟨tm,[]⟩ x) .nilIface).run P w=.ok () w:=by
    rw[hv];cases cX<;>cases op<;>simp[eqGuard]
   split
   ·refine Holds.ok (dH S Z (vv:=.bool cX.isNone) ?_ (.bool _));unfold execOp;simp only[ap,Act.eval,Sem.run_bind,Result.andThen_ok,Sem.run_pure] at hg ⊢;rw[hg];simp only[Result.andThen_ok];have:(binOp .eql T (Act.eval ⟨tm,[]⟩ x) .nilIface).run P w=.ok (.bool cX.isNone) w:=by
     have e:binOp .eql T (Act.eval ⟨tm,[]⟩ x) .nilIface=(do pure (.bool (<-Op.equal T (Act.eval ⟨tm,[]⟩ x) .nilIface))):=by rw[hv];cases cX<;>rfl
     rw[e];simp only[Sem.run_bind,he,Result.andThen_ok,Sem.run_pure]
    simp only[Act.eval] at this;rw[this];rfl
   ·refine Holds.ok (dH S Z (vv:=.bool cX.isSome) ?_ (.bool _));unfold execOp;simp only[ap,Act.eval,Sem.run_bind,Result.andThen_ok,Sem.run_pure] at hg ⊢;rw[hg];simp only[Result.andThen_ok];have:(binOp .neq T (Act.eval ⟨tm,[]⟩ x) .nilIface).run P w=.ok (.bool cX.isSome) w:=by
     have e:binOp .neq T (Act.eval ⟨tm,[]⟩ x) .nilIface=(do pure (.bool (!(<-Op.equal T (Act.eval ⟨tm,[]⟩ x) .nilIface)))):=by rw[hv];cases cX<;>rfl
     rw[e];simp only[Sem.run_bind,he,Result.andThen_ok,Sem.run_pure];cases cX<;>rfl
    simp only[Act.eval] at this;rw[this];rfl
   ·exact .fail
  ·exact .fail
 unfold Hr;split
 ·rename_i gk cX ln;rw[ln] at hx;have hx:Rd w (au X B st.sites) (.err gk cX) (Act.eval ⟨tm,[]⟩ x):=hx;exact key gk cX (by revert hx;generalize Act.eval ⟨tm,[]⟩ x=vv;intro hx;cases hx<;>rfl)
 ·rename_i ln;rw[ln] at hx;exact key 0 none hx
 ·exact .fail
theorem YA(S:ak U O X B st tm w){C:Ctx}(aG:CtxOk P C){T:TypeId}{x:Operand}{n:Int}{b1 z q e}(ap:D.op=.makeInterface T x)(Z:cd st D.dst=true)(aZ:C.tt T=.struct b1 q z e)
  (hx:aS C st T x=.av (.agg [.d (.int .i64 n)])):cG P U O X st tm w D (one (.err T (some n))) []:=by
 have bA:=aG.tt T;rw[aZ] at bA;obtain⟨fields,hu,_⟩:=bA;have bx:=cV S C T x;rw[hx] at bx;obtain⟨vs,h1,h2,ab⟩:=bx;match vs,h2,h1,ab with
 |[v],_,h1,ab=>
  have hv:=iJ (ab 0 (by simp) (by simp))
  simp only[List.getElem_cons_zero] at hv;subst hv;refine dH S Z (vv:=.iface T (.agg #[.int .i64 n])) ?_ (.err _ _);unfold execOp;simp[ap,Instr.makeInterface,run_underlying hu,h1]
end
end Go.Jk
