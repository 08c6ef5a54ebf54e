/- For all packs and each name, the program's Needers returns what the reference's returns: names of the packs that need it, at first or through others, ascending; its answer is memory of its own. (part 1 of 6: JnCore, JnGlob, JnState, JnExec, JnFoot, JnCode, JnTurn, JnOps1, JnOps2, JnOps3, JnOps4, JnOps5, JnOps6, JnOps7, JnOps8, JnOps9, JnOps10, JnOpsD, JnOps11, JnOps12, JnOps13) Conditions: none beyond the statement. -/
import Derived.Calls
import Derived.Below
import Derived.WalkKit
import Derived.Laws.AppendOwn
import Derived.Great.BuildSlice
import Derived.IntWalk
import Derived.Laws.Tables
import Derived.MapKept
set_option linter.unusedSimpArgs false
set_option linter.unusedVariables false
namespace Go.Jk
abbrev G:=List UInt8
structure bM where
 path:G
 kind:Int
 mode:Int
 text:G
structure dE where
 name:G
 kind:Int
 b_:G
structure a' where
 name:G
 b_:G
 bZ:List dE
 cE:List bM
structure abz where
 name:G
 text:G
structure Qi where
 name:G
 text:G
structure Source where
 name:G
 sum:G
structure Piece where
 name:G
 fO:G
structure Y9 where
 name:G
 b_:G
 lets:List Qi
 builds:List dE
 runs:List dE
 sources:List Source
 pieces:List Piece
 steps:List G
structure abi where
 at_:Int
 lines:List G
inductive aB where
 |i64|u8|u32|bool|str|entry|need|pack|file|lt|source|piece|recipe|hunk|re|strs
 deriving DecidableEq
@[reducible] def den:aB->Type
 |.i64|.u8|.u32=>Int
 |.bool=>Bool
 |.str=>G
 |.entry=>bM
 |.need=>dE
 |.pack=>a'
 |.file=>abz
 |.lt=>Qi
 |.source=>Source
 |.piece=>Piece
 |.recipe=>Y9
 |.hunk=>abi
 |.re=>List Bool
 |.strs=>List G
inductive aK:Type where
 |int (k:IntKind) (n:Int)
 |bool (b:Bool)
 |str (s:G)
 |sl (t:aB) (xs:List (den t))
 |fn (g:FuncId) (bv:List (List aK))
 |map (t:aB) (es:List (G×den t))
 |err (T:Nat) (D:Option Int)
def enc:(t:aB)->den t->List aK
 |.i64,n=>[.int .i64 n]
 |.u8,n=>[.int .u8 n]
 |.u32,n=>[.int .u32 n]
 |.bool,b=>[.bool b]
 |.str,s=>[.str s]
 |.entry,e=>[.str e.path,.int .i64 e.kind,.int .i64 e.mode,.str e.text]
 |.need,n=>[.str n.name,.int .i64 n.kind,.str n.b_]
 |.pack,p=>[.str p.name,.str p.b_,.sl .need p.bZ,.sl .entry p.cE]
 |.file,f=>[.str f.name,.str f.text]
 |.lt,f=>[.str f.name,.str f.text]
 |.source,f=>[.str f.name,.str f.sum]
 |.piece,f=>[.str f.name,.str f.fO]
 |.recipe,r=>[.str r.name,.str r.b_,.sl .lt r.lets,.sl .need r.builds,.sl .need r.runs,.sl .source r.sources,.sl .piece r.pieces,.sl .str r.steps]
 |.hunk,h=>[.int .i64 h.at_,.sl .str h.lines]
 |.re,b=>[.sl .bool b]
 |.strs,b=>[.sl .str b]
def au:aB->Nat
 |.i64|.u8|.u32|.bool|.str|.re|.strs=>1
 |.entry=>4
 |.need=>3
 |.pack=>4
 |.file|.lt|.source|.piece|.hunk=>2
 |.recipe=>8
def dec:(t:aB)->List aK->Option (den t)
 |.i64,[.int .i64 n]=>some n
 |.u8,[.int .u8 n]=>some n
 |.u32,[.int .u32 n]=>some n
 |.bool,[.bool b]=>some b
 |.str,[.str s]=>some s
 |.entry,[.str a,.int .i64 k,.int .i64 m,.str b]=>some ⟨a,k,m,b⟩
 |.need,[.str a,.int .i64 k,.str b]=>some ⟨a,k,b⟩
 |.pack,[.str a,.str b,.sl .need ap,.sl .entry es]=>some ⟨a,b,ap,es⟩
 |.file,[.str a,.str b]=>some ⟨a,b⟩
 |.lt,[.str a,.str b]=>some ⟨a,b⟩
 |.source,[.str a,.str b]=>some ⟨a,b⟩
 |.piece,[.str a,.str b]=>some ⟨a,b⟩
 |.recipe,[.str a,.str b,.sl .lt O,.sl .need bs,.sl .need kz,.sl .source aL,.sl .piece ps,.sl .str c_]=>some ⟨a,b,O,bs,kz,aL,ps,c_⟩
 |.hunk,[.int .i64 n,.sl .str O]=>some ⟨n,O⟩
 |.re,[.sl .bool b]=>some b
 |.strs,[.sl .str b]=>some b
 |_,_=>none
theorem fj:∀(t:aB) (x:den t),(enc t x).length=au t:=by
 intro t x;cases t<;>rfl
theorem iJ(t:aB):0<au t:=by cases t<;>decide
theorem nb:∀(t:aB) (ds:List aK) (x:den t),dec t ds=some x->enc t x=ds:=by
 intro t ds x h;unfold dec at h;split at h<;>first|(cases h;rfl)|cases h
def flat(t:aB)(xs:List (den t)):List aK:=xs.flatMap (enc t)
theorem dD(t:aB)(xs:List (den t)):(flat t xs).length=xs.length*au t:=by
 unfold flat;induction xs with
 |nil=>simp
 |cons x xs ih=>simp[List.flatMap_cons,fj,ih,Nat.add_mul,Nat.add_comm]
theorem m0(t:aB)(xs ys:List (den t)):flat t (xs++ys)=flat t xs++flat t ys:=by
 simp[flat,List.flatMap_append]
theorem flat_get(t:aB)(xs:List (den t))(i j:Nat)(x:den t)(hx:xs[i]? =some x)(bF:j<au t):
  (flat t xs)[i*au t+j]? =(enc t x)[j]? :=by
 induction xs generalizing i with
 |nil=>simp at hx
 |cons y ys ih=>
  cases i with
  |zero=>
   simp only[List.getElem?_cons_zero,Option.some.injEq] at hx;subst hx;simp only[Nat.zero_mul,Nat.zero_add,flat,List.flatMap_cons];rw[List.getElem?_append_left (by rw[fj];exact bF)]
  |succ i=>
   simp only[List.getElem?_cons_succ] at hx;have:=ih i hx;simp only[flat,List.flatMap_cons] at this ⊢;rw[List.getElem?_append_right (by rw[fj,Nat.add_mul];omega),fj]
   rw[<-this];congr 1
   rw[Nat.add_mul];omega
theorem We(t:aB)(xs:List (den t))(i:Nat)(x:den t):
  flat t (xs.set i x)=(flat t xs).take (i*au t)++(if i<xs.length then enc t x else [])++(flat t xs).drop ((i+1)*au t):=by
 induction xs generalizing i with
 |nil=>simp[flat]
 |cons y ys ih=>
  cases i with
  |zero=>
   simp only[List.set_cons_zero,flat,List.flatMap_cons,Nat.zero_mul,List.take_zero,List.nil_append,List.length_cons,Nat.zero_lt_succ,if_true,Nat.zero_add,Nat.one_mul];rw[List.drop_append_of_le_length (by rw[fj];omega)]
   rw[show List.drop (au t) (enc t y)=[] from List.drop_eq_nil_of_le (by rw[fj];exact Nat.le_refl _)]
   rfl
  |succ i=>
   have h:=ih i;simp only[flat] at h;simp only[List.set_cons_succ,flat,List.flatMap_cons,List.length_cons];rw[h];have e1:List.take ((i+1)*au t) (enc t y++ys.flatMap (enc t))=enc t y++(ys.flatMap (enc t)).take (i*au t):=by
    rw[List.take_append,List.take_of_length_le (by rw[fj,Nat.add_mul];omega),fj]
    congr 2
    rw[Nat.add_mul];omega
   have e2:List.drop ((i+1+1)*au t) (enc t y++ys.flatMap (enc t))=(ys.flatMap (enc t)).drop ((i+1)*au t):=by
    rw[List.drop_append,List.drop_eq_nil_of_le (by rw[fj,Nat.add_mul,Nat.add_mul];omega),fj,List.nil_append]
    congr 1
    rw[Nat.add_mul (i+1) 1];omega
   rw[e1,e2];simp only[Nat.add_lt_add_iff_right,List.append_assoc]
def pQ:TypeId:=999999
def ld:TypeId:=5
def nO:List Nat:=[]
def oG(w:World):Prop:=True
theorem ZS{w w':World}(h:∀b,b∈nO->w'.heap[b]? =w.heap[b]?)(k:oG w):oG w':=trivial
theorem adL{w:World}(k:oG w)(b:Nat)(h:b∈nO):b<w.heap.size:=by
 unfold nO at h;cases h
inductive aw:Type where
 |d (v:aK)
 |nil (t:aB) -- mz nil slice
 |own (o s:Nat) -- mz whole of a row of ob own
 |ptr (o s off:Nat) -- a pointer agk a box of ob own
 |eS (cells:List aK) (off:Nat) -- a pointer Fo cells pk E6 only read
 |er (o s:Nat) (t:aB) (k off:Nat) -- a pointer Fo afU k of a row of ob own,uj cell 'oj
 |clo (g:FuncId) (bv:List (Nat×Nat)) -- a closure over boxes of ob own
 |cx (v:Value) -- agi this value
 |fresh (t:aB) (xs:List (den t)) -- a row pk af0 else holds (X3 caller and callee alone)
 |hW (t:aB) (xs:List (den t)) -- mz same,with mz rows in uj elements
 |ez -- in a ZY first cell:nil,or mz ZY own address (strings.afW)
 |any
inductive bt:Type where
 |ak (l:aw)
 |agg (O:List aw)
inductive aF:Type where
 |av (a:bt)
 |iX (as:List bt)
inductive Site:Type where
 |box (s:Nat) (cells:List aw)
 |row (s:Nat) (t:aB) (xs:List (den t))
 |c0 (s:Nat) (t:aB) (xs:List (den t))
 |map (s:Nat) (t:aB) (es:List (G×den t))
 |deep (s:Nat) (t:aB) (xs:List (den t)) -- a row of ob own with mz rows in uj elements
 |ef (s:Nat) (es:List (G×Option (List G))) -- a map of ob own,with uj rows;none:a row pk gG taken out
 |tail (s:Nat) (t:aB) (xs:List (den t)) -- a row of ob own pk need not begin where uj block agq
 |dead (s:Nat)
def Site.bT:Site->Nat
 |.box s _|.row s _ _|.c0 s _ _|.map s _ _|.deep s _ _|.ef s _|.tail s _ _|.dead s=>s
def Site.live:Site->Bool
 |.box _ _|.row _ _ _|.map _ _ _|.deep _ _ _|.ef _ _|.tail _ _ _=>true
 |_=>false
def look{aA:Type}:List (Nat×aA)->Nat->Option aA
 |[],_=>none
 |(k,v)::r,n=>bif k.beq n then some v else look r n
def b5{aA:Type}:List (Nat×aA)->Nat->aA->List (Nat×aA)
 |[],n,v=>[(n,v)]
 |(k,w)::r,n,v=>bif k.beq n then(k,v)::r else(k,w)::b5 r n v
theorem lH{a b:Nat}(h:¬a=b):a.beq b=false:=by
 cases e:a.beq b
 ·rfl
 ·exact absurd (Nat.eq_of_beq_eq_true e) h
theorem ck{aA:Type}(l:List (Nat×aA))(n m:Nat)(v:aA):look (b5 l n v) m=if n=m then some v else look l m:=by
 induction l with
 |nil=>
  simp only[b5,look];by_cases h:n=m
  ·subst h;simp
  ·have:n.beq m=false:=lH h;simp[this,h]
 |cons p l ih=>
  obtain⟨k,w⟩:=p;simp only[b5];by_cases h:k=n
  ·subst h;simp only[Nat.beq_refl,cond_true,look];by_cases hm:k=m
   ·subst hm;simp
   ·have:k.beq m=false:=lH hm;simp[this,hm]
  ·have hb:k.beq n=false:=lH h;simp only[hb,cond_false,look];by_cases hm:k=m
   ·subst hm;have:¬n=k:=fun e=>h e.symm
    simp[this]
   ·have:k.beq m=false:=lH hm;simp[this,ih]
structure ab where
 cV:List (Nat×aF)
 sites:List (Nat×Site)
 bl:Nat
def ab.get(st:ab)(t:Nat):aF:=match look st.cV t with|some v=>v|none=>.av (.ak .any)
def ab.M(st:ab)(o:Nat):Option Site:=look st.sites o
def ab.set(st:ab)(t:Nat)(v:aF):ab:={st with cV:=b5 st.cV t v}
def ab.c7(st:ab)(o:Nat)(s:Site):ab:={st with sites:=b5 st.sites o s}
@[simp] theorem ab.B5(st:ab)(t u:Nat)(v:aF):(st.set t v).get u=if t=u then v else st.get u:=by
 unfold ab.set ab.get;rw[ck];by_cases h:t=u<;>simp[h]
@[simp] theorem ab.Vn(st:ab)(t o:Nat)(v:aF):(st.set t v).M o=st.M o:=rfl
@[simp] theorem ab.YK(st:ab)(t:Nat)(v:aF):(st.set t v).bl=st.bl:=rfl
@[simp] theorem ab.R1(st:ab)(o u:Nat)(s:Site):(st.c7 o s).get u=st.get u:=rfl
@[simp] theorem ab.kI(st:ab)(o E:Nat)(s:Site):(st.c7 o s).M E=if o=E then some s else st.M E:=by
 unfold ab.c7 ab.M;simp only[ck]
@[simp] theorem ab.SG(st:ab)(o:Nat)(s:Site):(st.c7 o s).bl=st.bl:=rfl
def mU:(t:aB)->den t->Value
 |.i64,n=>.int .i64 n
 |.bool,b=>.bool b
 |_,_=>undef
def ea(l:G):Value:=.string ⟨l.toArray⟩
def hX(arr:Array MapEntry):List (Value×Value):=arr.toList.map fun e=>(e.key,e.val)
def iu(ps:List (G×Value)):List (Value×Value):=ps.map fun p=>(ea p.1,p.2)
def nh(t:aB)(es:List (G×den t)):List (Value×Value):=es.map fun p=>(ea p.1,mU t p.2)
def ly(w:World)(b:Nat)(t:aB)(es:List (G×den t)):Prop:=∃arr clock,w.heap[b]? =some (.map arr clock)/\hX arr=nh t es
theorem ly.of{w w':World}{b:Nat}{t:aB}{es:List (G×den t)}(h:w'.heap[b]? =w.heap[b]?)(m:ly w b t es):ly w' b t es:=by
 obtain⟨arr,c,h1,h2⟩:=m;exact⟨arr,c,h.trans h1,h2⟩
theorem ly.lt{w:World}{b:Nat}{t:aB}{es:List (G×den t)}(m:ly w b t es):b<w.heap.size:=by
 obtain⟨arr,c,h1,h2⟩:=m;rcases Nat.lt_or_ge b w.heap.size with h|h
 ·exact h
 ·rw[Array.getElem?_eq_none h] at h1;cases h1
inductive Rd(w:World)(av:Nat->Prop):aK->Value->Prop where
 |int (k:IntKind) (n:Int):Rd w av (.int k n) (.int k n)
 |bool (b:Bool):Rd w av (.bool b) (.bool b)
 |str (l:G) (s:ByteArray) (h:s.data.toList=l):Rd w av (.str l) (.string s)
 |nil (t:aB):Rd w av (.sl t []) (.slice none 0 0)
 |sl (t:aB) (xs:List (den t)) (a:Addr) (cap:Nat) (cs:List Value) (n:Nat) (hn:n=xs.length) (hcap:n<=cap) (hb:xs≠[]->¬av a.block)
   (hl:cs.length=(flat t xs).length)
   (hc:∀j u,cs[j]? =some u->w.cell? (a.add j)=some u)
   (hr:∀j (h:j<(flat t xs).length) (ae:j<cs.length),Rd w av ((flat t xs)[j]) (cs[j])):Rd w av (.sl t xs) (.slice (some a) n cap)
 |fn (g:FuncId) (bv:List (List aK)) (bs:List Nat) (iG:Nat->List Value) (oO:Array Value) (zb:oO=(bs.map fun b=>Value.pointer (some ⟨b,0,none⟩)).toArray) (gF:bs.length=bv.length)
   (hb:∀b,b∈bs->¬av b) (ba:∀b,b∈bs->b<w.heap.size)
   (hl:∀i (h:i<bv.length),(iG i).length=(bv[i]).length)
   (hc:∀i (h:i<bs.length) j u,(iG i)[j]? =some u->w.cell? ⟨bs[i],j,none⟩=some u)
   (hr:∀i (h:i<bv.length) j (h1:j<(bv[i]).length) (h2:j<(iG i).length),Rd w av ((bv[i])[j]) ((iG i)[j])):
   Rd w av (.fn g bv) (.func (.func g) #[] oO)
 |pq (t:aB):Rd w av (.map t []) (.map none)
 |map (t:aB) (es:List (G×den t)) (b:Nat) (aC:t≠.strs) (hb:¬av b) (hm:ly w b t es):Rd w av (.map t es) (.map (some b))
 |maps (es:List (G×List G)) (b:Nat) (arr:Array MapEntry) (clock:Nat) (ps:List (G×Value)) (hb:¬av b) (hm:w.heap[b]? =some (.map arr clock)) (ah:hX arr=iu ps) (hn:ps.map (·.1)=es.map (·.1))
   (hl:ps.length=es.length) (hr:∀i (h:i<es.length) (ae:i<ps.length),Rd w av (.sl .str (es[i]).2) (ps[i]).2):Rd w av (.map .strs es) (.map (some b))
 |pv (T:TypeId):Rd w av (.err T none) .nilIface
 |err (T:TypeId) (n:Int):Rd w av (.err T (some n)) (.iface T (.agg #[.int .i64 n]))
theorem Rd.ij{w:World}{av:Nat->Prop}{d:aK}{v:Value}(r:Rd w av d v):v.oneCell'=true:=by
 cases r<;>rfl
def ua(v:Value):Prop:=v=.slice none 0 0\/∃b n c,v=.slice (some ⟨b,0,none⟩) n c
def aZ:Value->Option Nat
 |.slice (some a) _ _=>some a.block
 |.pointer (some a)=>some a.block
 |.map (some b)=>some b
 |_=>none
def bD:Value->Value
 |.tuple vs=>vs.toList.headD undef
 |v=>v
def bb:Value->List Nat
 |.tuple vs=>vs.toList.flatMap fun v=>(aZ v).toList
 |v=>(aZ v).toList
theorem fI{v:Value}{b:Nat}(h:aZ v=some b):b∈bb v:=by
 cases v<;>first|(show b∈(aZ _).toList;rw[h];simp)|cases h
section
variable (B:Nat->Value)(sites:List (Nat×Site))(w:World)(av:Nat->Prop)
def Ref(o s:Nat)(p:Prop):Prop:=∃M,look sites o=some M/\s<=M.bT/\(M.bT=s->p)
def dl:aw->Value->Prop
 |.d x,v=>Rd w av x v
 |.nil _,v=>v=.slice none 0 0
 |.own o s,v=>v.oneCell'=true/\Ref sites o s (v=bD (B o))
 |.ptr o s off,v=>∃b,v=.pointer (some ⟨b,off,none⟩)/\Ref sites o s (bD (B o)=.pointer (some ⟨b,0,none⟩))
 |.eS cells off,v=>∃b D,v=.pointer (some ⟨b,D+off,none⟩)/\¬av b/\b<w.heap.size/\∃cs:List Value,cs.length=cells.length/\(∀j u,cs[j]? =some u->w.cell? ⟨b,D+j,none⟩=some u)/\
   ∀j (h:j<cells.length) (ae:j<cs.length),Rd w av (cells[j]) (cs[j])
 |.er o s t k off,v=>∃b D,v=.pointer (some ⟨b,D+(k*au t+off),none⟩)/\Ref sites o s (∃n c,bD (B o)=.slice (some ⟨b,D,none⟩) n c)
 |.clo g bv,v=>∃vs:List Value,v=.func (.func g) #[] vs.toArray/\vs.length=bv.length/\∀i (h:i<bv.length) (ae:i<vs.length),Ref sites (bv[i]).1 (bv[i]).2 (vs[i]=bD (B (bv[i]).1))
 |.cx u,v=>v=u
 |.fresh _ _,_=>False
 |.hW _ _,_=>False
 |.ez,_=>True
 |.any,_=>True
def aB.fc:aB->Bool
 |.u8=>true
 |_=>false
def k2(u:Bool)(e:TypeId)(cur:Array Value)(br:Nat×Nat):Prop:=(u=true->e=ld)/\(br=(0,0)\/u=true/\cur.size<=br.1)
def rowAt(w:World)(u:Bool)(e:TypeId)(size:Nat)(v:Value)(n:Nat)(xs:List Value):Prop:=
 xs.length=n*size/\((v=.slice none 0 0/\n=0)\/
  ∃g cap cur br,v=.slice (some ⟨g,0,none⟩) n cap/\k2 u e cur br/\w.heap[g]? =some (.cells cur e br)/\n<=cap/\cap<=maxLen/\cur.size=cap*size/\cur.toList.take (n*size)=xs)
theorem oT(w:World)(u:Bool)(e:TypeId)(size:Nat):rowAt w u e size (.slice none 0 0) 0 []:=⟨by simp,.inl ⟨rfl,rfl⟩⟩
theorem hp{w:World}{u:Bool}{e:TypeId}{size:Nat}{v:Value}{n:Nat}{xs:List Value}(h:rowAt w u e size v n xs):bD v=v/\bb v=(aZ v).toList:=by
 rcases h.2 with⟨rfl,_⟩|⟨g,cap,cur,br,rfl,_⟩<;>exact⟨rfl,rfl⟩
theorem sX{w:World}{u:Bool}{e:TypeId}{size:Nat}{v:Value}{n:Nat}{xs:List Value}{b:Nat}(h:rowAt w u e size v n xs)(hb:b∈bb v):aZ v=some b:=by
 rw[(hp h).2] at hb;simpa using hb
theorem m3{w w':World}{u:Bool}{e:TypeId}{size:Nat}{v:Value}{n:Nat}{xs:List Value}(h:rowAt w u e size v n xs)(hb:∀b,aZ v=some b->w'.heap[b]? =w.heap[b]?):rowAt w' u e size v n xs:=by
 refine⟨h.1,?_⟩;rcases h.2 with hn|⟨g,cap,cur,br,Z,dO,de,h'⟩
 ·exact .inl hn
 ·refine .inr ⟨g,cap,cur,br,Z,dO,?_,h'⟩;rw[hb g (by rw[Z];rfl)];exact de
def ch(w:World)(av:Nat->Prop)(ds:List aK)(vs:List Value):Prop:=vs.length=ds.length/\∀j (h:j<ds.length) (ae:j<vs.length),Rd w av (ds[j]) (vs[j])
def aK.plain:aK->Bool
 |.sl _ _|.fn _ _|.map _ _=>false
 |_=>true
inductive Deep(w:World)(av:Nat->Prop):List aK->List Value->List Value->Prop where
 |nil:Deep w av [] [] []
 |row (u:aB) (ys:List (den u)) (e:TypeId) (O:List Value) (am:∀d,d∈flat u ys->d.plain=true) {c:Value} {ds:List aK} {cs ap:List Value} (h:rowAt w u.fc e (au u) c ys.length O) (hr:ch w av (flat u ys) O) (k:Deep w av ds cs ap):Deep w av (.sl u ys::ds) (c::cs) (c::ap)
 |leaf {d:aK} {c:Value} {ds:List aK} {cs ap:List Value} (am:d.plain=true) (h:Rd w av d c) (k:Deep w av ds cs ap):Deep w av (d::ds) (c::cs) ap
def nf(w:World)(e:TypeId)(size:Nat)(v:Value)(n:Nat)(xs:List Value):Prop:=
 xs.length=n*size/\((v=.slice none 0 0/\n=0)\/
  ∃g D cap cur,v=.slice (some ⟨g,D,none⟩) n cap/\w.heap[g]? =some (.cells cur e (0,0))/\n<=cap/\cap<=maxLen/\D+cap*size<=cur.size/\(cur.toList.drop D).take (n*size)=xs)
inductive fx(w:World)(av:Nat->Prop):List (G×Value)->List (G×Option (List G))->List Value->Prop where
 |nil:fx w av [] [] []
 |kZ (k:G) (v:Value) {ps:List (G×Value)} {es:List (G×Option (List G))} {ap:List Value} (r:fx w av ps es ap):fx w av ((k,v)::ps) ((k,none)::es) ap
 |row (k:G) (v:Value) (xs:List G) (e:TypeId) (O:List Value) (h:rowAt w false e 1 v xs.length O) (hr:ch w av (flat .str xs) O) {ps:List (G×Value)} {es:List (G×Option (List G))} {ap:List Value} (r:fx w av ps es ap):
   fx w av ((k,v)::ps) ((k,some xs)::es) (v::ap)
def mq(cells:List aw)(T:TypeId)(cur:List Value)(b:Nat):Prop:=cells.head?=some .ez->T=pQ/\(cur.head?=some (.pointer none)\/cur.head?=some (.pointer (some ⟨b,0,none⟩)))
def gm:bt->Value->Prop
 |.ak l,v=>dl B sites w av l v
 |.agg O,v=>∃vs:List Value,v=.agg vs.toArray/\vs.length=O.length/\∀j (h:j<O.length) (ae:j<vs.length),dl B sites w av (O[j]) (vs[j])
def b4:aF->Value->Prop
 |.av a,v=>gm B sites w av a v
 |.iX as,v=>∃vs:List Value,v=.tuple vs.toArray/\vs.length=as.length/\∀j (h:j<as.length) (ae:j<vs.length),gm B sites w av (as[j]) (vs[j])
def hA(o:Nat):Site->Prop
 |.box _ cells=>∃b T,∃cur:List Value,B o=.pointer (some ⟨b,0,none⟩)/\w.heap[b]? =some (.cells cur.toArray T (0,0))/\cur.length=cells.length/\
   (∀u∈cur,u.oneCell'=true)/\mq cells T cur b/\∀j (h:j<cells.length) (ae:j<cur.length),dl B sites w av (cells[j]) (cur[j])
 |.row _ t xs=>∃e,∃cs:List Value,rowAt w t.fc e (au t) (B o) xs.length cs/\∀j (h:j<(flat t xs).length) (ae:j<cs.length),Rd w av ((flat t xs)[j]) (cs[j])
 |.c0 _ t xs=>Rd w av (.sl t xs) (bD (B o))/\ua (bD (B o))
 |.map _ t es=>∃b,B o=.map (some b)/\ly w b t es
 |.deep _ t xs=>∃e v,∃ap cs:List Value,B o=.tuple (v::ap).toArray/\(bb (B o)).Nodup/\rowAt w t.fc e (au t) v xs.length cs/\Deep w av (flat t xs) cs ap
 |.ef _ es=>∃b arr clock,∃ap:List Value,B o=.tuple (.map (some b)::ap).toArray/\(bb (B o)).Nodup/\w.heap[b]? =some (.map arr clock)/\∃ps,hX arr=iu ps/\fx w av ps es ap
 |.tail _ t xs=>t.fc=false/\∃e,∃cs:List Value,nf w e (au t) (B o) xs.length cs/\ch w av (flat t xs) cs
 |.dead _=>True
end
theorem hj{v:Value}{ap:List Value}{b:Nat}:b∈bb (.tuple (v::ap).toArray) <-> aZ v=some b\/∃n,n∈ap/\aZ n=some b:=by
 simp[bb]
def bL(sites:List (Nat×Site))(o:Nat):Prop:=∃M,look sites o=some M/\M.live=true
def al(X:Nat->Prop)(B:Nat->Value)(sites:List (Nat×Site))(b:Nat):Prop:=X b\/∃o,bL sites o/\b∈bb (B o)
structure Fr(H:List Nat)(J w:World):Prop where
 os:w.os=J.os
 tape:w.tape=J.tape
 output:w.output=J.output
 size:J.heap.size<=w.heap.size
 block:∀b,b<J.heap.size->b∉H->w.heap[b]? =J.heap[b]?
theorem Fr.refl(H:List Nat)(w:World):Fr H w w:=⟨rfl,rfl,rfl,Nat.le_refl _,fun _ _ _=>rfl⟩
structure ir(w:World)(H:List Nat)(X:Nat->Prop):Prop where
 ok:oG w
 H:∀b,b∈nO->b∉H
 X:∀b,b∈nO->¬X b
 lt:∀b,b∈nO->b<w.heap.size
theorem ir.less{w:World}{H:List Nat}{X X':Nat->Prop}(bC:ir w H X)(h:∀b,b∈nO->X' b->X b):ir w H X':=⟨bC.ok,bC.H,fun b hb hx=>bC.X b hb (h b hb hx),bC.lt⟩
theorem ir.Zv{w:World}{H:List Nat}{X X':Nat->Prop}(bC:ir w H X)(h:∀b,X' b->X b\/b∈H):ir w H X':=⟨bC.ok,bC.H,fun b hb hx=>(h b hx).elim (bC.X b hb) (bC.H b hb),bC.lt⟩
structure ad(J:World)(H:List Nat)(X:Nat->Prop)(B:Nat->Value)(st:ab)(tm:Array Value)(w:World):Prop where
 bl:tm.size=st.bl
 cV:∀t,b4 B st.sites w (al X B st.sites) (st.get t) (tm.getD t undef)
 sites:∀o M,look st.sites o=some M->hA B st.sites w (al X B st.sites) o M
 df:∀o E b,bL st.sites o->bL st.sites E->b∈bb (B o)->b∈bb (B E)->o=E
 cc:∀o b,bL st.sites o->b∈bb (B o)->¬X b/\(b∈H\/J.heap.size<=b)
 frame:Fr H J w
 old:∀b,X b->b<w.heap.size
 fO:ir J H X
inductive cg:Type where
 |none
 |int (k:IntKind)
 |bool
 |str
 |ptr
 |func
 |slice (e:TypeId) (t:aB) (bytes:Nat)
 |struct (bJ:List (Nat×Nat)) (n:Nat) (z:List aw) (eq:Bool)
 |map (k e:TypeId) (t:aB)
 |arr (e:TypeId) (t:aB) (n:Nat)
 |iface
def u3:(t:aB)->Option (den t)
 |.i64|.u8|.u32=>some (0:Int)
 |.bool=>some false
 |.str=>some ([]:G)
 |_=>none
def rL:aB->Option aw
 |.i64=>some (.d (.int .i64 0))
 |.u8=>some (.d (.int .u8 0))
 |.u32=>some (.d (.int .u32 0))
 |.bool=>some (.d (.bool false))
 |.str=>some (.d (.str []))
 |_=>none
def cg.agg:cg->Bool
 |.struct _ _ _ _|.arr _ _ _=>true
 |_=>false
def cg.known:cg->Bool
 |.none=>false
 |_=>true
def cg.size:cg->Nat
 |.struct _ n _ _=>n
 |.arr _ _ n=>n
 |_=>1
def cg.zero:cg->Option (List aw)
 |.none=>Option.none
 |.int k=>some [.d (.int k 0)]
 |.bool=>some [.d (.bool false)]
 |.str=>some [.d (.str [])]
 |.ptr=>some [.cx (.pointer Option.none)]
 |.func=>some [.cx .nilFunc]
 |.slice _ t _=>some [.nil t]
 |.struct _ _ z _=>some z
 |.map _ _ _=>some [.cx (.map Option.none)]
 |.arr _ t n=>(rL t).map (List.replicate n)
 |.iface=>some [.cx .nilIface]
inductive Arg:Type where
 |av (a:bt)
 |dP (cells:List aw)
structure t':Type 1 where
 F:Type
 comp:Option F
 dP:F->List (List aw)
 eT:F->List bt
 eC:F->List aw -- rows pk aga ZQ,as agb agt back
abbrev bp:=List Arg->t'
def t'.fail:t':=⟨Unit,Option.none,fun _=>[],fun _=>[],fun _=>[]⟩
structure Ctx:Type 1 where
 tt:TypeId->cg
 bJ:FuncId->Option bp
 kx:FuncId->Option FuncId:=fun _=>none
 mW:FuncId->Bool:=fun _=>false
 op:FuncId->Bool:=fun _=>false
 hQ:FuncId->Bool:=fun _=>false -- a UV copy check
 bs:FuncId->Bool:=fun _=>false -- a UV String
 gt:Nat->Option ((t:aB)×List (den t)):=fun _=>none -- mz afQ tables
 dY:Bool:=false -- rows of rows E6 made as ob own,whole
structure c':Type 1 where
 F:Type
 comp:Option F
 val:F->aF
 us:F->List (Nat×Site)
 pT:F->Bool
def c'.fail:c':=⟨Unit,Option.none,fun _=>.av (.ak .any),fun _=>[],fun _=>false⟩
def c'.ok(v:aF):c':=⟨Unit,some (),fun _=>v,fun _=>[],fun _=>true⟩
def c'.eU(v:aF)(us:List (Nat×Site)):c':=⟨Unit,some (),fun _=>v,fun _=>us,fun _=>true⟩
def c'.eh{F:Type}(c:Option F)(f:F->aF):c':=⟨F,c,f,fun _=>[],fun _=>true⟩
def c'.ee{F:Type}(c:Option F)(f:F->aF)(us:F->List (Nat×Site)):c':=⟨F,c,f,us,fun _=>true⟩
def bf{aA:Type}(xs:List aA)(i:Int):Option aA:=if 0<=i then xs[i.toNat]? else none
def e0(n:Nat)(i:Int):Option Nat:=if 0<=i/\i<n then some i.toNat else none
def cO{aA:Type}(xs:List aA)(ce af:Int):Option (List aA):=if 0<=ce/\ce<=af/\af<=xs.length then some ((xs.take af.toNat).drop ce.toNat) else none
def room:Nat:=140737488355328
def dc{aA:Type}(bytes:Nat)(xs ys:List aA):Option (List aA):=if(xs.length+ys.length)*bytes<=room/\xs.length+ys.length<=maxLen then some (xs++ys) else none
def nP(s t:G):Option G:=if((s.length+t.length:Nat):Int)>IntKind.i64.max then none else some (s++t)
def rr(k:IntKind)(x y:Int):Option Int:=if y=0 then none else some (k.wrap (x.tdiv y))
def rp(x y:Int):Option Int:=if y=0 then none else some (x.tmod y)
def Ds(k:IntKind)(x y:Int):Option Int:=if y<0 then none else some (k.wrap (x*2^(min y.toNat k.bits)))
def pm(k:IntKind)(x y:Int):Option Int:=if y<0 then none else some (x.fdiv (2^(min y.toNat k.bits)))
def lM{aA:Type}(bytes:Nat)(n c:Int)(z:aA):Option (List aA):=if 0<=n/\n<=c/\c*bytes<=room/\c<=maxLen then some (List.replicate n.toNat z) else none
def gS(x y:Int):Int:=if y>x then y else x
def yD(x y:Int):Int:=if y<x then y else x
def Mt(k:IntKind)(x y:Int):Int:=k.wrap (BitVec.ofInt k.bits x &&& BitVec.ofInt k.bits y).toNat
def NE(k:IntKind)(x y:Int):Int:=k.wrap (BitVec.ofInt k.bits x ||| BitVec.ofInt k.bits y).toNat
def rk(k:IntKind)(x y:Int):Int:=k.wrap (BitVec.ofInt k.bits x ^^^ BitVec.ofInt k.bits y).toNat
def bytesOf(s:G):List Int:=s.map fun b=>(b.toNat:Int)
def strOf(xs:List Int):G:=xs.map fun n=>UInt8.ofNat n.toNat
abbrev one(d:aK):aF:=.av (.ak (.d d))
abbrev bQ(l:aw):aF:=.av (.ak l)
def s9(ti:cg):Value->aF
 |.int k n=>one (.int k n)
 |.bool b=>one (.bool b)
 |.string s=>one (.str s.data.toList)
 |.slice none 0 0=>match ti with|.slice _ t _=>bQ (.nil t)|_=>bQ (.cx (.slice none 0 0))
 |.map none=>match ti with|.map _ _ t=>one (.map t [])|_=>bQ (.cx (.map none))
 |.agg _|.tuple _=>bQ .any
 |v=>bQ (.cx v)
def aI(C:Ctx)(st:ab)(T:TypeId):Operand->aF
 |.tmp t=>st.get t
 |.const v=>s9 (C.tt T) v
 |.global g=>bQ (.cx (.pointer (some ⟨g,0,none⟩)))
 |.func f=>bQ (.clo f [])
def rowOf(st:ab)(o s:Nat):Option ((t:aB)×List (den t)):=
 match st.M o with
 |some (.row ag t xs)=>bif ag.beq s then some ⟨t,xs⟩ else none
 |some (.c0 ag t xs)=>bif ag.beq s then some ⟨t,xs⟩ else none
 |_=>none
def ls(st:ab)(o s:Nat):Option ((t:aB)×List (den t)):=
 match st.M o with
 |some (.deep ag t xs)=>bif ag.beq s then some ⟨t,xs⟩ else none
 |_=>none
def pf(st:ab)(o s:Nat):Option ((t:aB)×List (den t)):=match rowOf st o s with
 |some x=>some x
 |none=>ls st o s
def nd(st:ab)(o s:Nat):Option ((t:aB)×List (den t)):=
 match st.M o with
 |some (.tail ag t xs)=>bif ag.beq s then some ⟨t,xs⟩ else none
 |_=>none
def np(st:ab)(o s:Nat):Option ((t:aB)×List (den t)):=match rowOf st o s with
 |some x=>some x
 |none=>nd st o s
def pg(st:ab)(o s:Nat):Option ((t:aB)×List (den t)):=match pf st o s with
 |some x=>some x
 |none=>nd st o s
def fK(st:ab)(o s:Nat):Option (List aw):=
 match st.M o with
 |some (.box ag cells)=>bif ag.beq s then some cells else none
 |_=>none
def aB.uk:aB->Bool
 |.strs=>true
 |_=>false
theorem aB.JS{t:aB}(h:t.uk=false):t≠.strs:=by rintro rfl;cases h
def mapOf(st:ab):aw->Option ((t:aB)×List (G×den t))
 |.d (.map t es)=>some ⟨t,es⟩
 |.own o s=>match st.M o with
  |some (.map ag t es)=>bif ag.beq s&&!t.uk then some ⟨t,es⟩ else none
  |_=>none
 |_=>none
def dm{aA:Type}:List (G×aA)->G->Option aA
 |[],_=>none
 |(k,v)::r,n=>bif k==n then some v else dm r n
def cT{aA:Type}:List (G×aA)->G->aA->List (G×aA)
 |[],n,v=>[(n,v)]
 |(k,w)::r,n,v=>bif k==n then(k,v)::r else(k,w)::cT r n v
def Dq:(t:aB)->aK->Option (den t)
 |.i64,.int .i64 n=>some n
 |.bool,.bool b=>some b
 |_,_=>none
def rf:(t:aB)->Option (den t)->Option aK
 |.i64,D=>some (.int .i64 (D.getD 0))
 |.bool,D=>some (.bool (D.getD false))
 |.strs,D=>some (.sl .str (D.getD []))
 |_,_=>none
def n9(st:ab):aw->Option (Nat×Nat×List (G×Option (List G)))
 |.own o s=>match st.M o with
  |some (.ef ag es)=>bif ag.beq s then some (o,s,es) else none
  |_=>none
 |_=>none
def o4(es:List (G×Option (List G)))(n:G):Option (List (G×Option (List G))×List G):=match dm es n with
 |none=>some (es,[])
 |some none=>none
 |some (some xs)=>some (cT es n none,xs)
def nl:List (G×Option (List G))->Option (List (G×List G))
 |[]=>some []
 |(k,some xs)::r=>match nl r with
  |some l=>some ((k,xs)::l)
  |none=>none
 |(_,none)::_=>none
def xI(s:Nat):aB->Site
 |.strs=>.ef s []
 |t=>.map s t []
def aR(st:ab)(o:Nat):Nat:=match st.M o with|some x=>x.bT+1|none=>0
def lG(st:ab)(o s:Nat)(t:aB)(xs:List (den t)):List (Nat×Site):=match st.M o with
 |some (.c0 _ _ _)=>[]
 |_=>[(o,.c0 s t xs)]
def jw(st:ab):aw->Option (aK×List (Nat×Site))
 |.d v=>some (v,[])
 |.nil t=>some (.sl t [],[])
 |.own o s=>match rowOf st o s with
  |some ⟨t,xs⟩=>some (.sl t xs,lG st o s t xs)
  |none=>match ls st o s with
   |some ⟨t,xs⟩=>some (.sl t xs,[(o,.c0 s t xs)])
   |none=>none
 |.clo g []=>some (.fn g [],[])
 |_=>none
def ht(st:ab):List aw->Option (List aK×List (Nat×Site))
 |[]=>some ([],[])
 |l::O=>match jw st l,ht st O with
  |some (d,us),some (ds,vs)=>some (d::ds,us++vs)
  |_,_=>none
def aB.ho:aB->Bool
 |.pack|.recipe|.hunk|.re|.strs=>true
 |_=>false
def sink(st:ab):aw->Option (aK×List (Nat×Site))
 |.d (.int k n)=>some (.int k n,[])
 |.d (.bool b)=>some (.bool b,[])
 |.d (.str s)=>some (.str s,[])
 |.nil t=>some (.sl t [],[])
 |.own o s=>match st.M o with
  |some (.row ag t xs)=>bif ag.beq s&&!t.ho then some (.sl t xs,[(o,.dead s)]) else none
  |_=>none
 |_=>none
def sinks(st:ab):List aw->Option (List aK×List (Nat×Site))
 |[]=>some ([],[])
 |l::O=>match sink st l,sinks st O with
  |some (d,us),some (ds,vs)=>some (d::ds,us++vs)
  |_,_=>none
def bt.cells:bt->List aw
 |.ak l=>[l]
 |.agg O=>O
def aw.storable:aw->Bool
 |.any|.ez|.fresh _ _|.hW _ _|.eS _ _|.er _ _ _ _ _=>false
 |.cx (.agg _)|.cx (.tuple _)=>false
 |_=>true
def gz:List aw->Bool
 |[]=>true
 |l::O=>l.storable&&gz O
def cut(agg:Bool)(off n:Nat)(O:List aw):Option aF:=
 bif agg then(bif Nat.ble (off+n) O.length then some (.av (.agg ((O.drop off).take n))) else none)
 else match O.drop off with|l::_=>some (bQ l)|[]=>none
def ci(ds:List aK):List aw:=ds.map .d
def b'{aA:Type}(old:List aA)(off:Nat)(new:List aA):List aA:=old.take off++new++old.drop (off+new.length)
def xK:aK->aK->Option Bool
 |.int k a,.int k' b=>if k=k' then some (a==b) else none
 |.bool a,.bool b=>some (a==b)
 |.str a,.str b=>some (a==b)
 |_,_=>none
def s_:List aw->List aw->Option Bool
 |[.d a],[.d b]=>xK a b
 |.d a::as,.d b::bs=>match xK a b,s_ as bs with
  |some x,some y=>some (x&&y)
  |_,_=>none
 |_,_=>none
def Kz(op:BinOp)(k:IntKind)(x y:Int):c':=
 match op with
 |.add=>.ok (one (.int k (k.wrap (x+y))))
 |.sub=>.ok (one (.int k (k.wrap (x-y))))
 |.mul=>.ok (one (.int k (k.wrap (x*y))))
 |.quo=>.eh (rr k x y) fun n=>one (.int k n)
 |.rem=>.eh (rp x y) fun n=>one (.int k n)
 |.and=>.ok (one (.int k (Mt k x y)))
 |.or=>.ok (one (.int k (NE k x y)))
 |.xor=>.ok (one (.int k (rk k x y)))
 |.eql=>.ok (one (.bool (x==y)))
 |.neq=>.ok (one (.bool (x !=y)))
 |.lss=>.ok (one (.bool (decide (x<y))))
 |.leq=>.ok (one (.bool (decide (x<=y))))
 |.gtr=>.ok (one (.bool (decide (x>y))))
 |.geq=>.ok (one (.bool (decide (x>=y))))
 |_=>.fail
def Kj(op:BinOp)(s t:G):c':=
 match op with
 |.add=>.eh (nP s t) fun r=>one (.str r)
 |.eql=>.ok (one (.bool (s==t)))
 |.neq=>.ok (one (.bool (!(s==t))))
 |.lss=>.ok (one (.bool (Op.bytesLess s t)))
 |.leq=>.ok (one (.bool (Op.bytesLess s t||s==t)))
 |.gtr=>.ok (one (.bool (!(Op.bytesLess s t||s==t))))
 |.geq=>.ok (one (.bool (!(Op.bytesLess s t))))
 |_=>.fail
def JU(op:BinOp)(k:IntKind)(a:Int)(k':IntKind)(b:Int):c':=
 match op with
 |.shl=>.eh (Ds k a b) fun n=>one (.int k n)
 |.shr=>.eh (pm k a b) fun n=>one (.int k n)
 |op=>if k=k' then Kz op k a b else .fail
def J7(op:BinOp)(ti:cg)(a b:Bool):c':=
 match ti with
 |.bool=>match op with
  |.eql=>.ok (one (.bool (a==b)))
  |.neq=>.ok (one (.bool (!(a==b))))
  |_=>.fail
 |_=>.fail
def pu:List aw->List aw->Bool
 |[],[]=>true
 |.d (.int _ _)::z,.d (.int _ _)::l=>pu z l
 |.d (.bool _)::z,.d (.bool _)::l=>pu z l
 |.d (.str _)::z,.d (.str _)::l=>pu z l
 |_,_=>false
def KR(op:BinOp)(ti:cg)(xs ys:List aw):c':=
 match ti with
 |.struct _ n z true=>bif xs.length.beq n&&pu z xs then
   match s_ xs ys with
   |some b=>match op with
    |.eql=>.ok (one (.bool b))
    |.neq=>.ok (one (.bool (!b)))
    |_=>.fail
   |none=>.fail
  else .fail
 |_=>.fail
def yu(op:BinOp)(ti:cg)(D:Option Int):c':=
 match ti with
 |.iface=>match op with
  |.eql=>.ok (one (.bool D.isNone))
  |.neq=>.ok (one (.bool D.isSome))
  |_=>.fail
 |_=>.fail
def xN:Operand->Bool
 |.const .nilIface=>true
 |_=>false
def C2(op:BinOp)(ti:cg):aF->c'
 |.av (.ak (.d (.err _ D)))=>yu op ti D
 |.av (.ak (.cx .nilIface))=>yu op ti none
 |_=>.fail
def D3(op:BinOp)(ti:cg)(x y:aF):c':=
 match x,y with
 |.av (.ak (.d (.int k a))),.av (.ak (.d (.int k' b)))=>JU op k a k' b
 |.av (.ak (.d (.str s))),.av (.ak (.d (.str t)))=>Kj op s t
 |.av (.ak (.d (.bool a))),.av (.ak (.d (.bool b)))=>J7 op ti a b
 |.av (.agg xs),.av (.agg ys)=>KR op ti xs ys
 |_,_=>.fail
def q7(agg:Bool)(n:Nat)(st:ab)(a:aF):c':=
 match a with
 |.av (.ak (.ptr o s off))=>match fK st o s with
  |some cells=>match cut agg off n cells with|some v=>.ok v|none=>.fail
  |none=>.fail
 |.av (.ak (.eS cells off))=>match cut agg off n (ci cells) with|some v=>.ok v|none=>.fail
 |.av (.ak (.er o s u k off))=>match np st o s with
  |some ⟨t,xs⟩=>if t=u/\off+n<=au t then .eh (xs[k]?) fun x=>match cut agg off n (ci (enc t x)) with|some v=>v|none=>bQ .any else .fail
  |none=>.fail
 |_=>.fail
def keys{aA:Type}:List (Nat×aA)->List Nat
 |[]=>[]
 |p::r=>p.1::keys r
def fN(n:Nat):List Nat->Bool
 |[]=>false
 |m::r=>n.beq m||fN n r
def eO:List Nat->Bool
 |[]=>true
 |n::r=>!fN n r&&eO r
def aK.hs:aK->Bool
 |.int _ _|.bool _|.str _=>true
 |_=>false
def qE(n:Nat)(st:ab)(a:aF)(v:bt):c':=
 bif v.cells.length.beq n then
 match a with
 |.av (.ak (.ptr o s off))=>match fK st o s with
  |some cells=>bif Nat.ble (off+n) cells.length&&gz v.cells then .eU (bQ (.cx undef)) [(o,.box s (b' cells off v.cells))] else .fail
  |none=>.fail
 |.av (.ak (.er o s u k off))=>match st.M o with
  |some (.row ag t xs)=>bif ag.beq s&&Nat.ble (off+n) (au t)&&decide (t=u) then
    match ht st v.cells with
    |some (ds,us)=>bif(look us o).isNone then .ee ((xs[k]?).bind fun x=>dec t (b' (enc t x) off ds)) (fun _=>bQ (.cx undef)) fun x=>us++[(o,.row s t (xs.set k x))] else .fail
    |none=>.fail
   else .fail
  |some (.deep ag t xs)=>bif ag.beq s&&decide (t=u) then(bif off.beq 0&&n.beq (au t) then
    match sinks st v.cells with
    |some (ds,us)=>bif(look us o).isNone&&eO (keys us) then .ee ((xs[k]?).bind fun _=>dec t ds) (fun _=>bQ (.cx undef)) fun x=>us++[(o,.deep s t (xs.set k x))] else .fail
    |none=>.fail
   else match v.cells with
    |[.d d]=>bif d.hs&&Nat.blt off (au t) then .ee ((xs[k]?).bind fun x=>dec t (b' (enc t x) off [d])) (fun _=>bQ (.cx undef)) fun x=>[(o,.deep s t (xs.set k x))] else .fail
    |_=>.fail)
   else .fail
  |_=>.fail
 |_=>.fail
 else .fail
def qb(u:aB)(st:ab)(x:aF)(i:Int):c':=
 match x with
 |.av (.ak (.d (.sl t xs)))=>if t=u then .eh (bf xs i) fun x=>bQ (.eS (enc t x) 0) else .fail
 |.av (.ak (.own o s))=>match pg st o s with
  |some ⟨t,xs⟩=>if t=u then .eh (e0 xs.length i) fun k=>bQ (.er o s t k 0) else .fail
  |none=>.fail
 |_=>.fail
def z6(off:Nat):aF->c'
 |.av (.ak (.ptr o s D))=>.ok (bQ (.ptr o s (D+off)))
 |.av (.ak (.eS cells D))=>.ok (bQ (.eS cells (D+off)))
 |.av (.ak (.er o s t k D))=>.ok (bQ (.er o s t k (D+off)))
 |_=>.fail
def hE(iS:Int):Option aF->Option Int
 |none=>some iS
 |some (.av (.ak (.d (.int _ n))))=>some n
 |some _=>none
def qI(ti:cg)(st:ab)(x:aF)(ce af:Option aF):c':=
 match x with
 |.av (.ak (.d (.str s)))=>match ti,hE 0 ce,hE s.length af with
  |.str,some l,some h=>.eh (cO s l h) fun r=>one (.str r)
  |_,_,_=>.fail
 |.av (.ak (.d (.sl t xs)))=>match ti,hE 0 ce,hE xs.length af with
  |.slice _ u _,some l,some h=>if t=u then .eh (cO xs l h) fun r=>one (.sl t r) else .fail
  |_,_,_=>.fail
 |.av (.ak (.nil t))=>match ti,hE 0 ce,hE 0 af with
  |.slice _ _ _,some l,some h=>.eh (cO ([]:List (den t)) l h) fun r=>one (.sl t r)
  |_,_,_=>.fail
 |.av (.ak (.own o s))=>match rowOf st o s with
  |some ⟨t,xs⟩=>match ti,hE 0 ce,hE xs.length af with
   |.slice _ u _,some l,some h=>if t=u then .ee (cO xs l h) (fun r=>one (.sl t r)) fun _=>lG st o s t xs else .fail
   |_,_,_=>.fail
  |none=>.fail
 |_=>.fail
def qP(st:ab):aF->Bool
 |.av (.ak (.own o s))=>(nd st o s).isSome
 |_=>false
def qJ(ti:cg)(dst:Nat)(st:ab)(x:aF)(ce af:Option aF):c':=
 match x with
 |.av (.ak (.own o s))=>match nd st o s with
  |some ⟨t,xs⟩=>match ti,hE 0 ce,af with
   |.slice _ u _,some l,none=>if t=u then .ee (cO xs l xs.length) (fun _=>bQ (.own dst (aR (st.c7 o (.dead s)) dst)))
     (fun r=>[(o,.dead s),(dst,.tail (aR (st.c7 o (.dead s)) dst) t r)]) else .fail
   |_,_,_=>.fail
  |none=>.fail
 |_=>.fail
def ry(ti:cg)(st:ab)(x:aF):c':=
 match ti,x with
 |.str,.av (.ak (.d (.str s)))=>.ok (one (.int .i64 s.length))
 |.slice _ _ _,.av (.ak (.d (.sl _ xs)))=>.ok (one (.int .i64 xs.length))
 |.slice _ _ _,.av (.ak (.nil _))=>.ok (one (.int .i64 0))
 |.slice _ _ _,.av (.ak (.own o s))=>match pg st o s with
  |some ⟨_,xs⟩=>.ok (one (.int .i64 xs.length))
  |none=>.fail
 |.map _ _ _,.av (.ak l)=>match mapOf st l with
  |some ⟨_,es⟩=>.ok (one (.int .i64 es.length))
  |none=>.fail
 |_,_=>.fail
def qY(st:ab):aF->Option aK
 |.av (.ak (.d (.sl t xs)))=>some (.sl t xs)
 |.av (.ak (.d (.str s)))=>some (.str s)
 |.av (.ak (.nil t))=>some (.sl t [])
 |.av (.ak (.own o s))=>match rowOf st o s with|some ⟨t,xs⟩=>some (.sl t xs)|none=>none
 |_=>none
def o7(bytes:Nat)(t:aB)(dst:Nat)(st:ab)(s:aF)(ys:List (den t)):c':=
 match s with
 |.av (.ak (.nil _))=>.ee (dc bytes [] ys) (fun _=>bQ (.own dst (aR st dst))) fun r=>[(dst,.row (aR st dst) t r)]
 |.av (.ak (.own o s))=>match st.M o with
  |some (.row ag be xs)=>bif ag.beq s then
    if ae:be=t then .ee (dc bytes (ae▸xs:List (den t)) ys) (fun _=>bQ (.own dst (aR (st.c7 o (.dead s)) dst)))
     fun r=>[(o,.dead s),(dst,.row (aR (st.c7 o (.dead s)) dst) t r)]
    else .fail
   else .fail
  |some (.tail ag be xs)=>bif ag.beq s then
    if ae:be=t then .ee (dc bytes (ae▸xs:List (den t)) ys) (fun _=>bQ (.own dst (aR (st.c7 o (.dead s)) dst)))
     fun r=>[(o,.dead s),(dst,.tail (aR (st.c7 o (.dead s)) dst) t r)]
    else .fail
   else .fail
  |_=>.fail
 |_=>.fail
def qA(bytes:Nat)(t:aB)(dst:Nat)(st:ab)(s x:aF):c':=
 match qY st x with
 |none=>.fail
 |some d=>match d with
  |.sl u ys=>if h:u=t then o7 bytes t dst st s (h▸ys:List (den t)) else .fail
  |_=>.fail
def qC(bytes:Nat)(t:aB)(dst:Nat)(st:ab)(s x:aF):c':=
 match x with
 |.av (.ak (.own E u))=>match ls st E u with
  |some ⟨be,ys⟩=>if h:be=t then(match s with
   |.av (.ak (.nil _))=>.ee (dc bytes [] (h▸ys:List (den t))) (fun _=>bQ (.own dst (aR (st.c7 E (.dead u)) dst))) fun r=>[(E,.dead u),(dst,.deep (aR (st.c7 E (.dead u)) dst) t r)]
   |.av (.ak (.own o s))=>match ls st o s with
    |some ⟨t2,xs⟩=>if h2:t2=t then(bif o.beq E then .fail else
      .ee (dc bytes (h2▸xs:List (den t)) (h▸ys)) (fun _=>bQ (.own dst (aR ((st.c7 E (.dead u)).c7 o (.dead s)) dst)))
       fun r=>[(E,.dead u),(o,.dead s),(dst,.deep (aR ((st.c7 E (.dead u)).c7 o (.dead s)) dst) t r)]) else .fail
    |none=>.fail
   |_=>.fail) else .fail
  |none=>.fail
 |_=>.fail
def tg(st:ab):aF->Bool
 |.av (.ak (.own o s))=>(ls st o s).isSome
 |_=>false
def qB(bytes:Nat)(t:aB)(dst:Nat)(st:ab)(s x:aF):c':=
 match x with
 |.av (.ak (.d (.str y)))=>if h:t=.u8 then o7 bytes t dst st s (h▸(bytesOf y:List (den .u8))) else .fail
 |_=>.fail
def po(dY:Bool)(bytes o:Nat)(st:ab)(ty:aB)(n m:Int)(z:List aw):c':=match bif dY&&ty.ho then sinks st z else none with
 |some (ds,us)=>match dec ty ds with
  |some ei=>bif us.isEmpty then .ee (lM bytes n m ei) (fun _=>bQ (.own o (aR st o))) fun r=>[(o,.deep (aR st o) ty r)] else .fail
  |none=>.fail
 |none=>match ht st z with
  |some (ds,_)=>match dec ty ds with
   |some ei=>.ee (lM bytes n m ei) (fun _=>bQ (.own o (aR st o))) fun r=>[(o,.row (aR st o) ty r)]
   |none=>.fail
  |none=>.fail
def k0(t:aB)(st:ab):List bt->Option (List (den t)×List (Nat×Site))
 |[]=>some ([],[])
 |a::as=>match ht st a.cells with
  |some (ds,us)=>match dec t ds,k0 t st as with
   |some x,some (xs,vs)=>some (x::xs,us++vs)
   |_,_=>none
  |none=>none
def mf(t:aB)(st:ab):List bt->Option (List (den t)×List (Nat×Site))
 |[]=>some ([],[])
 |a::as=>match sinks st a.cells with
  |some (ds,us)=>match dec t ds,mf t st as with
   |some x,some (xs,vs)=>some (x::xs,us++vs)
   |_,_=>none
  |none=>none
def lI:aF->Option bt
 |.av a=>some a
 |.iX _=>none
def mo:List aF->Option (List bt)
 |[]=>some []
 |v::vs=>match lI v,mo vs with|some a,some as=>some (a::as)|_,_=>none
def n6:Nat->List (Nat×Operand)->Bool
 |_,[]=>true
 |n,(i,_)::r=>i.beq n&&n6 (n+1) r
def isByte:cg->Bool
 |.int .u8=>true
 |_=>false
def rc(C:Ctx)(src dst:TypeId)(o:Nat)(st:ab)(x:aF):c':=
 match C.tt src,C.tt dst,x with
 |.none,_,_=>.fail
 |_,.int k,.av (.ak (.d (.int _ n)))=>.ok (one (.int k (k.wrap n)))
 |_,.str,.av (.ak (.d (.str s)))=>.ok (one (.str s))
 |.slice e .u8 _,.str,.av (.ak (.d (.sl .u8 xs)))=>bif isByte (C.tt e) then .ok (one (.str (strOf xs))) else .fail
 |.slice e .u8 _,.str,.av (.ak (.nil _))=>bif isByte (C.tt e) then .ok (one (.str [])) else .fail
 |.slice e .u8 _,.str,.av (.ak (.own E s))=>match rowOf st E s with
  |some ⟨.u8,xs⟩=>bif isByte (C.tt e) then .ok (one (.str (strOf xs))) else .fail
  |_=>.fail
 |.str,.slice e .u8 _,.av (.ak (.d (.str s)))=>bif isByte (C.tt e) then .ee (if s.length<=maxLen then some () else none) (fun _=>bQ (.own o (aR st o))) fun _=>[(o,.row (aR st o) .u8 (bytesOf s))] else .fail
 |_,_,_=>.fail
def kS(st:ab):List (Nat×Nat)->Option (List (List aK)×List (Nat×Site)×List Nat)
 |[]=>some ([],[],[])
 |(o,s)::r=>match fK st o s with
  |some cells=>match ht st cells,kS st r with
   |some (ds,us),some (rest,vs,bs)=>some (ds::rest,us++vs,o::bs)
   |_,_=>none
  |none=>none
def ms(st:ab):aw->Option (aw×List (Nat×Site)×List Nat)
 |.eS cells 0=>some (.eS cells 0,[],[])
 |.clo g (c::cs)=>match kS st (c::cs) with|some (ds,us,bs)=>some (.d (.fn g ds),us,bs)|none=>none
 |l=>match jw st l with|some (d,us)=>some (.d d,us,[])|none=>none
def lw(st:ab):List aw->Option (List aw×List (Nat×Site)×List Nat)
 |[]=>some ([],[],[])
 |l::O=>match ms st l,lw st O with
  |some (a,us,bs),some (as,vs,cs)=>some (a::as,us++vs,bs++cs)
  |_,_=>none
def mn(st:ab):aw->Option (aw×List (Nat×Site))
 |.d v=>some (.d v,[])
 |.nil t=>some (.fresh t [],[])
 |.own o s=>match st.M o with
  |some (.row ag t xs)=>bif ag.beq s then some (.fresh t xs,[(o,.dead s)]) else none
  |some (.c0 ag t xs)=>bif ag.beq s then some (.d (.sl t xs),[]) else none
  |some (.deep ag t xs)=>bif ag.beq s then some (.hW t xs,[(o,.dead s)]) else none
  |_=>none
 |.ez=>some (.ez,[])
 |.cx v=>some (.cx v,[])
 |_=>none
def tr:List aw->List aw
 |.cx (.pointer none)::r=>.ez::r
 |l=>l
def jS(st:ab):List aw->Option (List aw×List (Nat×Site))
 |[]=>some ([],[])
 |l::O=>match mn st l,jS st O with
  |some (a,us),some (as,vs)=>some (a::as,us++vs)
  |_,_=>none
structure jU where
 as:List Arg
 ew:List (Nat×Site) -- rows pk E6 ew,as afY ag9 frozen
 fJ:List Nat -- boxes pk E6 ew
 gone:List (Nat×Site) -- boxes pk go over,and rows in agc
 boxes:List (Nat×Nat) -- mz boxes:M,bT
 rows:List (Option (Nat×Nat)) -- mz cells of af9 holds ZQ rows:a af5 M,bT
def iL(st:ab):List aF->Option jU
 |[]=>some ⟨[],[],[],[],[],[]⟩
 |.av (.ak (.ptr o s 0))::vs=>match fK st o s,iL st vs with
  |some cells,some r=>match jS st cells with
   |some (cs,gone)=>some ⟨.dP cs::r.as,r.ew,r.fJ,((o,.dead s)::gone)++r.gone,(o,s)::r.boxes,r.rows⟩
   |none=>none
  |_,_=>none
 |.av (.ak l)::vs=>match ms st l,iL st vs with
  |some (a,us,bs),some r=>some ⟨.av (.ak a)::r.as,us++r.ew,bs++r.fJ,r.gone,r.boxes,[]⟩
  |_,_=>none
 |.av (.agg O)::vs=>match lw st O,iL st vs with
  |some (as,us,bs),some r=>some ⟨.av (.agg as)::r.as,us++r.ew,bs++r.fJ,r.gone,r.boxes,[]⟩
  |_,_=>none
 |_::_=>none
def lr(st:ab):aw->Option (aw×List (Nat×Site)×List (Nat×Site)×List Nat)
 |.own o s=>match mn st (.own o s) with|some (a,us)=>some (a,us,[],[])|none=>none
 |.nil t=>some (.fresh t [],[],[],[])
 |l=>match ms st l with|some (a,us,bs)=>some (a,[],us,bs)|none=>none
def lp(st:ab):List aw->Option (List aw×List (Nat×Site)×List (Nat×Site)×List Nat)
 |[]=>some ([],[],[],[])
 |l::O=>match lr st l,lp st O with
  |some (a,us,bJ,bs),some (as,vs,gs,cs)=>some (a::as,us++vs,bJ++gs,bs++cs)
  |_,_=>none
def aw.o6:aw->Bool
 |.fresh _ _|.hW _ _=>false
 |_=>true
def fT:List aw->Bool
 |[]=>true
 |l::O=>l.o6&&fT O
def kY(st:ab):aw->Option (Nat×Nat)
 |.own o s=>match st.M o with
  |some (.row _ _ _)|some (.deep _ _ _)=>some (o,s)
  |_=>none
 |_=>none
def ng(st:ab)(O dq:List aw):List (Option (Nat×Nat)):=bif fT dq then [] else O.map (kY st)
def j'(st:ab):List aF->Option jU
 |[]=>some ⟨[],[],[],[],[],[]⟩
 |.av (.ak l)::vs=>match lr st l,j' st vs with
  |some (a,us,O,bs),some r=>some ⟨.av (.ak a)::r.as,O++r.ew,bs++r.fJ,us++r.gone,r.boxes,ng st [l] [a]++r.rows⟩
  |_,_=>none
 |.av (.agg as)::vs=>match lp st as,j' st vs with
  |some (jy,us,O,bs),some r=>some ⟨.av (.agg jy)::r.as,O++r.ew,bs++r.fJ,us++r.gone,r.boxes,ng st as jy++r.rows⟩
  |_,_=>none
 |_::_=>none
def qv(b:Bool)(st:ab)(vs:List aF):Option jU:=bif b then j' st vs else iL st vs
def aw.ho:aw->Bool
 |.d (.sl _ _)|.d (.fn _ _)|.d (.map _ _)=>true
 |.d _=>false
 |.fresh t _=>t.ho
 |.ez|.cx _|.hW _ _=>false
 |_=>true
def m5:List aw->Bool
 |[]=>false
 |l::O=>l.ho||m5 O
def qe:List bt->Bool
 |[]=>false
 |a::as=>m5 a.cells||qe as
def qd:List (List aw)->Bool
 |[]=>false
 |a::as=>m5 a||qd as
def take(st:ab)(n:Nat):List aw->List aw×List (Nat×Site)
 |[]=>([],[])
 |.fresh t xs::O=>let r:=take st (n+1) O;(.own n (aR st n)::r.1,(n,.row (aR st n) t xs)::r.2)
 |.hW t xs::O=>let r:=take st (n+1) O;(.own n (aR st n)::r.1,(n,.deep (aR st n) t xs)::r.2)
 |l::O=>let r:=take st (n+1) O;(l::r.1,r.2)
def dM(st:ab)(n:Nat):List bt->List bt×List (Nat×Site)
 |[]=>([],[])
 |.ak l::as=>let x:=take st n [l];let r:=dM st (n+100) as;((match x.1 with|[fl]=>.ak fl|O=>.agg O)::r.1,x.2++r.2)
 |.agg O::as=>let x:=take st n O;let r:=dM st (n+100) as;(.agg x.1::r.1,x.2++r.2)
def e_(st:ab):List (Nat×Nat)->List (List aw)->List (Nat×Site)
 |(o,s)::bs,cs::cv=>let x:=take st (1000000+o*100) cs;x.2++(o,.box s x.1)::e_ st bs cv
 |_,_=>[]
def n3:List (Option (Nat×Nat))->List Nat
 |[]=>[]
 |none::r=>n3 r
 |some p::r=>p.1::n3 r
def eP:List (Option (Nat×Nat))->List aw->List (Nat×Site)
 |some (o,s)::r,.fresh t xs::O=>(o,.row s t xs)::eP r O
 |some (o,s)::r,.hW t xs::O=>(o,.deep s t xs)::eP r O
 |_::r,_::O=>eP r O
 |_,_=>[]
def Kl:List bt->aF
 |[a]=>.av a
 |as=>.iX as
def fa:List Nat->List Nat->Bool
 |[],_=>true
 |n::r,l=>!fN n l&&fa r l
def oh(dst:Nat)(st:ab)(S:bp)(a:jU):c':=
 let r:=S a.as
 {F:=r.F,comp:=r.comp
  val:=fun y=>Kl (dM st (2000000+dst*10000) (r.eT y)).1
  us:=fun y=>(bif qe (r.eT y)||qd (r.dP y)||m5 (r.eC y) then a.ew else [])++a.gone++(e_ st a.boxes (r.dP y)++eP a.rows (r.eC y))++(dM st (2000000+dst*10000) (r.eT y)).2
  pT:=fun y=>eO (keys a.gone)&&fa (keys a.ew++a.fJ) (keys a.gone)&&eO (keys ((e_ st a.boxes (r.dP y)++eP a.rows (r.eC y))++(dM st (2000000+dst*10000) (r.eT y)).2))&&
   fa (keys a.ew++a.fJ) (keys ((e_ st a.boxes (r.dP y)++eP a.rows (r.eC y))++(dM st (2000000+dst*10000) (r.eT y)).2))&&(!(qe (r.eT y)||qd (r.dP y)||m5 (r.eC y))||a.fJ.isEmpty)&&(eO (n3 a.rows)&&fa (n3 a.rows) (keys (e_ st a.boxes (r.dP y))))}
def callee(v:aF):Option (FuncId×List (Nat×Nat)):=
 match v with
 |.av (.ak (.clo g bv))=>some (g,bv)
 |_=>none
def gu(C:Ctx)(st:ab):List Operand->List TypeId->List aF
 |[],_=>[]
 |x::xs,[]=>aI C st 0 x::gu C st xs []
 |x::xs,T::cQ=>aI C st T x::gu C st xs cQ
def kP:List (List aK)->List Arg
 |[]=>[]
 |c::cs=>.av (.ak (.eS c 0))::kP cs
def qG(g:FuncId)(n:Nat)(st:ab):List aF->c'
 |[.av (.ak (.d (.str s))),.av (.ak (.d (.str p)))]=>.eU (bQ (.clo g [(n,aR st n),(n+1,aR st (n+1)),(n+2,aR st (n+2))]))
   [(n,.box (aR st n) [.d (.str p)]),(n+1,.box (aR st (n+1)) [.d (.str s)]),(n+2,.box (aR st (n+2)) [.d (.int .i64 0)])]
 |_=>.fail
def copyV(st:ab):List aF->c'
 |[.av (.ak (.ptr o s 0))]=>match st.M o with
  |some (.box ag [.ez,l])=>bif ag.beq s then .eU (.iX []) [(o,.box s [.ez,l])] else .fail
  |_=>.fail
 |_=>.fail
def qt(st:ab):List aF->c'
 |[.av (.ak (.ptr o s 0))]=>match fK st o s with
  |some [_,.nil .u8]=>.ok (one (.str []))
  |some [_,.own E u]=>match st.M E with
   |some (.row bW .u8 xs)=>bif bW.beq u then .eU (one (.str (strOf xs))) [(E,.c0 u .u8 xs)] else .fail
   |_=>.fail
  |_=>.fail
 |_=>.fail
def q3(n:Nat)(st:ab):List aF->c'
 |[.av (.ak (.d (.sl .u8 xs)))]=>.eU (bQ (.ptr n (aR st n) 0)) [(n,.box (aR st n) [.d (.sl .u8 (xs.take 2000)),.d (.int .i64 0)])]
 |_=>.fail
def ln(C:Ctx)(dst:Nat)(st:ab)(f:aF)(vs:List aF):c':=
  match f with
  |.av (.ak (.clo g bv))=>match C.kx g with
   |some cw=>match bv with
    |[]=>qG cw (3000000+dst*10) st vs
    |_=>.fail
   |none=>bif C.op g then(match bv with
    |[]=>q3 (4000000+dst) st vs
    |_=>.fail) else bif C.hQ g then(match bv with
    |[]=>copyV st vs
    |_=>.fail) else bif C.bs g then(match bv with
    |[]=>qt st vs
    |_=>.fail) else match C.bJ g,qv (C.mW g) st vs,kS st bv with
    |some S,some a,some (cs,us,bs)=>oh dst st S {a with as:=a.as++kP cs,ew:=a.ew++us,fJ:=a.fJ++bs}
    |_,_,_=>.fail
  |.av (.ak (.d (.fn g bv)))=>match C.bJ g,iL st vs with
    |some S,some a=>oh dst st S {a with as:=a.as++kP bv}
    |_,_=>.fail
  |_=>.fail
def yQ(t:aB)(xs:List (den t))(n:Nat):List aw:=match u3 t with
 |some z=>(List.range n).flatMap fun j=>ci (enc t (xs.getD j z))
 |none=>[]
def rH(t:aB):List aw->Option (List (den t))
 |[]=>some []
 |.d d::O=>match dec t [d],rH t O with
  |some x,some xs=>some (x::xs)
  |_,_=>none
 |_=>none
def long{aA:Type}(n:Nat)(xs:List aA):Option (List aA):=if xs.length=n then some xs else none
def pn(o:Nat)(st:ab)(t:aB)(n:Nat)(xs:List (den t)):c':=bif xs.length.beq n&&Nat.ble n 1000 then .eU (bQ (.er o (aR st o) t 0 0)) [(o,.row (aR st o) t xs)] else .fail
def qU(o:Nat)(st:ab)(t:aB)(n:Nat):c':=match u3 t with
 |some z=>pn o st t n (List.replicate n z)
 |none=>.fail
def rK(o:Nat)(st:ab)(t:aB)(n:Nat)(v:aF):c':=match v with
 |.av (.agg O)=>match rH t O with
  |some xs=>pn o st t n xs
  |none=>.fail
 |_=>.fail
def q8(st:ab)(t:aB)(n:Nat)(a:aF):c':=match a with
 |.av (.ak (.er o s u 0 0))=>match rowOf st o s with
  |some ⟨be,xs⟩=>if be=t/\be=u then .eh (long n xs) fun xs=>.av (.agg (yQ be xs n)) else .fail
  |none=>.fail
 |_=>.fail
def qF(st:ab)(t:aB)(n:Nat)(a:aF)(v:bt):c':=match a,v with
 |.av (.ak (.er o s u 0 0)),.agg O=>match st.M o with
  |some (.row ag be xs)=>if be=t/\be=u/\ag=s then(match rH be O with
   |some ys=>bif ys.length.beq n then .ee (long n xs) (fun _=>bQ (.cx undef)) fun _=>[(o,.row s be ys)] else .fail
   |none=>.fail) else .fail
  |_=>.fail
 |_,_=>.fail
def qc(C:Ctx)(st:ab)(t:aB)(n:Nat)(x:aF)(i:Int):c':=match x with
 |.av (.ak (.er o s u 0 0))=>match rowOf st o s with
  |some ⟨be,xs⟩=>if be=t/\be=u then .eh ((long n xs).bind fun xs=>e0 xs.length i) fun k=>bQ (.er o s be k 0) else .fail
  |none=>.fail
 |.av (.ak (.cx (.pointer (some ⟨g,0,none⟩))))=>match C.gt g with
  |some ⟨be,xs⟩=>bif decide (be=t)&&xs.length.beq n then .eh (bf xs i) fun x=>bQ (.eS (enc be x) 0) else .fail
  |none=>.fail
 |_=>.fail
def CX(t:aB)(n:Nat)(x:aF)(i:Int):c':=match x with
 |.av (.agg O)=>match rH t O with
  |some xs=>bif xs.length.beq n then .eh (bf xs i) fun x=>(match enc t x with|[d]=>bQ (.d d)|_=>bQ .any) else .fail
  |none=>.fail
 |_=>.fail
def qK(st:ab)(t:aB)(n:Nat)(x:aF)(ce af:Option aF):c':=match x with
 |.av (.ak (.er o s u 0 0))=>match rowOf st o s,hE 0 ce,hE n af with
  |some ⟨be,xs⟩,some l,some h=>if be=t/\be=u then .ee ((long n xs).bind fun xs=>cO xs l h) (fun r=>bQ (.d (.sl be r))) fun _=>lG st o s be xs else .fail
  |_,_,_=>.fail
 |_=>.fail
def kN(C:Ctx)(st:ab)(D:Oper):c':=
 match D.op with
 |.makeMap t r=>match D.dst,C.tt t with
  |some o,.map _ _ ty=>match r with
   |none=>.eU (bQ (.own o (aR st o))) [(o,xI (aR st o) ty)]
   |some x=>match aI C st 0 x with
    |.av (.ak (.d (.int _ _)))=>.eU (bQ (.own o (aR st o))) [(o,xI (aR st o) ty)]
    |_=>.fail
  |_,_=>.fail
 |.mapUpdate t m k x=>qO C st t m k x
 |.insert t m k x=>qO C st t m k x
 |.lookup t m k c=>match C.tt t,aI C st t m,aI C st 0 k with
  |.map _ _ ty,.av (.ak l),.av (.ak (.d (.str n)))=>match mapOf st l with
   |some ⟨u,es⟩=>bif decide (u=ty) then(match rf u (dm es n) with
    |some d=>.ok (bif c then .iX [.ak (.d d),.ak (.d (.bool (dm es n).isSome))] else one d)
    |none=>.fail) else .fail
   |none=>match ty,n9 st l,D.dst with
    |.strs,some (o,s,es),some d=>bif c||o.beq d then .fail else .ee (o4 es n) (fun _=>bQ (.own d (aR st d))) fun r=>[(o,.ef s r.1),(d,.row (aR st d) .str r.2)]
    |_,_,_=>.fail
  |_,_,_=>.fail
 |.makeInterface t x=>match C.tt t,aI C st t x with
  |.struct _ _ _ _,.av (.agg [.d (.int .i64 n)])=>.ok (one (.err t (some n)))
  |_,_=>.fail
 |_=>.fail
where
 qO (C:Ctx) (st:ab) (t:TypeId) (m k x:Operand):c':=match C.tt t,aI C st t m,aI C st 0 k,aI C st 0 x with
  |.map _ _ ty,.av (.ak (.own o s)),.av (.ak (.d (.str n))),.av (.ak (.d d))=>match st.M o with
   |some (.map ag u es)=>bif ag.beq s&&decide (u=ty) then(match Dq u d with
    |some v=>.eU (bQ (.cx undef)) [(o,.map s u (cT es n v))]
    |none=>.fail) else .fail
   |_=>.fail
  |.map _ _ .strs,.av (.ak (.own o s)),.av (.ak (.d (.str n))),.av (.ak (.own E u))=>match st.M o,st.M E with
   |some (.ef ag es),some (.row bW .str ys)=>bif ag.beq s&&bW.beq u then .eU (bQ (.cx undef)) [(E,.dead u),(o,.ef s (cT es n (some ys)))] else .fail
   |_,_=>.fail
  |_,_,_,_=>.fail
def step(C:Ctx)(st:ab)(D:Oper):c':=
 match D.op with
 |.move x|.assign x=>.ok (aI C st D.type x)
 |.pick c a b=>match aI C st D.type c with
  |.av (.ak (.d (.bool true)))=>.ok (aI C st D.type a)
  |.av (.ak (.d (.bool false)))=>.ok (aI C st D.type b)
  |_=>.fail
 |.alloc elem=>match D.dst,C.tt elem with
  |some o,.arr _ t n=>qU o st t n
  |some o,ti=>match ti.zero with
   |some z=>.eU (bQ (.ptr o (aR st o) 0)) [(o,.box (aR st o) (bif elem.beq pQ then tr z else z))]
   |none=>.fail
  |_,_=>.fail
 |.box elem x=>match D.dst,C.tt elem with
  |some o,.arr _ t n=>rK o st t n (aI C st elem x)
  |some o,_=>match lI (aI C st elem x) with
   |some a=>bif gz a.cells then .eU (bQ (.ptr o (aR st o) 0)) [(o,.box (aR st o) a.cells)] else .fail
   |none=>.fail
  |_,_=>.fail
 |.build t parts=>match C.tt t with
  |.struct bJ _ z _=>mj C st bJ z parts.toList
  |.arr _ ty n=>match rL ty with
   |some z=>mj C st ((List.range n).map fun j=>(j,1)) (List.replicate n z) parts.toList
   |none=>.fail
  |_=>.fail
 |.buildSlice t len parts=>match D.dst,C.tt t with
  |some o,.slice e ty _=>bif parts.toList.length.beq len&&n6 0 parts.toList&&Nat.ble (len*au ty) 1000 then
    match mo (parts.toList.map fun p=>aI C st e p.2) with
    |some as=>match bif C.dY&&ty.ho then mf ty st as else none with
     |some (xs,us)=>bif eO (keys us)&&(look us o).isNone then .eU (bQ (.own o (aR st o))) (us++[(o,.deep (aR st o) ty xs)]) else .fail
     |none=>match k0 ty st as with
      |some (xs,us)=>.eU (bQ (.own o (aR st o))) (us++[(o,.row (aR st o) ty xs)])
      |none=>.fail
    |none=>.fail
   else .fail
  |_,_=>.fail
 |.load t a=>match C.tt t with
  |.arr _ ty n=>q8 st ty n (aI C st t a)
  |ti=>bif ti.known then q7 ti.agg ti.size st (aI C st t a) else .fail
 |.store t a x=>match lI (aI C st t x) with
  |some v=>match C.tt t with
   |.arr _ ty n=>qF st ty n (aI C st t a) v
   |ti=>bif ti.known then qE ti.size st (aI C st t a) v else .fail
  |none=>.fail
 |.nilCheck x=>match aI C st D.type x with
  |.av (.ak (.ptr o s f))=>.ok (bQ (.ptr o s f))
  |.av (.ak (.eS cs f))=>.ok (bQ (.eS cs f))
  |.av (.ak (.er o s t k f))=>.ok (bQ (.er o s t k f))
  |_=>.fail
 |.binOp op t x y _=>bif xN y then C2 op (C.tt t) (aI C st t x) else D3 op (C.tt t) (aI C st t x) (aI C st t y)
 |.unOp op _ x=>match op,aI C st D.type x with
  |.not,.av (.ak (.d (.bool b)))=>.ok (one (.bool (!b)))
  |.neg,.av (.ak (.d (.int k n)))=>.ok (one (.int k (k.wrap (0-n))))
  |.xor,.av (.ak (.d (.int k n)))=>.ok (one (.int k (rk k (if k.signed then-1 else k.max) n)))
  |_,_=>.fail
 |.convert src dst x=>(match D.dst with|some o=>rc C src dst o st (aI C st src x)|none=>.fail)
 |.makeFunc fn first captured=>match fn with
  |.func g=>bif first.toList.isEmpty then(match nk C st captured.toList with|some bv=>.ok (bQ (.clo g bv))|none=>.fail) else .fail
  |_=>.fail
 |.makeSlice t l c=>match D.dst,C.tt t,aI C st 0 l,aI C st 0 c with
  |some o,.slice e ty bytes,.av (.ak (.d (.int _ n))),.av (.ak (.d (.int _ m)))=>match(C.tt e).zero with
   |some z=>po C.dY bytes o st ty n m z
   |none=>.fail
  |_,_,_,_=>.fail
 |.slice t x ce af zv=>match zv with
  |none=>match C.tt t with
   |.arr _ ty n=>qK st ty n (aI C st t x) (ce.map (aI C st 0)) (af.map (aI C st 0))
   |ti=>bif qP st (aI C st t x) then(match D.dst with
    |some d=>qJ ti d st (aI C st t x) (ce.map (aI C st 0)) (af.map (aI C st 0))
    |none=>.fail) else qI ti st (aI C st t x) (ce.map (aI C st 0)) (af.map (aI C st 0))
  |some _=>.fail
 |.fieldAddr s x f=>match C.tt s with
  |.struct bJ _ _ _=>match bJ[f]? with
   |some (off,_)=>z6 off (aI C st 0 x)
   |none=>.fail
  |_=>.fail
 |.indexAddr t x i=>match C.tt t,aI C st 0 i with
  |.slice _ ty _,.av (.ak (.d (.int _ n)))=>qb ty st (aI C st t x) n
  |.arr _ ty m,.av (.ak (.d (.int _ n)))=>qc C st ty m (aI C st t x) n
  |_,_=>.fail
 |.index t x i=>match C.tt t,aI C st t x,aI C st 0 i with
  |.str,.av (.ak (.d (.str s))),.av (.ak (.d (.int _ n)))=>.eh (bf s n) fun b=>one (.int .u8 b.toNat)
  |.arr _ ty m,v,.av (.ak (.d (.int _ n)))=>CX ty m v n
  |_,_,_=>.fail
 |.extract t i=>match aI C st 0 t with
  |.iX as=>match as[i]? with
   |some a=>.ok (.av a)
   |none=>.fail
  |_=>.fail
 |.call c=>match c.callee with
  |.value f=>match D.dst with
   |some d=>ln C d st (aI C st 0 f) (gu C st c.args.toList c.argTypes.toList)
   |none=>ln C 0 st (aI C st 0 f) (gu C st c.args.toList c.argTypes.toList)
  |.builtin b=>match b,D.dst,c.args.toList,c.argTypes.toList with
   |.len,_,[x],[t]=>ry (C.tt t) st (aI C st t x)
   |.append,some o,[s,x],[t,u]=>match C.tt t,C.tt u with
    |.slice _ ty bytes,.slice _ _ _=>bif tg st (aI C st u x) then qC bytes ty o st (aI C st t s) (aI C st u x) else qA bytes ty o st (aI C st t s) (aI C st u x)
    |.slice _ ty bytes,.str=>qB bytes ty o st (aI C st t s) (aI C st u x)
    |_,_=>.fail
   |.max,_,[x,y],_=>match aI C st D.type x,aI C st D.type y with
    |.av (.ak (.d (.int k a))),.av (.ak (.d (.int _ b)))=>.ok (one (.int k (gS a b)))
    |_,_=>.fail
   |.max,_,[x,y,z,u,v],_=>match aI C st D.type x,aI C st D.type y,aI C st D.type z,aI C st D.type u,aI C st D.type v with
    |.av (.ak (.d (.int k a))),.av (.ak (.d (.int _ b))),.av (.ak (.d (.int _ c))),.av (.ak (.d (.int _ d))),.av (.ak (.d (.int _ e)))=>.ok (one (.int k (gS (gS (gS (gS a b) c) d) e)))
    |_,_,_,_,_=>.fail
   |.min,_,[x,y],_=>match aI C st D.type x,aI C st D.type y with
    |.av (.ak (.d (.int k a))),.av (.ak (.d (.int _ b)))=>.ok (one (.int k (yD a b)))
    |_,_=>.fail
   |_,_,_,_=>.fail
  |_=>.fail
 |_=>kN C st D
where
 mj (C:Ctx) (st:ab) (bJ:List (Nat×Nat)):List aw->List (Nat×Operand)->c'
  |z,[]=>.ok (.av (.agg z))
  |z,(i,x)::r=>match bJ[i]?,lI (aI C st 0 x) with
   |some (off,n),some a=>bif a.cells.length.beq n&&gz a.cells&&Nat.ble (off+n) z.length then mj C st bJ (b' z off a.cells) r else .fail
   |_,_=>.fail
 nk (C:Ctx) (st:ab):List Operand->Option (List (Nat×Nat))
  |[]=>some []
  |x::r=>match aI C st 0 x,nk C st r with
   |.av (.ak (.ptr o s 0)),some l=>some ((o,s)::l)
   |_,_=>none
def CH(C:Ctx)(st:ab)(D:Oper):Option (((t:aB)×List (den t))×Bool):=
 match D.op with
 |.binOp op T x (.const (.slice none 0 0)) _=>match C.tt T with
  |.slice _ _ _=>match op with
   |.eql=>match aI C st T x with
    |.av (.ak (.d (.sl t xs)))=>some (⟨t,xs⟩,false)
    |_=>none
   |.neq=>match aI C st T x with
    |.av (.ak (.d (.sl t xs)))=>some (⟨t,xs⟩,true)
    |_=>none
   |_=>none
  |_=>none
 |_=>none
def aw.names:aw->List Nat
 |.own o _|.ptr o _ _|.er o _ _ _ _=>[o]
 |.clo _ bv=>keys bv
 |_=>[]
def cD:List aw->List Nat
 |[]=>[]
 |l::O=>l.names++cD O
def n2:List bt->List Nat
 |[]=>[]
 |a::as=>cD a.cells++n2 as
def aF.names:aF->List Nat
 |.av a=>cD a.cells
 |.iX as=>n2 as
def vy(st:ab)(o:Nat):List Nat:=match st.M o with
 |some (.box _ cells)=>cD cells
 |_=>[]
def ev(st:ab):List Nat->List Nat
 |[]=>[]
 |o::r=>o::(vy st o++ev st r)
def kU:Op->List Operand
 |.move x|.assign x|.makeInterface _ x|.box _ x|.load _ x|.nilCheck x|.unOp _ _ x|.convert _ _ x|.fieldAddr _ x _|.extract x _=>[x]
 |.pick c a b=>[c,a,b]
 |.build _ ps|.buildSlice _ _ ps=>ps.toList.map (·.2)
 |.store _ a v|.binOp _ _ a v _|.makeSlice _ a v|.indexAddr _ a v|.index _ a v=>[a,v]
 |.makeFunc _ _ captured=>captured.toList
 |.slice _ x l h _=>x::(l.toList++h.toList)
 |.call c=>(match c.callee with|.value f=>[f]|_=>[])++c.args.toList
 |.lookup _ m k _=>[m,k]
 |.mapUpdate _ m k x|.insert _ m k x=>[m,k,x]
 |.makeMap _ r=>r.toList
 |_=>[]
def m9(st:ab):List Operand->List Nat
 |[]=>[]
 |.tmp t::r=>(st.get t).names++m9 st r
 |_::r=>m9 st r
def n5:List Operand->List Nat
 |[]=>[]
 |.tmp t::r=>t::n5 r
 |_::r=>n5 r
def xO:Op->Bool
 |.call c=>match c.callee with
  |.value _=>true
  |_=>false
 |_=>false
def C8(C:Ctx):Op->List Nat
 |.makeSlice t _ _=>match C.tt t with
  |.slice e _ _=>match(C.tt e).zero with
   |some z=>cD z
   |none=>[]
  |_=>[]
 |_=>[]
def looks:Op->Bool
 |.load _ _|.store _ _ _|.slice _ _ _ _ _|.indexAddr _ _ _|.convert _ _ _|.buildSlice _ _ _|.call _|.lookup _ _ _ _|.mapUpdate _ _ _ _|.insert _ _ _ _=>true
 |_=>false
def Dh(C:Ctx)(st:ab)(D:Oper):List Nat:=(bif looks D.op then ev st (m9 st (kU D.op)) else [])++D.dst.toList++C8 C D.op
def If(u:Nat):List Oper->List Nat
 |[]=>[]
 |D::r=>(match D.op,D.dst with
  |.move (.tmp t),some d=>bif Nat.beq d u then [t] else []
  |_,_=>[])++If u r
def AK(all:List Oper):List Oper->List Nat
 |[]=>[]
 |D::r=>(match D.op with
  |.slice _ (.tmp u) _ _ _=>u::If u all
  |_=>[])++AK all r
def KO(st:ab)(t:Nat):List (Nat×Site):=match st.get t with
 |.av (.ak (.own o s))=>match st.M o with
  |some (.row ag t xs)=>bif ag.beq s then [(o,.c0 ag t xs)] else []
  |_=>[]
 |_=>[]
def x2(st:ab):List Nat->List (Nat×Site)
 |[]=>[]
 |t::r=>KO st t++x2 st r
def ab.hF(st:ab):List (Nat×Site)->ab
 |[]=>st
 |(o,s)::r=>(st.c7 o s).hF r
def ab.cK(st:ab)(dst:Option Nat)(v:aF)(us:List (Nat×Site)):ab:=
 match dst with
 |some t=>(st.hF us).set t v
 |none=>st.hF us
def b2(st:ab):Option Nat->Bool
 |some t=>Nat.blt t st.bl
 |none=>true
abbrev xo:aF:=bQ (.cx undef)
section
variable {R:Type}
open Classical in
noncomputable def sG{t:aB}(xs:List (den t))(a b:Option R):Option R:=if xs=[]->a=b then b else none
def kc(C:Ctx)(st:ab)(D:Oper)(K:ab->Option R):Option R:=
 bif b2 st D.dst then(step C st D).comp.bind fun y=>bif(step C st D).pT y then K (st.cK D.dst ((step C st D).val y) ((step C st D).us y)) else none else none
noncomputable def tu(C:Ctx)(st:ab)(D:Oper)(K:ab->Option R):Option R:=
 match CH C st D with
 |some (⟨t,xs⟩,neg)=>bif b2 st D.dst then sG xs (K (st.cK D.dst (one (.bool (!neg))) [])) (K (st.cK D.dst (one (.bool neg)) [])) else none
 |none=>kc C st D K
def qL(st:ab)(D:Oper)(K:ab->Option R):Option R:=
 bif b2 st D.dst then K (st.cK D.dst xo []) else none
noncomputable def s8(C:Ctx)(ops:Array Oper)(st:ab)(D:Oper)(K:ab->Option R):Option R:=
 match D.guard with
 |none=>tu C st D K
 |some (j,want)=>match(ops[j]?).bind (·.dst) with
  |some t=>match st.get t with
   |.av (.ak (.d (.bool b)))=>bif(bif want then b else !b) then tu C (st.set t (one (.bool want))) D K else qL (st.set t (one (.bool (!want)))) D K
   |.av (.ak (.cx (.tuple _)))=>qL st D K
   |_=>none
  |none=>none
structure ph:Type 1 where
 o:Nat
 s:Nat
 t:aB
 xs:List (den t)
 k:Nat
 off:Nat
 S:bp
 i:IntKind
 n:Int
 d1:Nat
 dY:Nat
 v:aF
def ab.nr(st:ab)(q:ph):ab:=(st.set q.d1 (bQ .any)).set q.dY q.v
def tf(C:Ctx)(st:ab)(D:Oper):Option (Nat×aF):=match D.op,D.dst,D.guard with
 |.move x,some dY,none=>bif Nat.blt dY st.bl then some (dY,aI C st D.type x) else none
 |_,_,_=>none
def q4(C:Ctx)(st:ab)(o1 gw o2:Oper):Option ph:=
 match o1.op,o1.dst,o1.guard,o2.op,o2.guard with
 |.load T a,some d1,none,.call c,none=>match aI C st T a with
  |.av (.ak (.er o s u k off))=>match st.M o,c.callee,c.args.toList with
   |some (.deep ag t xs),.value (.func g),[.tmp d2,x]=>match tf C (st.set d1 (bQ .any)) gw with
    |some (dY,v)=>match C.tt T,aI C ((st.set d1 (bQ .any)).set dY v) 0 x,C.bJ g with
     |.slice _ _ _,.av (.ak (.d (.int i n))),some S=>bif d2.beq d1&&ag.beq s&&decide (t=u)&&Nat.blt d1 st.bl&&!dY.beq d1 then some ⟨o,ag,t,xs,k,off,S,i,n,d1,dY,v⟩ else none
     |_,_,_=>none
    |none=>none
   |_,_,_=>none
  |_=>none
 |_,_,_,_,_=>none
def Ks(st:ab)(o2:Oper)(q:ph)(x:den q.t)(K:ab->Option R):List bt->List (List aw)->List aw->Option R
 |[.ak (.d d)],[],[.fresh bW mx]=>match dec q.t (b' (enc q.t x) q.off [.sl bW mx]) with
  |some dd=>bif d.hs&&!bW.ho&&b2 st o2.dst then K ((st.nr q).cK o2.dst (one d) [(q.o,.deep q.s q.t (q.xs.set q.k dd))]) else none
  |none=>none
 |_,_,_=>none
def I4(st:ab)(o2:Oper)(q:ph)(K:ab->Option R):Option R:=
 (q.xs[q.k]?).bind fun x=>match(enc q.t x)[q.off]? with
  |some (.sl u ys)=>(q.S [.av (.ak (.fresh u ys)),.av (.ak (.d (.int q.i q.n)))]).comp.bind fun y=>
    Ks st o2 q x K ((q.S [.av (.ak (.fresh u ys)),.av (.ak (.d (.int q.i q.n)))]).eT y) ((q.S [.av (.ak (.fresh u ys)),.av (.ak (.d (.int q.i q.n)))]).dP y) ((q.S [.av (.ak (.fresh u ys)),.av (.ak (.d (.int q.i q.n)))]).eC y)
  |_=>none
noncomputable def mg(C:Ctx)(ops:Array Oper):List Oper->ab->(ab->Option R)->Option R
 |[],st,K=>K st
 |[D],st,K=>s8 C ops st D K
 |[D,o2],st,K=>s8 C ops st D fun aa=>mg C ops [o2] aa K
 |D::gw::o2::r,st,K=>match q4 C st D gw o2 with
  |some q=>I4 st o2 q fun aa=>mg C ops r aa K
  |none=>s8 C ops st D fun aa=>mg C ops (gw::o2::r) aa K
structure Rec where
 D:Oper
 go:Bool
 v:aF
 us:List (Nat×Site)
 kz:List Nat
 rn:List Nat
 zp:Bool
def tl:List Nat->Bool
 |[]=>false
 |n::r=>Nat.ble 1000000 n||tl r
def ru(d:Option Nat)(l:List Nat):Bool:=match d with|some d=>fN d l|none=>false
def lC(a b:Rec):Bool:=
 ru a.D.dst b.kz||ru a.D.dst b.D.dst.toList||ru b.D.dst a.kz||
 !fa (keys a.us) (b.rn++keys b.us)||!fa (keys b.us) a.rn||(a.zp&&tl (keys b.us))||(b.zp&&tl (keys a.us))
def ki(bs:List (Nat×Nat)):List Edge->Nat
 |[]=>0
 |e::r=>bif Region.binds .any e then(match look bs e.on with|some x=>Nat.lor (Nat.pow 2 e.on) (Nat.lor x (ki bs r))|none=>ki bs r) else ki bs r
def qz(i:Nat):List Edge->Bool
 |[]=>true
 |e::r=>(!Region.binds .any e||Nat.blt e.on i)&&qz i r
def qN(uU:Nat)(x:Rec):List (Nat×Rec)->Bool
 |[]=>true
 |(j,y)::r=>(Nat.testBit uU j||!lC y x)&&qN uU x r
def Je(i:Nat):List Oper->Bool
 |[]=>false
 |D::r=>(match D.guard with|some (j,_)=>Nat.beq i j|none=>false)||Je i r
def DE(g:Bool)(v:aF)(K:aF->Option R):Option R:=
 bif g then(match v with
  |.av (.ak (.d (.bool b)))=>bif b then K (one (.bool true)) else K (one (.bool false))
  |v=>K v) else K v
def xj(C:Ctx)(g:Bool)(st:ab)(D:Oper)(gs:List Nat)(K:Rec->Option R):Option R:=
 (step C st D).comp.bind fun y=>bif(step C st D).pT y then DE g ((step C st D).val y) fun v=>
  K ⟨D,true,v,(step C st D).us y,gs++n5 (kU D.op),Dh C st D,xO D.op⟩ else none
def Ba(D:Oper)(gs:List Nat)(K:Rec->Option R):Option R:=K ⟨D,false,xo,[],gs,[],false⟩
def C4(C:Ctx)(ops:Array Oper)(g:Bool)(st:ab)(D:Oper)(K:Rec->Option R):Option R:=
 match D.guard with
 |none=>xj C g st D [] K
 |some (j,want)=>match(ops[j]?).bind (·.dst) with
  |some t=>match st.get t with
   |.av (.ak (.d (.bool b)))=>bif(bif want then b else !b) then xj C g st D [t] K else Ba D [t] K
   |.av (.ak (.cx (.tuple _)))=>Ba D [t] K
   |_=>none
  |none=>none
def x8(C:Ctx)(ops:Array Oper):List Oper->Nat->List (Nat×Rec)->List (Nat×Nat)->ab->(ab->Option R)->Option R
 |[],_,_,_,st,K=>K st
 |D::r,i,b0,bs,st,K=>bif b2 st D.dst&&qz i D.after.toList then C4 C ops (Je i r) st D fun x=>
   bif qN (ki bs D.after.toList) x b0 then x8 C ops r (i+1) ((i,x)::b0) ((i,ki bs D.after.toList)::bs) (st.cK D.dst x.v x.us) K else none
  else none
def Jl(C:Ctx)(ops:Array Oper)(st:ab)(K:ab->Option R):Option R:=x8 C ops ops.toList 0 [] [] (st.hF (x2 st (AK ops.toList ops.toList))) K
inductive Out:Type where
 |norm (st:ab)
 |exit (id:Nat) (st:ab)
 |ret (st:ab)
structure aaL:Type 1 where
 F:Type
 comp:Option F
 out:F->Out
 run:(R:Type)->F->(Out->Option R)->Option R
 run_eq:∀(R:Type) (y:F) (K:Out->Option R),run R y K=K (out y)
abbrev ha:=ab->aaL
structure hI:Type 1 extends Ctx where
 nE:Nat->Option ha
def wrap(C:hI)(p:Nat)(st:ab)(K:Out->Option R)(x:Option R):Option R:=
 match C.nE p with
 |some f=>(f st).comp.bind fun y=>(f st).run R y K
 |none=>x
noncomputable def exec(C:hI):Code->Nat->ab->(Out->Option R)->Option R
 |.skip,_,st,K=>K (.norm st)
 |.region _ ops false,p,st,K=>wrap C p st K (mg C.toCtx ops ops.toList st fun aa=>K (.norm aa))
 |.region _ ops true,p,st,K=>wrap C p st K (Jl C.toCtx ops st fun aa=>K (.norm aa))
 |.seq a b,p,st,K=>wrap C p st K (exec C a (2*p) st fun
  |.norm aa=>exec C b (2*p+1) aa K
  |D=>K D)
 |.cond c a b,p,st,K=>wrap C p st K (match aI C.toCtx st 0 c with
  |.av (.ak (.d (.bool t)))=>bif t then exec C a (2*p) st K else exec C b (2*p+1) st K
  |_=>none)
 |.block id c,p,st,K=>wrap C p st K (exec C c (2*p) st fun
  |.exit iy aa=>bif iy.beq id then K (.norm aa) else K (.exit iy aa)
  |D=>K D)
 |.loop _,p,st,K=>wrap C p st K none
 |.rangeFunc _ _ _ _,p,st,K=>wrap C p st K none
 |.exit id,_,st,K=>K (.exit id st)
 |.ret,_,st,K=>K (.ret st)
 |_,_,_,_=>none
end
section
variable {B ax:Nat->Value}{sites bd:List (Nat×Site)}{w w':World}{av bE:Nat->Prop}
structure gW(B ax:Nat->Value)(sites bd:List (Nat×Site))(w w':World)(av bE:Nat->Prop):Prop where
 ref:∀o M,look sites o=some M->∃bm,look bd o=some bm/\M.bT<=bm.bT/\(bm.bT=M.bT->bD (ax o)=bD (B o))
 aZ:∀b,¬av b->b<w.heap.size->w'.heap[b]? =w.heap[b]?
 av:∀b,¬av b->b<w.heap.size->¬bE b
theorem Rd.goes{d:aK}{v:Value}(bC:gW B ax sites bd w w' av bE)(L:w.heap.size<=w'.heap.size)(agv:∀b,bE b->b<w'.heap.size)(r:Rd w av d v):Rd w' bE d v:=by
 induction r with
 |int k n=>exact .int k n
 |bool b=>exact .bool b
 |str l s h=>exact .str l s h
 |nil t=>exact .nil t
 |sl t xs a cap cs n hn hcap hb hl hc _ ih=>
  have key:xs≠[]->a.block<w.heap.size:=by
   intro cF;have nw:0<cs.length:=by
    rw[hl,dD];exact Nat.mul_pos (List.length_pos_iff.mpr cF) (iJ t)
   have:=hc 0 (cs[0]) (List.getElem?_eq_getElem nw);have h2:=World.block_lt_of_cell? w _ this;have fv:(a.add 0).block=a.block:=by unfold Addr.add;split<;>rfl
   rwa[fv] at h2
  refine .sl t xs a cap cs n hn hcap (fun hx=>bC.av _ (hb hx) (key hx)) hl (fun j u hu=>?_) ih
  have is:=hc j u hu;have cF:xs≠[]:=by
   rintro rfl;have:cs=[]:=List.eq_nil_of_length_eq_zero (by simpa[flat] using hl)
   subst this;simp at hu
  have fv:(a.add j).block=a.block:=by unfold Addr.add;split<;>rfl
  rw[World.cell?_of_block (w:=w) (a:=a.add j) (by rw[fv];exact bC.aZ _ (hb cF) (key cF))]
  exact is
 |fn g bv bs iG oO zb gF hb ba hl hc _ ih=>
  refine .fn g bv bs iG oO zb gF (fun b hm=>bC.av b (hb b hm) (ba b hm)) (fun b hm=>Nat.lt_of_lt_of_le (ba b hm) L) hl (fun i af j u hu=>?_) ih
  have is:=hc i af j u hu;have hm:bs[i]∈bs:=List.getElem_mem af;rw[World.cell?_of_block (w:=w) (a:=⟨bs[i],j,none⟩) (bC.aZ _ (hb _ hm) (ba _ hm))];exact is
 |pq t=>exact .pq t
 |pv T=>exact .pv T
 |err T n=>exact .err T n
 |map t es b aC hb hm=>exact .map t es b aC (bC.av b hb hm.lt) (hm.of (bC.aZ b hb hm.lt))
 |maps es b arr clock ps hb hm ah hn hl _ ih=>have ba:=(Array.getElem?_eq_some_iff.1 hm).1;exact .maps es b arr clock ps (bC.av b hb ba) ((bC.aZ b hb ba).trans hm) ah hn hl ih
theorem Ref.goes{o s:Nat}{p pZ:Prop}(bC:gW B ax sites bd w w' av bE)(h:Ref sites o s p)(am:bD (ax o)=bD (B o)->p->pZ):Ref bd o s pZ:=by
 obtain⟨M,h1,h2,Y⟩:=h;obtain⟨bm,g1,g2,g3⟩:=bC.ref o M h1;refine⟨bm,g1,Nat.le_trans h2 g2,fun e=>?_⟩
 have:bm.bT=M.bT:=by omega
 exact am (g3 this) (Y (by omega))
theorem dl.goes{l:aw}{v:Value}(bC:gW B ax sites bd w w' av bE)(L:w.heap.size<=w'.heap.size)(bV:∀b,bE b->b<w'.heap.size)(h:dl B sites w av l v):dl ax bd w' bE l v:=by
 cases l with
 |d x=>exact Rd.goes bC L bV h
 |nil t=>exact h
 |own o s=>exact⟨h.1,Ref.goes bC h.2 (fun e p=>by rw[e];exact p)⟩
 |ptr o s off=>obtain⟨b,h1,h2⟩:=h;exact⟨b,h1,Ref.goes bC h2 (fun e p=>by rw[e];exact p)⟩
 |eS cells off=>
  obtain⟨b,D,Z,hb,ba,cs,hl,hc,hr⟩:=h;refine⟨b,D,Z,bC.av b hb ba,Nat.lt_of_lt_of_le ba L,cs,hl,fun j u hu=>?_,fun j h1 h2=>(hr j h1 h2).goes bC L bV⟩
  have is:=hc j u hu;rw[World.cell?_of_block (w:=w) (a:=⟨b,D+j,none⟩) (bC.aZ b hb ba)];exact is
 |er o s t k off=>obtain⟨b,D,h1,h2⟩:=h;exact⟨b,D,h1,Ref.goes bC h2 (fun e p=>by rw[e];exact p)⟩
 |clo g bv=>
  obtain⟨vs,Z,hl,hr⟩:=h;exact⟨vs,Z,hl,fun i h1 h2=>Ref.goes bC (hr i h1 h2) (fun e p=>p.trans e.symm)⟩
 |cx u=>exact h
 |fresh t xs=>exact h
 |hW t xs=>exact h
 |ez=>trivial
 |any=>trivial
theorem gm.goes{a:bt}{v:Value}(bC:gW B ax sites bd w w' av bE)(L:w.heap.size<=w'.heap.size)(bV:∀b,bE b->b<w'.heap.size)(h:gm B sites w av a v):gm ax bd w' bE a v:=by
 cases a with
 |ak l=>exact dl.goes bC L bV h
 |agg O=>
  obtain⟨vs,Z,hl,hr⟩:=h;exact⟨vs,Z,hl,fun j h1 h2=>(hr j h1 h2).goes bC L bV⟩
theorem b4.goes{a:aF}{v:Value}(bC:gW B ax sites bd w w' av bE)(L:w.heap.size<=w'.heap.size)(bV:∀b,bE b->b<w'.heap.size)(h:b4 B sites w av a v):b4 ax bd w' bE a v:=by
 cases a with
 |av a=>exact gm.goes bC L bV h
 |iX as=>
  obtain⟨vs,Z,hl,hr⟩:=h;exact⟨vs,Z,hl,fun j h1 h2=>(hr j h1 h2).goes bC L bV⟩
theorem ch.goes{ds:List aK}{vs:List Value}(bC:gW B ax sites bd w w' av bE)(L:w.heap.size<=w'.heap.size)(bV:∀b,bE b->b<w'.heap.size)(h:ch w av ds vs):ch w' bE ds vs:=
 ⟨h.1,fun j h1 h2=>(h.2 j h1 h2).goes bC L bV⟩
theorem Deep.goes{ds:List aK}{cs ap:List Value}(bC:gW B ax sites bd w w' av bE)(L:w.heap.size<=w'.heap.size)(bV:∀b,bE b->b<w'.heap.size)(h:Deep w av ds cs ap):
  (∀n,n∈ap->∀b,Jk.aZ n=some b->w'.heap[b]? =w.heap[b]?)->Deep w' bE ds cs ap:=by
 induction h with
 |nil=>intro _;exact .nil
 |row u ys e O am h hr _ ih=>intro ah;exact .row u ys e O am (m3 h (ah _ List.mem_cons_self)) (hr.goes bC L bV) (ih fun n hn=>ah n (List.mem_cons_of_mem _ hn))
 |leaf am h _ ih=>intro ah;exact .leaf am (h.goes bC L bV) (ih ah)
theorem fx.goes{ps:List (G×Value)}{es:List (G×Option (List G))}{ap:List Value}(bC:gW B ax sites bd w w' av bE)(L:w.heap.size<=w'.heap.size)(bV:∀b,bE b->b<w'.heap.size)(h:fx w av ps es ap):
  (∀n,n∈ap->∀b,Jk.aZ n=some b->w'.heap[b]? =w.heap[b]?)->fx w' bE ps es ap:=by
 induction h with
 |nil=>intro _;exact .nil
 |kZ k v _ ih=>intro ah;exact .kZ k v (ih ah)
 |row k v xs e O h hr _ ih=>intro ah;exact .row k v xs e O (m3 h (ah _ List.mem_cons_self)) (hr.goes bC L bV) (ih fun n hn=>ah n (List.mem_cons_of_mem _ hn))
theorem RF{w w':World}{e:TypeId}{size:Nat}{v:Value}{n:Nat}{xs:List Value}(h:nf w e size v n xs)(hb:∀b,Jk.aZ v=some b->w'.heap[b]? =w.heap[b]?):nf w' e size v n xs:=by
 refine⟨h.1,?_⟩;rcases h.2 with hn|⟨g,D,cap,cur,Z,de,h'⟩
 ·exact .inl hn
 ·refine .inr ⟨g,D,cap,cur,Z,?_,h'⟩;rw[hb g (by rw[Z];rfl)];exact de
theorem hA.goes{o:Nat}{M:Site}(bC:gW B ax sites bd w w' av bE)(L:w.heap.size<=w'.heap.size)(bV:∀b,bE b->b<w'.heap.size)(bw:ax o=B o)
  (hb:M.live=true->∀b,b∈Jk.bb (B o)->w'.heap[b]? =w.heap[b]?) (h:hA B sites w av o M):hA ax bd w' bE o M:=by
 cases M with
 |box s cells=>
  obtain⟨b,T,cur,h1,h2,Y,aP,E1,bq⟩:=h;have:=hb rfl b (fI (by rw[h1];rfl))
  exact⟨b,T,cur,bw.trans h1,this.trans h2,Y,aP,E1,fun j g1 g2=>(bq j g1 g2).goes bC L bV⟩
 |row s t xs=>
  obtain⟨e,cs,h1,h2⟩:=h;refine⟨e,cs,?_,fun j g1 g2=>(h2 j g1 g2).goes bC L bV⟩
  rw[bw];exact m3 h1 fun b cd=>hb rfl b (fI cd)
 |c0 s t xs=>exact⟨by rw[bw];exact Rd.goes bC L bV h.1,by rw[bw];exact h.2⟩
 |map s t es=>
  obtain⟨b,h1,h2⟩:=h;exact⟨b,bw.trans h1,h2.of (hb rfl b (fI (by rw[h1];rfl)))⟩
 |deep s t xs=>
  obtain⟨e,v,ap,cs,h1,h2,Y,aP⟩:=h;have ah:∀b,aZ v=some b\/(∃n,n∈ap/\aZ n=some b)->w'.heap[b]? =w.heap[b]? :=fun b h=>hb rfl b (by rw[h1];exact hj.2 h)
  exact⟨e,v,ap,cs,bw.trans h1,by rw[bw];exact h2,m3 Y fun b h=>ah b (.inl h),aP.goes bC L bV fun n hn b h=>ah b (.inr ⟨n,hn,h⟩)⟩
 |ef s es=>
  obtain⟨b,arr,clock,ap,h1,h2,Y,ps,bq,aP⟩:=h;have ah:∀a8,aZ (.map (some b))=some a8\/(∃n,n∈ap/\aZ n=some a8)->w'.heap[a8]? =w.heap[a8]? :=fun b h=>hb rfl b (by rw[h1];exact hj.2 h)
  exact⟨b,arr,clock,ap,bw.trans h1,by rw[bw];exact h2,(ah b (.inl rfl)).trans Y,ps,bq,aP.goes bC L bV fun n hn b h=>ah b (.inr ⟨n,hn,h⟩)⟩
 |tail s t xs=>
  obtain⟨aQ,e,cs,h1,h2⟩:=h;refine⟨aQ,e,cs,?_,h2.goes bC L bV⟩;rw[bw];exact RF h1 fun b cd=>hb rfl b (fI cd)
 |dead s=>trivial
end
theorem ad.nn{J:World}{H:List Nat}{X:Nat->Prop}{B ax:Nat->Value}{st:ab}{bd:List (Nat×Site)}{tm:Array Value}{w w':World}
  (S:ad J H X B st tm w)
  (pt:∀o M,look st.sites o=some M->∃bm,look bd o=some bm/\M.bT<=bm.bT/\(bm.bT=M.bT->bD (ax o)=bD (B o)))
  (fv:∀b,¬al X B st.sites b->b<w.heap.size->w'.heap[b]? =w.heap[b]?)
  (bV:∀b,¬al X B st.sites b->b<w.heap.size->¬al X ax bd b)
  (aab:(∀{a v},b4 B st.sites w (al X B st.sites) a v->b4 ax bd w' (al X ax bd) a v)->∀o bm,look bd o=some bm->
   (look st.sites o=some bm/\ax o=B o/\(bm.live=true->∀b,b∈bb (B o)->w'.heap[b]? =w.heap[b]?))\/hA ax bd w' (al X ax bd) o bm)
  (ZM:∀o E b,bL bd o->bL bd E->b∈bb (ax o)->b∈bb (ax E)->o=E)
  (ZJ:∀o b,bL bd o->b∈bb (ax o)->¬X b/\(b∈H\/J.heap.size<=b))
  (ba:∀o b,bL bd o->b∈bb (ax o)->b<w'.heap.size)
  (YS:Fr H J w') (L:w.heap.size<=w'.heap.size):
  ad J H X ax {st with sites:=bd} tm w':=by
 have bC:gW B ax st.sites bd w w' (al X B st.sites) (al X ax bd):=⟨pt,fv,bV⟩;have tU:∀b,al X ax bd b->b<w'.heap.size:=by
  rintro b (hx|⟨o,h1,h2⟩)
  ·exact Nat.lt_of_lt_of_le (S.old b hx) L
  ·exact ba o b h1 h2
 refine⟨S.bl,fun t=>(S.cV t).goes bC L tU,fun o bm a_=>?_,ZM,ZJ,YS,fun b h=>Nat.lt_of_lt_of_le (S.old b h) L,S.fO⟩
 rcases aab (fun h=>h.goes bC L tU) o bm a_ with⟨h1,h2,Y⟩|h
 ·exact(S.sites o bm h1).goes bC L tU h2 Y
 ·exact h
def da(tm:Array Value)(dst:Option Nat)(v:Value):Array Value:=
 match dst with
 |some d=>tm.setIfInBounds d v
 |none=>tm
section
variable {P:Program}{K:Act->World->Prop}{Q:Exit->Act->World->Prop}{D:Oper}{tm:Array Value}{w w':World}{vv:Value}
theorem nc(h:(execOp (Act.eval ⟨tm,[]⟩) D).run P w=.ok (.value vv) w')(ah:K ⟨da tm D.dst vv,[]⟩ w'):D.wp P ⟨tm,[]⟩ w K Q:=by
 unfold Oper.wp;rw[h,Oper.upon_value];cases U:D.dst with
 |none=>simp only[U,da] at ah;simpa[Act.put] using ah
 |some d=>simp only[U,da] at ah;simpa[Act.put] using ah
theorem Yb(h:(execOp (Act.eval ⟨tm,[]⟩) D).run P w=.ok .skip w')(ah:K ⟨da tm D.dst undef,[]⟩ w'):D.wp P ⟨tm,[]⟩ w K Q:=by
 unfold Oper.wp;rw[h,Oper.upon_skip];cases U:D.dst with
 |none=>simp only[U,da] at ah;simpa[Act.put] using ah
 |some d=>simp only[U,da] at ah;simpa[Act.put] using ah
end
def aT(sites:List (Nat×Site)):List (Nat×Site)->List (Nat×Site)
 |[]=>sites
 |(o,s)::r=>aT (b5 sites o s) r
theorem ab.sV(st:ab)(us:List (Nat×Site)):st.hF us={st with sites:=aT st.sites us}:=by
 induction us generalizing st with
 |nil=>rfl
 |cons p us ih=>obtain⟨o,s⟩:=p;simp only[ab.hF,aT];rw[ih];rfl
theorem ie(sites:List (Nat×Site))(us vs:List (Nat×Site)):aT sites (us++vs)=aT (aT sites us) vs:=by
 induction us generalizing sites with
 |nil=>rfl
 |cons p us ih=>obtain⟨o,s⟩:=p;simp only[List.cons_append,aT];exact ih _
section
variable {J:World}{H:List Nat}{X:Nat->Prop}{B:Nat->Value}{st:ab}{tm:Array Value}{w:World}
theorem ad.put(S:ad J H X B st tm w){t:Nat}{v:aF}{vv:Value}(aC:t<st.bl)(Z:b4 B st.sites w (al X B st.sites) v vv):
  ad J H X B (st.set t v) (tm.setIfInBounds t vv) w:=by
 refine⟨by simpa using S.bl,fun u=>?_,S.sites,S.df,S.cc,S.frame,S.old,S.fO⟩
 rw[ab.B5];by_cases h:t=u
 ·subst h;simp only[if_true];have:(tm.setIfInBounds t vv).getD t undef=vv:=by
   have h1:t<tm.size:=by rw[S.bl];exact aC
   simp[Array.getD,h1]
  rw[this];exact Z
 ·simp only[h,if_false];have:(tm.setIfInBounds t vv).getD u undef=tm.getD u undef:=by
   simp only[Array.getD_eq_getD_getElem?,Array.getElem?_setIfInBounds,h,if_false]
  rw[this];exact S.cV u
theorem ad.cK{dst:Option Nat}{v:aF}{vv:Value}{us:List (Nat×Site)}(S:ad J H X B {st with sites:=aT st.sites us} tm w)
  (U:b2 st dst=true) (Z:b4 B (aT st.sites us) w (al X B (aT st.sites us)) v vv):ad J H X B (st.cK dst v us) (da tm dst vv) w:=by
 cases dst with
 |none=>simp only[ab.cK,ab.sV,da];exact S
 |some t=>
  simp only[ab.cK,ab.sV,da];have aC:t<st.bl:=by simpa[b2] using U
  exact ad.put (st:={st with sites:=aT st.sites us}) S aC Z
theorem cJ(S:ad J H X B st tm w)(C:Ctx)(T:TypeId)(x:Operand):b4 B st.sites w (al X B st.sites) (aI C st T x) (Act.eval ⟨tm,[]⟩ x):=by
 cases x with
 |tmp t=>exact S.cV t
 |const v=>
  show b4 _ _ _ _ (s9 (C.tt T) v) v;unfold s9;split
  ·exact .int _ _
  ·exact .bool _
  ·exact .str _ _ rfl
  ·split<;>exact rfl
  ·split
   ·exact .pq _
   ·exact rfl
  ·trivial
  ·trivial
  ·exact rfl
 |global g=>exact rfl
 |func f=>
  refine⟨[],rfl,rfl,fun i h=>?_⟩
  simp at h
variable {P:Program}{C:Ctx}{D:Oper}{K:Act->World->Prop}{Q:Exit->Act->World->Prop}
def cr(P:Program)(J:World)(H:List Nat)(X:Nat->Prop)(st:ab)(tm:Array Value)(w:World)(D:Oper)(v:aF)(us:List (Nat×Site)):Prop:=
 ∀(K:Act->World->Prop) (Q:Exit->Act->World->Prop),(∀ax bX w',ad J H X ax (st.cK D.dst v us) bX w'->K ⟨bX,[]⟩ w')->D.wp P ⟨tm,[]⟩ w K Q
theorem dt(S:ad J H X B st tm w)(U:b2 st D.dst=true){v:aF}{vv:Value}
  (h:(execOp (Act.eval ⟨tm,[]⟩) D).run P w=.ok (.value vv) w) (Z:b4 B st.sites w (al X B st.sites) v vv):cr P J H X st tm w D v []:=
 fun _ _ bA=>nc h (bA _ _ _ (ad.cK (us:=[]) S U Z))
end
section
variable {P:Program}{w:World}
theorem Qx(op:BinOp)(t:TypeId)(x y:Operand)(k k':IntKind)(a b:Int):(eqGuard op t x y (.int k a) (.int k' b)).run P w=.ok () w:=by
 unfold eqGuard;cases op<;>rfl
theorem Qq(op:BinOp)(t:TypeId)(x y:Operand)(a b:ByteArray):(eqGuard op t x y (.string a) (.string b)).run P w=.ok () w:=by
 unfold eqGuard;cases op<;>rfl
theorem FR(op:BinOp)(t:TypeId)(x y:Operand)(a b:Bool):(eqGuard op t x y (.bool a) (.bool b)).run P w=.ok () w:=by
 unfold eqGuard;cases op<;>rfl
def Holds(r:c')(dN:aF->List (Nat×Site)->Prop):Prop:=∀y,r.comp=some y->r.pT y=true->dN (r.val y) (r.us y)
theorem Holds.fail{dN:aF->List (Nat×Site)->Prop}:Holds .fail dN:=fun _ h _=>by cases h
theorem Holds.ok{v:aF}{dN:aF->List (Nat×Site)->Prop}(h:dN v []):Holds (.ok v) dN:=fun _ _ _=>h
theorem Holds.eU{v:aF}{us:List (Nat×Site)}{dN:aF->List (Nat×Site)->Prop}(h:dN v us):Holds (.eU v us) dN:=fun _ _ _=>h
theorem Holds.eh{F:Type}{c:Option F}{f:F->aF}{dN:aF->List (Nat×Site)->Prop}(h:∀y,c=some y->dN (f y) []):Holds (.eh c f) dN:=fun y aq _=>h y aq
theorem Holds.ee{F:Type}{c:Option F}{f:F->aF}{us:F->List (Nat×Site)}{dN:aF->List (Nat×Site)->Prop}(h:∀y,c=some y->dN (f y) (us y)):Holds (.ee c f us) dN:=fun y aq _=>h y aq
def Plain(P:Program)(w:World)(s:Sem Value)(v:aF)(us:List (Nat×Site)):Prop:=
 ∃vv d,s.run P w=.ok vv w/\us=[]/\v=one d/\∀av,Rd w av d vv
theorem Plain.mk{s:Sem Value}{vv:Value}{d:aK}(h:s.run P w=.ok vv w)(hr:∀av,Rd w av d vv):Plain P w s (one d) []:=⟨vv,d,h,rfl,rfl,hr⟩
theorem T1(op:BinOp)(T:TypeId)(k:IntKind)(a b:Int)(L:op≠.shl)(eA:op≠.shr):
  Holds (Kz op k a b) (Plain P w (binOp op T (.int k a) (.int k b))):=by
 cases op with
 |shl=>exact absurd rfl L
 |shr=>exact absurd rfl eA
 |andNot=>exact .fail
 |quo=>
  refine Holds.eh fun y aq=>?_
  unfold rr at aq;split at aq
  ·cases aq
  ·rename_i hb;cases aq;exact .mk (by simp[binOp,Op.intDiv,hb]) fun av=>.int _ _
 |rem=>
  refine Holds.eh fun y aq=>?_
  unfold rp at aq;split at aq
  ·cases aq
  ·rename_i hb;cases aq;exact .mk (by simp[binOp,Op.intDiv,hb]) fun av=>.int _ _
 |add=>exact Holds.ok (.mk (by simp[binOp,Op.intArith]) fun av=>.int _ _)
 |sub=>exact Holds.ok (.mk (by simp[binOp,Op.intArith]) fun av=>.int _ _)
 |mul=>exact Holds.ok (.mk (by simp[binOp,Op.intArith]) fun av=>.int _ _)
 |and=>exact Holds.ok (.mk (by simp[binOp,Op.intBits,Mt]) fun av=>.int _ _)
 |or=>exact Holds.ok (.mk (by simp[binOp,Op.intBits,NE]) fun av=>.int _ _)
 |xor=>exact Holds.ok (.mk (by simp[binOp,Op.intBits,rk]) fun av=>.int _ _)
 |eql=>exact Holds.ok (.mk (by simp[binOp,Op.intCmp]) fun av=>.bool _)
 |neq=>exact Holds.ok (.mk (by simp[binOp,Op.intCmp]) fun av=>.bool _)
 |lss=>exact Holds.ok (.mk (by simp[binOp,Op.intCmp]) fun av=>.bool _)
 |leq=>exact Holds.ok (.mk (by simp[binOp,Op.intCmp]) fun av=>.bool _)
 |gtr=>exact Holds.ok (.mk (by simp[binOp,Op.intCmp]) fun av=>.bool _)
 |geq=>exact Holds.ok (.mk (by simp[binOp,Op.intCmp]) fun av=>.bool _)
theorem TZ(op:BinOp)(T:TypeId)(a b:ByteArray):
  Holds (Kj op a.data.toList b.data.toList) (Plain P w (binOp op T (.string a) (.string b))):=by
 have e1:a.toList=a.data.toList:=ByteArray.toList_eq a;have e2:b.toList=b.data.toList:=ByteArray.toList_eq b;have cy:a.data.toList.length=a.size:=rfl;have en:b.data.toList.length=b.size:=rfl;cases op with
 |add=>
  refine Holds.eh fun y aq=>?_
  simp only[nP,cy,en] at aq;split at aq
  ·cases aq
  ·rename_i hc;cases aq;refine .mk (vv:=.string (a++b)) ?_ fun av=>.str _ _ (by simp[ByteArray.data_append])
   simp only[binOp,Op.stringOp,hc,if_false,Sem.run_pure]
 |eql=>exact Holds.ok (.mk (by rw[<-e1,<-e2];rfl) fun av=>.bool _)
 |neq=>exact Holds.ok (.mk (by rw[<-e1,<-e2];rfl) fun av=>.bool _)
 |lss=>exact Holds.ok (.mk (by rw[<-e1,<-e2];rfl) fun av=>.bool _)
 |leq=>exact Holds.ok (.mk (by rw[<-e1,<-e2];rfl) fun av=>.bool _)
 |gtr=>exact Holds.ok (.mk (by rw[<-e1,<-e2];rfl) fun av=>.bool _)
 |geq=>exact Holds.ok (.mk (by rw[<-e1,<-e2];rfl) fun av=>.bool _)
 |_=>exact .fail
end
def oZ:aw->Option Value
 |.d (.int k n)=>some (.int k n)
 |.d (.bool b)=>some (.bool b)
 |.d (.str [])=>some (.string ⟨#[]⟩)
 |.nil _=>some (.slice none 0 0)
 |.cx (.pointer none)=>some (.pointer none)
 |.cx .nilFunc=>some .nilFunc
 |.cx (.map none)=>some (.map none)
 |.cx .nilIface=>some .nilIface
 |_=>none
def kL:List aw->Option (List Value)
 |[]=>some []
 |l::O=>match oZ l,kL O with
  |some v,some vs=>some (v::vs)
  |_,_=>none
theorem Gz{l:aw}{v:Value}(h:oZ l=some v)(B:Nat->Value)(sites:List (Nat×Site))(w:World)(av:Nat->Prop):dl B sites w av l v/\v.oneCell'=true:=by
 unfold oZ at h;split at h<;>first|cases h|skip
 ·exact⟨.int _ _,rfl⟩
 ·exact⟨.bool _,rfl⟩
 ·exact⟨.str _ _ rfl,rfl⟩
 ·exact⟨rfl,rfl⟩
 ·exact⟨rfl,rfl⟩
 ·exact⟨rfl,rfl⟩
 ·exact⟨rfl,rfl⟩
 ·exact⟨rfl,rfl⟩
theorem qa:∀{O:List aw} {vs:List Value},kL O=some vs->vs.length=O.length/\(∀u∈vs,u.oneCell'=true)/\
  ∀(B:Nat->Value) (sites:List (Nat×Site)) (w:World) (av:Nat->Prop) j (h:j<O.length) (ae:j<vs.length),dl B sites w av (O[j]) (vs[j]):=by
 intro O;induction O with
 |nil=>intro vs h;simp[kL] at h;subst h;exact⟨rfl,fun u hu=>by simp at hu,fun _ _ _ _ j h=>by simp at h⟩
 |cons l O ih=>
  intro vs h;simp only[kL] at h;split at h
  ·rename_i v ct h1 h2;cases h;obtain⟨g1,g2,g3⟩:=ih h2;refine⟨by simp[g1],fun u hu=>?_,fun B sites w av j bF iA=>?_⟩
   ·rcases List.mem_cons.1 hu with rfl|hu
    ·exact(Gz h1 (fun _=>undef) [] default (fun _=>False)).2
    ·exact g2 u hu
   ·cases j with
    |zero=>exact(Gz h1 _ _ _ _).1
    |succ j=>exact g3 B sites w av j (by simpa using bF) (by simpa using iA)
  ·cases h
def m_:Value->Value->Option Bool
 |.int k a,.int k' b=>if k=k' then some (a==b) else none
 |.bool a,.bool b=>some (a==b)
 |.string a,.string b=>some (a==b)
 |_,_=>none
def je:List Value->List Value->Option Bool
 |[a],[b]=>m_ a b
 |a::as,b::bs=>match m_ a b,je as bs with
  |some x,some y=>some (x&&y)
  |_,_=>none
 |_,_=>none
def oq:List aw->List Value->Bool
 |[],[]=>true
 |.d (.int _ _)::z,.int _ _::l=>oq z l
 |.d (.bool _)::z,.bool _::l=>oq z l
 |.d (.str _)::z,.string _::l=>oq z l
 |_,_=>false
def hG(P:Program)(T:TypeId)(d:TypeDesc)(z:Value):Prop:=
 P.underlying T=some d/\(∀bJ,d≠.struct bJ)/\(∀n e,d≠.array n e)/\(P.info? T).map (fun i=>(i.size,i.zero))=some (1,some z)
def mapElem(P:Program)(e:TypeId):aB->Prop
 |.i64=>hG P e (.int .i64) (.int .i64 0)
 |.bool=>hG P e .bool (.bool false)
 |.strs=>∃bz,hG P e (.slice bz) (.slice none 0 0)
 |_=>False
def Ci(P:Program)(e:TypeId):aB->Prop
 |.i64=>hG P e (.int .i64) (.int .i64 0)
 |.u32=>hG P e (.int .u32) (.int .u32 0)
 |.bool=>hG P e .bool (.bool false)
 |.str=>hG P e .string (.string ⟨#[]⟩)
 |_=>False
def cg.ok(P:Program)(T:TypeId):cg->Prop
 |.none=>True
 |.int k=>hG P T (.int k) (.int k 0)
 |.bool=>hG P T .bool (.bool false)
 |.str=>hG P T .string (.string ⟨#[]⟩)
 |.ptr=>∃e,hG P T (.pointer e) (.pointer Option.none)
 |.func=>∃ps kz v,hG P T (.func ps kz v) .nilFunc
 |.slice e t bytes=>hG P T (.slice e) (.slice Option.none 0 0)/\∃z,(P.info? e).map (fun i=>(i.size,i.bytes,i.zero))=some (au t,bytes,some z)/\z.cells.size=au t/\(t.fc=true->e=ld)
 |.struct bJ n z eq=>∃fields:Array Field,P.underlying T=some (.struct fields)/\
   (fields.toList.mapM (fun f=>(P.info? f.type).map fun i=>(f.offset,i.size))=some bJ/\∀p∈bJ,p.2≠0)/\
   (∃fC,(P.info? T).map (fun i=>(i.size,i.zero))=some (n,some (.agg fC))/\kL z=some fC.toList/\z.length=n)/\
   (eq=true->P.eqGuardType P.depth T=false/\∀(vs us:List Value) (b:Bool) (w:World),je vs us=some b->oq z vs=true->(Op.equal T (.agg vs.toArray) (.agg us.toArray)).run P w=.ok b w)
 |.map k e t=>hG P T (.map k e) (.map Option.none)/\P.underlying k=some .string/\mapElem P e t
 |.iface=>∃iF,hG P T (.interface iF) .nilIface
 |.arr e t n=>P.underlying T=some (.array n e)/\(∃fC z,(P.info? T).map (fun i=>(i.size,i.zero))=some (n,some (.agg fC))/\rL t=some z/\kL (List.replicate n z)=some fC.toList)/\Ci P e t
section
variable {P:Program}{T:TypeId}{w:World}
theorem jH{i:TypeInfo}(h:P.info? T=some i):(typeInfo T).run P w=.ok i w:=by
 simp[typeInfo,h]
theorem cg.Ia{ti:cg}(h:ti.ok P T)(hn:ti≠.none):(sizeOf T).run P w=.ok ti.size w:=by
 have key:∀{z:Option Value} {n:Nat},(P.info? T).map (fun i=>(i.size,i.zero))=some (n,z)->(sizeOf T).run P w=.ok n w:=by
  intro z n h;cases af:P.info? T with
  |none=>simp[af] at h
  |some i=>
   simp only[af,Option.map_some,Option.some.injEq,Prod.mk.injEq] at h;simp[sizeOf,jH af,h.1]
 cases ti with
 |none=>exact absurd rfl hn
 |int k=>exact key h.2.2.2
 |bool=>exact key h.2.2.2
 |str=>exact key h.2.2.2
 |ptr=>obtain⟨e,h⟩:=h;exact key h.2.2.2
 |func=>obtain⟨_,_,_,h⟩:=h;exact key h.2.2.2
 |iface=>obtain⟨_,h⟩:=h;exact key h.2.2.2
 |slice e t b=>exact key h.1.2.2.2
 |map k e t=>exact key h.1.2.2.2
 |struct bJ n z eq=>obtain⟨fields,_,_,⟨fC,h,_⟩,_⟩:=h;exact key h
 |arr e t n=>obtain⟨_,⟨fC,z,h,_⟩,_⟩:=h;exact key h
theorem cg.vW{ti:cg}(h:ti.ok P T){z:List aw}(aM:ti.zero=some z):∃v,(zeroValue T).run P w=.ok v w/\kL z=some v.cells.toList:=by
 have key:∀{z:Value} {n:Nat},(P.info? T).map (fun i=>(i.size,i.zero))=some (n,some z)->(zeroValue T).run P w=.ok z w:=by
  intro z n h;cases af:P.info? T with
  |none=>simp[af] at h
  |some i=>
   simp only[af,Option.map_some,Option.some.injEq,Prod.mk.injEq] at h;simp[zeroValue,jH af,h.2]
 cases ti with
 |none=>cases aM
 |int k=>cases aM;exact⟨_,key h.2.2.2,rfl⟩
 |bool=>cases aM;exact⟨_,key h.2.2.2,rfl⟩
 |str=>cases aM;exact⟨_,key h.2.2.2,rfl⟩
 |ptr=>cases aM;obtain⟨e,h⟩:=h;exact⟨_,key h.2.2.2,rfl⟩
 |func=>cases aM;obtain⟨_,_,_,h⟩:=h;exact⟨_,key h.2.2.2,rfl⟩
 |iface=>cases aM;obtain⟨_,h⟩:=h;exact⟨_,key h.2.2.2,rfl⟩
 |slice e t b=>cases aM;exact⟨_,key h.1.2.2.2,rfl⟩
 |map k e t=>cases aM;exact⟨_,key h.1.2.2.2,rfl⟩
 |struct bJ n ei eq=>cases aM;obtain⟨fields,_,_,⟨fC,h,h2,_⟩,_⟩:=h;exact⟨_,key h,h2⟩
 |arr e t n=>
  obtain⟨_,⟨fC,z0,h,h1,h2⟩,_⟩:=h;simp only[cg.zero,h1,Option.map_some,Option.some.injEq] at aM;subst aM;exact⟨_,key h,h2⟩
theorem cg.Hf{ti:cg}(h:ti.ok P T)(hn:ti≠.none):(isAgg T).run P w=.ok ti.agg w:=by
 have key:∀{d:TypeDesc},P.underlying T=some d->(∀bJ,d≠.struct bJ)->(∀n e,d≠.array n e)->(isAgg T).run P w=.ok false w:=by
  intro d h h1 h2;simp only[isAgg,Sem.run_bind,run_underlying h,Result.andThen_ok];cases d<;>first|rfl|exact absurd rfl (h1 _)|exact absurd rfl (h2 _ _)
 cases ti with
 |none=>exact absurd rfl hn
 |int k=>exact key h.1 h.2.1 h.2.2.1
 |bool=>exact key h.1 h.2.1 h.2.2.1
 |str=>exact key h.1 h.2.1 h.2.2.1
 |ptr=>obtain⟨e,h⟩:=h;exact key h.1 h.2.1 h.2.2.1
 |func=>obtain⟨_,_,_,h⟩:=h;exact key h.1 h.2.1 h.2.2.1
 |iface=>obtain⟨_,h⟩:=h;exact key h.1 h.2.1 h.2.2.1
 |slice e t b=>exact key h.1.1 h.1.2.1 h.1.2.2.1
 |map k e t=>exact key h.1.1 h.1.2.1 h.1.2.2.1
 |struct bJ n z eq=>
  obtain⟨fields,h,_⟩:=h;simp only[isAgg,Sem.run_bind,run_underlying h,Result.andThen_ok];rfl
 |arr e t n=>
  obtain⟨h,_⟩:=h;simp only[isAgg,Sem.run_bind,run_underlying h,Result.andThen_ok];rfl
def qZ(agg:Bool)(cs:List Value):Value:=bif agg then .agg cs.toArray else cs.headD undef
theorem sv{ti:cg}(h:ti.ok P T)(hn:ti≠.none)(a:Addr)(cs:List Value)(hl:cs.length=ti.size)(hc:∀j u,cs[j]? =some u->w.cell? (a.add j)=some u):
  (loadVar T a).run P w=.ok (qZ ti.agg cs) w:=by
 simp only[loadVar,Sem.run_bind,cg.Hf h hn,Result.andThen_ok];cases DX:ti.agg with
 |true=>
  simp only[if_true,Sem.run_bind,cg.Ia h hn,Result.andThen_ok,qZ,cond_true];rw[<-hl,run_loadCells_list w a cs hc];rfl
 |false=>
  have h1:ti.size=1:=by cases ti<;>first|rfl|cases DX
  rw[h1] at hl;match cs,hl with
  |[c],_=>
   have aQ:=hc 0 c rfl;have bo:a.add 0=a:=by unfold Addr.add;simp
   rw[bo] at aQ;simp[qZ,aQ]
end
section
variable {B:Nat->Value}{sites:List (Nat×Site)}{w:World}{av:Nat->Prop}
def cl(B:Nat->Value)(sites:List (Nat×Site))(w:World)(av:Nat->Prop)(O:List aw)(vs:List Value):Prop:=
 vs.length=O.length/\∀j (h:j<O.length) (ae:j<vs.length),dl B sites w av (O[j]) (vs[j])
theorem cl.nil:cl B sites w av [] []:=⟨rfl,fun j h=>by simp at h⟩
theorem cl.cons{l:aw}{O:List aw}{v:Value}{vs:List Value}(h:dl B sites w av l v)(L:cl B sites w av O vs):cl B sites w av (l::O) (v::vs):=
 ⟨by simp[L.1],fun j h1 h2=>by
  cases j with
  |zero=>exact h
  |succ j=>exact L.2 j (by simpa using h1) (by simpa using h2)⟩
theorem cl.inv{l:aw}{O:List aw}{vs:List Value}(h:cl B sites w av (l::O) vs):∃v ct,vs=v::ct/\dl B sites w av l v/\cl B sites w av O ct:=by
 obtain⟨h1,h2⟩:=h;match vs,h1 with
 |v::ct,h1=>
  exact⟨v,ct,rfl,h2 0 (by simp) (by simp),by simpa using h1,fun j g1 g2=>h2 (j+1) (by simpa using g1) (by simpa using g2)⟩
theorem cl.kO{vs:List Value}(h:cl B sites w av [] vs):vs=[]:=List.eq_nil_of_length_eq_zero h.1
theorem cl.drop{O:List aw}{vs:List Value}(n:Nat)(h:cl B sites w av O vs):cl B sites w av (O.drop n) (vs.drop n):=
 ⟨by simp[h.1],fun j h1 h2=>by simp only[List.getElem_drop];exact h.2 _ (by simp at h1;omega) (by simp at h2;omega)⟩
theorem cl.take{O:List aw}{vs:List Value}(n:Nat)(h:cl B sites w av O vs):cl B sites w av (O.take n) (vs.take n):=
 ⟨by simp[h.1],fun j h1 h2=>by simp only[List.getElem_take];exact h.2 _ (by simp at h1;omega) (by simp at h2;omega)⟩
theorem cl.append{O dq:List aw}{vs ct:List Value}(h:cl B sites w av O vs)(ae:cl B sites w av dq ct):cl B sites w av (O++dq) (vs++ct):=by
 induction O generalizing vs with
 |nil=>rw[h.kO];exact ae
 |cons l O ih=>
  obtain⟨v,agA,rfl,h1,h2⟩:=h.inv;exact .cons h1 (ih h2)
theorem cl.b'{O dq:List aw}{vs ct:List Value}(off:Nat)(h:cl B sites w av O vs)(ae:cl B sites w av dq ct):cl B sites w av (Jk.b' O off dq) (Jk.b' vs off ct):=by
 unfold Jk.b';rw[ae.1];exact((h.take off).append ae).append (h.drop _)
theorem dl.ij{l:aw}{u:Value}(h:dl B sites w av l u)(dr:l.storable=true):u.oneCell'=true:=by
 cases l with
 |d x=>exact Rd.ij h
 |nil t=>rw[show u=_ from h];rfl
 |own o s=>exact h.1
 |ptr o s off=>obtain⟨b,rfl,_⟩:=h;rfl
 |eS c D=>cases dr
 |er _ _ _ _ _=>cases dr
 |clo g bv=>obtain⟨vs,rfl,_⟩:=h;rfl
 |cx x=>rw[show u=x from h];cases x<;>first|rfl|cases dr
 |fresh t xs=>cases dr
 |hW t xs=>cases dr
 |ez=>cases dr
 |any=>cases dr
theorem cl.ij{O:List aw}{vs:List Value}(h:cl B sites w av O vs)(dr:gz O=true):∀u∈vs,u.oneCell'=true:=by
 induction O generalizing vs with
 |nil=>rw[h.kO];intro u hu;simp at hu
 |cons l O ih=>
  obtain⟨v,ct,rfl,h1,h2⟩:=h.inv;simp only[gz,Bool.and_eq_true] at dr;intro u hu;rcases List.mem_cons.1 hu with rfl|hu
  ·exact h1.ij dr.1
  ·exact ih h2 dr.2 u hu
theorem gm.cells{a:bt}{v:Value}(h:gm B sites w av a v)(dr:gz a.cells=true):cl B sites w av a.cells v.cells.toList:=by
 cases a with
 |ak l=>
  have h1:v.oneCell'=true:=dl.ij h (by simpa[bt.cells,gz] using dr)
  have:v.cells=#[v]:=by cases v<;>first|rfl|cases h1
  rw[this];exact .cons h .nil
 |agg O=>
  obtain⟨vs,rfl,h1,h2⟩:=h;exact⟨h1,h2⟩
theorem J6{agg:Bool}{off n:Nat}{O:List aw}{vs:List Value}{v:aF}(hc:cut agg off n O=some v)(h1:agg=false->n=1)(h:cl B sites w av O vs):
  off+n<=vs.length/\b4 B sites w av v (qZ agg ((vs.drop off).take n)):=by
 unfold cut at hc;cases agg with
 |true=>
  simp only[cond_true] at hc;cases hb:Nat.ble (off+n) O.length with
  |false=>simp[hb] at hc
  |true=>
   simp only[hb,cond_true,Option.some.injEq] at hc;subst hc;have c3:off+n<=O.length:=Nat.le_of_ble_eq_true hb;have:=(h.drop off).take n;exact⟨by rw[h.1];exact c3,_,rfl,this.1,this.2⟩
 |false=>
  simp only[cond_false] at hc;have hn:=h1 rfl;subst hn;cases U:O.drop off with
  |nil=>simp[U] at hc
  |cons l r=>
   simp only[U,Option.some.injEq] at hc;subst hc;have OG:=h.drop off;rw[U] at OG;obtain⟨u,us,hu,hl,_⟩:=OG.inv;have hlen:off<O.length:=by
    rcases Nat.lt_or_ge off O.length with h|h
    ·exact h
    ·rw[List.drop_eq_nil_of_le h] at U;cases U
   refine⟨by rw[h.1];omega,?_⟩
   rw[hu];exact hl
theorem fV{ds:List aK}{vs:List Value}(hl:vs.length=ds.length)(h:∀j (h:j<ds.length) (ae:j<vs.length),Rd w av (ds[j]) (vs[j])):cl B sites w av (ci ds) vs:=
 ⟨by simp[ci,hl],fun j h1 h2=>by simp only[ci,List.getElem_map];exact h j (by simpa[ci] using h1) h2⟩
end
theorem gg(b D j:Nat):(⟨b,D,none⟩:Addr).add j=⟨b,D+j,none⟩:=by
 unfold Addr.add;split<;>simp_all
def gO(w:World)(b D:Nat)(cs:List Value):Prop:=∀j u,cs[j]? =some u->w.cell? ⟨b,D+j,none⟩=some u
theorem gO.drop{w:World}{b D:Nat}{cs:List Value}(h:gO w b D cs)(m:Nat):gO w b (D+m) (cs.drop m):=by
 intro j u hu;rw[List.getElem?_drop] at hu;have:=h _ _ hu;rwa[Nat.add_assoc]
theorem gO.take{w:World}{b D:Nat}{cs:List Value}(h:gO w b D cs)(m:Nat):gO w b D (cs.take m):=by
 intro j u hu;rw[List.getElem?_take] at hu;split at hu
 ·exact h _ _ hu
 ·cases hu
theorem gO.row{w:World}{b:Nat}{cur:List Value}{T:TypeId}{cB:Nat×Nat}(h:w.heap[b]? =some (.cells cur.toArray T cB)):gO w b 0 cur:=by
 intro j u hu;rw[Nat.zero_add,cell_of_row w b j _ T cB h];simpa using hu
theorem sD(t:aB)(xs:List (den t))(k:Nat)(x:den t)(hx:xs[k]? =some x):((flat t xs).drop (k*au t)).take (au t)=enc t x:=by
 apply List.ext_getElem?;intro j;rw[List.getElem?_take,List.getElem?_drop];split
 ·rename_i bF;exact flat_get t xs k j x hx bF
 ·rename_i bF;rw[List.getElem?_eq_none (by rw[fj];omega)]
section
variable {P:Program}{C:hI}{J:World}{H:List Nat}{X:Nat->Prop}{B:Nat->Value}{st:ab}{tm:Array Value}{w:World}
theorem gK{o s:Nat}{cells:List aw}(h:fK st o s=some cells):look st.sites o=some (.box s cells):=by
 unfold fK ab.M at h;split at h
 ·rename_i ag jj hl;cases hb:ag.beq s with
  |false=>simp[hb] at h
  |true=>
   simp only[hb,cond_true,Option.some.injEq] at h;have:=Nat.eq_of_beq_eq_true hb;subst this h;exact hl
 ·cases h
theorem jI{o s:Nat}{t:aB}{xs:List (den t)}(h:rowOf st o s=some ⟨t,xs⟩):look st.sites o=some (.row s t xs)\/look st.sites o=some (.c0 s t xs):=by
 unfold rowOf ab.M at h;split at h
 ·rename_i ag be hv hl;cases hb:ag.beq s with
  |false=>simp[hb] at h
  |true=>
   simp only[hb,cond_true,Option.some.injEq] at h;have:=Nat.eq_of_beq_eq_true hb;subst this;cases h;exact .inl hl
 ·rename_i ag be hv hl;cases hb:ag.beq s with
  |false=>simp[hb] at h
  |true=>
   simp only[hb,cond_true,Option.some.injEq] at h;have:=Nat.eq_of_beq_eq_true hb;subst this;cases h;exact .inr hl
 ·cases h
theorem Ref.at{sites:List (Nat×Site)}{o s:Nat}{p:Prop}{M:Site}(h:Ref sites o s p)(hl:look sites o=some M)(L:M.bT=s):p:=by
 obtain⟨bm,h1,_,Y⟩:=h;rw[hl] at h1;cases h1;exact Y L
theorem Ref.mk{sites:List (Nat×Site)}{o s:Nat}{p:Prop}{M:Site}(hl:look sites o=some M)(L:M.bT=s)(am:p):Ref sites o s p:=
 ⟨M,hl,by omega,fun _=>am⟩
theorem ad.box(S:ad J H X B st tm w){o s off:Nat}{cells:List aw}(h:look st.sites o=some (.box s cells)){v:Value}(Z:dl B st.sites w (al X B st.sites) (.ptr o s off) v):
  ∃b T cur,B o=.pointer (some ⟨b,0,none⟩)/\v=.pointer (some ⟨b,off,none⟩)/\w.heap[b]? =some (.cells (List.toArray cur) T (0,0))/\(∀u∈cur,u.oneCell'=true)/\cl B st.sites w (al X B st.sites) cells cur:=by
 obtain⟨b,T,cur,h1,h2,Y,aP,_,bq⟩:=S.sites o _ h;obtain⟨a8,g2,g3⟩:=Z;have g1:=Ref.at g3 h rfl;rw[h1] at g1;cases g1;exact⟨b,T,cur,h1,g2,h2,aP,Y,bq⟩
theorem ad.row(S:ad J H X B st tm w){o s:Nat}{t:aB}{xs:List (den t)}(h:rowOf st o s=some ⟨t,xs⟩):
  ∃cs:List Value,cl B st.sites w (al X B st.sites) (ci (flat t xs)) cs/\
   ((bD (B o)=.slice none 0 0/\xs=[])\/∃b c,bD (B o)=.slice (some ⟨b,0,none⟩) xs.length c/\gO w b 0 cs/\xs.length<=c):=by
 rcases jI h with h|h
 ·obtain⟨e,cs,h1,h2⟩:=S.sites o _ h;have hl:cs.length=(flat t xs).length:=by rw[dD];exact h1.1
  refine⟨cs,fV hl h2,?_⟩;rw[(hp h1).1];rcases h1.2 with⟨hn,aQ⟩|⟨g,cap,cur,br,Z,_,aJ,gq,_,_,gE⟩
  ·exact .inl ⟨hn,List.eq_nil_of_length_eq_zero aQ⟩
  ·refine .inr ⟨_,_,Z,fun j u hu=>?_,gq⟩
   rw[Nat.zero_add,cell_of_row w g j cur e br aJ];rw[<-gE,List.getElem?_take] at hu;split at hu
   ·simpa using hu
   ·cases hu
 ·obtain⟨h1,b6⟩:Rd w (al X B st.sites) (.sl t xs) (bD (B o))/\ua (bD (B o)):=S.sites o _ h;generalize Z:bD (B o)=v at h1 b6;cases h1 with
  |nil t=>exact⟨[],⟨rfl,fun j h=>by simp[ci,flat] at h⟩,.inl ⟨rfl,rfl⟩⟩
  |sl t xs a cap cs n hn hcap hb hl hc hr=>
   subst hn;rcases b6 with b6|⟨b,n,c,b6⟩
   ·cases b6
   ·cases b6;exact⟨cs,fV hl hr,.inr ⟨b,cap,rfl,fun j u hu=>by have:=hc j u hu;rwa[gg] at this,hcap⟩⟩
theorem zI{o s:Nat}{t:aB}{xs:List (den t)}(h:nd st o s=some ⟨t,xs⟩):look st.sites o=some (.tail s t xs):=by
 unfold nd at h;split at h
 ·rename_i ag be hv hl;cases hb:ag.beq s with
  |false=>simp[hb] at h
  |true=>
   simp only[hb,cond_true,Option.some.injEq] at h;have:=Nat.eq_of_beq_eq_true hb;subst this;cases h;exact hl
 ·cases h
theorem T4{o s:Nat}{t:aB}{xs:List (den t)}(h:np st o s=some ⟨t,xs⟩):rowOf st o s=some ⟨t,xs⟩\/look st.sites o=some (.tail s t xs):=by
 unfold np at h;split at h
 ·rename_i x hx;cases h;exact .inl hx
 ·exact .inr (zI h)
theorem ad.tail(S:ad J H X B st tm w){o s:Nat}{t:aB}{xs:List (den t)}(h:look st.sites o=some (.tail s t xs)):
  ∃cs:List Value,cl B st.sites w (al X B st.sites) (ci (flat t xs)) cs/\
   ((bD (B o)=.slice none 0 0/\xs=[])\/∃b D c,bD (B o)=.slice (some ⟨b,D,none⟩) xs.length c/\gO w b D cs/\xs.length<=c):=by
 obtain⟨_,e,cs,h1,h2⟩:=S.sites o _ h;refine⟨cs,fV h2.1.symm.symm h2.2,?_⟩;rcases h1.2 with⟨hn,aQ⟩|⟨g,D,cap,cur,Z,aJ,gq,_,_,gE⟩
 ·exact .inl ⟨by rw[hn];rfl,List.eq_nil_of_length_eq_zero aQ⟩
 ·refine .inr ⟨g,D,cap,by rw[Z];rfl,fun j u hu=>?_,gq⟩
  rw[cell_of_row w g (D+j) cur e (0,0) aJ];rw[<-gE,List.getElem?_take] at hu;split at hu
  ·rw[List.getElem?_drop] at hu;simpa using hu
  ·cases hu
theorem ad.np(S:ad J H X B st tm w){o s:Nat}{t:aB}{xs:List (den t)}(h:np st o s=some ⟨t,xs⟩):
  (∃M,look st.sites o=some M/\M.bT=s)/\∃cs:List Value,cl B st.sites w (al X B st.sites) (ci (flat t xs)) cs/\
   ((bD (B o)=.slice none 0 0/\xs=[])\/∃b D c,bD (B o)=.slice (some ⟨b,D,none⟩) xs.length c/\gO w b D cs/\xs.length<=c):=by
 rcases T4 h with h|h
 ·refine⟨by rcases jI h with h|h<;>exact⟨_,h,rfl⟩,?_⟩
  obtain⟨cs,h1,h2⟩:=S.row h;exact⟨cs,h1,h2.imp id fun⟨b,c,h⟩=>⟨b,0,c,h⟩⟩
 ·exact⟨⟨_,h,rfl⟩,S.tail h⟩
def Ng(g:Nat)(t:aB)(xs:List (den t)):Prop:=g∈nO/\∀w (av:Nat->Prop),oG w->∃T br,∃cs:List Value,w.heap[g]? =some (.cells cs.toArray T br)/\cs.length=(flat t xs).length/\∀j (h:j<(flat t xs).length) (ae:j<cs.length),Rd w av ((flat t xs)[j]) (cs[j])
structure CtxOk(P:Program)(C:Ctx):Prop where
 tt:∀T,(C.tt T).ok P T
 gt:∀g t xs,C.gt g=some ⟨t,xs⟩->Ng g t xs
theorem AX{ti:cg}(h:ti.known=true):ti≠.none:=by rintro rfl;cases h
theorem Bd{ti:cg}(h:ti.agg=false):ti.size=1:=by cases ti<;>first|rfl|cases h
theorem Wk{agg:Bool}{off n:Nat}{O:List aw}(h:off+n<=O.length)(h1:agg=false->n=1):cut agg off n O≠none:=by
 unfold cut;cases agg with
 |true=>
  have:Nat.ble (off+n) O.length=true:=Nat.ble_eq_true_of_le h;simp[this]
 |false=>
  have:=h1 rfl;simp only[cond_false];cases U:O.drop off with
  |nil=>have:=congrArg List.length U;simp at this;omega
  |cons l r=>simp
theorem Xu(S:ad J H X B st tm w){C:Ctx}(az:CtxOk P C){D:Oper}{T:TypeId}{x:Operand}(an:D.op=.load T x)(U:b2 st D.dst=true)(ah:(C.tt T).known=true):
  Holds (q7 (C.tt T).agg (C.tt T).size st (aI C st T x)) (cr P J H X st tm w D):=by
 have hn:=AX ah;have bi:=cJ S C T x;have fin:∀{b p:Nat} {O:List aw} {vs:List Value} {off:Nat} {v:aF},Act.eval ⟨tm,[]⟩ x=.pointer (some ⟨b,p+off,none⟩)->gO w b p vs->cl B st.sites w (al X B st.sites) O vs->
   cut (C.tt T).agg off (C.tt T).size O=some v->cr P J H X st tm w D v []:=by
  intro b p O vs off v hx hc hl jp;obtain⟨c3,EK⟩:=J6 jp Bd hl;refine dt S U (vv:=qZ (C.tt T).agg ((vs.drop off).take (C.tt T).size)) ?_ EK;have cz:=sv (P:=P) (w:=w) (az.tt T) hn ⟨b,p+off,none⟩ ((vs.drop off).take (C.tt T).size) (by simp;omega) (fun j u hu=>by rw[gg];exact(hc.drop off).take _ j u hu)
  unfold execOp;simp only[an,Instr.loadAt,Instr.sureAddr,hx,Sem.run_bind,Sem.run_pure,Result.andThen_ok,cz]
 unfold q7;split
 ·rename_i o s off bS;rw[bS] at bi;split
  ·rename_i cells hb;split
   ·rename_i v jp;obtain⟨b,fS,cur,_,Z,aJ,_,hl⟩:=S.box (gK hb) bi;exact Holds.ok (fin (p:=0) (by rw[Nat.zero_add];exact Z) (gO.row aJ) hl jp)
   ·exact .fail
  ·exact .fail
 ·rename_i cells off bS;rw[bS] at bi;split
  ·rename_i v jp;obtain⟨b,p,Z,_,_,cs,hl,hc,hr⟩:=bi;exact Holds.ok (fin Z hc (fV hl hr) jp)
  ·exact .fail
 ·rename_i o s u k off bS;rw[bS] at bi;split
  ·rename_i t xs cW;split
   ·rename_i lS;obtain⟨rfl,c3⟩:=lS;refine Holds.eh fun y aq=>?_
    have dU:xs[k]? =some y:=aq;obtain⟨⟨M,fA,iY⟩,cs,hl,is⟩:=S.np cW;obtain⟨b,cX,Z,tT⟩:=bi;obtain⟨n,c,bw⟩:=Ref.at tT fA iY;cases jp:cut (C.tt T).agg off (C.tt T).size (ci (enc t y)) with
    |none=>exact absurd jp (Wk (by simpa[ci,fj] using c3) Bd)
    |some v=>
     rcases is with⟨ol,_⟩|⟨a8,o2,fF,dR,dW,_⟩
     ·rw[bw] at ol;cases ol
     ·rw[bw] at dR;cases dR;have e1:ci (enc t y)=((ci (flat t xs)).drop (k*au t)).take (au t):=by
       rw[<-sD t xs k y dU];simp[ci,List.map_drop,List.map_take]
      rw[e1] at jp;exact fin (p:=cX+k*au t) (by rw[Nat.add_assoc];exact Z) ((dW.drop (k*au t)).take (au t)) ((hl.drop (k*au t)).take (au t)) jp
   ·exact .fail
  ·exact .fail
 ·exact .fail
end
section
variable {P:Program}{J:World}{H:List Nat}{X:Nat->Prop}{B:Nat->Value}{st:ab}{tm:Array Value}{w:World}
theorem qk{u:Bool}{e:TypeId}{size:Nat}{v:Value}{n:Nat}{xs:List Value}{b:Nat}(h:rowAt w u e size v n xs)(hb:aZ v=some b):b<w.heap.size:=by
 rcases h.2 with⟨hn,_⟩|⟨g,cap,cur,br,Z,_,aJ,_⟩
 ·rw[hn] at hb;cases hb
 ·rw[Z] at hb;cases hb;exact(Array.getElem?_eq_some_iff.1 aJ).1
theorem Deep.lt{av:Nat->Prop}{ds:List aK}{cs ap:List Value}(h:Deep w av ds cs ap):∀n,n∈ap->∀b,aZ n=some b->b<w.heap.size:=by
 induction h with
 |nil=>intro n hn;cases hn
 |row u ys e O _ h _ _ ih=>
  intro n hn b hb;rcases List.mem_cons.1 hn with rfl|hn
  ·exact qk h hb
  ·exact ih n hn b hb
 |leaf _ _ _ ih=>exact ih
theorem fx.lt{av:Nat->Prop}{ps:List (G×Value)}{es:List (G×Option (List G))}{ap:List Value}(h:fx w av ps es ap):∀n,n∈ap->∀b,aZ n=some b->b<w.heap.size:=by
 induction h with
 |nil=>intro n hn;cases hn
 |kZ _ _ _ ih=>exact ih
 |row _ _ _ _ _ h _ _ ih=>
  intro n hn b hb;rcases List.mem_cons.1 hn with rfl|hn
  ·exact qk h hb
  ·exact ih n hn b hb
theorem TM{e:TypeId}{size:Nat}{v:Value}{n:Nat}{xs:List Value}(h:nf w e size v n xs){b:Nat}(hb:b∈bb v):b<w.heap.size:=by
 rcases h.2 with⟨hn,_⟩|⟨g,D,cap,cur,Z,aJ,_⟩
 ·rw[hn] at hb;cases hb
 ·rw[Z] at hb;have hb:b∈[g]:=hb;rw[List.mem_singleton.1 hb];exact(Array.getElem?_eq_some_iff.1 aJ).1
theorem ad.dL(S:ad J H X B st tm w){o b:Nat}(hl:bL st.sites o)(hb:b∈bb (B o)):b<w.heap.size:=by
 obtain⟨M,h1,h2⟩:=hl;have:=S.sites o M h1;cases M with
 |box s cells=>
  obtain⟨a8,T,cur,g1,g2,_⟩:=this;rw[g1] at hb;have hb:b∈[a8]:=hb;rw[List.mem_singleton.1 hb];exact(Array.getElem?_eq_some_iff.1 g2).1
 |row s t xs=>
  obtain⟨e,cs,g1,_⟩:=this;exact qk g1 (sX g1 hb)
 |map s t es=>
  obtain⟨a8,g1,g2⟩:=this;rw[g1] at hb;have hb:b∈[a8]:=hb;rw[List.mem_singleton.1 hb];exact g2.lt
 |deep s t xs=>
  obtain⟨e,v,ap,cs,g1,_,g2,g3⟩:=this;rw[g1] at hb;rcases hj.1 hb with hb|⟨n,hn,hb⟩
  ·exact qk g2 hb
  ·exact g3.lt n hn b hb
 |ef s es=>
  obtain⟨a8,arr,clock,ap,g1,_,g2,_,_,g3⟩:=this;rw[g1] at hb;rcases hj.1 hb with hb|⟨n,hn,hb⟩
  ·cases hb;exact(Array.getElem?_eq_some_iff.1 g2).1
  ·exact g3.lt n hn b hb
 |tail s t xs=>
  obtain⟨_,e,cs,g,_⟩:=this;exact TM g hb
 |c0=>cases h2
 |dead=>cases h2
theorem xJ{B ax:Nat->Value}{sites bd:List (Nat×Site)}{w w':World}{av bE:Nat->Prop}(go:∀{a:aF} {v:Value},b4 B sites w av a v->b4 ax bd w' bE a v){O:List aw}{vs:List Value}
  (h:cl B sites w av O vs):cl ax bd w' bE O vs:=by
 obtain⟨ct,h1,h2,Y⟩:=go (a:=.av (.agg O)) (v:=.agg vs.toArray) ⟨vs,rfl,h.1,h.2⟩;have:vs=ct:=by simpa using h1
 subst this;exact⟨h2,Y⟩
theorem hB{B ax:Nat->Value}{sites bd:List (Nat×Site)}{w w':World}{av bE:Nat->Prop}(go:∀{a:aF} {v:Value},b4 B sites w av a v->b4 ax bd w' bE a v){d:aK}{v:Value}
  (h:Rd w av d v):Rd w' bE d v:=go (a:=one d) (v:=v) h
theorem GP{sites:List (Nat×Site)}{o:Nat}{M bm:Site}(hl:look sites o=some M)(h:bm.live=M.live)(E:Nat):bL (b5 sites o bm) E <-> bL sites E:=by
 unfold bL;rw[ck];by_cases e:o=E
 ·subst e;simp only[if_true,hl,Option.some.injEq];constructor
  ·rintro⟨s,rfl,h2⟩;exact⟨M,rfl,h▸h2⟩
  ·rintro⟨s,rfl,h2⟩;exact⟨bm,rfl,h▸h2⟩
 ·simp only[e,if_false]
theorem ad.write(S:ad J H X B st tm w){o b:Nat}{M bm:Site}{cur rI:Array Value}{T:TypeId}{cB:Nat×Nat}(hl:look st.sites o=some M)(ft:M.live=true)(YR:bm.live=true)(L:bm.bT=M.bT)
  (bw:b∈bb (B o)) (aJ:w.heap[b]? =some (.cells cur T cB))
  (eB:∀{bd:List (Nat×Site)} {w':World},bd=b5 st.sites o bm->w'=w.setRow b rI->w'.heap[b]? =some (.cells rI T cB)->
   (∀{a v},b4 B st.sites w (al X B st.sites) a v->b4 B bd w' (al X B bd) a v)->hA B bd w' (al X B bd) o bm):
  ad J H X B {st with sites:=b5 st.sites o bm} tm (w.setRow b rI):=by
 have cP:bL st.sites o:=⟨M,hl,ft⟩;have lD:∀E,bL (b5 st.sites o bm) E <-> bL st.sites E:=GP hl (YR.trans ft.symm);have bV:∀a8,al X B (b5 st.sites o bm) a8 <-> al X B st.sites a8:=by
  intro a8;unfold al;simp only[lD]
 have cF:∀a8,¬al X B st.sites a8->a8≠b:=by
  rintro a8 h rfl;exact h (.inr ⟨o,cP,bw⟩)
 refine S.nn (fun E s bg=>?_) (fun a8 h _=>setRow_other w b a8 _ (cF a8 h)) (fun a8 h _=>by rw[bV];exact h) (fun go E s bg=>?_) (fun E aE a8 h1 h2=>S.df E aE a8 ((lD E).1 h1) ((lD aE).1 h2))
  (fun E a8 h=>S.cc E a8 ((lD E).1 h)) (fun E a8 h hb=>by rw[setRow_size];exact S.dL ((lD E).1 h) hb) ?_ (by rw[setRow_size];exact Nat.le_refl _)
 ·rw[ck];by_cases e:o=E
  ·subst e;rw[hl] at bg;cases bg;exact⟨bm,by simp,by omega,fun _=>rfl⟩
  ·exact⟨s,by simp[e,bg],Nat.le_refl _,fun _=>rfl⟩
 ·rw[ck] at bg;by_cases e:o=E
  ·subst e;simp only[if_true,Option.some.injEq] at bg;subst bg;exact .inr (eB rfl rfl (setRow_heap w b cur rI T cB aJ) go)
  ·simp only[e,if_false] at bg;refine .inl ⟨bg,rfl,fun rC a8 cd=>setRow_other w b a8 _ ?_⟩
   rintro rfl;exact e (S.df o E _ cP ⟨s,bg,rC⟩ bw cd)
 ·have aY:=S.frame;refine⟨aY.os,aY.tape,aY.output,by rw[setRow_size];exact aY.size,fun a8 h1 h2=>?_⟩
  rw[setRow_other w b a8 _ ?_]
  ·exact aY.block a8 h1 h2
  ·rintro rfl;rcases(S.cc o _ cP bw).2 with h|h
   ·exact h2 h
   ·omega
theorem vF{av:Nat->Prop}{t:aB}{xs:List (den t)}{e:TypeId}{v:Value}{cs:List Value}(h1:rowAt w t.fc e (au t) v xs.length cs)(h2:ch w av (flat t xs) cs)(hb:∀b,aZ v=some b->¬av b):Rd w av (.sl t xs) v/\ua v:=by
 rcases h1.2 with⟨hn,aQ⟩|⟨g,cap,cur,br,Z,_,aJ,gq,_,_,gE⟩
 ·have:xs=[]:=List.eq_nil_of_length_eq_zero aQ;subst this;rw[hn];exact⟨.nil t,.inl rfl⟩
 ·rw[Z];refine⟨?_,.inr ⟨_,_,_,rfl⟩⟩;refine .sl t xs _ cap cs xs.length rfl gq (fun _=>hb g (by rw[Z];rfl)) h2.1 (fun j u hu=>?_) h2.2
  rw[gg,Nat.zero_add,cell_of_row w g j cur e br aJ];rw[<-gE,List.getElem?_take] at hu;split at hu
  ·simpa using hu
  ·cases hu
theorem ch.cons{av:Nat->Prop}{d:aK}{ds:List aK}{v:Value}{vs:List Value}(h:Rd w av d v)(k:ch w av ds vs):ch w av (d::ds) (v::vs):=by
 refine⟨by simp[k.1],fun j g1 g2=>?_⟩
 cases j with
 |zero=>exact h
 |succ j=>exact k.2 j (by simpa using g1) (by simpa using g2)
theorem Deep.ab9{w':World}{av bE:Nat->Prop}{ds:List aK}{cs ap:List Value}(h:Deep w av ds cs ap)(go:∀{d v},Rd w av d v->Rd w' bE d v):
  (∀n,n∈ap->∀b,aZ n=some b->¬bE b/\w'.heap[b]? =w.heap[b]?)->ch w' bE ds cs:=by
 induction h with
 |nil=>intro _;exact⟨rfl,fun j h=>by simp at h⟩
 |row u ys e O _ h hr _ ih=>
  intro ah;refine .cons (vF (m3 h fun b hb=>(ah _ List.mem_cons_self b hb).2) ⟨hr.1,fun j g1 g2=>go (hr.2 j g1 g2)⟩ fun b hb=>(ah _ List.mem_cons_self b hb).1).1 (ih fun n hn=>ah n (List.mem_cons_of_mem _ hn))
 |leaf _ h _ ih=>intro ah;exact .cons (go h) (ih ah)
theorem ad.freeze(S:ad J H X B st tm w){o s:Nat}{t:aB}{xs:List (den t)}(hl:look st.sites o=some (.row s t xs)\/look st.sites o=some (.deep s t xs)):
  ad J H X B {st with sites:=b5 st.sites o (.c0 s t xs)} tm w:=by
 have cP:bL st.sites o:=by rcases hl with hl|hl<;>exact⟨_,hl,rfl⟩
 have dz:∀E,bL (b5 st.sites o (.c0 s t xs)) E->bL st.sites E/\E≠o:=by
  rintro E ⟨M,h1,h2⟩;rw[ck] at h1;by_cases e:o=E
  ·subst e;simp at h1;subst h1;cases h2
  ·simp only[e,if_false] at h1;exact⟨⟨M,h1,h2⟩,fun h=>e h.symm⟩
 have bV:∀a8,al X B (b5 st.sites o (.c0 s t xs)) a8->al X B st.sites a8:=by
  rintro a8 (h|⟨E,h1,h2⟩)
  ·exact .inl h
  ·exact .inr ⟨E,(dz E h1).1,h2⟩
 have rW:∀b,b∈bb (B o)->¬al X B (b5 st.sites o (.c0 s t xs)) b:=by
  rintro b hb (hx|⟨E,g1,g2⟩)
  ·exact(S.cc o b cP hb).1 hx
  ·obtain⟨g3,g4⟩:=dz E g1;exact g4 (S.df E o b g3 cP g2 hb)
 refine S.nn (fun E M bg=>?_) (fun _ _ _=>rfl) (fun a8 h _ ae=>h (bV a8 ae)) (fun go E M bg=>?_) (fun E aE a8 h1 h2=>S.df E aE a8 (dz E h1).1 (dz aE h2).1)
  (fun E a8 h=>S.cc E a8 (dz E h).1) (fun E a8 h hb=>S.dL (dz E h).1 hb) S.frame (Nat.le_refl _)
 ·rw[ck];by_cases e:o=E
  ·subst e;refine⟨.c0 s t xs,by simp,?_,fun _=>rfl⟩
   rcases hl with hl|hl<;>rw[hl] at bg<;>cases bg<;>exact Nat.le_refl _
  ·exact⟨M,by simp[e,bg],Nat.le_refl _,fun _=>rfl⟩
 ·rw[ck] at bg;by_cases e:o=E
  ·subst e;simp only[if_true,Option.some.injEq] at bg;subst bg;refine .inr ?_
   show Rd _ _ (.sl t xs) (bD (B o))/\ua (bD (B o));rcases hl with hl|hl
   ·obtain⟨bz,cs,h1,h2⟩:=S.sites o _ hl;rw[(hp h1).1];exact vF h1 ⟨by rw[dD];exact h1.1,fun j g1 g2=>hB go (h2 j g1 g2)⟩ fun b hb=>rW b (fI hb)
   ·obtain⟨bz,v,ap,cs,aQ,_,h1,h2⟩:=S.sites o _ hl;have b6:bD (B o)=v:=by rw[aQ];rfl
    rw[b6];exact vF h1 (h2.ab9 (hB go) fun n hn b hb=>⟨rW b (by rw[aQ];exact hj.2 (.inr ⟨n,hn,hb⟩)),rfl⟩) fun b hb=>rW b (by rw[aQ];exact hj.2 (.inl hb))
  ·simp only[e,if_false] at bg;exact .inl ⟨bg,rfl,fun _ _ _=>rfl⟩
theorem HM{aA:Type}(l:List (Nat×aA))(n:Nat)(v:aA)(h:look l n=some v):b5 l n v=l:=by
 induction l with
 |nil=>simp[look] at h
 |cons p l ih=>
  obtain⟨k,u⟩:=p;simp only[look] at h;simp only[b5];cases hb:k.beq n with
  |true=>simp only[hb,cond_true,Option.some.injEq] at h;subst h;simp
  |false=>simp only[hb,cond_false] at h;simp[ih h]
def dv(sites:List (Nat×Site))(us:List (Nat×Site)):Prop:=
 ∀o M,(o,M)∈us->∃s t,∃xs:List (den t),M=.c0 s t xs/\(look sites o=some (.row s t xs)\/look sites o=some (.c0 s t xs)\/look sites o=some (.deep s t xs))
theorem dv.nil{sites:List (Nat×Site)}:dv sites []:=fun _ _ h=>by simp at h
theorem dv.append{sites us vs:List (Nat×Site)}(h:dv sites us)(ae:dv sites vs):dv sites (us++vs):=by
 intro o M hm;rcases List.mem_append.1 hm with hm|hm
 ·exact h o M hm
 ·exact ae o M hm
theorem dv.step{sites us:List (Nat×Site)}{o:Nat}{M:Site}(h:dv sites ((o,M)::us)):dv (b5 sites o M) us:=by
 obtain⟨s,t,xs,rfl,hl⟩:=h o M (by simp)
 intro E bm hm;obtain⟨ag,be,hv,rfl,fk⟩:=h E bm (by simp[hm])
 refine⟨ag,be,hv,rfl,?_⟩;rw[ck];by_cases e:o=E
 ·subst e;simp only[if_true];right;left;rcases hl with hl|hl|hl<;>rcases fk with fk|fk|fk<;>rw[hl] at fk<;>cases fk<;>rfl
 ·simp only[e,if_false];exact fk
theorem ad.xg{us:List (Nat×Site)}:∀{st:ab},ad J H X B st tm w->dv st.sites us->ad J H X B {st with sites:=aT st.sites us} tm w:=by
 induction us with
 |nil=>intro st S _;exact S
 |cons p us ih=>
  obtain⟨o,M⟩:=p;intro st S h;have ae:=h.step;obtain⟨s,t,xs,rfl,hl⟩:=h o M (by simp)
  simp only[aT];rcases hl with hl|hl|hl
  ·exact ih (S.freeze (.inl hl)) ae
  ·rw[HM _ _ _ hl] at ae ⊢;exact ih S ae
  ·exact ih (S.freeze (.inr hl)) ae
theorem ll{us:List (Nat×Site)}:∀{sites:List (Nat×Site)},dv sites us->∀o,(look (aT sites us) o=look sites o)\/(∃s t,∃xs:List (den t),(look sites o=some (.row s t xs)\/look sites o=some (.c0 s t xs)\/look sites o=some (.deep s t xs))/\look (aT sites us) o=some (.c0 s t xs)):=by
 induction us with
 |nil=>intro sites _ o;exact .inl rfl
 |cons p us ih=>
  obtain⟨E,M⟩:=p;intro sites h o;obtain⟨s,t,xs,rfl,hl⟩:=h E M (by simp)
  simp only[aT];have hc:=ck sites E o (.c0 s t xs);rcases ih h.step o with h1|⟨ag,be,hv,h1,h2⟩
  ·by_cases e:E=o
   ·subst e;simp only[if_true] at hc;exact .inr ⟨s,t,xs,hl,h1.trans hc⟩
   ·simp only[e,if_false] at hc;exact .inl (h1.trans hc)
  ·by_cases e:E=o
   ·subst e;simp only[if_true] at hc;rw[hc] at h1;rcases h1 with h1|h1|h1
    ·cases h1
    ·cases h1;exact .inr ⟨s,t,xs,hl,h2⟩
    ·cases h1
   ·simp only[e,if_false] at hc;rw[hc] at h1;exact .inr ⟨ag,be,hv,h1,h2⟩
theorem vj{us:List (Nat×Site)}:∀{sites:List (Nat×Site)},dv sites us->∀{o s:Nat} {t:aB} {xs:List (den t)},(o,Site.c0 s t xs)∈us->look (aT sites us) o=some (.c0 s t xs):=by
 intro sites h o s t xs hm;obtain⟨jB,t0,yW,he,hl⟩:=h o _ hm;cases he;rcases ll h o with h1|⟨ag,be,hv,h1,h2⟩
 ·-- named,and ae1 afX
  induction us generalizing sites with
  |nil=>simp at hm
  |cons p us ih=>
   obtain⟨E,M⟩:=p;simp only[aT] at h1 ⊢;rcases List.mem_cons.1 hm with hm|hm
   ·cases hm;rcases ll h.step o with h2|⟨ag,be,hv,h2,Y⟩
    ·rw[h2,ck];simp
    ·rw[ck] at h2;simp at h2;obtain⟨rfl,rfl,h2⟩:=h2;rw[Y];cases h2;rfl
   ·have hc:=ck sites E o M;by_cases e:E=o
    ·subst e;obtain⟨s1,t1,abT,rfl,iz⟩:=h E M (by simp)
     have:Site.c0 s1 t1 abT=Site.c0 s t xs:=by
      rcases hl with hl|hl|hl<;>rcases iz with iz|iz|iz<;>rw[hl] at iz<;>cases iz<;>rfl
     cases this;simp only[if_true] at hc;rcases ll h.step E with h2|⟨ag,be,hv,h2,Y⟩
     ·rw[h2,hc]
     ·rw[hc] at h2;rcases h2 with h2|h2|h2
      ·cases h2
      ·cases h2;exact Y
      ·cases h2
    ·simp only[e,if_false] at hc;refine ih h.step hm (by rw[hc];exact hl) ?_
     rw[h1,hc]
 ·rcases hl with hl|hl|hl<;>rcases h1 with h1|h1|h1<;>rw[hl] at h1<;>cases h1<;>exact h2
end
section
variable {P:Program}{J:World}{H:List Nat}{X:Nat->Prop}{B:Nat->Value}{st:ab}{tm:Array Value}{w:World}
structure kF(J:World)(H:List Nat)(X:Nat->Prop)(B:Nat->Value)(st:ab)(tm:Array Value)(w:World)(vs:List (Nat×Site)):Prop where
 old:ad J H X B st tm w
 br:dv st.sites vs
theorem kF.new{vs:List (Nat×Site)}(aY:kF J H X B st tm w vs):ad J H X B {st with sites:=aT st.sites vs} tm w:=aY.old.xg aY.br
theorem kF.go{vs:List (Nat×Site)}(aY:kF J H X B st tm w vs){a:aF}{v:Value}(h:b4 B st.sites w (al X B st.sites) a v):b4 B (aT st.sites vs) w (al X B (aT st.sites vs)) a v:=by
 have dz:∀E,bL (aT st.sites vs) E->bL st.sites E:=by
  rintro E ⟨M,h1,h2⟩;rcases ll aY.br E with h|⟨s,t,xs,_,h⟩
  ·exact⟨M,h▸h1,h2⟩
  ·rw[h] at h1;cases h1;cases h2
 refine h.goes ⟨fun o M a_=>?_,fun _ _ _=>rfl,fun b hb _ cd=>hb ?_⟩ (Nat.le_refl _) ?_
 ·rcases ll aY.br o with h|⟨s,t,xs,h1,h2⟩
  ·exact⟨M,h.trans a_,Nat.le_refl _,fun _=>rfl⟩
  ·refine⟨_,h2,?_,fun _=>rfl⟩
   rw[a_] at h1;rcases h1 with h1|h1|h1<;>cases h1<;>exact Nat.le_refl _
 ·rcases cd with h|⟨E,h1,h2⟩
  ·exact .inl h
  ·exact .inr ⟨E,dz E h1,h2⟩
 ·rintro b (h|⟨E,h1,h2⟩)
  ·exact aY.old.old b h
  ·exact aY.old.dL (dz E h1) h2
theorem XR{o s:Nat}{t:aB}{xs:List (den t)}(hr:rowOf st o s=some ⟨t,xs⟩):dv st.sites (lG st o s t xs):=by
 unfold lG;split
 ·exact .nil
 ·intro E M hm;simp only[List.mem_singleton,Prod.mk.injEq] at hm;obtain⟨rfl,rfl⟩:=hm;exact⟨s,t,xs,rfl,(jI hr).imp id .inl⟩
theorem Iq{o s:Nat}{t:aB}{xs:List (den t)}(hr:rowOf st o s=some ⟨t,xs⟩):aT st.sites (lG st o s t xs)=aT st.sites [(o,.c0 s t xs)]:=by
 unfold lG;split
 ·rename_i jB t0 yW aQ;have aQ:look st.sites o=some (.c0 jB t0 yW):=aQ;simp only[aT];rcases jI hr with h|h
  ·rw[aQ] at h;cases h
  ·exact(HM _ _ _ h).symm
 ·rfl
theorem UF{sites us:List (Nat×Site)}(h:dv sites us){o s:Nat}{t:aB}{xs:List (den t)}(hl:look sites o=some (.c0 s t xs)):look (aT sites us) o=some (.c0 s t xs):=by
 rcases ll h o with h1|⟨ag,be,hv,h1,h2⟩
 ·rw[h1];exact hl
 ·rw[hl] at h1;rcases h1 with h1|h1|h1
  ·cases h1
  ·cases h1;exact h2
  ·cases h1
theorem sz{o s:Nat}{t:aB}{xs:List (den t)}(h:ls st o s=some ⟨t,xs⟩):look st.sites o=some (.deep s t xs):=by
 unfold ls at h;split at h
 ·rename_i ag be hv L;cases hb:ag.beq s with
  |false=>rw[hb] at h;cases h
  |true=>
   rw[hb] at h;have:=Nat.eq_of_beq_eq_true hb;subst this;cases h;exact L
 ·cases h
theorem J5{l:aw}{d:aK}{us:List (Nat×Site)}(h:jw st l=some (d,us)):dv st.sites us:=by
 unfold jw at h;split at h
 ·cases h;exact .nil
 ·cases h;exact .nil
 ·rename_i o s;split at h
  ·rename_i t xs hr;cases h;exact XR hr
  ·split at h
   ·rename_i t xs hr;cases h;intro E M hm;simp only[List.mem_singleton,Prod.mk.injEq] at hm;obtain⟨rfl,rfl⟩:=hm;exact⟨s,t,xs,rfl,.inr (.inr (sz hr))⟩
   ·cases h
 ·cases h;exact .nil
 ·cases h
theorem J4{l:aw}{d:aK}{us vs:List (Nat×Site)}{v:Value}(h:jw st l=some (d,us))(Z:dl B st.sites w (al X B st.sites) l v)
  (aY:kF J H X B st tm w vs) (dz:∀p,p∈us->p∈vs):Rd w (al X B (aT st.sites vs)) d v:=by
 unfold jw at h;split at h
 ·cases h;exact hB aY.go Z
 ·cases h;rw[show v=_ from Z];exact .nil _
 ·rename_i o s;split at h
  ·rename_i t xs hr;cases h;have hl:look (aT st.sites vs) o=some (.c0 s t xs):=by
    unfold lG at dz;split at dz
    ·rename_i jB t0 yW aQ;have aQ:look st.sites o=some (.c0 jB t0 yW):=aQ;rcases jI hr with h|h
     ·rw[aQ] at h;cases h
     ·exact UF aY.br h
    ·exact vj aY.br (dz _ (List.mem_singleton.2 rfl))
   have:=aY.new.sites o _ hl;have gY:v=bD (B o):=by
    rcases jI hr with h1|h1<;>exact Ref.at Z.2 h1 rfl
   rw[gY];exact this.1
  ·split at h
   ·rename_i t xs hr;cases h;have:=aY.new.sites o _ (vj aY.br (dz _ (List.mem_singleton.2 rfl)));have gY:v=bD (B o):=Ref.at Z.2 (sz hr) rfl;rw[gY];exact this.1
   ·cases h
 ·rename_i g;cases h;obtain⟨O,rfl,hl,_⟩:=Z;have:O=[]:=List.eq_nil_of_length_eq_zero (by simpa using hl)
  subst this;exact .fn g [] [] (fun _=>[]) _ rfl rfl (fun b hb=>by simp at hb) (fun b hb=>by simp at hb) (fun i af=>by simp at af) (fun i af=>by simp at af) (fun i af=>by simp at af)
 ·cases h
theorem Cg:∀{O:List aw} {ds:List aK} {us:List (Nat×Site)},ht st O=some (ds,us)->dv st.sites us:=by
 intro O;induction O with
 |nil=>intro ds us h;simp only[ht] at h;cases h;exact .nil
 |cons l O ih=>
  intro ds us h;simp only[ht] at h;split at h
  ·rename_i d u1 gv u2 h1 h2;cases h;exact(J5 h1).append (ih h2)
  ·cases h
theorem xk:∀{O:List aw} {ds:List aK} {us vs:List (Nat×Site)} {cs:List Value},ht st O=some (ds,us)->cl B st.sites w (al X B st.sites) O cs->
  kF J H X B st tm w vs->(∀p,p∈us->p∈vs)->ch w (al X B (aT st.sites vs)) ds cs:=by
 intro O;induction O with
 |nil=>intro ds us vs cs h hl _ _;simp only[ht] at h;cases h;rw[hl.kO];exact⟨rfl,fun j h=>by simp at h⟩
 |cons l O ih=>
  intro ds us vs cs h hl aY dz;simp only[ht] at h;split at h
  ·rename_i d u1 gv u2 h1 h2;cases h;obtain⟨c,jx,rfl,hc,dW⟩:=hl.inv;have dO:=J4 h1 hc aY (fun p am=>dz p (List.mem_append.2 (.inl am)))
   obtain⟨de,h'⟩:=ih h2 dW aY (fun p am=>dz p (List.mem_append.2 (.inr am)))
   refine⟨by simp[de],fun j g1 g2=>?_⟩
   cases j with
   |zero=>exact dO
   |succ j=>exact h' j (by simpa using g1) (by simpa using g2)
  ·cases h
theorem k2.run{P:Program}{u:Bool}(g D:Nat)(t:TypeId)(br:Nat×Nat):∀(vs:List Value) (i:Nat) (cur:Array Value) (w:World),w.heap[g]? =some (.cells cur t br)->k2 u t cur br->D+i+vs.length<=cur.size->(∀v∈vs,v.oneCell'=true)->
  (storeCells ⟨g,D,none⟩ vs i).run P w=.ok () (w.setRow g (cur.toList.take (D+i)++vs++cur.toList.drop (D+i+vs.length)).toArray)
 |[],i,cur,w,aJ,_,_,_=>by
  simp only[storeCells,List.append_nil,List.length_nil,Nat.add_zero,List.take_append_drop,Array.toArray_toList];rw[setRow_self w g cur t br aJ];rfl
 |v::rest,i,cur,w,aJ,aM,hl,h1=>by
  have af:D+i<cur.size:=by simp at hl;omega
  have aaz:(⟨g,D,none⟩:Addr).add i=⟨g,D+i,none⟩:=by unfold Addr.add;split<;>simp_all
  have is:w.cell? ⟨g,D+i,none⟩=some cur[D+i]:=by simp[World.cell?,aJ,af]
  have aaq:w.frozen? ⟨g,D+i,none⟩=false:=by
   rcases aM.2 with rfl|⟨_,aM⟩
   ·simp[World.frozen?,aJ]
   ·simp only[World.frozen?,aJ];have:¬br.1<=D+i:=by omega
    simp[this]
  have dr:(store ((⟨g,D,none⟩:Addr).add i) v).run P w=.ok () (w.setRow g (cur.setIfInBounds (D+i) v)):=by
   rw[aaz,run_store P w _ v _ (h1 v (by simp)),is]
   simp[aaq,setCell_eq_setRow w g (D+i) cur t br v aJ]
  have ih:=k2.run (P:=P) (u:=u) g D t br rest (i+1) (cur.setIfInBounds (D+i) v) (w.setRow g (cur.setIfInBounds (D+i) v)) (setRow_heap w g cur _ t _ aJ)
   ⟨aM.1,aM.2.imp id fun h=>⟨h.1,by simpa using h.2⟩⟩ (by simp at hl ⊢;omega) (fun x hx=>h1 x (by simp[hx]))
  simp only[storeCells,Sem.run_bind,dr,Result.andThen_ok,ih,setRow_setRow];congr 3
  have e:=list_seg_step cur.toList (D+i) v rest (by simp at hl ⊢;omega)
  simpa[Array.toList_setIfInBounds,Nat.add_assoc] using e
theorem FS{u:Bool}{br:Nat×Nat}{T:TypeId}{ti:cg}(h:ti.ok P T)(hn:ti≠.none){b off:Nat}{vv:Value}{cur:List Value}{fS:TypeId}(aJ:w.heap[b]? =some (.cells cur.toArray fS br))(aM:k2 u fS cur.toArray br)
  (eJ:vv.cells.toList.length=ti.size) (c3:off+vv.cells.toList.length<=cur.length) (h1:∀u∈vv.cells.toList,u.oneCell'=true):
  (storeVar T ⟨b,off,none⟩ vv).run P w=.ok () (w.setRow b (b' cur off vv.cells.toList).toArray):=by
 have L:vv.cells.size=ti.size:=by simpa using eJ
 have:=k2.run (P:=P) b off fS br vv.cells.toList 0 cur.toArray w aJ aM (by simpa using c3) h1
 simp only[storeVar,Sem.run_bind,cg.Ia h hn,Result.andThen_ok,L,ne_eq,not_true_eq_false,if_false];rw[this];simp[b']
variable {D:Oper}
theorem oS{ax:Nat->Value}{w':World}{us:List (Nat×Site)}(S:ad J H X ax {st with sites:=aT st.sites us} tm w')(U:b2 st D.dst=true)
  (h:(execOp (Act.eval ⟨tm,[]⟩) D).run P w=.ok .skip w'):cr P J H X st tm w D (bQ (.cx undef)) us:=
 fun _ _ bA=>Yb h (bA _ _ _ (ad.cK S U rfl))
theorem hz{ax:Nat->Value}{w':World}{us:List (Nat×Site)}{v:aF}{vv:Value}(S:ad J H X ax {st with sites:=aT st.sites us} tm w')(U:b2 st D.dst=true)
  (h:(execOp (Act.eval ⟨tm,[]⟩) D).run P w=.ok (.value vv) w') (Z:b4 ax (aT st.sites us) w' (al X ax (aT st.sites us)) v vv):cr P J H X st tm w D v us:=
 fun _ _ bA=>nc h (bA _ _ _ (ad.cK S U Z))
theorem l8{aA:Type}(a:List aA)(off:Nat)(b:List aA)(h:off+b.length<=a.length):(b' a off b).length=a.length:=by
 unfold b';simp only[List.length_append,List.length_take,List.length_drop];omega
theorem zJ{aA:Type}(a:List aA)(off n:Nat)(b:List aA)(h:off+b.length<=n)(hn:n<=a.length):(b' a off b).take n=b' (a.take n) off b:=by
 unfold b';apply List.ext_getElem?;intro j;simp only[List.getElem?_take,List.getElem?_append,List.length_append,List.length_take,List.getElem?_drop];have c4:min off a.length=off:=by omega
 have dx:min off (min n a.length)=off:=by omega
 simp only[c4,dx];by_cases bI:j<off
 ·have bB:j<n:=by omega
  have cC:j<off+b.length:=by omega
  simp[bI,bB,cC]
 ·by_cases cC:j<off+b.length
  ·have bB:j<n:=by omega
   simp[bI,bB,cC]
  ·have e:off+b.length+(j-(off+b.length))=j:=by omega
   simp[bI,cC,e]
theorem Sp{cells O:List aw}{T:TypeId}{cur vs:List Value}{b off:Nat}(h:mq cells T cur b)(hl:vs.length=O.length)(hJ:gz O=true):mq (b' cells off O) T (b' cur off vs) b:=by
 intro b6;unfold b' at b6 ⊢;cases off with
 |zero=>
  cases O with
  |nil=>
   cases vs with
   |nil=>simpa using h (by simpa using b6)
   |cons=>cases hl
  |cons l O=>
   simp only[List.take_zero,List.nil_append,List.cons_append,List.head?_cons,Option.some.injEq] at b6;subst b6;cases hJ
 |succ n=>
  cases cells with
  |nil=>
   cases O with
   |nil=>simp at b6
   |cons l O=>
    simp only[List.take_nil,List.nil_append,List.cons_append,List.head?_cons,Option.some.injEq] at b6;subst b6;cases hJ
  |cons c cells=>
   simp only[List.take_succ_cons,List.cons_append,List.head?_cons,Option.some.injEq] at b6;subst b6;have:=h rfl;cases cur with
   |nil=>simp at this
   |cons v cur=>simpa using this
theorem ad.Vh(S:ad J H X B st tm w){o s off:Nat}{cells O:List aw}{v:Value}{vs:List Value}(hb:look st.sites o=some (.box s cells))(Z:dl B st.sites w (al X B st.sites) (.ptr o s off) v)
  (hl:cl B st.sites w (al X B st.sites) O vs) (c3:off+O.length<=cells.length) (h1:∀u∈vs,u.oneCell'=true) (hJ:gz O=true):
  ∃b T cur,v=.pointer (some ⟨b,off,none⟩)/\w.heap[b]? =some (.cells (List.toArray cur) T (0,0))/\off+vs.length<=cur.length/\
   ad J H X B {st with sites:=b5 st.sites o (.box s (b' cells off O))} tm (w.setRow b (b' cur off vs).toArray):=by
 obtain⟨b,T,cur,bw,nG,aJ,jq,kt⟩:=S.box hb Z;have iQ:off+vs.length<=cur.length:=by rw[hl.1,kt.1];exact c3
 refine⟨b,T,cur,nG,aJ,iQ,?_⟩;have fA:mq cells T cur b:=by
  obtain⟨aG,dB,Mq,ay,ai,_,_,bn,_⟩:=S.sites o _ hb;rw[bw] at ay;cases ay;rw[aJ] at ai;cases ai;exact bn
 refine S.write hb rfl rfl rfl (fI (by rw[bw];rfl)) aJ (fun L hw kv go=>?_)
 have Me:=xJ go (kt.b' off hl);refine⟨b,T,_,bw,kv,Me.1,fun u hu=>?_,Sp fA hl.1 hJ,Me.2⟩
 unfold b' at hu;simp only[List.mem_append] at hu;rcases hu with(hu|hu)|hu
 ·exact jq u (List.mem_of_mem_take hu)
 ·exact h1 u hu
 ·exact jq u (List.mem_of_mem_drop hu)
theorem hU{B:Nat->Value}{sites:List (Nat×Site)}{w:World}{av:Nat->Prop}{ds:List aK}{vs:List Value}(h:cl B sites w av (ci ds) vs):ch w av ds vs:=
 ⟨by simpa[ci] using h.1,fun j g1 g2=>by
  have:=h.2 j (by simpa[ci] using g1) g2
  simp only[ci,List.getElem_map] at this;exact this⟩
theorem Rc{w:World}{av:Nat->Prop}{t:aB}{xs:List (den t)}{k:Nat}{dd:den t}{cs ap:List Value}(ah:k<xs.length)(h:ch w av (flat t xs) cs)(ae:ch w av (enc t dd) ap):
  ch w av (flat t (xs.set k dd)) (b' cs (k*au t) ap):=by
 have e:flat t (xs.set k dd)=b' (flat t xs) (k*au t) (enc t dd):=by
  rw[We,if_pos ah];unfold b';rw[fj,Nat.add_mul,Nat.one_mul]
 rw[e];have a:=fV (B:=fun _=>undef) (sites:=[]) h.1 h.2
 have b:=fV (B:=fun _=>undef) (sites:=[]) ae.1 ae.2
 have c:=a.b' (k*au t) b;have e2:b' (ci (flat t xs)) (k*au t) (ci (enc t dd))=ci (b' (flat t xs) (k*au t) (enc t dd)):=by
  simp[b',ci,List.map_append,List.map_take,List.map_drop]
 rw[e2] at c;exact hU c
theorem ad.Vg(S:ad J H X B st tm w){o s k off:Nat}{t:aB}{xs:List (den t)}{x dd:den t}{v:Value}{ds:List aK}{vs:List Value}(hb:look st.sites o=some (.row s t xs))
  (Z:dl B st.sites w (al X B st.sites) (.er o s t k off) v) (hx:xs[k]? =some x) (mD:enc t dd=b' (enc t x) off ds)
  (hl:ch w (al X B st.sites) ds vs) (c3:off+ds.length<=au t) (h1:∀u∈vs,u.oneCell'=true):
  ∃b T cur br,v=.pointer (some ⟨b,k*au t+off,none⟩)/\w.heap[b]? =some (.cells (List.toArray cur) T br)/\k2 t.fc T cur.toArray br/\k*au t+off+vs.length<=cur.length/\
   ad J H X B {st with sites:=b5 st.sites o (.row s t (xs.set k dd))} tm (w.setRow b (b' cur (k*au t+off) vs).toArray):=by
 obtain⟨b,D,nG,jY⟩:=Z;obtain⟨n,c,bw⟩:=Ref.at jY hb rfl;obtain⟨e,cs,gT,c2⟩:=S.sites o _ hb;rw[(hp gT).1] at bw;have ah:k<xs.length:=by
  rcases Nat.lt_or_ge k xs.length with h|h
  ·exact h
  ·rw[List.getElem?_eq_none h] at hx;cases hx
 obtain⟨oy,h⟩:=gT;rcases h with⟨hn,_⟩|⟨g,cap,cur,br,h7,lW,aJ,gq,iB,dW,gE⟩
 ·rw[bw] at hn;cases hn
 ·rw[bw] at h7;cases h7;have lV:(k+1)*au t<=xs.length*au t:=Nat.mul_le_mul_right _ ah;have h5:xs.length*au t<=c*au t:=Nat.mul_le_mul_right _ gq;rw[Nat.add_mul,Nat.one_mul] at lV;have lR:vs.length=ds.length:=hl.1;have jq:cur.toList.length=c*au t:=by simpa using dW
  have iQ:k*au t+off+vs.length<=cur.toList.length:=by omega
  refine⟨b,e,cur.toList,br,by rw[nG,Nat.zero_add],by simpa using aJ,by simpa using lW,iQ,?_⟩
  refine S.write hb rfl rfl rfl (fI (by rw[bw];rfl)) aJ (fun L hw kv go=>?_)
  have ago:cs.length=xs.length*au t:=oy;refine⟨e,b' cs (k*au t+off) vs,⟨?_,.inr ⟨b,c,_,br,?_,?_,kv,?_,iB,?_,?_⟩⟩,?_⟩
  ·rw[l8 _ _ _ (by omega),List.length_set];exact oy
  ·rw[bw,List.length_set]
  ·refine⟨lW.1,?_⟩;rcases lW.2 with h|⟨h,ae⟩
   ·exact .inl h
   ·refine .inr ⟨h,?_⟩;rw[List.size_toArray,l8 _ _ _ iQ];simpa using ae
  ·rw[List.length_set];exact gq
  ·rw[List.size_toArray,l8 _ _ _ iQ];exact jq
  ·rw[<-gE,List.length_set,List.toList_toArray];exact zJ _ _ _ _ (by omega) (by rw[jq];omega)
  ·have u5:ch w (al X B st.sites) (flat t xs) cs:=⟨by rw[dD];exact oy,c2⟩
   have fA:=sD t xs k x hx;have dO:ch w (al X B st.sites) (enc t x) ((cs.drop (k*au t)).take (au t)):=by
    have a:=fV (B:=fun _=>undef) (sites:=[]) u5.1 u5.2
    have a8:=(a.drop (k*au t)).take (au t);have e2:((ci (flat t xs)).drop (k*au t)).take (au t)=ci (enc t x):=by
     rw[<-fA];simp[ci,List.map_drop,List.map_take]
    rw[e2] at a8;exact hU a8
   have de:ch w (al X B st.sites) (enc t dd) (b' ((cs.drop (k*au t)).take (au t)) off vs):=by
    rw[mD];have a:=fV (B:=fun _=>undef) (sites:=[]) dO.1 dO.2
    have a8:=fV (B:=fun _=>undef) (sites:=[]) hl.1 hl.2
    have fF:=a.b' off a8;have e2:b' (ci (enc t x)) off (ci ds)=ci (b' (enc t x) off ds):=by
     simp[b',ci,List.map_append,List.map_take,List.map_drop]
    rw[e2] at fF;exact hU fF
   have h':=Rc ah u5 de;have cf:b' cs (k*au t) (b' ((cs.drop (k*au t)).take (au t)) off vs)=b' cs (k*au t+off) vs:=by
    unfold b';apply List.ext_getElem?;intro j;simp only[List.getElem?_append,List.length_append,List.length_take,List.length_drop,List.getElem?_take,List.getElem?_drop];have c4:min (k*au t) cs.length=k*au t:=by omega
    have dx:min (k*au t+off) cs.length=k*au t+off:=by omega
    have jC:min (au t) (cs.length-k*au t)=au t:=by omega
    have p1:min off (au t)=off:=by omega
    simp only[c4,dx,jC,p1];by_cases bI:j<k*au t
    ·have bB:j<k*au t+off:=by omega
     have cC:j<k*au t+off+vs.length:=by omega
     have fp:j<k*au t+(off+vs.length+(au t-(off+vs.length))):=by omega
     simp[bI,bB,cC,fp]
    ·by_cases bB:j<k*au t+off
     ·have d1:j-k*au t<off:=by omega
      have d2:j-k*au t<off+vs.length:=by omega
      have d3:j-k*au t<au t:=by omega
      have cC:j<k*au t+off+vs.length:=by omega
      have fp:j<k*au t+(off+vs.length+(au t-(off+vs.length))):=by omega
      have gx:k*au t+(j-k*au t)=j:=by omega
      simp[bI,bB,cC,fp,d1,d2,d3,gx]
     ·by_cases cC:j<k*au t+off+vs.length
      ·have d1:¬j-k*au t<off:=by omega
       have d2:j-k*au t<off+vs.length:=by omega
       have fp:j<k*au t+(off+vs.length+(au t-(off+vs.length))):=by omega
       have gx:j-k*au t-off=j-(k*au t+off):=by omega
       simp[bI,bB,cC,fp,d1,d2,gx]
      ·by_cases fp:j<k*au t+(off+vs.length+(au t-(off+vs.length)))
       ·have d2:¬j-k*au t<off+vs.length:=by omega
        have d1:¬j-k*au t<off:=by omega
        have d5:off+vs.length+(j-k*au t-(off+vs.length))<au t:=by omega
        have gx:k*au t+(off+vs.length+(j-k*au t-(off+vs.length)))=k*au t+off+vs.length+(j-(k*au t+off+vs.length)):=by omega
        simp[bI,bB,cC,fp,d1,d2,d5,gx]
       ·have gx:k*au t+(off+vs.length+(au t-(off+vs.length)))+(j-(k*au t+(off+vs.length+(au t-(off+vs.length)))))=k*au t+off+vs.length+(j-(k*au t+off+vs.length)):=by omega
        simp[bI,bB,cC,fp,gx]
   rw[cf] at h';exact fun j g1 g2=>hB go (h'.2 j g1 g2)
end
section
variable {P:Program}{J:World}{H:List Nat}{X:Nat->Prop}{B:Nat->Value}{st:ab}{tm:Array Value}{w:World}
theorem iI{o:Nat}{M:Site}(h:look st.sites o=some M):M.bT<aR st o:=by
 unfold aR ab.M;rw[h];exact Nat.lt_succ_self _
theorem ad.make(S:ad J H X B st tm w){o:Nat}{bm:Site}{nv:Value}{w':World}
  (hw:∀b,b<w.heap.size->w'.heap[b]? =w.heap[b]?) (EO:w'.os=w.os) (Dd:w'.tape=w.tape) (tM:w'.output=w.output) (jk:w.heap.size<=w'.heap.size)
  (mh:∀M,look st.sites o=some M->M.bT<bm.bT) (fv:∀b,b∈bb nv->w.heap.size<=b/\b<w'.heap.size)
  (eB:∀{bd:List (Nat×Site)} {ax:Nat->Value},bd=b5 st.sites o bm->ax o=nv->(∀{a v},b4 B st.sites w (al X B st.sites) a v->b4 ax bd w' (al X ax bd) a v)->
   (∀b,w.heap.size<=b->b∉bb nv->¬al X ax bd b)->(bm.live=false->∀b,b∈bb nv->¬al X ax bd b)->hA ax bd w' (al X ax bd) o bm):
  ad J H X (fun E=>if E=o then nv else B E) {st with sites:=b5 st.sites o bm} tm w':=by
 have cP:∀E,bL (b5 st.sites o bm) E->(E=o/\bm.live=true)\/(E≠o/\bL st.sites E):=by
  rintro E ⟨M,h1,h2⟩;rw[ck] at h1;by_cases e:o=E
  ·subst e;simp at h1;subst h1;exact .inl ⟨rfl,h2⟩
  ·simp only[e,if_false] at h1;exact .inr ⟨fun h=>e h.symm,M,h1,h2⟩
 have bV:∀b,al X (fun E=>if E=o then nv else B E) (b5 st.sites o bm) b->al X B st.sites b\/(b∈bb nv/\bm.live=true):=by
  rintro b (h|⟨E,h1,h2⟩)
  ·exact .inl (.inl h)
  ·rcases cP E h1 with⟨rfl,Y⟩|⟨Y,aP⟩
   ·simp at h2;exact .inr ⟨h2,Y⟩
   ·simp only[Y,if_false] at h2;exact .inl (.inr ⟨E,aP,h2⟩)
 have ba:∀b,al X B st.sites b->b<w.heap.size:=by
  rintro b (h|⟨E,h1,h2⟩)
  ·exact S.old b h
  ·exact S.dL h1 h2
 refine S.nn (fun E M bg=>?_) (fun b _ hb=>hw b hb) (fun b h hb ae=>?_) (fun go E M bg=>?_) (fun E aE b h1 h2 g1 g2=>?_) (fun E b h1 g1=>?_) (fun E b h1 g1=>?_) ?_ jk
 ·rw[ck];by_cases e:o=E
  ·subst e;exact⟨bm,by simp,Nat.le_of_lt (mh M bg),fun h=>by have:=mh M bg;omega⟩
  ·have bz:¬E=o:=fun h=>e h.symm
   exact⟨M,by simp[e,bg],Nat.le_refl _,fun _=>by simp[bz]⟩
 ·rcases bV b ae with ae|⟨ae,_⟩
  ·exact h ae
  ·have:=(fv b ae).1;omega
 ·rw[ck] at bg;by_cases e:o=E
  ·subst e;simp only[if_true,Option.some.injEq] at bg;subst bg;refine .inr (eB rfl (by simp) go (fun b hb cF ae=>?_) (fun hl b hb ae=>?_))
   ·rcases bV b ae with ae|⟨ae,_⟩
    ·have:=ba b ae;omega
    ·exact cF ae
   ·rcases bV b ae with ae|⟨_,ae⟩
    ·have:=ba b ae;have:=(fv b hb).1;omega
    ·rw[hl] at ae;cases ae
  ·have bz:¬E=o:=fun h=>e h.symm
   simp only[e,if_false] at bg;exact .inl ⟨bg,by simp[bz],fun hl b hb=>hw b (S.dL ⟨M,bg,hl⟩ hb)⟩
 ·rcases cP E h1 with⟨rfl,_⟩|⟨b1,cy⟩<;>rcases cP aE h2 with⟨rfl,_⟩|⟨cM,en⟩
  ·rfl
  ·simp only[if_true] at g1;simp only[cM,if_false] at g2;have:=S.dL en g2;have:=(fv b g1).1;omega
  ·simp only[if_true] at g2;simp only[b1,if_false] at g1;have:=S.dL cy g1;have:=(fv b g2).1;omega
  ·simp only[b1,if_false] at g1;simp only[cM,if_false] at g2;exact S.df E aE b cy en g1 g2
 ·rcases cP E h1 with⟨rfl,_⟩|⟨b1,cy⟩
  ·simp only[if_true] at g1;have hb:=(fv b g1).1;exact⟨fun hx=>by have:=S.old b hx;have:=S.frame.size;omega,.inr (Nat.le_trans S.frame.size hb)⟩
  ·simp only[b1,if_false] at g1;exact S.cc E b cy g1
 ·rcases cP E h1 with⟨rfl,_⟩|⟨b1,cy⟩
  ·simp only[if_true] at g1;exact(fv b g1).2
  ·simp only[b1,if_false] at g1;exact Nat.lt_of_lt_of_le (S.dL cy g1) jk
 ·have aY:=S.frame;exact⟨EO.trans aY.os,Dd.trans aY.tape,tM.trans aY.output,Nat.le_trans aY.size jk,fun b h1 h2=>(hw b (Nat.lt_of_lt_of_le h1 aY.size)).trans (aY.block b h1 h2)⟩
theorem ad.Cj(S:ad J H X B st tm w){o dst s:Nat}{C_ hC:Site}(hl:look st.sites o=some C_)(YQ:C_.live=true)(pH:C_.bT=s)(mF:hC.bT=aR (st.c7 o (.dead s)) dst){nv:Value}{w':World}
  (aJ:w.grownBy w' (B o).ownBlock) (fv:∀b,b∈bb nv->b<w'.heap.size/\(b∈bb (B o)\/w.heap.size<=b))
  (eB:∀{bd:List (Nat×Site)} {ax:Nat->Value},ax dst=nv->(∀{a v},b4 B st.sites w (al X B st.sites) a v->b4 ax bd w' (al X ax bd) a v)->
   hA ax bd w' (al X ax bd) dst hC):
  ad J H X (fun E=>if E=dst then nv else B E) {st with sites:=aT st.sites [(o,.dead s),(dst,hC)]} tm w':=by
 have a_:bL st.sites o:=⟨_,hl,YQ⟩;have hD:∀E,look (aT st.sites [(o,.dead s),(dst,hC)]) E=
   if dst=E then some hC else if o=E then some (.dead s) else look st.sites E:=by
  intro E;simp only[aT,ck]
 have mh:∀M,look st.sites dst=some M->M.bT<aR (st.c7 o (.dead s)) dst:=by
  intro M h;unfold aR;rw[ab.kI];by_cases e:o=dst
  ·subst e;rw[hl] at h;cases h;rw[pH];simp[Site.bT]
  ·simp only[e,if_false,ab.M,h];exact Nat.lt_succ_self _
 have cP:∀E,bL (aT st.sites [(o,.dead s),(dst,hC)]) E->E=dst\/(E≠dst/\E≠o/\bL st.sites E):=by
  rintro E ⟨M,h1,h2⟩;rw[hD] at h1;by_cases e:dst=E
  ·exact .inl e.symm
  ·simp only[e,if_false] at h1;by_cases e2:o=E
   ·simp only[e2,if_true,Option.some.injEq] at h1;subst h1;cases h2
   ·simp only[e2,if_false] at h1;exact .inr ⟨fun h=>e h.symm,fun h=>e2 h.symm,M,h1,h2⟩
 have _':∀b,(B o).ownBlock=some b->b∈bb (B o):=by
  intro b hb;refine fI ?_
  cases Z:B o<;>rw[Z] at hb<;>first|cases hb|skip
  rename_i a n c;cases a<;>first|exact hb|cases hb
 have tD:∀b,b<w.heap.size->b∉bb (B o)->w'.heap[b]? =w.heap[b]? :=fun b hb cF=>aJ.block b hb (fun e=>cF (_' b e.symm))
 refine S.nn (fun E M bg=>?_) (fun b h hb=>tD b hb (fun e=>h (.inr ⟨o,a_,e⟩))) (fun b h hb ae=>?_) (fun go E M bg=>?_) (fun E aE b h1 h2 g1 g2=>?_) (fun E b h1 g1=>?_) (fun E b h1 g1=>?_) ?_ aJ.size
 ·rw[hD];by_cases e:dst=E
  ·subst e;refine⟨hC,by simp,?_,fun h=>?_⟩
   ·rw[mF];exact Nat.le_of_lt (mh M bg)
   ·have:=mh M bg;rw[mF] at h;omega
  ·have bz:¬E=dst:=fun h=>e h.symm
   by_cases e2:o=E
   ·subst e2;rw[hl] at bg;cases bg;exact⟨.dead s,by simp[e],Nat.le_of_eq pH,fun _=>by simp[bz]⟩
   ·exact⟨M,by simp[e,e2,bg],Nat.le_refl _,fun _=>by simp[bz]⟩
 ·rcases ae with ae|⟨E,h1,h2⟩
  ·exact h (.inl ae)
  ·rcases cP E h1 with rfl|⟨b1,_,cy⟩
   ·simp only[if_true] at h2;rcases(fv b h2).2 with Y|Y
    ·exact h (.inr ⟨o,a_,Y⟩)
    ·omega
   ·simp only[b1,if_false] at h2;exact h (.inr ⟨E,cy,h2⟩)
 ·rw[hD] at bg;by_cases e:dst=E
  ·subst e;simp only[if_true,Option.some.injEq] at bg;subst bg;exact .inr (eB (by simp) go)
  ·have bz:¬E=dst:=fun h=>e h.symm
   simp only[e,if_false] at bg;by_cases e2:o=E
   ·simp only[e2,if_true,Option.some.injEq] at bg;subst bg;exact .inr trivial
   ·simp only[e2,if_false] at bg;refine .inl ⟨bg,by simp[bz],fun fk b hb=>?_⟩
    have Ob:bL st.sites E:=⟨M,bg,fk⟩;exact tD b (S.dL Ob hb) (fun h=>e2 (S.df o E b a_ Ob h hb))
 ·have key:∀E b,E≠dst->E≠o->bL st.sites E->b∈bb (B E)->b∉bb nv:=by
   intro E b b1 cM cy hb hn;rcases(fv b hn).2 with Y|Y
   ·exact cM (S.df E o b cy a_ hb Y)
   ·have:=S.dL cy hb;omega
  rcases cP E h1 with rfl|⟨b1,c4,cy⟩<;>rcases cP aE h2 with rfl|⟨cM,dx,en⟩
  ·rfl
  ·simp only[if_true] at g1;simp only[cM,if_false] at g2;exact absurd g1 (key aE b cM dx en g2)
  ·simp only[if_true] at g2;simp only[b1,if_false] at g1;exact absurd g2 (key E b b1 c4 cy g1)
  ·simp only[b1,if_false] at g1;simp only[cM,if_false] at g2;exact S.df E aE b cy en g1 g2
 ·rcases cP E h1 with rfl|⟨b1,_,cy⟩
  ·simp only[if_true] at g1;rcases(fv b g1).2 with Y|Y
   ·exact S.cc o b a_ Y
   ·exact⟨fun hx=>by have:=S.old b hx;have:=S.frame.size;omega,.inr (Nat.le_trans S.frame.size Y)⟩
  ·simp only[b1,if_false] at g1;exact S.cc E b cy g1
 ·rcases cP E h1 with rfl|⟨b1,_,cy⟩
  ·simp only[if_true] at g1;exact(fv b g1).1
  ·simp only[b1,if_false] at g1;exact Nat.lt_of_lt_of_le (S.dL cy g1) aJ.size
 ·have aY:=S.frame;refine⟨aJ.os.trans aY.os,aJ.tape.trans aY.tape,aJ.output.trans aY.output,Nat.le_trans aY.size aJ.size,fun b h1 h2=>?_⟩
  rw[tD b (Nat.lt_of_lt_of_le h1 aY.size) (fun e=>?_)]
  ·exact aY.block b h1 h2
  ·rcases(S.cc o b a_ e).2 with h|h
   ·exact h2 h
   ·omega
theorem ad.append(S:ad J H X B st tm w){o dst s:Nat}{t:aB}{xs r:List (den t)}(hl:look st.sites o=some (.row s t xs)){nv:Value}{w':World}
  (aJ:w.grownBy w' (B o).ownBlock) (fv:∀b,b∈bb nv->b<w'.heap.size/\(b∈bb (B o)\/w.heap.size<=b))
  (eB:∀{bd:List (Nat×Site)} {ax:Nat->Value},ax dst=nv->(∀{a v},b4 B st.sites w (al X B st.sites) a v->b4 ax bd w' (al X ax bd) a v)->
   hA ax bd w' (al X ax bd) dst (.row (aR (st.c7 o (.dead s)) dst) t r)):
  ad J H X (fun E=>if E=dst then nv else B E) {st with sites:=aT st.sites [(o,.dead s),(dst,.row (aR (st.c7 o (.dead s)) dst) t r)]} tm w':=
 S.Cj hl rfl rfl rfl aJ fv eB
end
def Src(w:World)(size:Nat)(x:Value)(m:Nat)(news:List Value):Prop:=
 news.length=m*size/\(∀u∈news,u.oneCell'=true)/\((x=.slice none 0 0/\m=0)\/(∃a c,x=.slice (some a) m c/\∀j u,news[j]? =some u->w.cell? (a.add j)=some u)\/∃s:ByteArray,x=.string s/\m=s.size/\size=1/\news=s.data.toList.map fun b=>Value.int .u8 b.toNat)
theorem Src.run{P:Program}{w w2:World}{size m:Nat}{x:Value}{news:List Value}(h:Src w size x m news)(hw:w2.heap=w.heap):(Builtin.firstCells size m x).run P w2=.ok news.toArray w2:=by
 obtain⟨h1,_,h2⟩:=h;rcases h2 with⟨rfl,rfl⟩|⟨a,c,rfl,Y⟩|⟨s,rfl,rfl,rfl,rfl⟩
 ·have:news=[]:=List.eq_nil_of_length_eq_zero (by simpa using h1)
  subst this;exact run_firstCells_none w2 size 0 0 0
 ·refine run_firstCells_some w2 size m a m c news h1 (fun j u hu=>?_)
  have:=Y j u hu;unfold World.cell? at this ⊢;rw[hw];exact this
 ·have e:s.extract 0 s.size=s:=by simp
  show Result.ok ((s.extract 0 s.size).data.map fun b=>Value.int .u8 b.toNat) w2=_
  rw[e];congr 1
  apply Array.ext';simp
theorem Src.len{P:Program}{w w2:World}{size m:Nat}{x:Value}{news:List Value}(h:Src w size x m news):(Builtin.lenOf x).run P w2=.ok m w2:=by
 obtain⟨_,_,h2⟩:=h;rcases h2 with⟨rfl,rfl⟩|⟨a,c,rfl,_⟩|⟨s,rfl,rfl,_⟩<;>rfl
theorem sw{P:Program}{u:Bool}(w:World)(T oM ty e:TypeId)(eD:u=true->e=ld)(i:TypeInfo)(z:Value)(size bytes:Nat)(aC:P.underlying T=some (.slice e))(fz:(∃ex,P.underlying oM=some (.slice ex))\/P.underlying oM=some .string)(af:P.info? e=some i)
  (aM:i.zero=some z) (jk:i.size=size) (j1:i.bytes=bytes) (e3:z.cells.size=size) (eJ:0<size)
  (v:Value) (n:Nat) (xs:List Value) (gT:∃bz,rowAt w u bz size v n xs) (x:Value) (m:Nat) (news:List Value) (dH:Src w size x m news)
  (sb:n+m<=maxLen) (tj:(n+m)*bytes<=140737488355328):
  ∃v' w',(Builtin.append_ #[T,oM] ty #[v,x]).run P w=.ok v' w'/\(∃bz,rowAt w' u bz size v' (n+m) (xs++news))/\w.grownBy w' v.ownBlock/\
   ∀b,aZ v'=some b->b<w'.heap.size/\(aZ v=some b\/w.heap.size<=b):=by
 subst jk j1;obtain⟨bz,jt,gT⟩:=gT;have qQ:n+m<=9223372036854775807:=by simp only[maxLen] at sb;omega
 have hlen:(xs++news).length=(n+m)*i.size:=by rw[List.length_append,jt,dH.1,Nat.add_mul]
 have grown:∀(old:Nat),old<n+m->∀(row:Option Nat),
   rowAt (w.drew.alloc (.cells (xs.toArray++news.toArray++Builtin.zeroCells z.cells (grownCap w (n+m) old e-(n+m))) e)) u e i.size
    (.slice (some ⟨w.heap.size,0,none⟩) (n+m) (grownCap w (n+m) old e)) (n+m) (xs++news)/\
   w.grownBy (w.drew.alloc (.cells (xs.toArray++news.toArray++Builtin.zeroCells z.cells (grownCap w (n+m) old e-(n+m))) e)) row:=by
  intro old an row;have pN:=grownCap_ge w (n+m) old e;have iB:grownCap w (n+m) old e<=maxLen:=grownCap_le_maxLen w (n+m) old e sb;refine⟨⟨hlen,.inr ⟨w.heap.size,_,_,(0,0),rfl,⟨eD,.inl rfl⟩,heap_alloc_new w.drew _,pN,iB,?_,?_⟩⟩,⟨rfl,rfl,rfl,by simp,fun k ah _=>RowKit.Below.heap_alloc w.drew _ k ah⟩⟩
  ·simp only[Array.size_append,List.size_toArray,size_zeroCells,e3,jt,dH.1,<-Nat.add_mul];congr 1
   omega
  ·simp only[Array.toList_append,List.append_assoc];rw[<-List.append_assoc,<-hlen];exact List.take_left
 have JN:∀{c:Nat} {D:Obj} {v:Value} b,aZ (.slice (some ⟨w.heap.size,0,none⟩) (n+m) c)=some b->b<(w.drew.alloc D).heap.size/\(aZ v=some b\/w.heap.size<=b):=by
  intro c D v b hb;cases hb;exact⟨by simp,.inr (Nat.le_refl _)⟩
 rcases gT with⟨rfl,rfl⟩|⟨g,cap,cur,br,rfl,gr,aJ,gq,iB,dW,tA⟩
 ·have hx:xs=[]:=List.eq_nil_of_length_eq_zero (by simpa using jt)
  subst hx;by_cases hm:m=0
  ·subst hm;have hn:news=[]:=List.eq_nil_of_length_eq_zero (by simpa using dH.1)
   subst hn;refine⟨.slice none 0 0,w,?_,⟨e,oT w u e i.size⟩,⟨rfl,rfl,rfl,Nat.le_refl _,fun _ _ _=>rfl⟩,fun b hb=>by cases hb⟩
   rcases fz with⟨ex,fz⟩|fz<;>simp[Builtin.append_,run_underlying aC,run_underlying fz,sizeOf,typeInfo,af,dH.len,dH.run (w2:=w) rfl]
  ·have uG:=grown 0 (by omega) (Value.ownBlock (.slice none 0 0))
   refine⟨_,_,?_,⟨e,uG.1⟩,uG.2,JN⟩;have tV:¬(9223372036854775807<(m:Int)):=by omega
   have hb:=tj;simp only[Nat.zero_add] at hb;have tW:¬(281474976710656<Builtin.nextslicecap m 0*i.bytes):=by rw[nextslicecap_zero (by omega)];omega
   rcases fz with⟨ex,fz⟩|fz<;>simp[Builtin.append_,run_underlying aC,run_underlying fz,sizeOf,typeInfo,zeroValue,af,aM,dH.len,hm,tV,tW,Question.forced,run_firstCells_none,dH.run (w2:=w.drew) rfl,newRow,grownCap]
 ·by_cases ni:n+m<=cap
  ·have ny:n*i.size+news.length<=cur.size:=by rw[dH.1,dW,<-Nat.add_mul];exact Nat.mul_le_mul_right _ ni
   have dr:=k2.run (P:=P) g (n*i.size) bz br news 0 cur w aJ gr (by simpa using ny) dH.2.1
   simp only[Nat.add_zero] at dr;refine⟨.slice (some ⟨g,0,none⟩) (n+m) cap,w.setRow g (cur.toList.take (n*i.size)++news++cur.toList.drop (n*i.size+news.length)).toArray,?_,
    ⟨bz,hlen,.inr ⟨g,cap,_,br,rfl,⟨gr.1,gr.2.imp id (fun h=>⟨h.1,?_⟩)⟩,setRow_heap w g cur _ bz _ aJ,ni,iB,?_,?_⟩⟩,⟨rfl,rfl,rfl,by simp,fun k _ ah=>setRow_other w g k _ (fun e=>ah (by simp[Value.ownBlock,e]))⟩,fun b hb=>?_⟩
   ·rcases fz with⟨ex,fz⟩|fz<;>simp[Builtin.append_,run_underlying aC,run_underlying fz,sizeOf,typeInfo,af,dH.len,ni,dH.run (w2:=w) rfl,Addr.add_lit,dr]
   ·have:=h.2;simp only[List.size_toArray,List.length_append,List.length_take,List.length_drop,Array.length_toList];omega
   ·simp only[List.size_toArray,List.length_append,List.length_take,List.length_drop,Array.length_toList];omega
   ·rw[tA,<-hlen];exact List.take_left
   ·cases hb;exact⟨by rw[setRow_size];exact(Array.getElem?_eq_some_iff.1 aJ).1,.inl rfl⟩
  ·have uG:=grown cap (by omega) (Value.ownBlock (.slice (some ⟨g,0,none⟩) n cap))
   refine⟨_,_,?_,⟨e,uG.1⟩,uG.2,JN⟩;have holds:∀j u,xs[j]? =some u->w.drew.cell? ((⟨g,0,none⟩:Addr).add j)=some u:=by
    intro j u hu;rw[gg,Nat.zero_add,World.cell?_drew,cell_of_row w g j cur bz br aJ];rw[<-tA,List.getElem?_take] at hu;split at hu
    ·simpa using hu
    ·cases hu
   have tV:¬(9223372036854775807<((n:Int)+(m:Int))):=by omega
   have ny:=growslice_fits (need:=n+m) (old:=cap) (bytes:=i.bytes) (by omega) tj
   have tW:¬(281474976710656<Builtin.nextslicecap (n+m) cap*i.bytes):=by omega
   have r4:=run_firstCells_some (P:=P) w.drew i.size n ⟨g,0,none⟩ n cap xs jt holds;rcases fz with⟨ex,fz⟩|fz<;>simp[Builtin.append_,run_underlying aC,run_underlying fz,sizeOf,typeInfo,zeroValue,af,aM,dH.len,ni,tV,tW,Question.forced,dH.run (w2:=w.drew) rfl,r4,newRow,grownCap]
   all_goals
    congr 2
    apply Array.ext';simp[List.append_assoc]
theorem rowAt.tail{w:World}{e:TypeId}{size:Nat}{v:Value}{n:Nat}{xs:List Value}(h:rowAt w false e size v n xs):nf w e size v n xs:=by
 refine⟨h.1,h.2.imp id ?_⟩;rintro⟨g,cap,cur,br,h1,h2,Y,aP,bq,eu,lj⟩;have gr:br=(0,0):=by rcases h2.2 with h|⟨h,_⟩<;>first|exact h|cases h
 subst gr;exact⟨g,0,cap,cur,h1,Y,aP,bq,by rw[eu,Nat.zero_add];exact Nat.le_refl _,by simpa using lj⟩
theorem Qy{P:Program}(w:World)(T oM ty e:TypeId)(i:TypeInfo)(z:Value)(size bytes:Nat)(aC:P.underlying T=some (.slice e))(fz:(∃ex,P.underlying oM=some (.slice ex))\/P.underlying oM=some .string)(af:P.info? e=some i)
  (aM:i.zero=some z) (jk:i.size=size) (j1:i.bytes=bytes) (e3:z.cells.size=size) (eJ:0<size)
  (v:Value) (n:Nat) (xs:List Value) (gT:∃bz,nf w bz size v n xs) (x:Value) (m:Nat) (news:List Value) (dH:Src w size x m news)
  (sb:n+m<=maxLen) (tj:(n+m)*bytes<=140737488355328):
  ∃v' w',(Builtin.append_ #[T,oM] ty #[v,x]).run P w=.ok v' w'/\(∃bz,nf w' bz size v' (n+m) (xs++news))/\w.grownBy w' v.ownBlock/\
   ∀b,aZ v'=some b->b<w'.heap.size/\(aZ v=some b\/w.heap.size<=b):=by
 obtain⟨bz,jt,gT⟩:=gT;rcases gT with⟨Z,hn⟩|⟨g,D,cap,cur,rfl,aJ,gq,iB,dW,tA⟩
 ·obtain⟨v',w',h1,⟨e2,h2⟩,Y,aP⟩:=sw (P:=P) (u:=false) w T oM ty e (fun h=>by cases h) i z size bytes aC fz af aM jk j1 e3 eJ v n xs ⟨bz,jt,.inl ⟨Z,hn⟩⟩ x m news dH sb tj
  exact⟨v',w',h1,⟨e2,h2.tail⟩,Y,aP⟩
 ·subst jk j1;have qQ:n+m<=9223372036854775807:=by simp only[maxLen] at sb;omega
  have hlen:(xs++news).length=(n+m)*i.size:=by rw[List.length_append,jt,dH.1,Nat.add_mul]
  by_cases ni:n+m<=cap
  ·have c3:(n+m)*i.size<=cap*i.size:=Nat.mul_le_mul_right _ ni;rw[Nat.add_mul] at c3;have ny:(D+n*i.size)+0+news.length<=cur.size:=by rw[dH.1];omega
   have dr:=k2.run (P:=P) (u:=false) g (D+n*i.size) bz (0,0) news 0 cur w aJ ⟨(fun h=>by cases h),.inl rfl⟩ ny dH.2.1
   simp only[Nat.add_zero] at dr;refine⟨.slice (some ⟨g,D,none⟩) (n+m) cap,w.setRow g (cur.toList.take (D+n*i.size)++news++cur.toList.drop (D+n*i.size+news.length)).toArray,?_,
    ⟨bz,hlen,.inr ⟨g,D,cap,_,rfl,setRow_heap w g cur _ bz _ aJ,ni,iB,?_,?_⟩⟩,⟨rfl,rfl,rfl,by simp,fun k _ ah=>setRow_other w g k _ (fun e=>ah (by simp[Value.ownBlock,e]))⟩,fun b hb=>?_⟩
   ·rcases fz with⟨ex,fz⟩|fz<;>simp[Builtin.append_,run_underlying aC,run_underlying fz,sizeOf,typeInfo,af,dH.len,ni,dH.run (w2:=w) rfl,Addr.add_lit,dr]
   ·simp only[List.size_toArray,List.length_append,List.length_take,List.length_drop,Array.length_toList];omega
   ·have agM:D+cap*i.size<=cur.toList.length:=by simpa using dW
    rw[List.toList_toArray,List.append_assoc,List.drop_append_of_le_length (by rw[List.length_take];omega),List.drop_take,show D+n*i.size-D=n*i.size from by omega,tA,<-List.append_assoc,<-hlen]
    exact List.take_left
   ·cases hb;exact⟨by rw[setRow_size];exact(Array.getElem?_eq_some_iff.1 aJ).1,.inl rfl⟩
  ·have pN:=grownCap_ge w (n+m) cap e;have aau:grownCap w (n+m) cap e<=maxLen:=grownCap_le_maxLen w (n+m) cap e sb;refine⟨.slice (some ⟨w.heap.size,0,none⟩) (n+m) (grownCap w (n+m) cap e),w.drew.alloc (.cells (xs.toArray++news.toArray++Builtin.zeroCells z.cells (grownCap w (n+m) cap e-(n+m))) e),?_,
    ⟨e,hlen,.inr ⟨w.heap.size,0,_,_,rfl,heap_alloc_new w.drew _,pN,aau,?_,?_⟩⟩,⟨rfl,rfl,rfl,by simp,fun k ah _=>RowKit.Below.heap_alloc w.drew _ k ah⟩,fun b hb=>?_⟩
   ·have holds:∀j u,xs[j]? =some u->w.drew.cell? ((⟨g,D,none⟩:Addr).add j)=some u:=by
     intro j u hu;rw[gg,World.cell?_drew,cell_of_row w g (D+j) cur bz (0,0) aJ];rw[<-tA,List.getElem?_take] at hu;split at hu
     ·rw[List.getElem?_drop] at hu;simpa using hu
     ·cases hu
    have tV:¬(9223372036854775807<((n:Int)+(m:Int))):=by omega
    have ny:=growslice_fits (need:=n+m) (old:=cap) (bytes:=i.bytes) (by omega) tj
    have tW:¬(281474976710656<Builtin.nextslicecap (n+m) cap*i.bytes):=by omega
    have r4:=run_firstCells_some (P:=P) w.drew i.size n ⟨g,D,none⟩ n cap xs jt holds;rcases fz with⟨ex,fz⟩|fz<;>simp[Builtin.append_,run_underlying aC,run_underlying fz,sizeOf,typeInfo,zeroValue,af,aM,dH.len,ni,tV,tW,Question.forced,dH.run (w2:=w.drew) rfl,r4,newRow,grownCap]
    all_goals
     congr 2
     apply Array.ext';simp[List.append_assoc]
   ·simp only[Array.size_append,List.size_toArray,size_zeroCells,e3,jt,dH.1,<-Nat.add_mul,Nat.zero_add];refine Nat.le_of_eq ?_
    congr 1
    omega
   ·simp only[Array.toList_append,List.append_assoc,List.drop_zero];rw[<-List.append_assoc,<-hlen];exact List.take_left
   ·cases hb;exact⟨by simp,.inr (Nat.le_refl _)⟩
section
variable {P:Program}{J:World}{H:List Nat}{X:Nat->Prop}{B:Nat->Value}{st:ab}{tm:Array Value}{w:World}{D:Oper}
theorem Vj(S:ad J H X B st tm w){x:aF}{v:Value}{t:aB}{ys:List (den t)}(hx:b4 B st.sites w (al X B st.sites) x v)(h:qY st x=some (.sl t ys)):
  ∃news,Src w (au t) v ys.length news/\ch w (al X B st.sites) (flat t ys) news:=by
 have one:∀{news:List Value},cl B st.sites w (al X B st.sites) (ci (flat t ys)) news->(∀u∈news,u.oneCell'=true):=by
  intro news h;refine h.ij ?_
  unfold ci;generalize flat t ys=l;induction l with
  |nil=>rfl
  |cons d l ih=>simpa[gz,aw.storable] using ih
 unfold qY at h;split at h
 ·rename_i be hv;cases h;have hx:Rd w (al X B st.sites) (.sl t ys) v:=hx;cases hx with
  |nil t=>exact⟨[],⟨by simp,fun u hu=>by simp at hu,.inl ⟨rfl,rfl⟩⟩,rfl,fun j h=>by simp[flat] at h⟩
  |sl t xs a cap cs n hn hcap hb hl hc hr=>
   subst hn;have kt:=fV (B:=B) (sites:=st.sites) hl hr;exact⟨cs,⟨by rw[hl,dD],one kt,.inr (.inl ⟨a,cap,rfl,hc⟩)⟩,hl,hr⟩
 ·cases h
 ·rename_i be;cases h;rw[show v=_ from hx]
  exact⟨[],⟨by simp,fun u hu=>by simp at hu,.inl ⟨rfl,rfl⟩⟩,rfl,fun j h=>by simp[flat] at h⟩
 ·rename_i o s;split at h
  ·rename_i be hv hr;cases h;obtain⟨cs,hl,hc⟩:=S.row hr;have Z:v=bD (B o):=by
    rcases jI hr with h1|h1<;>exact Ref.at hx.2 h1 rfl
   have cp:=hU hl;refine⟨cs,⟨by rw[cp.1,dD],one hl,?_⟩,cp⟩
   rw[Z];rcases hc with⟨h1,h2⟩|⟨b,c,h1,h2,_⟩
   ·subst h2;exact .inl ⟨h1,rfl⟩
   ·exact .inr (.inl ⟨⟨b,0,none⟩,c,h1,fun j u hu=>by rw[gg];exact h2 j u hu⟩)
  ·cases h
 ·cases h
theorem GX(S:ad J H X B st tm w){C:Ctx}(az:CtxOk P C){T eb:TypeId}{s x:Operand}{e:TypeId}{t:aB}{bytes:Nat}{dst:Nat}(aS:C.tt T=.slice e t bytes)(q_:(∃ex,P.underlying eb=some (.slice ex))\/P.underlying eb=some .string)
  (an:D.op=.call {callee:=.builtin .append,args:=#[s,x],argTypes:=#[T,eb]}) (c9:D.dst=some dst) (U:b2 st D.dst=true) {ys:List (den t)} {news:List Value} (dH:Src w (au t) (Act.eval ⟨tm,[]⟩ x) ys.length news)
  (c2:ch w (al X B st.sites) (flat t ys) news):Holds (o7 bytes t dst st (aI C st T s) ys) (cr P J H X st tm w D):=by
 have bk:=az.tt T;rw[aS] at bk;obtain⟨⟨dS,_⟩,z,od,e3,eD⟩:=bk;obtain⟨i,af,la⟩:∃i,P.info? e=some i/\(i.size,i.bytes,i.zero)=(au t,bytes,some z):=by
  cases aD:P.info? e with
  |none=>simp[aD] at od
  |some i=>exact⟨i,rfl,by simpa[aD] using od⟩
 simp only[Prod.mk.injEq] at la;obtain⟨la,r1,r0⟩:=la;have mu:=cJ S C T s;have runs:∀{v':Value} {w':World},(Builtin.append_ #[T,eb] D.type #[Act.eval ⟨tm,[]⟩ s,Act.eval ⟨tm,[]⟩ x]).run P w=.ok v' w'->
   (execOp (Act.eval ⟨tm,[]⟩) D).run P w=.ok (.value v') w':=by
  intro v' w' h;unfold execOp;simp only[an,resolve,invoke,builtin,Sem.run_bind,Sem.run_pure,Result.andThen_ok,List.map_toArray,List.map_cons,List.map_nil,h]
 have one:∀{u:Bool} {bz:TypeId} {v':Value} {n m:Nat} {l:List Value} {w':World},rowAt w' u bz n v' m l->v'.oneCell'=true:=by
  intro u bz v' n m l w' h;rcases h.2 with⟨rfl,_⟩|⟨g,cap,cur,br,rfl,_⟩<;>rfl
 unfold o7;split
 ·-- a nil slice
  rename_i t2 bS;rw[bS] at mu;have ol:Act.eval ⟨tm,[]⟩ s=.slice none 0 0:=mu;refine Holds.ee fun r hr=>?_
  have cp:dc bytes [] ys=some r:=hr;unfold dc at cp;split at cp
  ·rename_i hb;cases cp;simp only[List.length_nil,Nat.zero_add,room] at hb;obtain⟨v',w',h1,⟨bz,h2⟩,Y,aP⟩:=sw (P:=P) (u:=t.fc) w T eb D.type e eD i z (au t) bytes dS q_ af r0 la r1 e3 (iJ _) (.slice none 0 0) 0 [] ⟨e,oT w _ e _⟩ _ _ news dH
    (by rw[Nat.zero_add];exact hb.2) (by rw[Nat.zero_add];exact hb.1)
   rw[Nat.zero_add,List.nil_append] at h2;have bO:=S.make (o:=dst) (bm:=.row (aR st dst) t ([]++ys)) (nv:=v') (w':=w') (fun b hb=>Y.block b hb (by simp[Value.ownBlock])) Y.os Y.tape Y.output Y.size
    (fun M L=>iI L) (fun b hb=>by
     obtain⟨g1,g2⟩:=aP b (sX h2 hb);rcases g2 with g2|g2
     ·cases g2
     ·exact⟨g2,g1⟩) (fun L bw go _ _=>by
     refine⟨bz,news,by rw[bw];simpa using h2,?_⟩
     intro j g1 g2;have adM:j<(flat t ys).length:=by simpa using g1
     simpa using hB go (c2.2 j adM g2))
   refine hz (us:=[(dst,.row (aR st dst) t ([]++ys))]) bO U (runs (by rw[ol];exact h1)) ?_
   refine⟨one h2,Ref.mk (M:=.row (aR st dst) t ([]++ys)) ?_ rfl (by simp[(hp h2).1])⟩
   simp only[aT,ck];simp
  ·cases cp
 ·-- a row of ob own
  rename_i o s2 bS;rw[bS] at mu;split
  ·rename_i fD t2 xs e';have kd:look st.sites o=some (.row fD t2 xs):=e';cases r8:fD.beq s2 with
   |false=>simp only[cond_false];exact .fail
   |true=>
    have iY:=Nat.eq_of_beq_eq_true r8;subst iY;simp only[cond_true];split
    ·rename_i gD;subst gD;refine Holds.ee fun r hr=>?_
     have cp:dc bytes xs ys=some r:=hr;unfold dc at cp;split at cp
     ·rename_i hb;cases cp;simp only[room] at hb;have Z:Act.eval ⟨tm,[]⟩ s=bD (B o):=Ref.at mu.2 kd rfl;obtain⟨hg,cs,gT,dW⟩:=S.sites o _ kd;rw[(hp gT).1] at Z;obtain⟨v',w',h1,⟨bz,h2⟩,Y,aP⟩:=sw (P:=P) w T eb D.type e eD i z (au t2) bytes dS q_ af r0 la r1 e3 (iJ _) (B o) xs.length cs ⟨hg,gT⟩ _ _ news dH hb.2 hb.1;have bO:=S.append (dst:=dst) (r:=xs++ys) kd (nv:=v') (w':=w') Y (fun b hb=>by
       obtain⟨ay,ai⟩:=aP b (sX h2 hb);exact⟨ay,ai.imp fI id⟩) (fun bw go=>by
       refine⟨bz,cs++news,by rw[bw,List.length_append];exact h2,?_⟩
       have mC:ch w (al X B st.sites) (flat t2 xs) cs:=⟨by rw[dD];exact gT.1,dW⟩
       have iR:=hU ((fV (B:=B) (sites:=st.sites) mC.1 mC.2).append (fV (B:=B) (sites:=st.sites) c2.1 c2.2)|>fun h=>by
        rw[show ci (flat t2 xs)++ci (flat t2 ys)=ci (flat t2 (xs++ys)) from by simp[ci,m0]] at h
        exact h)
       intro j g1 g2;exact hB go (iR.2 j g1 g2))
      refine hz (us:=[(o,.dead fD),(dst,.row (aR (st.c7 o (.dead fD)) dst) t2 (xs++ys))]) bO U (runs (by rw[Z];exact h1)) ?_
      refine⟨one h2,Ref.mk (M:=.row (aR (st.c7 o (.dead fD)) dst) t2 (xs++ys)) ?_ rfl (by simp[(hp h2).1])⟩
      simp only[aT,ck];simp
     ·cases cp
    ·exact .fail
  ·rename_i fD t2 xs e';have kd:look st.sites o=some (.tail fD t2 xs):=e';cases r8:fD.beq s2 with
   |false=>simp only[cond_false];exact .fail
   |true=>
    have iY:=Nat.eq_of_beq_eq_true r8;subst iY;simp only[cond_true];split
    ·rename_i gD;subst gD;refine Holds.ee fun r hr=>?_
     have cp:dc bytes xs ys=some r:=hr;unfold dc at cp;split at cp
     ·rename_i hb;cases cp;simp only[room] at hb;have Z:Act.eval ⟨tm,[]⟩ s=bD (B o):=Ref.at mu.2 kd rfl;obtain⟨uv,hg,cs,gT,dW⟩:=S.sites o _ kd;have r2:∀{w:World} {e:TypeId} {v:Value} {n:Nat} {l:List Value},nf w e (au t2) v n l->bD v=v/\bb v=(aZ v).toList/\v.oneCell'=true:=by
       intro w e v n l h;rcases h.2 with⟨rfl,_⟩|⟨_,_,_,_,rfl,_⟩<;>exact⟨rfl,rfl,rfl⟩
      rw[(r2 gT).1] at Z;obtain⟨v',w',h1,⟨bz,h2⟩,Y,aP⟩:=Qy (P:=P) w T eb D.type e i z (au t2) bytes dS q_ af r0 la r1 e3 (iJ _) (B o) xs.length cs ⟨hg,gT⟩ _ _ news dH hb.2 hb.1;have bO:=S.Cj (dst:=dst) (hC:=.tail (aR (st.c7 o (.dead fD)) dst) t2 (xs++ys)) kd rfl rfl rfl (nv:=v') (w':=w') Y (fun b hb=>by
       rw[(r2 h2).2.1] at hb;obtain⟨ay,ai⟩:=aP b (by simpa using hb)
       exact⟨ay,ai.imp fI id⟩) (fun bw go=>by
       refine⟨uv,bz,cs++news,by rw[bw,List.length_append];exact h2,?_⟩
       have iR:=hU ((fV (B:=B) (sites:=st.sites) dW.1 dW.2).append (fV (B:=B) (sites:=st.sites) c2.1 c2.2)|>fun h=>by
        rw[show ci (flat t2 xs)++ci (flat t2 ys)=ci (flat t2 (xs++ys)) from by simp[ci,m0]] at h
        exact h)
       exact⟨iR.1,fun j g1 g2=>hB go (iR.2 j g1 g2)⟩)
      refine hz (us:=[(o,.dead fD),(dst,.tail (aR (st.c7 o (.dead fD)) dst) t2 (xs++ys))]) bO U (runs (by rw[Z];exact h1)) ?_
      refine⟨(r2 h2).2.2,Ref.mk (M:=.tail (aR (st.c7 o (.dead fD)) dst) t2 (xs++ys)) ?_ rfl (by simp[(r2 h2).1])⟩
      simp only[aT,ck];simp
     ·cases cp
    ·exact .fail
  ·exact .fail
 ·exact .fail
theorem US(S:ad J H X B st tm w){C:Ctx}(az:CtxOk P C){T eb:TypeId}{s x:Operand}{e ex:TypeId}{t u:aB}{bytes aG:Nat}{dst:Nat}(aS:C.tt T=.slice e t bytes)(eD:C.tt eb=.slice ex u aG)
  (an:D.op=.call {callee:=.builtin .append,args:=#[s,x],argTypes:=#[T,eb]}) (c9:D.dst=some dst) (U:b2 st D.dst=true):
  Holds (qA bytes t dst st (aI C st T s) (aI C st eb x)) (cr P J H X st tm w D):=by
 have oE:=az.tt eb;rw[eD] at oE;unfold qA;split
 ·exact .fail
 ·rename_i d l0;split
  ·rename_i be ys;split
   ·rename_i gD;subst gD;obtain⟨news,dH,c2⟩:=Vj S (cJ S C eb x) l0;exact GX S az aS (.inl ⟨_,oE.1.1⟩) an c9 U dH c2
   ·exact .fail
  ·exact .fail
theorem Td(S:ad J H X B st tm w){C:Ctx}(az:CtxOk P C){T eb:TypeId}{s x:Operand}{e:TypeId}{t:aB}{bytes:Nat}{dst:Nat}(aS:C.tt T=.slice e t bytes)(eD:C.tt eb=.str)
  (an:D.op=.call {callee:=.builtin .append,args:=#[s,x],argTypes:=#[T,eb]}) (c9:D.dst=some dst) (U:b2 st D.dst=true):
  Holds (qB bytes t dst st (aI C st T s) (aI C st eb x)) (cr P J H X st tm w D):=by
 have oE:=az.tt eb;rw[eD] at oE;have bi:=cJ S C eb x;unfold qB;split
 ·rename_i y hx;rw[hx] at bi;split
  ·rename_i gD;subst gD;have bi:Rd w (al X B st.sites) (.str y) (Act.eval ⟨tm,[]⟩ x):=bi;generalize Z:Act.eval ⟨tm,[]⟩ x=v at bi;cases bi with
   |str _ b hb=>
    subst hb;refine GX S az aS (.inr oE.1) an c9 U (news:=b.data.toList.map fun b=>Value.int .u8 b.toNat) ?_ ?_
    ·rw[Z];refine⟨by simp[bytesOf,au],fun u hu=>?_,.inr (.inr ⟨b,rfl,?_,rfl,rfl⟩)⟩
     ·obtain⟨c,_,rfl⟩:=List.mem_map.1 hu;rfl
     ·simp only[bytesOf,List.length_map,Array.length_toList];rfl
    ·have e1:flat .u8 (bytesOf b.data.toList)=(b.data.toList.map fun b=>aK.int .u8 b.toNat):=by
      unfold flat bytesOf;rw[List.flatMap_map];generalize b.data.toList=l;induction l with
      |nil=>rfl
      |cons a l ih=>simp only[List.flatMap_cons,List.map_cons,ih];rfl
     rw[e1];refine⟨by simp,fun j g1 g2=>?_⟩
     simp only[List.getElem_map];exact .int _ _
  ·exact .fail
 ·exact .fail
end
theorem foldl_set:∀(vs:List Value) (off k:Nat) (arr:Array Value),off+k+vs.length<=arr.size->
  (vs.zipIdx k).foldl (fun cs (x:Value×Nat)=>cs.setIfInBounds (off+x.2) x.1) arr=(b' arr.toList (off+k) vs).toArray:=by
 intro vs;induction vs with
 |nil=>intro off k arr h;simp[b']
 |cons v vs ih=>
  intro off k arr h;simp only[List.zipIdx_cons,List.foldl_cons];rw[ih off (k+1) _ (by simp at h ⊢;omega)]
  congr 1
  simp only[List.length_cons] at h;unfold b';rw[Array.toList_setIfInBounds];apply List.ext_getElem?;intro j;simp only[List.getElem?_append,List.length_append,List.length_take,List.length_set,List.getElem?_take,List.getElem?_drop,List.getElem?_set,List.length_cons,Array.length_toList];have c4:min (off+k) arr.size=off+k:=by omega
  have dx:min (off+(k+1)) arr.size=off+(k+1):=by omega
  simp only[c4,dx];by_cases bI:j<off+k
  ·have bB:j<off+(k+1):=by omega
   have cC:j<off+(k+1)+vs.length:=by omega
   have fp:j<off+k+(vs.length+1):=by omega
   have jD:¬off+k=j:=by omega
   simp[bI,bB,cC,fp,jD]
  ·by_cases zA:j=off+k
   ·subst zA;have bB:off+k<off+(k+1):=by omega
    have cC:off+k<off+(k+1)+vs.length:=by omega
    have fp:off+k<off+k+(vs.length+1):=by omega
    have jD:off+k<arr.size:=by omega
    simp[bB,cC,fp,jD]
   ·by_cases fp:j<off+k+(vs.length+1)
    ·have bB:¬j<off+(k+1):=by omega
     have cC:j<off+(k+1)+vs.length:=by omega
     have e:j-(off+k)=(j-(off+(k+1)))+1:=by omega
     simp[bI,bB,cC,fp,e]
    ·have cC:¬j<off+(k+1)+vs.length:=by omega
     have jD:¬off+k=off+(k+1)+vs.length+(j-(off+(k+1)+vs.length)):=by omega
     have e:off+(k+1)+vs.length+(j-(off+(k+1)+vs.length))=off+k+(vs.length+1)+(j-(off+k+(vs.length+1))):=by omega
     simp[cC,fp,jD,e];try(intro bq;exfalso;omega)
theorem Gr(v:Value)(off:Nat)(arr:Array Value)(h:off+v.cells.size<=arr.size):
  v.cells.zipIdx.foldl (fun cs (x:Value×Nat)=>cs.setIfInBounds (off+x.2) x.1) arr=(b' arr.toList off v.cells.toList).toArray:=by
 rw[<-Array.foldl_toList,Array.toList_zipIdx];exact foldl_set v.cells.toList off 0 arr (by simpa using h)
theorem S0(s:Nat):∀(vs:List (Nat×Value)) (n:Nat) (cells:Array Value),(∀j (h:j<vs.length),(vs[j]).1=n+j)->(∀p,p∈vs->p.2.cells.size=s)->(n+vs.length)*s<=cells.size->
  Instr.fill (fun i=>some (i*s,s)) cells vs=some (b' cells.toList (n*s) (vs.flatMap fun p=>p.2.cells.toList)).toArray:=by
 intro vs;induction vs with
 |nil=>intro n cells _ _ _;simp[Instr.fill,b']
 |cons p vs ih=>
  obtain⟨i,v⟩:=p;intro n cells af L c3;have aQ:i=n:=af 0 (Nat.zero_lt_succ _);subst aQ;have Z:v.cells.size=s:=L (i,v) (by simp)
  have iQ:i*s+s<=cells.size:=by
   have:(i+1)*s<=(i+(vs.length+1))*s:=Nat.mul_le_mul_right _ (by omega)
   simp only[List.length_cons] at c3;rw[Nat.add_mul,Nat.one_mul] at this;omega
  simp only[Instr.fill,Z];rw[if_neg (by simp;omega)]
  have oe:=Gr v (i*s) cells (by omega)
  rw[oe];have hlen:v.cells.toList.length=s:=by simpa using Z
  have _3:(b' cells.toList (i*s) v.cells.toList).length=cells.toList.length:=l8 _ _ _ (by simp;omega)
  rw[ih (i+1) _ (fun j h=>by have:=af (j+1) (by simpa using h);simp at this;omega) (fun p am=>L p (by simp[am])) (by
   simp only[List.length_cons] at c3;simp only[List.size_toArray,_3,Array.length_toList];have e:i+1+vs.length=i+(vs.length+1):=by omega
   rw[e];exact c3)]
  congr 2
  simp only[List.flatMap_cons,List.toList_toArray];have oC:(vs.flatMap fun p=>p.2.cells.toList).length=vs.length*s:=by
   clear ih af c3;induction vs with
   |nil=>simp
   |cons q vs um=>
    have:q.2.cells.toList.length=s:=by simpa using L q (by simp)
    rw[List.flatMap_cons,List.length_append,this,um (fun p am=>L p (by rcases List.mem_cons.1 am with h|h<;>simp[h])),List.length_cons,Nat.add_mul];omega
  have aai:(i+(vs.length+1))*s<=cells.size:=by simpa using c3
  rw[Nat.add_mul,Nat.add_mul] at aai;unfold b';apply List.ext_getElem?;intro j;have e1:(i+1)*s=i*s+s:=by rw[Nat.add_mul,Nat.one_mul]
  simp only[List.getElem?_append,List.length_append,List.length_take,List.getElem?_take,List.getElem?_drop,List.length_drop,Array.length_toList,hlen,oC,e1];have c4:min (i*s) cells.size=i*s:=by omega
  have dx:min (i*s+s) (i*s+s+(cells.size-(i*s+s)))=i*s+s:=by omega
  simp only[c4,dx];by_cases bI:j<i*s
  ·have bB:j<i*s+s:=by omega
   have cC:j<i*s+s+vs.length*s:=by omega
   have fp:j<i*s+(s+vs.length*s):=by omega
   simp[bI,bB,cC,fp]
  ·by_cases bB:j<i*s+s
   ·have cC:j<i*s+s+vs.length*s:=by omega
    have fp:j<i*s+(s+vs.length*s):=by omega
    have jD:j-i*s<s:=by omega
    simp[bI,bB,cC,fp,jD]
   ·by_cases cC:j<i*s+s+vs.length*s
    ·have fp:j<i*s+(s+vs.length*s):=by omega
     have jD:¬j-i*s<s:=by omega
     have e:j-i*s-s=j-(i*s+s):=by omega
     simp[bI,bB,cC,fp,jD,e]
    ·have fp:¬j<i*s+(s+vs.length*s):=by omega
     have jD:¬i*s+s+vs.length*s+(j-(i*s+s+vs.length*s))<i*s:=by omega
     have c6:¬i*s+s+vs.length*s+(j-(i*s+s+vs.length*s))<i*s+s:=by omega
     have e:i*s+s+(i*s+s+vs.length*s+(j-(i*s+s+vs.length*s))-(i*s+s))=i*s+(s+vs.length*s)+(j-(i*s+(s+vs.length*s))):=by omega
     simp[cC,fp,jD,c6,e]
theorem SV:∀(l:List (Nat×Operand)) (n:Nat),n6 n l=true->∀j (h:j<l.length),(l[j]).1=n+j:=by
 intro l;induction l with
 |nil=>intro n _ j h;simp at h
 |cons p l ih=>
  obtain⟨i,x⟩:=p;intro n h j bF;simp only[n6,Bool.and_eq_true] at h;cases j with
  |zero=>simpa using Nat.eq_of_beq_eq_true h.1
  |succ j=>have:=ih (n+1) h.2 j (by simpa using bF);simp;omega
section
variable {P:Program}{J:World}{H:List Nat}{X:Nat->Prop}{B:Nat->Value}{st:ab}{tm:Array Value}{w:World}{D:Oper}
theorem QJ{O:List aw}(h:gz O=true):O.head?≠some .ez:=by
 intro b6;cases O with
 |nil=>cases b6
 |cons l r=>
  simp only[List.head?_cons,Option.some.injEq] at b6;subst b6;cases h
theorem ad.I9(S:ad J H X B st tm w){o:Nat}{cells:List aw}{vs:List Value}{T:TypeId}(hl:cl B st.sites w (al X B st.sites) cells vs)(h1:∀u∈vs,u.oneCell'=true)(hJ:mq cells T vs w.heap.size):
  ad J H X (fun E=>if E=o then .pointer (some ⟨w.heap.size,0,none⟩) else B E) {st with sites:=b5 st.sites o (.box (aR st o) cells)} tm (w.alloc (.cells vs.toArray T (0,0))):=
 S.make (fun b hb=>RowKit.Below.heap_alloc w _ b hb) rfl rfl rfl (by simp) (fun M L=>iI L) (fun b hb=>by have hb:=List.mem_singleton.1 hb;subst hb;exact⟨Nat.le_refl _,by simp⟩)
  (fun L bw go _ _=>⟨w.heap.size,T,vs,bw,heap_alloc_new w _,hl.1,h1,hJ,fun j g1 g2=>(xJ go hl).2 j g1 g2⟩)
theorem Vo{B:Nat->Value}{sites:List (Nat×Site)}{av:Nat->Prop}{cells:List aw}{T:TypeId}{cur:List Value}{b:Nat}(aS:T=pQ)(h:cl B sites w av cells cur)(L:cells.head?≠some .ez):cl B sites w av (tr cells) cur/\mq (tr cells) T cur b:=by
 unfold tr;split
 ·obtain⟨v,vs,rfl,h1,h2⟩:=h.inv;exact⟨.cons (show dl B sites w av .ez v from trivial) h2,fun _=>⟨aS,.inl (by rw[show v=_ from h1];rfl)⟩⟩
 ·exact⟨h,fun ae=>absurd ae L⟩
theorem Wu(S:ad J H X B st tm w){C:Ctx}(az:CtxOk P C){elem:TypeId}{z:List aw}{o:Nat}(an:D.op=.alloc elem)(c9:D.dst=some o)(aM:(C.tt elem).zero=some z)(U:b2 st D.dst=true):
  cr P J H X st tm w D (bQ (.ptr o (aR st o) 0)) [(o,.box (aR st o) (bif elem.beq pQ then tr z else z))]:=by
 obtain⟨v,Z,lO⟩:=cg.vW (w:=w) (az.tt elem) aM;obtain⟨h1,h2,Y⟩:=qa lO;have hJ:z.head?≠some .ez:=by
  intro b6;cases z with
  |nil=>cases b6
  |cons l r=>
   simp only[List.head?_cons,Option.some.injEq] at b6;subst b6;simp[kL,oZ] at lO
 have cz:(execOp (Act.eval ⟨tm,[]⟩) D).run P w=.ok (.value (.pointer (some ⟨w.heap.size,0,none⟩))) (w.alloc (.cells v.cells.toList.toArray elem (0,0))):=by
  unfold execOp;simp[an,Instr.alloc,Z,newVar,newRow]
 have key:∀cells,cl B st.sites w (al X B st.sites) cells v.cells.toList->mq cells elem v.cells.toList w.heap.size->
   cr P J H X st tm w D (bQ (.ptr o (aR st o) 0)) [(o,.box (aR st o) cells)]:=by
  intro cells hl L;have bO:=S.I9 (o:=o) (T:=elem) hl h2 L;refine hz (us:=[(o,.box (aR st o) cells)]) bO U (vv:=.pointer (some ⟨w.heap.size,0,none⟩)) cz ?_
  refine⟨_,rfl,Ref.mk (M:=.box (aR st o) cells) ?_ rfl (by simp[bD])⟩
  simp only[aT,ck];simp
 cases aS:elem.beq pQ with
 |false=>exact key z ⟨h1,Y _ _ _ _⟩ fun h=>absurd h hJ
 |true=>
  obtain⟨ay,ai⟩:=Vo (b:=w.heap.size) (Nat.eq_of_beq_eq_true aS) (⟨h1,Y B st.sites w (al X B st.sites)⟩:cl B st.sites w (al X B st.sites) z v.cells.toList) hJ;exact key _ ay ai
theorem Y4(S:ad J H X B st tm w){elem:TypeId}{x:Operand}{a:bt}{o:Nat}(an:D.op=.box elem x)(c9:D.dst=some o)(bo:gm B st.sites w (al X B st.sites) a (Act.eval ⟨tm,[]⟩ x))
  (dr:gz a.cells=true) (U:b2 st D.dst=true):cr P J H X st tm w D (bQ (.ptr o (aR st o) 0)) [(o,.box (aR st o) a.cells)]:=by
 have hl:=bo.cells dr;have bO:=S.I9 (o:=o) (T:=elem) hl (hl.ij dr) (fun h=>absurd h (QJ dr))
 refine hz (us:=[(o,.box (aR st o) a.cells)]) bO U (vv:=.pointer (some ⟨w.heap.size,0,none⟩)) ?_ ?_
 ·unfold execOp;simp[an,Instr.box,newVar,newRow]
 ·refine⟨_,rfl,Ref.mk (M:=.box (aR st o) a.cells) ?_ rfl (by simp[bD])⟩
  simp only[aT,ck];simp
theorem ad.BL(S:ad J H X B st tm w){o:Nat}{t:aB}{xs:List (den t)}{cs rest:List Value}{T:TypeId}{cap:Nat}(hl:ch w (al X B st.sites) (flat t xs) cs)(hcap:cs.length+rest.length=cap*au t)(hm:cap<=maxLen)(eD:t.fc=true->T=ld):
  ad J H X (fun E=>if E=o then .slice (some ⟨w.heap.size,0,none⟩) xs.length cap else B E) {st with sites:=b5 st.sites o (.row (aR st o) t xs)} tm (w.alloc (.cells (cs++rest).toArray T (0,0))):=by
 have hK:cs.length=xs.length*au t:=by rw[hl.1,dD]
 have c3:xs.length<=cap:=by
  have:xs.length*au t<=cap*au t:=by omega
  exact Nat.le_of_mul_le_mul_right this (iJ t)
 refine S.make (fun b hb=>RowKit.Below.heap_alloc w _ b hb) rfl rfl rfl (by simp) (fun M L=>iI L) (fun b hb=>by have hb:=List.mem_singleton.1 hb;subst hb;exact⟨Nat.le_refl _,by simp⟩)
  (fun L bw go _ _=>⟨T,cs,⟨hK,.inr ⟨w.heap.size,cap,_,(0,0),bw,⟨eD,.inl rfl⟩,heap_alloc_new w _,c3,hm,?_,?_⟩⟩,fun j g1 g2=>hB go (hl.2 j g1 g2)⟩)
 ·simp[hcap]
 ·rw[<-hK];simp
theorem XW:∀{as:List bt} {t:aB} {xs:List (den t)} {us vs:List (Nat×Site)} {ws:List Value},k0 t st as=some (xs,us)->ws.length=as.length->
  (∀j (h:j<as.length) (ae:j<ws.length),gm B st.sites w (al X B st.sites) (as[j]) (ws[j]))->kF J H X B st tm w vs->(∀p,p∈us->p∈vs)->
  xs.length=as.length/\ch w (al X B (aT st.sites vs)) (flat t xs) (ws.flatMap fun v=>v.cells.toList)/\∀v,v∈ws->v.cells.size=au t:=by
 intro as;induction as with
 |nil=>
  intro t xs us vs ws h hl _ _ _;simp only[k0] at h;cases h;have:ws=[]:=List.eq_nil_of_length_eq_zero hl;subst this;exact⟨rfl,⟨rfl,fun j h=>by simp[flat] at h⟩,fun v Z=>by simp at Z⟩
 |cons a as ih=>
  intro t xs us vs ws h hl eB aY dz;match ws,hl with
  |v::ws,hl=>
  simp only[k0] at h;split at h
  ·rename_i ds u1 lE;split at h
   ·rename_i x hv u2 eg kW;cases h;have bV:=eB 0 (by simp) (by simp)
    simp only[List.getElem_cons_zero] at bV;have dr:gz a.cells=true:=by
     clear kW ih eB bV hl eg;generalize a.cells=O at lE;induction O generalizing ds u1 with
     |nil=>rfl
     |cons l O ih=>
      simp only[ht] at lE;split at lE
      ·rename_i d PT gv nS h1 h2;simp only[gz,Bool.and_eq_true];refine⟨?_,ih _ _ (fun p am=>dz p (by cases lE;rcases List.mem_append.1 am with h|h<;>simp[h])) h2⟩
       unfold jw at h1;split at h1<;>first|rfl|cases h1
      ·cases lE
    have iz:=bV.cells dr;have pK:=xk lE iz aY (fun p am=>dz p (List.mem_append.2 (.inl am)))
    obtain⟨g1,g2,g3⟩:=ih kW (by simpa using hl) (fun j h1 h2=>eB (j+1) (by simpa using h1) (by simpa using h2)) aY (fun p am=>dz p (List.mem_append.2 (.inr am)))
    have nz:=nb _ _ _ eg;refine⟨by simp[g1],?_,fun u hu=>?_⟩
    ·simp only[flat,List.flatMap_cons];rw[nz];have:=hU ((fV (B:=B) (sites:=st.sites) pK.1 pK.2).append (fV (B:=B) (sites:=st.sites) g2.1 g2.2)|>fun h=>by
      rw[show ci ds++ci (flat t hv)=ci (ds++flat t hv) from by simp[ci]] at h
      exact h)
     exact this
    ·rcases List.mem_cons.1 hu with rfl|hu
     ·have:u.cells.toList.length=ds.length:=pK.1;rw[<-nz,fj] at this;simpa using this
     ·exact g3 u hu
   ·cases h
  ·cases h
theorem XX:∀{as:List bt} {t:aB} {xs:List (den t)} {us:List (Nat×Site)},k0 t st as=some (xs,us)->dv st.sites us:=by
 intro as;induction as with
 |nil=>intro t xs us h;simp only[k0] at h;cases h;exact .nil
 |cons a as ih=>
  intro t xs us h;simp only[k0] at h;split at h
  ·rename_i ds u1 lE;split at h
   ·rename_i x hv u2 eg kW;cases h;exact(Cg lE).append (ih kW)
   ·cases h
  ·cases h
theorem Qt{us:List (Nat×Site)}(h:dv st.sites us)(o:Nat):aR {st with sites:=aT st.sites us} o=aR st o:=by
 unfold aR ab.M;simp only;rcases ll h o with h1|⟨s,t,xs,h1,h2⟩
 ·rw[h1]
 ·rw[h2];rcases h1 with h1|h1|h1<;>rw[h1]<;>rfl
end
section
variable {P:Program}{J:World}{H:List Nat}{X:Nat->Prop}{B:Nat->Value}{st:ab}{tm:Array Value}{w:World}{D:Oper}
theorem oV{v:aF}{a:bt}(h:lI v=some a):v=.av a:=by
 cases v with
 |av b=>cases h;rfl
 |iX _=>cases h
theorem GU:∀{vs:List aF} {as:List bt},mo vs=some as->vs.length=as.length/\∀j (h:j<vs.length) (ae:j<as.length),vs[j]=.av (as[j]):=by
 intro vs;induction vs with
 |nil=>intro as h;simp only[mo] at h;cases h;exact⟨rfl,fun j h=>by simp at h⟩
 |cons v vs ih=>
  intro as h;simp only[mo] at h;split at h
  ·rename_i a jy h1 h2;cases h;obtain⟨g1,g2⟩:=ih h2;refine⟨by simp[g1],fun j ay ai=>?_⟩
   cases j with
   |zero=>exact oV h1
   |succ j=>exact g2 j (by simpa using ay) (by simpa using ai)
  ·cases h
theorem m2{C:Ctx}(az:CtxOk P C){T e:TypeId}{t:aB}{bytes:Nat}(aS:C.tt T=.slice e t bytes):
  P.underlying T=some (.slice e)/\∃i z,P.info? e=some i/\i.size=au t/\i.bytes=bytes/\i.zero=some z/\z.cells.size=au t/\(t.fc=true->e=ld):=by
 have bk:=az.tt T;rw[aS] at bk;obtain⟨⟨dS,_⟩,z,od,e3⟩:=bk;refine⟨dS,?_⟩;cases aD:P.info? e with
 |none=>simp[aD] at od
 |some i=>
  simp only[aD,Option.map_some,Option.some.injEq,Prod.mk.injEq] at od;exact⟨i,z,rfl,od.1,od.2.1,od.2.2,e3⟩
theorem FW{C:Ctx}(az:CtxOk P C){T e:TypeId}{t:aB}{bytes len:Nat}{parts:Array (Nat×Operand)}(aS:C.tt T=.slice e t bytes)(hlen:parts.toList.length=len)(lB:n6 0 parts.toList=true)(qQ:len*au t<=1000)
  {ws:List Value} (EF:ws=parts.toList.map fun p=>Act.eval ⟨tm,[]⟩ p.2) (dW:∀v,v∈ws->v.cells.size=au t) (hK:(ws.flatMap fun v=>v.cells.toList).length=len*au t):
  (Instr.buildSlice T len (parts.map fun(x:Nat×Operand)=>(x.1,Act.eval ⟨tm,[]⟩ x.2))).run P w=
   .ok (.slice (some ⟨w.heap.size,0,none⟩) len len) (w.alloc (.cells (ws.flatMap fun v=>v.cells.toList).toArray e)):=by
 obtain⟨dS,i,z,af,gl,nL,ku,e3,eD⟩:=m2 az aS;have YO:(parts.map fun(x:Nat×Operand)=>(x.1,Act.eval ⟨tm,[]⟩ x.2)).toList=parts.toList.map fun p=>(p.1,Act.eval ⟨tm,[]⟩ p.2):=by simp
 have ZL:((parts.toList.map fun p=>(p.1,Act.eval ⟨tm,[]⟩ p.2)).flatMap fun p:Nat×Value=>p.2.cells.toList)=ws.flatMap fun v=>v.cells.toList:=by
  simp[EF,List.flatMap_map]
 by_cases aQ:len*i.size=0
 ·have jt:len=0:=by
   rcases Nat.mul_eq_zero.1 aQ with h|h
   ·exact h
   ·have:=iJ t;omega
  subst jt;have nJ:parts.toList=[]:=List.eq_nil_of_length_eq_zero hlen;have acL:ws=[]:=by simp[EF,nJ]
  have acW:parts=#[]:=by simpa using nJ
  rw[acL];have jZ:∀f:Nat->Value,Array.map f (Array.range 0)=#[]:=fun f=>by apply Array.ext';simp
  simp[Instr.buildSlice,run_underlying dS,sizeOf,typeInfo,af,acW,Instr.fill,newRow,jZ]
 ·refine run_buildSlice w T e len _ _ i z dS af ku (by rw[gl];omega) aQ ?_
  rw[YO];have ZB:(((Array.range (len*i.size)).map fun x=>z.cells[x%z.cells.size]!)).size=len*i.size:=by simp
  have:=S0 (au t) (parts.toList.map fun p=>(p.1,Act.eval ⟨tm,[]⟩ p.2)) 0 ((Array.range (len*i.size)).map fun x=>z.cells[x%z.cells.size]!)
   (fun j h=>by have:=SV _ 0 lB j (by simpa using h);simpa using this)
   (fun p am=>by
    obtain⟨q,aD,rfl⟩:=List.mem_map.1 am;exact dW _ (by rw[EF];exact List.mem_map.2 ⟨q,aD,rfl⟩))
   (by rw[ZB,gl];simp[hlen])
  rw[gl] at this ⊢;rw[this,ZL];congr 2
  unfold b';rw[Nat.zero_mul,List.take_zero,List.nil_append,Nat.zero_add,hK,List.drop_eq_nil_of_le (by simp),List.append_nil]
theorem QV(S:ad J H X B st tm w){C:Ctx}(az:CtxOk P C){T e:TypeId}{t:aB}{bytes len o:Nat}{parts:Array (Nat×Operand)}(aS:C.tt T=.slice e t bytes)(an:D.op=.buildSlice T len parts)
  (c9:D.dst=some o) (U:b2 st D.dst=true) (hlen:parts.toList.length=len) (lB:n6 0 parts.toList=true) (qQ:len*au t<=1000) {as:List bt} {xs:List (den t)} {us:List (Nat×Site)}
  (has:mo (parts.toList.map fun p=>aI C st e p.2)=some as) (eg:k0 t st as=some (xs,us)):
  cr P J H X st tm w D (bQ (.own o (aR st o))) (us++[(o,.row (aR st o) t xs)]):=by
 obtain⟨dS,i,z,af,gl,nL,ku,e3,eD⟩:=m2 az aS;have gr:=XX eg;have aY:kF J H X B st tm w us:=⟨S,gr⟩;obtain⟨uP,nN⟩:=GU has;let ws:List Value:=parts.toList.map fun p=>Act.eval ⟨tm,[]⟩ p.2
 have ur:ws.length=as.length:=by rw[<-uP];simp[ws]
 have DH:∀j (h:j<as.length) (ae:j<ws.length),gm B st.sites w (al X B st.sites) (as[j]) (ws[j]):=by
  intro j h1 h2;have bF:j<(parts.toList.map fun p=>aI C st e p.2).length:=by rw[uP];exact h1
  have:=nN j bF h1;simp only[List.getElem_map] at this;have bi:=cJ S C e (parts.toList[j]'(by simpa using bF)).2
  rw[this] at bi;have Y:b4 B st.sites w (al X B st.sites) (.av (as[j])) (ws[j]):=by simpa[ws] using bi
  exact Y
 obtain⟨k7,c2,dW⟩:=XW eg ur DH aY (fun p am=>am)
 have pb:xs.length=len:=by rw[k7,<-ur];simpa[ws] using hlen
 have hK:(ws.flatMap fun v=>v.cells.toList).length=len*au t:=by rw[c2.1,dD,pb]
 have hm:len<=maxLen:=by
  have:len*1<=len*au t:=Nat.mul_le_mul_left _ (iJ t);unfold maxLen;omega
 have bO:=aY.new.BL (o:=o) (xs:=xs) (cs:=ws.flatMap fun v=>v.cells.toList) (rest:=[]) (T:=e) (cap:=len) (by exact c2) (by simp[hK]) hm eD
 rw[Qt gr,pb,List.append_nil] at bO;have n_:aT st.sites (us++[(o,.row (aR st o) t xs)])=b5 (aT st.sites us) o (.row (aR st o) t xs):=by rw[ie];rfl
 have cz:(Instr.buildSlice T len (parts.map fun(x:Nat×Operand)=>(x.1,Act.eval ⟨tm,[]⟩ x.2))).run P w=
   .ok (.slice (some ⟨w.heap.size,0,none⟩) len len) (w.alloc (.cells (ws.flatMap fun v=>v.cells.toList).toArray e)):=FW az aS hlen lB qQ rfl dW hK
 refine hz (us:=us++[(o,.row (aR st o) t xs)]) (by rw[n_];exact bO) U (vv:=.slice (some ⟨w.heap.size,0,none⟩) len len) ?_ ?_
 ·unfold execOp;simp only[an,Sem.run_bind];have Df:=cz;simp only[Df,Result.andThen_ok,Sem.run_pure]
 ·rw[n_];refine⟨rfl,Ref.mk (M:=.row (aR st o) t xs) ?_ rfl (by simp[bD])⟩
  simp only[ck];simp
theorem QL{w:World}{av:Nat->Prop}{t:aB}{z:den t}{ga:List Value}(h:ch w av (enc t z) ga)(n:Nat):ch w av (flat t (List.replicate n z)) ((List.replicate n ga).flatten):=by
 induction n with
 |zero=>exact⟨rfl,fun j h=>by simp[flat] at h⟩
 |succ n ih=>
  have:=hU ((fV (B:=fun _=>undef) (sites:=[]) h.1 h.2).append (fV (B:=fun _=>undef) (sites:=[]) ih.1 ih.2)|>fun h=>by
   rw[show ci (enc t z)++ci (flat t (List.replicate n z))=ci (enc t z++flat t (List.replicate n z)) from by simp[ci]] at h
   exact h)
  simpa[List.replicate_succ,flat,List.flatMap_cons] using this
theorem T7(z:Array Value)(n:Nat)(aM:0<z.size):((Array.range (n*z.size)).map fun x=>z[x%z.size]!).toList=(List.replicate n z.toList).flatten:=by
 induction n with
 |zero=>simp
 |succ n ih=>
  rw[List.replicate_succ',List.flatten_append];rw[<-ih];apply List.ext_getElem?;intro j;have e:(n+1)*z.size=n*z.size+z.size:=by rw[Nat.add_mul,Nat.one_mul]
  simp only[Array.toList_map,Array.toList_range,List.getElem?_map,List.getElem?_append,List.length_map,List.length_range,List.flatten_cons,List.flatten_nil,List.append_nil,e];by_cases h1:j<n*z.size
  ·rw[List.getElem?_range (by omega)];simp[h1]
  ·by_cases h2:j<n*z.size+z.size
   ·rw[List.getElem?_range h2];have Y:j-n*z.size<z.size:=by omega
    have aP:j%z.size=j-n*z.size:=by
     have:j=z.size*n+(j-n*z.size):=by rw[Nat.mul_comm];omega
     conv=>lhs;rw[this]
     rw[Nat.mul_add_mod,Nat.mod_eq_of_lt Y]
    simp[h1,aP,Y]
   ·rw[List.getElem?_eq_none (by simp;omega)]
    have Y:¬j-n*z.size<z.size:=by omega
    simp[h1,Y]
theorem Rs{l:aw}{v:Value}{d:aK}{us:List (Nat×Site)}(h:oZ l=some v)(k:jw st l=some (d,us)):us=[]:=by
 cases l with
 |d x=>simp[jw] at k;exact k.2
 |nil t=>simp[jw] at k;exact k.2
 |own o s=>simp[oZ] at h
 |clo g bv=>simp[oZ] at h
 |_=>simp[jw] at k
theorem FY{C:Ctx}{T e:TypeId}{t:aB}{bytes:Nat}{kn km:IntKind}{n m:Int}{i:TypeInfo}{v:Value}(dS:P.underlying T=some (.slice e))(af:P.info? e=some i)(gl:i.size=au t)(nL:i.bytes=bytes)
  (ku:i.zero=some v) (e3:v.cells.size=au t) (aX:0<=n) (aG:n<=m) (bU:m*bytes<=room) (kC:m<=maxLen):
  (Instr.makeSlice T (.int kn n) (.int km m)).run P w=.ok (.slice (some ⟨w.heap.size,0,none⟩) n.toNat m.toNat) (w.alloc (.cells ((List.replicate m.toNat v.cells.toList).flatten).toArray e)):=by
 unfold maxLen at kC;have cj:IntKind.i64.wrap n=n:=IntWalk.i64_in n (by omega)
 have w2:IntKind.i64.wrap m=m:=IntWalk.i64_in m (by omega)
 have tN:(decide (m<0)||decide (((i.bytes:Nat):Int)*m>2^48))=false:=by
  unfold room at bU;rw[nL];have:(bytes:Int)*m<=140737488355328:=by rw[Int.mul_comm];exact bU
  simp;omega
 have n':((Array.range (m.toNat*i.size)).map fun x=>v.cells[x%v.cells.size]!)=((List.replicate m.toNat v.cells.toList).flatten).toArray:=by
  rw[<-T7 v.cells m.toNat (by rw[e3];exact iJ t),e3,gl]
 have EQ:¬n<0:=by omega
 have kr:¬n>m:=by omega
 unfold Instr.makeSlice;simp only[Sem.run_bind,run_underlying dS,Result.andThen_ok,asInt,asIntOf,Sem.run_pure,jH af,cj,w2,tN,Bool.false_eq_true,EQ,kr,decide_false,Bool.or_false,Bool.or_self,if_false,
  run_askRoom,sizeOf]
 by_cases Og:m.toNat*i.size=0
 ·have ac3:m.toNat=0:=by
   rcases Nat.mul_eq_zero.1 Og with h|h
   ·exact h
   ·have:=iJ t;omega
  have jZ:∀f:Nat->Value,Array.map f (Array.range 0)=#[]:=fun f=>by apply Array.ext';simp
  simp[ac3,newRow,jZ]
 ·simp[Og,ku,zeroValue,jH af,newRow,n']
theorem Rg(S:ad J H X B st tm w){C:Ctx}(az:CtxOk P C){T e:TypeId}{t:aB}{bytes o:Nat}{l c:Operand}{kn km:IntKind}{n m:Int}{z:List aw}{ds:List aK}{us:List (Nat×Site)}{ei:den t}(aS:C.tt T=.slice e t bytes)(an:D.op=.makeSlice T l c)
  (c9:D.dst=some o) (U:b2 st D.dst=true) (hl:aI C st 0 l=.av (.ak (.d (.int kn n)))) (hc:aI C st 0 c=.av (.ak (.d (.int km m)))) (aM:(C.tt e).zero=some z) (ek:ht st z=some (ds,us)) (eg:dec t ds=some ei):
  ∀r,lM bytes n m ei=some r->cr P J H X st tm w D (bQ (.own o (aR st o))) [(o,.row (aR st o) t r)]:=by
 intro r hr;obtain⟨dS,i,fC,af,gl,nL,ku,e3,eD⟩:=m2 az aS;obtain⟨v,Z,lO⟩:=cg.vW (w:=w) (az.tt e) aM;have EG:v=fC:=by
  simp[zeroValue,typeInfo,af,ku] at Z;exact Z.symm
 subst EG;obtain⟨h1,h2,Y⟩:=qa lO;have dV:us=[]:=by
  clear eg aM Y h2 h1;have key:∀{O:List aw} {vs:List Value} {ds:List aK} {us:List (Nat×Site)},kL O=some vs->ht st O=some (ds,us)->us=[]:=by
   intro O;induction O with
   |nil=>intro vs ds us _ h;simp only[ht] at h;cases h;rfl
   |cons l O ih=>
    intro vs ds us h1 h2;simp only[kL] at h1;split at h1
    ·rename_i v ct g1 g2;simp only[ht] at h2;split at h2
     ·rename_i d PT gv nS ay ai;cases h2;rw[ih g2 ai,List.append_nil];exact Rs g1 ay
     ·cases h2
    ·cases h1
  exact key lO ek
 subst dV;have aY:kF J H X B st tm w []:=⟨S,.nil⟩;have Ot:ch w (al X B st.sites) ds v.cells.toList:=xk ek ⟨h1,Y _ _ _ _⟩ aY (fun p am=>am)
 rw[<-nb _ _ _ eg] at Ot;unfold lM at hr;split at hr
 ·rename_i hb;obtain⟨aX,aG,bU,kC⟩:=hb;cases hr;have e1:Act.eval ⟨tm,[]⟩ l=.int kn n:=by
   have:=cJ S C 0 l;rw[hl] at this;have this:Rd _ _ (.int kn n) _:=this;generalize Act.eval ⟨tm,[]⟩ l=u at this;cases this;rfl
  have e2:Act.eval ⟨tm,[]⟩ c=.int km m:=by
   have:=cJ S C 0 c;rw[hc] at this;have this:Rd _ _ (.int km m) _:=this;generalize Act.eval ⟨tm,[]⟩ c=u at this;cases this;rfl
  have tL:=QL Ot n.toNat;have hlen:((List.replicate n.toNat v.cells.toList).flatten).length=n.toNat*au t:=by
   rw[tL.1,dD,List.length_replicate]
  have th:(List.replicate m.toNat v.cells.toList).flatten=(List.replicate n.toNat v.cells.toList).flatten++(List.replicate (m.toNat-n.toNat) v.cells.toList).flatten:=by
   rw[<-List.flatten_append,List.replicate_append_replicate];congr 2;omega
  have hcap:((List.replicate n.toNat v.cells.toList).flatten).length+((List.replicate (m.toNat-n.toNat) v.cells.toList).flatten).length=m.toNat*au t:=by
   rw[<-List.length_append,<-th];simp[e3]
  have tO:m.toNat<=maxLen:=by omega
  have bO:=S.BL (o:=o) (T:=e) tL hcap tO eD;rw[List.length_replicate,<-th] at bO;refine hz (us:=[(o,.row (aR st o) t (List.replicate n.toNat ei))]) bO U (vv:=.slice (some ⟨w.heap.size,0,none⟩) n.toNat m.toNat) ?_ ?_
  ·unfold execOp;simp only[an,e1,e2,Sem.run_bind];have cz:=FY (C:=C) (w:=w) (kn:=kn) (km:=km) dS af gl nL ku e3 aX aG bU kC;simp only[cz,Result.andThen_ok,Sem.run_pure]
  ·refine⟨rfl,Ref.mk (M:=.row (aR st o) t (List.replicate n.toNat ei)) ?_ rfl (by simp[bD])⟩
   simp only[aT,ck];simp
 ·cases hr
end
theorem Uq{aA h9:Type}(g:aA->Option h9):∀{l:List aA} {r:List h9},l.mapM g=some r->∀{i:Nat} {y:h9},r[i]? =some y->∃x,l[i]? =some x/\g x=some y:=by
 intro l;induction l with
 |nil=>intro r h i y aq;simp at h;subst h;simp at aq
 |cons x l ih=>
  intro r h i y aq;simp only[List.mapM_cons,Option.bind_eq_bind,Option.pure_def] at h;cases hx:g x with
  |none=>simp[hx] at h
  |some z=>
   cases hl:l.mapM g with
   |none=>simp[hx,hl] at h
   |some j3=>
    simp only[hx,hl,Option.bind_some,Option.some.injEq] at h;subst h;cases i with
    |zero=>simp at aq;subst aq;exact⟨x,by simp,hx⟩
    |succ i=>simp at aq;simpa using ih hl aq
section
variable {P:Program}{J:World}{H:List Nat}{X:Nat->Prop}{B:Nat->Value}{st:ab}{tm:Array Value}{w:World}{D:Oper}
theorem jh{k:IntKind}{n:Int}{v:Value}{av:Nat->Prop}(h:Rd w av (.int k n) v):v=.int k n:=by cases h;rfl
theorem jf{b:Bool}{v:Value}{av:Nat->Prop}(h:Rd w av (.bool b) v):v=.bool b:=by cases h;rfl
theorem gf{s:G}{v:Value}{av:Nat->Prop}(h:Rd w av (.str s) v):∃b:ByteArray,v=.string b/\b.data.toList=s:=by
 cases h with
 |str l s h=>exact⟨s,rfl,h⟩
theorem jL(S:ad J H X B st tm w){C:Ctx}{T:TypeId}{x:Operand}{k:IntKind}{n:Int}(h:aI C st T x=.av (.ak (.d (.int k n)))):Act.eval ⟨tm,[]⟩ x=.int k n:=by
 have:=cJ S C T x;rw[h] at this;exact jh this
theorem Cd(S:ad J H X B st tm w){C:Ctx}{T:TypeId}{x:Operand}{b:Bool}(h:aI C st T x=.av (.ak (.d (.bool b)))):Act.eval ⟨tm,[]⟩ x=.bool b:=by
 have:=cJ S C T x;rw[h] at this;exact jf this
theorem Y0(S:ad J H X B st tm w){C:Ctx}{T:TypeId}{x:Operand}{s:G}(h:aI C st T x=.av (.ak (.d (.str s)))):∃b:ByteArray,Act.eval ⟨tm,[]⟩ x=.string b/\b.data.toList=s:=by
 have:=cJ S C T x;rw[h] at this;exact gf this
theorem RG{C:Ctx}(az:CtxOk P C){T:TypeId}{bJ:List (Nat×Nat)}{n:Nat}{z:List aw}{eq:Bool}(aS:C.tt T=.struct bJ n z eq):(cg.struct bJ n z eq).ok P T:=by
 have:=az.tt T;rwa[aS] at this
theorem Rp(S:ad J H X B st tm w){C:Ctx}(az:CtxOk P C){T:TypeId}{x:Operand}{f off Fp:Nat}{bJ:List (Nat×Nat)}{n:Nat}{z:List aw}{eq:Bool}(aS:C.tt T=.struct bJ n z eq)(an:D.op=.fieldAddr T x f)
  (U:b2 st D.dst=true) (hf:bJ[f]? =some (off,Fp)):Holds (z6 off (aI C st 0 x)) (cr P J H X st tm w D):=by
 obtain⟨fields,dS,⟨aad,uz⟩,_⟩:=RG az aS;obtain⟨P_,h1,h2⟩:=Uq _ aad hf;have h1':fields[f]? =some P_:=by simpa using h1
 cases af:P.info? P_.type with
 |none=>simp[af] at h2
 |some i=>
  simp only[af,Option.map_some,Option.some.injEq,Prod.mk.injEq] at h2;have eJ:i.size≠0:=by rw[h2.2];exact uz (off,Fp) (List.mem_of_getElem? hf)
  have bi:=cJ S C 0 x;have run:∀{b p:Nat},Act.eval ⟨tm,[]⟩ x=.pointer (some ⟨b,p,none⟩)->(execOp (Act.eval ⟨tm,[]⟩) D).run P w=.ok (.value (.pointer (some ⟨b,p+off,none⟩))) w:=by
   intro b p hx;unfold execOp;simp only[an,hx,Instr.fieldAt,Instr.sureAddr,Sem.run_bind,run_underlying dS,Result.andThen_ok,h1',Sem.run_pure,fieldPlace,sizeOf,jH af,eJ,if_false,h2.1,gg]
  unfold z6;split
  ·rename_i o s p bS;rw[bS] at bi;obtain⟨b,ay,ai⟩:=bi;exact Holds.ok (dt S U (run ay) ⟨b,rfl,ai⟩)
  ·rename_i cells p bS;rw[bS] at bi;obtain⟨b,q,ay,ai⟩:=bi;refine Holds.ok (dt S U (run ay) ⟨b,q,by rw[Nat.add_assoc],ai⟩)
  ·rename_i o s t k p bS;rw[bS] at bi;obtain⟨b,q,ay,ai⟩:=bi;exact Holds.ok (dt S U (run ay) ⟨b,q,by rw[Nat.add_assoc,Nat.add_assoc],ai⟩)
  ·exact .fail
end
theorem sO(n:Nat)(l:List Nat):fN n l=true <-> n∈l:=by
 induction l with
 |nil=>simp[fN]
 |cons m l ih=>
  simp only[fN,Bool.or_eq_true,ih,List.mem_cons];constructor
  ·rintro(h|h)
   ·exact .inl (Nat.eq_of_beq_eq_true h)
   ·exact .inr h
  ·rintro(rfl|h)
   ·exact .inl (Nat.beq_refl n)
   ·exact .inr h
theorem nZ(l:List Nat):eO l=true <-> l.Nodup:=by
 induction l with
 |nil=>simp[eO]
 |cons n l ih=>
  simp only[eO,Bool.and_eq_true,ih,List.nodup_cons,Bool.not_eq_true'];constructor
  ·rintro⟨h1,h2⟩;exact⟨fun h=>(by rw[(sO n l).2 h] at h1;cases h1),h2⟩
  ·rintro⟨h1,h2⟩;refine⟨?_,h2⟩;cases h:fN n l with
   |false=>rfl
   |true=>exact absurd ((sO n l).1 h) h1
theorem kH{sites us:List (Nat×Site)}{o:Nat}(h:o∉keys us):look (aT sites us) o=look sites o:=by
 induction us generalizing sites with
 |nil=>rfl
 |cons p us ih=>
  obtain⟨n,s⟩:=p;simp only[keys,List.mem_cons,not_or] at h;simp only[aT];rw[ih h.2,ck];have:¬n=o:=fun e=>h.1 e.symm
  simp[this]
theorem AP{aA:Type}{us:List (Nat×aA)}{o:Nat}{s:aA}(h:(o,s)∈us):o∈keys us:=by
 induction us with
 |nil=>simp at h
 |cons p us ih=>
  rcases List.mem_cons.1 h with rfl|h
  ·exact List.mem_cons_self
  ·exact List.mem_cons_of_mem _ (ih h)
theorem n1{aA:Type}{us:List (Nat×aA)}{o:Nat}(h:o∈keys us):∃s,(o,s)∈us:=by
 induction us with
 |nil=>simp[keys] at h
 |cons p us ih=>
  obtain⟨n,s⟩:=p;rcases List.mem_cons.1 h with h|h
  ·exact⟨s,by rw[h];exact List.mem_cons_self⟩
  ·obtain⟨ag,ae⟩:=ih h;exact⟨ag,List.mem_cons_of_mem _ ae⟩
theorem gy{aA:Type}(a b:List (Nat×aA)):keys (a++b)=keys a++keys b:=by
 induction a with
 |nil=>rfl
 |cons p a ih=>simp[keys,ih]
section
variable {P:Program}{J:World}{H:List Nat}{X:Nat->Prop}{B:Nat->Value}{st:ab}{tm:Array Value}{w:World}{D:Oper}
def cn(B:Nat->Value)(ks:List Nat):List Nat:=ks.flatMap fun o=>bb (B o)
theorem j8(a b:List Nat):cn B (a++b)=cn B a++cn B b:=by simp[cn]
def eR(sites:List (Nat×Site))(us:List (Nat×Site)):Prop:=∀o ag,(o,ag)∈us->∃M,look sites o=some M/\M.live=true/\ag=.dead M.bT
theorem eR.nil{sites:List (Nat×Site)}:eR sites []:=fun _ _ h=>by simp at h
theorem eR.append{sites us vs:List (Nat×Site)}(h:eR sites us)(ae:eR sites vs):eR sites (us++vs):=by
 intro o s hm;rcases List.mem_append.1 hm with hm|hm
 ·exact h o s hm
 ·exact ae o s hm
theorem SW:∀{us:List (Nat×Site)} {sites:List (Nat×Site)},eR sites us->∀E,(E∉keys us/\look (aT sites us) E=look sites E)\/(E∈keys us/\∃M,look sites E=some M/\M.live=true/\look (aT sites us) E=some (.dead M.bT)):=by
 intro us;induction us with
 |nil=>intro sites _ E;exact .inl ⟨by simp[keys],rfl⟩
 |cons p us ih=>
  obtain⟨o,s⟩:=p;intro sites h E;obtain⟨M,h1,h2,rfl⟩:=h o s List.mem_cons_self;by_cases hm:E∈keys us
  ·obtain⟨ag,gZ⟩:=n1 hm;obtain⟨bm,ay,ai,rfl⟩:=h E ag (List.mem_cons_of_mem _ gZ);refine .inr ⟨List.mem_cons_of_mem _ hm,bm,ay,ai,?_⟩;have:∀(us:List (Nat×Site)) (sites:List (Nat×Site)),(∀s,(E,s)∈us->s=.dead bm.bT)->E∈keys us->look (aT sites us) E=some (.dead bm.bT):=by
    intro us;induction us with
    |nil=>intro _ _ h;simp[keys] at h
    |cons q us um=>
     obtain⟨aE,r⟩:=q;intro sites L ah;simp only[aT];by_cases h5:E∈keys us
     ·exact um _ (fun s eA=>L s (List.mem_cons_of_mem _ eA)) h5
     ·rw[kH h5,ck];rcases List.mem_cons.1 ah with rfl|ah
      ·rw[L r List.mem_cons_self];simp
      ·exact absurd ah h5
   simp only[aT];refine this us _ (fun s L=>?_) hm
   obtain⟨s2,g1,g2,g3⟩:=h E s (List.mem_cons_of_mem _ L);rw[ay] at g1;cases g1;exact g3
  ·simp only[aT];rw[kH hm,ck];by_cases e:o=E
   ·subst e;exact .inr ⟨List.mem_cons_self,M,h1,h2,by simp⟩
   ·exact .inl ⟨fun ah=>(List.mem_cons.1 ah).elim (fun h=>e h.symm) hm,by simp[e]⟩
theorem Deep.len{av:Nat->Prop}{ds:List aK}{cs ap:List Value}(h:Deep w av ds cs ap):cs.length=ds.length:=by
 induction h with
 |nil=>rfl
 |row _ _ _ _ _ _ _ _ ih=>simp[ih]
 |leaf _ _ _ ih=>simp[ih]
theorem Deep.cK{av:Nat->Prop}{ds gv:List aK}{cs jx ap mA:List Value}(h:Deep w av ds cs ap)(ae:Deep w av gv jx mA):Deep w av (ds++gv) (cs++jx) (ap++mA):=by
 induction h with
 |nil=>exact ae
 |row u ys e O am h hr _ ih=>exact .row u ys e O am h hr ih
 |leaf am h _ ih=>exact .leaf am h ih
theorem Deep.inv{av:Nat->Prop}:∀{ds gv:List aK} {cs ap:List Value},Deep w av (ds++gv) cs ap->∃pS OV eZ jW,cs=pS++OV/\ap=eZ++jW/\Deep w av ds pS eZ/\Deep w av gv OV jW:=by
 intro ds;induction ds with
 |nil=>intro gv cs ap h;exact⟨[],cs,[],ap,rfl,rfl,.nil,h⟩
 |cons d ds ih=>
  intro gv cs ap h;cases h with
  |row u ys e O am h hr k=>
   obtain⟨bI,bB,b1,cM,rfl,rfl,ay,ai⟩:=ih k;exact⟨_::bI,bB,_::b1,cM,rfl,rfl,.row u ys e O am h hr ay,ai⟩
  |leaf am h k=>
   obtain⟨bI,bB,b1,cM,rfl,rfl,ay,ai⟩:=ih k;exact⟨_::bI,bB,b1,cM,rfl,rfl,.leaf am h ay,ai⟩
theorem Deep.map{w':World}{av bE:Nat->Prop}{ds:List aK}{cs ap:List Value}(h:Deep w av ds cs ap)(go:∀{d v},Rd w av d v->Rd w' bE d v):
  (∀n,n∈ap->∀b,aZ n=some b->w'.heap[b]? =w.heap[b]?)->Deep w' bE ds cs ap:=by
 induction h with
 |nil=>intro _;exact .nil
 |row u ys e O am h hr _ ih=>intro ah;exact .row u ys e O am (m3 h (ah _ List.mem_cons_self)) ⟨hr.1,fun j g1 g2=>go (hr.2 j g1 g2)⟩ (ih fun n hn=>ah n (List.mem_cons_of_mem _ hn))
 |leaf am h _ ih=>intro ah;exact .leaf am (go h) (ih ah)
theorem Deep.one{av:Nat->Prop}{ds:List aK}{cs ap:List Value}(h:Deep w av ds cs ap):∀u∈cs,u.oneCell'=true:=by
 induction h with
 |nil=>intro u hu;cases hu
 |row u ys e O _ h _ _ ih=>
  intro v Z;rcases List.mem_cons.1 Z with rfl|Z
  ·rcases h.2 with⟨h,_⟩|⟨_,_,_,_,h,_⟩<;>rw[h]<;>rfl
  ·exact ih v Z
 |leaf _ h _ ih=>
  intro v Z;rcases List.mem_cons.1 Z with rfl|Z
  ·exact h.ij
  ·exact ih v Z
theorem Tf{o s:Nat}{t:aB}{xs:List (den t)}(h:pf st o s=some ⟨t,xs⟩):rowOf st o s=some ⟨t,xs⟩\/ls st o s=some ⟨t,xs⟩:=by
 unfold pf at h;split at h
 ·rename_i x hx;cases h;exact .inl hx
 ·exact .inr h
theorem ad.any(S:ad J H X B st tm w){o s:Nat}{t:aB}{xs:List (den t)}(h:pf st o s=some ⟨t,xs⟩):
  (∃M,look st.sites o=some M/\M.bT=s)/\((bD (B o)=.slice none 0 0/\xs=[])\/∃b c,bD (B o)=.slice (some ⟨b,0,none⟩) xs.length c):=by
 rcases Tf h with h|h
 ·obtain⟨cs,_,hc⟩:=S.row h;refine⟨by rcases jI h with h|h<;>exact⟨_,h,rfl⟩,hc.imp id fun⟨b,c,h,_⟩=>⟨b,c,h⟩⟩
 ·have hl:=sz h;obtain⟨e,v,ap,cs,h1,_,h2,_⟩:=S.sites o _ hl;refine⟨⟨_,hl,rfl⟩,?_⟩;rw[h1];show(v=_/\_)\/∃b c,v=_;rcases h2.2 with⟨Z,aQ⟩|⟨g,cap,cur,br,Z,_⟩
  ·exact .inl ⟨Z,List.eq_nil_of_length_eq_zero aQ⟩
  ·exact .inr ⟨g,cap,Z⟩
theorem ad.all(S:ad J H X B st tm w){o s:Nat}{t:aB}{xs:List (den t)}(h:pg st o s=some ⟨t,xs⟩):
  (∃M,look st.sites o=some M/\M.bT=s)/\((bD (B o)=.slice none 0 0/\xs=[])\/∃b D c,bD (B o)=.slice (some ⟨b,D,none⟩) xs.length c):=by
 unfold pg at h;split at h
 ·rename_i x hx;cases h;obtain⟨h1,h2⟩:=S.any hx;exact⟨h1,h2.imp id fun⟨b,c,h⟩=>⟨b,0,c,h⟩⟩
 ·have hl:=zI h;obtain⟨cs,_,h2⟩:=S.tail hl;exact⟨⟨_,hl,rfl⟩,h2.imp id fun⟨b,D,c,h,_⟩=>⟨b,D,c,h⟩⟩
theorem ad.JM(S:ad J H X B st tm w){o:Nat}(h:bL st.sites o):(bb (B o)).Nodup:=by
 obtain⟨M,h1,h2⟩:=h;have:=S.sites o M h1;cases M with
 |box s cells=>obtain⟨b,T,cur,g,_⟩:=this;rw[g];simp[bb,aZ]
 |row s t xs=>
  obtain⟨e,cs,g,_⟩:=this;rw[(hp g).2];cases aZ (B o)<;>simp
 |map s t es=>obtain⟨b,g,_⟩:=this;rw[g];simp[bb,aZ]
 |deep s t xs=>obtain⟨e,v,ap,cs,g1,g2,_⟩:=this;exact g2
 |ef s es=>obtain⟨b,arr,clock,ap,g1,g2,_⟩:=this;exact g2
 |tail s t xs=>
  obtain⟨_,e,cs,g,_⟩:=this;rcases g.2 with⟨g,_⟩|⟨_,_,_,_,g,_⟩<;>rw[g]<;>simp[bb,aZ]
 |c0=>cases h2
 |dead=>cases h2
theorem ad.CG(S:ad J H X B st tm w):∀{ks:List Nat},(∀E,E∈ks->bL st.sites E)->ks.Nodup->(cn B ks).Nodup:=by
 intro ks;induction ks with
 |nil=>intro _ _;simp[cn]
 |cons k ks ih=>
  intro hl hn;obtain⟨b1,cM⟩:=List.nodup_cons.1 hn;unfold cn;rw[List.flatMap_cons];refine List.nodup_append.2 ⟨S.JM (hl k List.mem_cons_self),ih (fun E h=>hl E (List.mem_cons_of_mem _ h)) cM,fun a bo b hb e=>?_⟩
  subst e;obtain⟨E,bg,hb⟩:=List.mem_flatMap.1 hb;exact b1 (S.df k E a (hl k List.mem_cons_self) (hl E (List.mem_cons_of_mem _ bg)) bo hb▸bg)
theorem ad.rE(S:ad J H X B st tm w){o:Nat}{bm:Site}{nv:Value}{w':World}{ks:List (Nat×Site)}{K:List Nat}(j0:eR st.sites ks)(bA:∀E,E∈K <-> E∈keys ks\/E=o/\bL st.sites o)
  (hw:∀b,b<w.heap.size->(∀E,E∈K->b∉bb (B E))->w'.heap[b]? =w.heap[b]?) (EO:w'.os=w.os) (Dd:w'.tape=w.tape) (tM:w'.output=w.output) (jk:w.heap.size<=w'.heap.size)
  (ft:bm.live=true) (mh:∀M,look st.sites o=some M->M.bT<bm.bT\/(M.bT=bm.bT/\bD nv=bD (B o)))
  (fv:∀b,b∈bb nv->b<w'.heap.size/\((∃E,E∈K/\b∈bb (B E))\/w.heap.size<=b))
  (eB:∀{bd:List (Nat×Site)} {ax:Nat->Value},ax o=nv->(∀{a v},b4 B st.sites w (al X B st.sites) a v->b4 ax bd w' (al X ax bd) a v)->
   hA ax bd w' (al X ax bd) o bm):
  ad J H X (fun E=>if E=o then nv else B E) {st with sites:=b5 (aT st.sites ks) o bm} tm w':=by
 have oz:=SW j0;have hold:∀E,E∈K->bL st.sites E:=by
  intro E h;rcases(bA E).1 h with h|⟨rfl,h⟩
  ·rcases oz E with⟨ae,_⟩|⟨_,M,h1,h2,_⟩
   ·exact absurd h ae
   ·exact⟨M,h1,h2⟩
  ·exact h
 have cP:∀E,bL (b5 (aT st.sites ks) o bm) E->E=o\/(E≠o/\E∉K/\bL st.sites E):=by
  rintro E ⟨M,h1,h2⟩;rw[ck] at h1;by_cases e:o=E
  ·exact .inl e.symm
  ·simp only[e,if_false] at h1;rcases oz E with⟨ay,ai⟩|⟨ay,s,ai,bn,cu⟩
   ·exact .inr ⟨fun h=>e h.symm,fun h=>((bA E).1 h).elim ay fun h=>e h.1.symm,M,ai▸h1,h2⟩
   ·rw[cu] at h1;cases h1;cases h2
 have tD:∀E b,E∉K->bL st.sites E->b∈bb (B E)->w'.heap[b]? =w.heap[b]? :=fun E b h1 h2 Y=>hw b (S.dL h2 Y) fun aE un hb=>h1 (S.df E aE b h2 (hold aE un) Y hb▸un)
 refine S.nn (fun E M bg=>?_) (fun b h hb=>hw b hb fun E bg ae=>h (.inr ⟨E,hold E bg,ae⟩)) (fun b h hb ae=>?_) (fun go E M bg=>?_) (fun E aE b h1 h2 g1 g2=>?_) (fun E b h1 g1=>?_) (fun E b h1 g1=>?_) ?_ jk
 ·rw[ck];by_cases e:o=E
  ·subst e;refine⟨bm,by simp,?_,fun h=>?_⟩
   ·rcases mh M bg with h|⟨h,_⟩<;>omega
   ·rcases mh M bg with ae|⟨_,ae⟩
    ·omega
    ·simpa using ae
  ·have bz:¬E=o:=fun h=>e h.symm
   rcases oz E with⟨ay,ai⟩|⟨ay,s,ai,bn,cu⟩
   ·exact⟨M,by simp[e,ai,bg],Nat.le_refl _,fun _=>by simp[bz]⟩
   ·rw[bg] at ai;cases ai;exact⟨.dead M.bT,by simp[e,cu],Nat.le_refl _,fun _=>by simp[bz]⟩
 ·rcases ae with ae|⟨E,h1,h2⟩
  ·exact h (.inl ae)
  ·rcases cP E h1 with rfl|⟨b1,cM,cy⟩
   ·simp only[if_true] at h2;rcases(fv b h2).2 with⟨aE,Y,aP⟩|Y
    ·exact h (.inr ⟨aE,hold aE Y,aP⟩)
    ·omega
   ·simp only[b1,if_false] at h2;exact h (.inr ⟨E,cy,h2⟩)
 ·rw[ck] at bg;by_cases e:o=E
  ·subst e;simp only[if_true,Option.some.injEq] at bg;subst bg;exact .inr (eB (by simp) go)
  ·have bz:¬E=o:=fun h=>e h.symm
   simp only[e,if_false] at bg;rcases oz E with⟨ay,ai⟩|⟨ay,s,ai,bn,cu⟩
   ·exact .inl ⟨ai▸bg,by simp[bz],fun hl b hb=>tD E b (fun h=>((bA E).1 h).elim ay fun h=>e h.1.symm) ⟨M,ai▸bg,hl⟩ hb⟩
   ·rw[cu] at bg;cases bg;exact .inr trivial
 ·have key:∀E b,E∉K->bL st.sites E->b∈bb (B E)->b∉bb nv:=by
   intro E b cM cy hb hn;rcases(fv b hn).2 with⟨aE,Y,aP⟩|Y
   ·exact cM (S.df E aE b cy (hold aE Y) hb aP▸Y)
   ·have:=S.dL cy hb;omega
  rcases cP E h1 with rfl|⟨b1,c4,cy⟩<;>rcases cP aE h2 with rfl|⟨cM,dx,en⟩
  ·rfl
  ·simp only[if_true] at g1;simp only[cM,if_false] at g2;exact absurd g1 (key aE b dx en g2)
  ·simp only[if_true] at g2;simp only[b1,if_false] at g1;exact absurd g2 (key E b c4 cy g1)
  ·simp only[b1,if_false] at g1;simp only[cM,if_false] at g2;exact S.df E aE b cy en g1 g2
 ·rcases cP E h1 with rfl|⟨b1,_,cy⟩
  ·simp only[if_true] at g1;rcases(fv b g1).2 with⟨aE,Y,aP⟩|Y
   ·exact S.cc aE b (hold aE Y) aP
   ·exact⟨fun hx=>by have:=S.old b hx;have:=S.frame.size;omega,.inr (Nat.le_trans S.frame.size Y)⟩
  ·simp only[b1,if_false] at g1;exact S.cc E b cy g1
 ·rcases cP E h1 with rfl|⟨b1,_,cy⟩
  ·simp only[if_true] at g1;exact(fv b g1).1
  ·simp only[b1,if_false] at g1;exact Nat.lt_of_lt_of_le (S.dL cy g1) jk
 ·have aY:=S.frame;refine⟨EO.trans aY.os,Dd.trans aY.tape,tM.trans aY.output,Nat.le_trans aY.size jk,fun b h1 h2=>?_⟩
  rw[hw b (Nat.lt_of_lt_of_le h1 aY.size) (fun E bg hb=>?_)]
  ·exact aY.block b h1 h2
  ·rcases(S.cc E b (hold E bg) hb).2 with h|h
   ·exact h2 h
   ·omega
theorem S5{t:aB}(h:t.ho=false)(x:den t):∀d,d∈enc t x->d.plain=true:=by
 cases t<;>first|(cases h;done)|(intro d U;simp only[enc,List.mem_cons,List.not_mem_nil,or_false] at U;(rcases U with rfl|rfl|rfl|rfl|rfl);all_goals rfl)|skip
 all_goals(intro d U;simp only[enc,List.mem_cons,List.not_mem_nil,or_false] at U)
 all_goals first|(subst U;rfl)|(rcases U with rfl|rfl<;>rfl)|(rcases U with rfl|rfl|rfl<;>rfl)|(rcases U with rfl|rfl|rfl|rfl<;>rfl)
theorem z1{t:aB}(h:t.ho=false){xs:List (den t)}:∀d,d∈flat t xs->d.plain=true:=by
 intro d U;simp only[flat,List.mem_flatMap] at U;obtain⟨x,_,hx⟩:=U;exact S5 h x d hx
theorem AL(S:ad J H X B st tm w):∀{O:List aw} {ds:List aK} {us:List (Nat×Site)} {vs:List Value},sinks st O=some (ds,us)->cl B st.sites w (al X B st.sites) O vs->
  eR st.sites us/\∃ap,Deep w (al X B st.sites) ds vs ap/\(ap.flatMap fun v=>(aZ v).toList)=cn B (keys us):=by
 intro O;induction O with
 |nil=>intro ds us vs h hl;simp only[sinks] at h;cases h;rw[hl.kO];exact⟨.nil,[],.nil,rfl⟩
 |cons l O ih=>
  intro ds us vs h hl;simp only[sinks] at h;split at h
  ·rename_i d u1 gv u2 h1 h2;cases h;obtain⟨v,ct,rfl,Z,k8⟩:=hl.inv;obtain⟨g2,ap,ai,bn⟩:=ih h2 k8;unfold sink at h1;split at h1
   ·cases h1;exact⟨g2,ap,.leaf rfl Z ai,bn⟩
   ·cases h1;exact⟨g2,ap,.leaf rfl Z ai,bn⟩
   ·cases h1;exact⟨g2,ap,.leaf rfl Z ai,bn⟩
   ·rename_i t;cases h1;have Z:v=.slice none 0 0:=Z;subst Z;exact⟨g2,_::ap,.row t [] 0 [] (fun d h=>by simp[flat] at h) (oT w _ _ _) ⟨rfl,fun j h=>by simp[flat] at h⟩ ai,by rw[List.flatMap_cons,bn];rfl⟩
   ·rename_i o s;split at h1
    ·rename_i ag t xs e';cases hb:(ag.beq s&&!t.ho) with
     |false=>rw[hb] at h1;cases h1
     |true=>
      rw[hb] at h1;simp only[Bool.and_eq_true,Bool.not_eq_true'] at hb;have:=Nat.eq_of_beq_eq_true hb.1;subst this;cases h1;have aD:look st.sites o=some (.row ag t xs):=e';obtain⟨e,cs,dO,de⟩:=S.sites o _ aD;have gY:v=B o:=(Ref.at Z.2 aD rfl).trans (hp dO).1;subst gY;refine⟨fun E ag hm=>?_,B o::ap,.row t xs e cs (z1 hb.2) dO ⟨by rw[dD];exact dO.1,de⟩ ai,?_⟩
      ·rcases List.mem_cons.1 hm with hm|hm
       ·cases hm;exact⟨_,aD,rfl,rfl⟩
       ·exact g2 E ag hm
      ·rw[List.flatMap_cons,bn,<-(hp dO).2];rfl
    ·cases h1
   ·cases h1
  ·cases h
theorem FU{O:List aw}:∀{ds:List aK} {us:List (Nat×Site)},sinks st O=some (ds,us)->gz O=true:=by
 induction O with
 |nil=>intro ds us _;rfl
 |cons l O ih=>
  intro ds us h;simp only[sinks] at h;split at h
  ·rename_i d u1 gv u2 h1 h2;simp only[gz,Bool.and_eq_true];refine⟨?_,ih h2⟩;unfold sink at h1;split at h1<;>first|rfl|cases h1
  ·cases h
theorem TW(S:ad J H X B st tm w):∀{as:List bt} {t:aB} {xs:List (den t)} {us:List (Nat×Site)} {ws:List Value},mf t st as=some (xs,us)->ws.length=as.length->
  (∀j (h:j<as.length) (ae:j<ws.length),gm B st.sites w (al X B st.sites) (as[j]) (ws[j]))->
  xs.length=as.length/\eR st.sites us/\(∃ap,Deep w (al X B st.sites) (flat t xs) (ws.flatMap fun v=>v.cells.toList) ap/\(ap.flatMap fun v=>(aZ v).toList)=cn B (keys us))/\∀v,v∈ws->v.cells.size=au t:=by
 intro as;induction as with
 |nil=>
  intro t xs us ws h hl _;simp only[mf] at h;cases h;have:ws=[]:=List.eq_nil_of_length_eq_zero hl;subst this;exact⟨rfl,.nil,⟨[],.nil,rfl⟩,fun v Z=>by simp at Z⟩
 |cons a as ih=>
  intro t xs us ws h hl eB;match ws,hl with
  |v::ws,hl=>
  simp only[mf] at h;split at h
  ·rename_i ds u1 lE;split at h
   ·rename_i x hv u2 eg kW;cases h;have bV:=eB 0 (by simp) (by simp)
    simp only[List.getElem_cons_zero] at bV;have iz:=bV.cells (FU lE);obtain⟨g1,eZ,d1,aX⟩:=AL S lE iz;obtain⟨g2,g3,⟨jW,d2,aG⟩,g4⟩:=ih kW (by simpa using hl) (fun j h1 h2=>eB (j+1) (by simpa using h1) (by simpa using h2))
    have nz:=nb _ _ _ eg;refine⟨by simp[g2],g1.append g3,⟨eZ++jW,?_,?_⟩,fun u hu=>?_⟩
    ·simp only[flat,List.flatMap_cons];rw[nz];exact d1.cK d2
    ·rw[List.flatMap_append,aX,aG,gy,j8]
    ·rcases List.mem_cons.1 hu with rfl|hu
     ·have:u.cells.toList.length=ds.length:=d1.len;rw[<-nz,fj] at this;simpa using this
     ·exact g4 u hu
   ·cases h
  ·cases h
theorem Gk{aA:Type}{us:List (Nat×aA)}{o:Nat}(h:(look us o).isNone=true):o∉keys us:=by
 induction us with
 |nil=>simp[keys]
 |cons p us ih=>
  obtain⟨n,s⟩:=p;simp only[look] at h;cases hb:n.beq o with
  |true=>rw[hb] at h;cases h
  |false=>
   rw[hb] at h;intro hm;rcases List.mem_cons.1 hm with rfl|hm
   ·rw[Nat.beq_refl] at hb;cases hb
   ·exact ih h hm
theorem vM(t:aB){xs:List (den t)}{k:Nat}(ah:k<xs.length)(dd:den t):flat t (xs.set k dd)=flat t (xs.take k)++(enc t dd++flat t (xs.drop (k+1))):=by
 rw[List.set_eq_take_append_cons_drop,if_pos ah,m0];rfl
theorem A'(t:aB){xs:List (den t)}{k:Nat}{x:den t}(hx:xs[k]? =some x):flat t xs=flat t (xs.take k)++(enc t x++flat t (xs.drop (k+1))):=by
 have ah:k<xs.length:=(List.getElem?_eq_some_iff.1 hx).1;have:=vM t ah x;rw[<-this];congr 1
 have mD:xs[k]=x:=(List.getElem?_eq_some_iff.1 hx).2;rw[<-mD,List.set_getElem_self]
theorem ad.TP(S:ad J H X B st tm w){o s k:Nat}{t:aB}{xs:List (den t)}{x dd:den t}{v:Value}{us:List (Nat×Site)}{vs ap:List Value}(hb:look st.sites o=some (.deep s t xs))
  (Z:dl B st.sites w (al X B st.sites) (.er o s t k 0) v) (hx:xs[k]? =some x) (dV:eR st.sites us) (hn:(keys us).Nodup) (a_:o∉keys us)
  (U:Deep w (al X B st.sites) (enc t dd) vs ap) (hJ:(ap.flatMap fun v=>(aZ v).toList)=cn B (keys us)):
  ∃b T cur br nv,v=.pointer (some ⟨b,k*au t,none⟩)/\w.heap[b]? =some (.cells (List.toArray cur) T br)/\k2 t.fc T cur.toArray br/\k*au t+vs.length<=cur.length/\
   ad J H X (fun E=>if E=o then nv else B E) {st with sites:=b5 (aT st.sites us) o (.deep s t (xs.set k dd))} tm (w.setRow b (b' cur (k*au t) vs).toArray):=by
 obtain⟨b,D,nG,jY⟩:=Z;obtain⟨n,c,bw⟩:=Ref.at jY hb rfl;obtain⟨e,v0,iw,cs,aQ,dF,cW,kX⟩:=S.sites o _ hb;have ah:k<xs.length:=(List.getElem?_eq_some_iff.1 hx).1;rw[aQ] at bw;replace bw:v0=.slice (some ⟨b,D,none⟩) n c:=bw
 obtain⟨oy,h⟩:=cW;rcases h with⟨ff,_⟩|⟨g,cap,cur,br,h7,lW,aJ,gq,iB,dW,gE⟩
 ·rw[bw] at ff;cases ff
 ·rw[bw] at h7;cases h7;have lV:(k+1)*au t<=xs.length*au t:=Nat.mul_le_mul_right _ ah;have h5:xs.length*au t<=c*au t:=Nat.mul_le_mul_right _ gq;rw[Nat.add_mul,Nat.one_mul] at lV;have lR:vs.length=au t:=by rw[U.len,fj]
  have jq:cur.toList.length=c*au t:=by simpa using dW
  have iQ:k*au t+vs.length<=cur.toList.length:=by omega
  rw[A' t hx] at kX;obtain⟨bI,OW,b1,hy,rfl,rfl,d1,d23⟩:=kX.inv;obtain⟨bB,cC,cM,j4,rfl,rfl,d2,d3⟩:=d23.inv;have cy:bI.length=k*au t:=by rw[d1.len,dD,List.length_take,Nat.min_eq_left (Nat.le_of_lt ah)]
  have en:bB.length=au t:=by rw[d2.len,fj]
  have ft:bL st.sites o:=⟨_,hb,rfl⟩;have nA:b∈bb (B o):=by rw[aQ];exact hj.2 (.inl (by rw[bw];rfl))
  have KG:aZ v0=some b:=by rw[bw];rfl
  have old:∀E,E∈keys us->bL st.sites E:=fun E h=>by
   obtain⟨ag,ae⟩:=n1 h;obtain⟨M,ay,ai,_⟩:=dV E ag ae;exact⟨M,ay,ai⟩
  have agj:∀y,y∈b1++(cM++j4)->∀a8,aZ y=some a8->a8∈bb (B o):=fun y aq a8 cd=>by rw[aQ];exact hj.2 (.inr ⟨y,aq,cd⟩)
  have y5:∀y,y∈ap->∀a8,aZ y=some a8->∃E,E∈keys us/\a8∈bb (B E):=fun y aq a8 cd=>by
   have:a8∈ap.flatMap fun v=>(aZ v).toList:=List.mem_flatMap.2 ⟨y,aq,by rw[cd];simp⟩
   rw[hJ] at this;exact List.mem_flatMap.1 this
  have ym:bb (.tuple (v0::(b1++(ap++j4))).toArray)=b::((b1.flatMap fun v=>(aZ v).toList)++(cn B (keys us)++j4.flatMap fun v=>(aZ v).toList)):=by
   simp[bb,KG,hJ]
  have rb:bb (B o)=b::((b1.flatMap fun v=>(aZ v).toList)++((cM.flatMap fun v=>(aZ v).toList)++j4.flatMap fun v=>(aZ v).toList)):=by
   rw[aQ];simp[bb,KG]
  refine⟨b,e,cur.toList,br,.tuple (v0::(b1++(ap++j4))).toArray,by simpa using nG,by simpa using aJ,by simpa using lW,iQ,?_⟩
  refine S.rE (K:=o::keys us) dV (fun E=>?_) (fun a8 cd cF=>setRow_other w b a8 _ ?_) rfl rfl rfl (by rw[setRow_size];exact Nat.le_refl _) rfl (fun M L=>?_) (fun a8 cd=>?_) (fun {bd ax} dR go=>?_)
  ·constructor
   ·intro h;rcases List.mem_cons.1 h with rfl|h
    ·exact .inr ⟨rfl,ft⟩
    ·exact .inl h
   ·rintro(h|⟨rfl,_⟩)
    ·exact List.mem_cons_of_mem _ h
    ·exact List.mem_cons_self
  ·rintro rfl;exact cF o List.mem_cons_self nA
  ·rw[hb] at L;cases L;exact .inr ⟨rfl,by rw[aQ];rfl⟩
  ·rw[setRow_size];rw[ym] at cd;have:(∃E,E∈o::keys us/\a8∈bb (B E)):=by
    simp only[List.mem_cons,List.mem_append] at cd;rcases cd with rfl|cd|cd|cd
    ·exact⟨o,List.mem_cons_self,nA⟩
    ·exact⟨o,List.mem_cons_self,by rw[rb];simp only[List.mem_cons,List.mem_append];exact .inr (.inl cd)⟩
    ·obtain⟨E,h1,h2⟩:=List.mem_flatMap.1 cd;exact⟨E,List.mem_cons_of_mem _ h1,h2⟩
    ·exact⟨o,List.mem_cons_self,by rw[rb];simp only[List.mem_cons,List.mem_append];exact .inr (.inr (.inr cd))⟩
   refine⟨?_,.inl this⟩;obtain⟨E,h1,h2⟩:=this;rcases List.mem_cons.1 h1 with rfl|h1
   ·exact S.dL ft h2
   ·exact S.dL (old E h1) h2
  ·have kv:=setRow_heap w b cur (b' cur.toList (k*au t) vs).toArray e br aJ;have fQ:b∉(b1.flatMap fun v=>(aZ v).toList)++((cM.flatMap fun v=>(aZ v).toList)++j4.flatMap fun v=>(aZ v).toList):=by
    have:=dF;rw[rb] at this;exact(List.nodup_cons.1 this).1
   have jQ:∀y,y∈b1++(ap++j4)->∀a8,aZ y=some a8->(w.setRow b (b' cur.toList (k*au t) vs).toArray).heap[a8]? =w.heap[a8]? :=by
    intro y aq a8 cd;refine setRow_other w b a8 _ ?_
    rintro rfl;simp only[List.mem_append] at aq;rcases aq with aq|aq|aq
    ·exact fQ (List.mem_append.2 (.inl (List.mem_flatMap.2 ⟨y,aq,by rw[cd];simp⟩)))
    ·obtain⟨E,h1,h2⟩:=y5 y aq _ cd;exact a_ (S.df o E _ ft (old E h1) nA h2▸h1)
    ·exact fQ (List.mem_append.2 (.inr (List.mem_append.2 (.inr (List.mem_flatMap.2 ⟨y,aq,by rw[cd];simp⟩)))))
   refine⟨e,v0,b1++(ap++j4),bI++(vs++cC),dR,?_,⟨?_,.inr ⟨b,c,_,br,?_,?_,kv,?_,iB,?_,?_⟩⟩,?_⟩
   ·rw[dR,ym];have hu:=S.CG old hn;rw[rb] at dF;obtain⟨c4,dx⟩:=List.nodup_cons.1 dF;obtain⟨jC,p1,Ft⟩:=List.nodup_append.1 dx;obtain⟨P1,u9,ag3⟩:=List.nodup_append.1 p1;have apart:∀a,a∈cn B (keys us)->a∉bb (B o):=by
     intro a bo r';obtain⟨E,h1,h2⟩:=List.mem_flatMap.1 bo;exact a_ (S.df o E a ft (old E h1) r' h2▸h1)
    refine List.nodup_cons.2 ⟨fun h=>?_,List.nodup_append.2 ⟨jC,List.nodup_append.2 ⟨hu,u9,fun a bo a8 cd e=>?_⟩,fun a bo a8 cd e=>?_⟩⟩
    ·simp only[List.mem_append] at h;rcases h with h|h|h
     ·exact c4 (List.mem_append.2 (.inl h))
     ·exact apart _ h nA
     ·exact c4 (List.mem_append.2 (.inr (List.mem_append.2 (.inr h))))
    ·subst e;exact apart a bo (by rw[rb];simp only[List.mem_cons,List.mem_append];exact .inr (.inr (.inr cd)))
    ·subst e;rcases List.mem_append.1 cd with cd|cd
     ·exact apart a cd (by rw[rb];simp only[List.mem_cons,List.mem_append];exact .inr (.inl bo))
     ·exact Ft a bo a (List.mem_append.2 (.inr cd)) rfl
   ·rw[List.length_set];simp only[List.length_append] at oy ⊢;omega
   ·rw[bw,List.length_set]
   ·refine⟨lW.1,?_⟩;rcases lW.2 with h|⟨h,ae⟩
    ·exact .inl h
    ·refine .inr ⟨h,?_⟩;rw[List.size_toArray,l8 _ _ _ iQ];simpa using ae
   ·rw[List.length_set];exact gq
   ·rw[List.size_toArray,l8 _ _ _ iQ];exact jq
   ·rw[List.length_set,List.toList_toArray,zJ _ _ _ _ (by omega) (by rw[jq];omega),gE]
    unfold b';rw[<-cy,List.take_left' rfl,lR,<-en,<-List.append_assoc,<-List.append_assoc,<-List.length_append,List.drop_left' rfl]
   ·rw[vM t ah];have ju:∀{d v},Rd w (al X B st.sites) d v->Rd _ (al X ax bd) d v:=hB go;exact(d1.map ju fun y aq=>jQ y (List.mem_append.2 (.inl aq))).cK ((U.map ju fun y aq=>jQ y (List.mem_append.2 (.inr (List.mem_append.2 (.inl aq))))).cK (d3.map ju fun y aq=>jQ y (List.mem_append.2 (.inr (List.mem_append.2 (.inr aq))))))
theorem UM(t:aB)(x dd:den t):(enc t x).map aK.plain=(enc t dd).map aK.plain:=by cases t<;>rfl
theorem Gs{d:aK}(h:d.hs=true):d.plain=true:=by cases d<;>first|rfl|cases h
theorem J3{t:aB}{x:den t}{off:Nat}(h:off<au t):∃d,(enc t x)[off]? =some d/\enc t x=(enc t x).take off++d::(enc t x).drop (off+1):=by
 have hl:off<(enc t x).length:=by rw[fj];exact h
 refine⟨(enc t x)[off],List.getElem?_eq_getElem hl,?_⟩;rw[List.getElem_cons_drop,List.take_append_drop]
theorem GG{aA:Type}{l:List aA}{off:Nat}{d:aA}:b' l off [d]=l.take off++d::l.drop (off+1):=by simp[b']
theorem Q6{aA:Type}{a b c:List aA}{y z:aA}{p:Nat}(h:p=a.length+b.length):b' (a++((b++y::c))) p [z]=a++(b++z::c):=by
 subst h;unfold b';rw[<-List.append_assoc,<-List.length_append,List.take_left' rfl];have:(a++b++y::c).drop ((a++b).length+[z].length)=c:=by
  rw[List.drop_append,List.drop_eq_nil_of_le (by simp)]
  simp
 rw[this];simp
theorem ad.Sm(S:ad J H X B st tm w){o s k off:Nat}{t:aB}{xs:List (den t)}{x dd:den t}{v u:Value}{d:aK}(hb:look st.sites o=some (.deep s t xs))
  (Z:dl B st.sites w (al X B st.sites) (.er o s t k off) v) (hx:xs[k]? =some x) (U:dec t (b' (enc t x) off [d])=some dd) (am:d.hs=true) (an:off<au t) (hu:Rd w (al X B st.sites) d u):
  ∃b T cur br,v=.pointer (some ⟨b,k*au t+off,none⟩)/\w.heap[b]? =some (.cells (List.toArray cur) T br)/\k2 t.fc T cur.toArray br/\k*au t+off+1<=cur.length/\
   ad J H X B {st with sites:=b5 st.sites o (.deep s t (xs.set k dd))} tm (w.setRow b (b' cur (k*au t+off) [u]).toArray):=by
 obtain⟨b,D,nG,jY⟩:=Z;obtain⟨n,c,bw⟩:=Ref.at jY hb rfl;obtain⟨e,v0,iw,cs,aQ,dF,cW,kX⟩:=S.sites o _ hb;have ah:k<xs.length:=(List.getElem?_eq_some_iff.1 hx).1;rw[aQ] at bw;replace bw:v0=.slice (some ⟨b,D,none⟩) n c:=bw
 obtain⟨oy,h⟩:=cW;rcases h with⟨ff,_⟩|⟨g,cap,cur,br,h7,lW,aJ,gq,iB,dW,gE⟩
 ·rw[bw] at ff;cases ff
 ·rw[bw] at h7;cases h7;have lV:(k+1)*au t<=xs.length*au t:=Nat.mul_le_mul_right _ ah;have h5:xs.length*au t<=c*au t:=Nat.mul_le_mul_right _ gq;rw[Nat.add_mul,Nat.one_mul] at lV;have jq:cur.toList.length=c*au t:=by simpa using dW
  have iQ:k*au t+off+[u].length<=cur.toList.length:=by simp only[List.length_singleton];omega
  rw[A' t hx] at kX;obtain⟨bI,OW,b1,hy,rfl,rfl,d1,d23⟩:=kX.inv;obtain⟨bB,cC,cM,j4,rfl,rfl,d2,d3⟩:=d23.inv;have cy:bI.length=k*au t:=by rw[d1.len,dD,List.length_take,Nat.min_eq_left (Nat.le_of_lt ah)]
  have en:bB.length=au t:=by rw[d2.len,fj]
  obtain⟨d0,zg,nz⟩:=J3 (x:=x) an;have yl:enc t dd=(enc t x).take off++d::(enc t x).drop (off+1):=by rw[nb _ _ _ U,GG]
  have nJ:d0.plain=true:=by
   have h1:=congrArg (fun l=>l[off]?) (UM t x dd)
   simp only[List.getElem?_map,zg,Option.map_some] at h1;have h2:(enc t dd)[off]? =some d:=by
    rw[yl,List.getElem?_append_right (by simp[fj];omega)]
    simp[fj,Nat.min_eq_left (Nat.le_of_lt an)]
   rw[h2] at h1;simp only[Option.map_some,Option.some.injEq] at h1;rw[h1];exact Gs am
  rw[nz] at d2;obtain⟨zz,adX,p0,uf,rfl,rfl,sp,adV⟩:=d2.inv;have ag4:zz.length=off:=by rw[sp.len,List.length_take,fj];omega
  have ft:bL st.sites o:=⟨_,hb,rfl⟩;have nA:b∈bb (B o):=by rw[aQ];exact hj.2 (.inl (by rw[bw];rfl))
  obtain⟨zA,hQ,rfl,adT⟩:∃zA hQ,adX=zA::hQ/\Deep w (al X B st.sites) ((enc t x).drop (off+1)) hQ uf:=by
   cases adV with
   |row u ys e O rU h hr k'=>cases nJ
   |leaf rU h k'=>exact⟨_,_,rfl,k'⟩
  have De:(fun E=>if E=o then B o else B E)=B:=by funext E;by_cases e:E=o<;>simp[e]
  have bC:=S.rE (o:=o) (bm:=.deep s t (xs.set k dd)) (nv:=B o) (w':=w.setRow b (b' cur.toList (k*au t+off) [u]).toArray) (ks:=[]) (K:=[o]) .nil (fun E=>by simp[keys];intro e;subst e;exact ft)
   (fun a8 cd cF=>setRow_other w b a8 _ (by rintro rfl;exact cF o (by simp) nA)) rfl rfl rfl (by rw[setRow_size];exact Nat.le_refl _) rfl (fun M L=>by rw[hb] at L;cases L;exact .inr ⟨rfl,rfl⟩)
   (fun a8 cd=>⟨by rw[setRow_size];exact S.dL ft cd,.inl ⟨o,by simp,cd⟩⟩) (fun {bd ax} dR go=>?_)
  ·rw[De] at bC;exact⟨b,e,cur.toList,br,by rw[nG,Nat.zero_add],by simpa using aJ,by simpa using lW,by simpa using iQ,bC⟩
  ·have kv:=setRow_heap w b cur (b' cur.toList (k*au t+off) [u]).toArray e br aJ;have fQ:∀y,y∈b1++(p0++uf++j4)->∀a8,aZ y=some a8->a8≠b:=by
    rintro y aq a8 cd rfl;have:=dF;rw[aQ] at this;simp only[bb,List.flatMap_cons] at this;rw[bw] at this;exact(List.nodup_append.1 this).2.2 a8 (by simp[aZ]) a8 (List.mem_flatMap.2 ⟨y,aq,by rw[cd];simp⟩) rfl
   have jQ:∀y,y∈b1++(p0++uf++j4)->∀a8,aZ y=some a8->(w.setRow b (b' cur.toList (k*au t+off) [u]).toArray).heap[a8]? =w.heap[a8]? :=fun y aq a8 cd=>setRow_other w b a8 _ (fQ y aq a8 cd)
   have ju:∀{d v},Rd w (al X B st.sites) d v->Rd _ (al X ax bd) d v:=hB go;refine⟨e,v0,b1++(p0++uf++j4),bI++((zz++u::hQ)++cC),dR.trans aQ,by rw[dR];exact dF,⟨?_,.inr ⟨b,c,_,br,?_,?_,kv,?_,iB,?_,?_⟩⟩,?_⟩
   ·rw[List.length_set];simp only[List.length_append,List.length_cons] at oy ⊢;omega
   ·rw[bw,List.length_set]
   ·refine⟨lW.1,?_⟩;rcases lW.2 with h|⟨h,ae⟩
    ·exact .inl h
    ·refine .inr ⟨h,?_⟩;rw[List.size_toArray,l8 _ _ _ iQ];simpa using ae
   ·rw[List.length_set];exact gq
   ·rw[List.size_toArray,l8 _ _ _ iQ];exact jq
   ·rw[List.length_set,List.toList_toArray,zJ _ _ _ _ (by simp only[List.length_singleton];omega) (by rw[jq];omega),gE]
    simp only[List.append_assoc,List.cons_append];exact Q6 (by omega)
   ·rw[vM t ah,yl];exact(d1.map ju fun y aq=>jQ y (List.mem_append.2 (.inl aq))).cK ((((sp.map ju fun y aq=>jQ y (by simp[aq])).cK (.leaf (Gs am) (ju hu) (adT.map ju fun y aq=>jQ y (by simp[aq])))):Deep _ _ _ _ (p0++uf)).cK
     (d3.map ju fun y aq=>jQ y (by simp[aq])))
theorem ad.Ii(S:ad J H X B st tm w){o:Nat}{t:aB}{xs:List (den t)}{us:List (Nat×Site)}{cs ap rest:List Value}{T:TypeId}{cap:Nat}(dV:eR st.sites us)(hn:(keys us).Nodup)(a_:o∉keys us)
  (U:Deep w (al X B st.sites) (flat t xs) cs ap) (hJ:(ap.flatMap fun v=>(aZ v).toList)=cn B (keys us)) (hcap:cs.length+rest.length=cap*au t) (hm:cap<=maxLen) (eD:t.fc=true->T=ld):
  ad J H X (fun E=>if E=o then .tuple (.slice (some ⟨w.heap.size,0,none⟩) xs.length cap::ap).toArray else B E) {st with sites:=b5 (aT st.sites us) o (.deep (aR st o) t xs)} tm (w.alloc (.cells (cs++rest).toArray T (0,0))):=by
 have hK:cs.length=xs.length*au t:=by rw[U.len,dD]
 have c3:xs.length<=cap:=by
  have:xs.length*au t<=cap*au t:=by omega
  exact Nat.le_of_mul_le_mul_right this (iJ t)
 have old:∀E,E∈keys us->bL st.sites E:=fun E h=>by
  obtain⟨ag,ae⟩:=n1 h;obtain⟨M,ay,ai,_⟩:=dV E ag ae;exact⟨M,ay,ai⟩
 obtain⟨K,bA⟩:∃K:List Nat,∀E,E∈K <-> E∈keys us\/E=o/\bL st.sites o:=by
  by_cases h:bL st.sites o
  ·exact⟨o::keys us,fun E=>by simp[h,or_comm]⟩
  ·exact⟨keys us,fun E=>by simp[h]⟩
 have y5:∀y,y∈ap->∀a8,aZ y=some a8->∃E,E∈keys us/\a8∈bb (B E):=fun y aq a8 cd=>by
  have:a8∈ap.flatMap fun v=>(aZ v).toList:=List.mem_flatMap.2 ⟨y,aq,by rw[cd];simp⟩
  rw[hJ] at this;exact List.mem_flatMap.1 this
 have ym:bb (.tuple (.slice (some ⟨w.heap.size,0,none⟩) xs.length cap::ap).toArray)=w.heap.size::cn B (keys us):=by
  simp only[bb,List.flatMap_cons,hJ];rfl
 refine S.rE (K:=K) dV bA (fun b hb _=>RowKit.Below.heap_alloc w _ b hb) rfl rfl rfl (by simp) rfl (fun M L=>.inl (iI L)) (fun b hb=>?_) (fun {bd ax} dR go=>?_)
 ·rcases hj.1 hb with hb|⟨n,ff,hb⟩
  ·have hb:w.heap.size=b:=Option.some.inj hb;subst hb;exact⟨by simp,.inr (Nat.le_refl _)⟩
  ·obtain⟨E,h1,h2⟩:=y5 n ff b hb;have:=S.dL (old E h1) h2;exact⟨by simp;omega,.inl ⟨E,(bA E).2 (.inl h1),h2⟩⟩
 ·refine⟨T,_,ap,cs,dR,?_,⟨hK,.inr ⟨w.heap.size,cap,_,(0,0),rfl,⟨eD,.inl rfl⟩,heap_alloc_new w _,c3,hm,by simp[hcap],by rw[<-hK];simp⟩⟩,?_⟩
  ·rw[dR,ym,List.nodup_cons];refine⟨fun h=>?_,S.CG old hn⟩
   obtain⟨E,h1,h2⟩:=List.mem_flatMap.1 h;have:=S.dL (old E h1) h2;omega
  ·refine U.map (fun h=>hB go h) fun n ff b hb=>?_
   obtain⟨E,h1,h2⟩:=y5 n ff b hb;exact RowKit.Below.heap_alloc w _ b (S.dL (old E h1) h2)
theorem QB(S:ad J H X B st tm w){C:Ctx}(az:CtxOk P C){T e:TypeId}{t:aB}{bytes len o:Nat}{parts:Array (Nat×Operand)}(aS:C.tt T=.slice e t bytes)(an:D.op=.buildSlice T len parts)
  (U:b2 st D.dst=true) (hlen:parts.toList.length=len) (lB:n6 0 parts.toList=true) (qQ:len*au t<=1000) {as:List bt} {xs:List (den t)} {us:List (Nat×Site)}
  (has:mo (parts.toList.map fun p=>aI C st e p.2)=some as) (eg:mf t st as=some (xs,us)) (hn:(keys us).Nodup) (a_:o∉keys us):
  cr P J H X st tm w D (bQ (.own o (aR st o))) (us++[(o,.deep (aR st o) t xs)]):=by
 obtain⟨dS,i,z,af,gl,nL,ku,e3,eD⟩:=m2 az aS;obtain⟨uP,nN⟩:=GU has;let ws:List Value:=parts.toList.map fun p=>Act.eval ⟨tm,[]⟩ p.2
 have ur:ws.length=as.length:=by rw[<-uP];simp[ws]
 have DH:∀j (h:j<as.length) (ae:j<ws.length),gm B st.sites w (al X B st.sites) (as[j]) (ws[j]):=by
  intro j h1 h2;have bF:j<(parts.toList.map fun p=>aI C st e p.2).length:=by rw[uP];exact h1
  have:=nN j bF h1;simp only[List.getElem_map] at this;have bi:=cJ S C e (parts.toList[j]'(by simpa using bF)).2
  rw[this] at bi;have Y:b4 B st.sites w (al X B st.sites) (.av (as[j])) (ws[j]):=by simpa[ws] using bi
  exact Y
 obtain⟨k7,dV,⟨ap,uL,hJ⟩,dW⟩:=TW S eg ur DH;have pb:xs.length=len:=by rw[k7,<-ur];simpa[ws] using hlen
 have hK:(ws.flatMap fun v=>v.cells.toList).length=len*au t:=by rw[uL.len,dD,pb]
 have hm:len<=maxLen:=by
  have:len*1<=len*au t:=Nat.mul_le_mul_left _ (iJ t);unfold maxLen;omega
 have bO:=S.Ii (o:=o) (rest:=[]) (T:=e) (cap:=len) dV hn a_ uL hJ (by simp[hK]) hm eD
 rw[pb,List.append_nil] at bO;have n_:aT st.sites (us++[(o,.deep (aR st o) t xs)])=b5 (aT st.sites us) o (.deep (aR st o) t xs):=by rw[ie];rfl
 have cz:=FW (tm:=tm) (w:=w) az aS hlen lB qQ (ws:=ws) rfl dW hK;refine hz (us:=us++[(o,.deep (aR st o) t xs)]) (by rw[n_];exact bO) U (vv:=.slice (some ⟨w.heap.size,0,none⟩) len len) ?_ ?_
 ·unfold execOp;simp only[an,Sem.run_bind];have Df:=cz;simp only[Df,Result.andThen_ok,Sem.run_pure]
 ·rw[n_];refine⟨rfl,Ref.mk (M:=.deep (aR st o) t xs) ?_ rfl (by simp[bD])⟩
  simp only[ck];simp
theorem QA{av:Nat->Prop}{t:aB}{z:den t}{ga ap:List Value}(h:Deep w av (enc t z) ga ap)(n:Nat):Deep w av (flat t (List.replicate n z)) ((List.replicate n ga).flatten) ((List.replicate n ap).flatten):=by
 induction n with
 |zero=>exact .nil
 |succ n ih=>
  have:=h.cK ih;simpa[List.replicate_succ,flat,List.flatMap_cons] using this
theorem QO(S:ad J H X B st tm w){C:Ctx}(az:CtxOk P C){T e:TypeId}{t:aB}{bytes o:Nat}{l c:Operand}{kn km:IntKind}{n m:Int}{z:List aw}{ds:List aK}{us:List (Nat×Site)}{ei:den t}(aS:C.tt T=.slice e t bytes)(an:D.op=.makeSlice T l c)
  (U:b2 st D.dst=true) (hl:aI C st 0 l=.av (.ak (.d (.int kn n)))) (hc:aI C st 0 c=.av (.ak (.d (.int km m)))) (aM:(C.tt e).zero=some z) (ek:sinks st z=some (ds,us)) (dV:us.isEmpty=true) (eg:dec t ds=some ei):
  ∀r,lM bytes n m ei=some r->cr P J H X st tm w D (bQ (.own o (aR st o))) [(o,.deep (aR st o) t r)]:=by
 intro r hr;obtain⟨dS,i,fC,af,gl,nL,ku,e3,eD⟩:=m2 az aS;obtain⟨v,Z,lO⟩:=cg.vW (w:=w) (az.tt e) aM;have EG:v=fC:=by
  simp[zeroValue,typeInfo,af,ku] at Z;exact Z.symm
 subst EG;obtain⟨h1,h2,Y⟩:=qa lO;have dV:us=[]:=List.isEmpty_iff.1 dV;subst dV;obtain⟨_,ap,OF,uz⟩:=AL S ek ⟨h1,Y _ _ _ _⟩;rw[<-nb _ _ _ eg] at OF;have uz:(ap.flatMap fun v=>(aZ v).toList)=[]:=uz
 unfold lM at hr;split at hr
 ·rename_i hb;obtain⟨aX,aG,bU,kC⟩:=hb;cases hr;have e1:Act.eval ⟨tm,[]⟩ l=.int kn n:=by
   have:=cJ S C 0 l;rw[hl] at this;have this:Rd _ _ (.int kn n) _:=this;generalize Act.eval ⟨tm,[]⟩ l=u at this;cases this;rfl
  have e2:Act.eval ⟨tm,[]⟩ c=.int km m:=by
   have:=cJ S C 0 c;rw[hc] at this;have this:Rd _ _ (.int km m) _:=this;generalize Act.eval ⟨tm,[]⟩ c=u at this;cases this;rfl
  have tL:=QA OF n.toNat;have hlen:((List.replicate n.toNat v.cells.toList).flatten).length=n.toNat*au t:=by
   rw[tL.len,dD,List.length_replicate]
  have th:(List.replicate m.toNat v.cells.toList).flatten=(List.replicate n.toNat v.cells.toList).flatten++(List.replicate (m.toNat-n.toNat) v.cells.toList).flatten:=by
   rw[<-List.flatten_append,List.replicate_append_replicate];congr 2;omega
  have hcap:((List.replicate n.toNat v.cells.toList).flatten).length+((List.replicate (m.toNat-n.toNat) v.cells.toList).flatten).length=m.toNat*au t:=by
   rw[<-List.length_append,<-th];simp[e3]
  have tO:m.toNat<=maxLen:=by omega
  have hJ:(((List.replicate n.toNat ap).flatten).flatMap fun v=>(aZ v).toList)=cn B (keys ([]:List (Nat×Site))):=by
   have:∀k,(((List.replicate k ap).flatten).flatMap fun v=>(aZ v).toList)=[]:=fun k=>by
    induction k with
    |zero=>rfl
    |succ k ih=>rw[List.replicate_succ,List.flatten_cons,List.flatMap_append,uz,ih];rfl
   exact this _
  have bO:=S.Ii (o:=o) (T:=e) (us:=[]) .nil List.nodup_nil (by simp[keys]) tL hJ hcap tO eD
  rw[List.length_replicate,<-th] at bO;refine hz (us:=[(o,.deep (aR st o) t (List.replicate n.toNat ei))]) bO U (vv:=.slice (some ⟨w.heap.size,0,none⟩) n.toNat m.toNat) ?_ ?_
  ·unfold execOp;simp only[an,e1,e2,Sem.run_bind];have cz:=FY (C:=C) (w:=w) (kn:=kn) (km:=km) dS af gl nL ku e3 aX aG bU kC;simp only[cz,Result.andThen_ok,Sem.run_pure]
  ·refine⟨rfl,Ref.mk (M:=.deep (aR st o) t (List.replicate n.toNat ei)) ?_ rfl (by simp[bD])⟩
   simp only[aT,ck];simp
 ·cases hr
theorem Src.YJ{u:Bool}{e:TypeId}{size n:Nat}{v:Value}{cs:List Value}(h:rowAt w u e size v n cs)(_9:∀x∈cs,x.oneCell'=true):Src w size v n cs:=by
 refine⟨h.1,_9,?_⟩;rcases h.2 with⟨h1,h2⟩|⟨g,cap,cur,br,h1,_,aJ,_,_,_,gE⟩
 ·exact .inl ⟨h1,h2⟩
 ·refine .inr (.inl ⟨⟨g,0,none⟩,cap,h1,fun j u hu=>?_⟩)
  rw[gg,Nat.zero_add,cell_of_row w g j cur e br aJ];rw[<-gE,List.getElem?_take] at hu;split at hu
  ·simpa using hu
  ·cases hu
theorem I1{v:Value}{b:Nat}(h:v.ownBlock=some b):aZ v=some b:=by
 cases v<;>first|cases h|skip
 rename_i a n c;cases a<;>first|exact h|cases h
theorem ad.GY(S:ad J H X B st tm w){dst bT:Nat}{t:aB}{xs ys:List (den t)}{ks:List (Nat×Site)}{v0 v':Value}{zn pS iw eZ:List Value}{w':World}{bz:TypeId}(j0:eR st.sites ks)
  (d0:Deep w (al X B st.sites) (flat t xs) zn iw) (d1:Deep w (al X B st.sites) (flat t ys) pS eZ) (ib:(bb (.tuple (v0::(iw++eZ)).toArray)).Nodup) (yL:∀b,b∈bb (.tuple (v0::(iw++eZ)).toArray)->∃E,E∈keys ks/\b∈bb (B E))
  (h2:rowAt w' t.fc bz (au t) v' (xs.length+ys.length) (zn++pS)) (Y:w.grownBy w' v0.ownBlock) (aP:∀b,aZ v'=some b->b<w'.heap.size/\(aZ v0=some b\/w.heap.size<=b)) (mh:∀M,look st.sites dst=some M->M.bT<bT):
  ad J H X (fun E=>if E=dst then .tuple (v'::(iw++eZ)).toArray else B E) {st with sites:=b5 (aT st.sites ks) dst (.deep bT t (xs++ys))} tm w':=by
 have old:∀E,E∈keys ks->bL st.sites E:=fun E h=>by
  obtain⟨ag,ae⟩:=n1 h;obtain⟨M,ay,ai,_⟩:=j0 E ag ae;exact⟨M,ay,ai⟩
 obtain⟨K,bA⟩:∃K:List Nat,∀E,E∈K <-> E∈keys ks\/E=dst/\bL st.sites dst:=by
  by_cases h:bL st.sites dst
  ·exact⟨dst::keys ks,fun E=>by simp[h,or_comm]⟩
  ·exact⟨keys ks,fun E=>by simp[h]⟩
 have Of:∀b,aZ v0=some b->b∈bb (.tuple (v0::(iw++eZ)).toArray):=fun b h=>hj.2 (.inl h)
 have ul:∀n,n∈iw++eZ->∀b,aZ n=some b->b∈bb (.tuple (v0::(iw++eZ)).toArray):=fun n hn b h=>hj.2 (.inr ⟨n,hn,h⟩)
 have lt:∀b,b∈bb (.tuple (v0::(iw++eZ)).toArray)->b<w.heap.size:=fun b hb=>by
  obtain⟨E,ay,ai⟩:=yL b hb;exact S.dL (old E ay) ai
 have zy:bb (.tuple (v0::(iw++eZ)).toArray)=(aZ v0).toList++(iw++eZ).flatMap fun v=>(aZ v).toList:=by simp only[bb,List.flatMap_cons]
 have afm:bb (.tuple (v'::(iw++eZ)).toArray)=(aZ v').toList++(iw++eZ).flatMap fun v=>(aZ v).toList:=by simp only[bb,List.flatMap_cons]
 rw[zy] at ib;obtain⟨a1,a2,a3⟩:=List.nodup_append.1 ib;have jQ:∀n,n∈iw++eZ->∀b,aZ n=some b->w'.heap[b]? =w.heap[b]? :=fun n hn b hb=>Y.block b (lt b (ul n hn b hb)) fun e=>
  a3 b (by rw[I1 e.symm];simp) b (List.mem_flatMap.2 ⟨n,hn,by rw[hb];simp⟩) rfl
 refine S.rE (K:=K) j0 bA (fun b hb cF=>Y.block b hb fun e=>?_) Y.os Y.tape Y.output Y.size rfl (fun M L=>.inl (mh M L)) (fun b hb=>?_) (fun {bd ax} dR go=>?_)
 ·obtain⟨E,ay,ai⟩:=yL b (Of b (I1 e.symm));exact cF E ((bA E).2 (.inl ay)) ai
 ·rcases hj.1 hb with hb|⟨n,hn,hb⟩
  ·obtain⟨ay,ai⟩:=aP b hb;refine⟨ay,ai.imp (fun h=>?_) id⟩
   obtain⟨E,ay,ai⟩:=yL b (Of b h);exact⟨E,(bA E).2 (.inl ay),ai⟩
  ·have hm:=ul n hn b hb;obtain⟨E,ay,ai⟩:=yL b hm;exact⟨Nat.lt_of_lt_of_le (lt b hm) Y.size,.inl ⟨E,(bA E).2 (.inl ay),ai⟩⟩
 ·refine⟨bz,v',iw++eZ,zn++pS,dR,?_,by rw[List.length_append];exact h2,?_⟩
  ·rw[dR,afm];refine List.nodup_append.2 ⟨by cases aZ v'<;>simp,a2,fun b hb c hc e=>?_⟩
   subst e;have hb:=Option.mem_toList.1 hb;rcases(aP b hb).2 with h|h
   ·exact a3 b (by rw[h];simp) b hc rfl
   ·have:=lt b (by rw[zy];exact List.mem_append.2 (.inr hc))
    omega
  ·have ju:∀{d:aK} {v:Value},Rd w (al X B st.sites) d v->Rd w' (al X ax bd) d v:=fun h=>hB go h
   rw[m0];exact(d0.map ju fun n hn=>jQ n (List.mem_append.2 (.inl hn))).cK (d1.map ju fun n hn=>jQ n (List.mem_append.2 (.inr hn)))
theorem FX{o s dst:Nat}{M:Site}(h:look st.sites o=some M)(L:M.bT=s):aR (st.c7 o (.dead s)) dst=aR st dst:=by
 unfold aR;rw[ab.kI];by_cases e:o=dst
 ·subst e;simp only[if_true,ab.M,h,L];rfl
 ·simp only[e,if_false]
theorem Te(S:ad J H X B st tm w){C:Ctx}(az:CtxOk P C){T eb:TypeId}{s x:Operand}{e ex:TypeId}{t u:aB}{bytes aG:Nat}{dst:Nat}(aS:C.tt T=.slice e t bytes)(eD:C.tt eb=.slice ex u aG)
  (an:D.op=.call {callee:=.builtin .append,args:=#[s,x],argTypes:=#[T,eb]}) (c9:D.dst=some dst) (U:b2 st D.dst=true):
  Holds (qC bytes t dst st (aI C st T s) (aI C st eb x)) (cr P J H X st tm w D):=by
 have oE:=az.tt eb;rw[eD] at oE;have q_:(∃ex,P.underlying eb=some (.slice ex))\/P.underlying eb=some .string:=.inl ⟨_,oE.1.1⟩;obtain⟨dS,i,z,af,la,r1,r0,e3,OK⟩:=m2 az aS;have mu:=cJ S C T s;have om:=cJ S C eb x;have runs:∀{v':Value} {w':World},(Builtin.append_ #[T,eb] D.type #[Act.eval ⟨tm,[]⟩ s,Act.eval ⟨tm,[]⟩ x]).run P w=.ok v' w'->
   (execOp (Act.eval ⟨tm,[]⟩) D).run P w=.ok (.value v') w':=by
  intro v' w' h;unfold execOp;simp only[an,resolve,invoke,builtin,Sem.run_bind,Sem.run_pure,Result.andThen_ok,List.map_toArray,List.map_cons,List.map_nil,h]
 have one:∀{u:Bool} {bz:TypeId} {v':Value} {n m:Nat} {l:List Value} {w':World},rowAt w' u bz n v' m l->v'.oneCell'=true:=by
  intro u bz v' n m l w' h;rcases h.2 with⟨rfl,_⟩|⟨g,cap,cur,br,rfl,_⟩<;>rfl
 unfold qC;split
 ·rename_i E s1 aas;rw[aas] at om;split
  ·rename_i be ys _7;split
   ·rename_i gD;subst gD;have rB:=sz _7;obtain⟨agQ,Nw,tI,D1,KE,L1,Zm,C5⟩:=S.sites E _ rB;have pC:Act.eval ⟨tm,[]⟩ x=Nw:=(Ref.at om.2 rB rfl:_=bD (B E)).trans (by rw[KE];rfl)
    have dH:Src w (au be) (Act.eval ⟨tm,[]⟩ x) ys.length D1:=by rw[pC];exact .YJ Zm C5.one
    have yO:bb (B E)=(aZ Nw).toList++tI.flatMap fun v=>(aZ v).toList:=by rw[KE];simp only[bb,List.flatMap_cons]
    rw[yO] at L1;obtain⟨_,Ku,_⟩:=List.nodup_append.1 L1;have yK:∀d,aR (st.c7 E (.dead s1)) d=aR st d:=fun d=>FX rB rfl
    split
    ·-- Fo nothing
     rename_i t2 bS;rw[bS] at mu;have ol:Act.eval ⟨tm,[]⟩ s=.slice none 0 0:=mu;refine Holds.ee fun r hr=>?_
     have cp:dc bytes [] ys=some r:=hr;unfold dc at cp;split at cp
     ·rename_i hb;cases cp;simp only[List.length_nil,Nat.zero_add,room] at hb;obtain⟨v',w',h1,⟨bz,h2⟩,Y,aP⟩:=sw (P:=P) (u:=be.fc) w T eb D.type e OK i z (au be) bytes dS q_ af r0 la r1 e3 (iJ _) (.slice none 0 0) 0 [] ⟨e,oT w _ e _⟩ _ _ D1 dH
       (by rw[Nat.zero_add];exact hb.2) (by rw[Nat.zero_add];exact hb.1)
      have ic:bb (.tuple (Value.slice none 0 0::([]++tI)).toArray)=tI.flatMap fun v=>(aZ v).toList:=by simp only[bb,List.flatMap_cons,List.nil_append];rfl
      have bO:=S.GY (dst:=dst) (bT:=aR (st.c7 E (.dead s1)) dst) (ks:=[(E,.dead s1)]) (xs:=[]) (ys:=ys) (v0:=.slice none 0 0) (iw:=[]) (zn:=[]) (fun aE ag hm=>by
       simp only[List.mem_singleton,Prod.mk.injEq] at hm;obtain⟨rfl,rfl⟩:=hm;exact⟨_,rB,rfl,rfl⟩) .nil C5 (by rw[ic];exact Ku) (fun b hb=>⟨E,by simp[keys],by rw[ic] at hb;rw[yO];exact List.mem_append.2 (.inr hb)⟩) h2 Y aP (fun M L=>by rw[yK];exact iI L)
      refine hz (us:=[(E,.dead s1),(dst,.deep (aR (st.c7 E (.dead s1)) dst) be ([]++ys))]) bO U (runs (by rw[ol];exact h1)) ?_
      refine⟨one h2,Ref.mk (M:=.deep (aR (st.c7 E (.dead s1)) dst) be ([]++ys)) ?_ rfl (by simp[bD])⟩
      simp only[aT,ck];simp
     ·cases cp
    ·-- Fo a deep row
     rename_i o s2 bS;rw[bS] at mu;split
     ·rename_i t2 xs _8;split
      ·rename_i gD;subst gD;cases r8:o.beq E with
       |true=>exact .fail
       |false=>
        have cF:o≠E:=fun e=>by subst e;rw[Nat.beq_refl] at r8;cases r8
        simp only[cond_false];refine Holds.ee fun r hr=>?_
        have cp:dc bytes xs ys=some r:=hr;unfold dc at cp;split at cp
        ·rename_i hb;cases cp;simp only[room] at hb;have tP:=sz _8;obtain⟨agR,rM,DC,aaG,KF,L2,Zn,Y3⟩:=S.sites o _ tP;have EK:Act.eval ⟨tm,[]⟩ s=rM:=(Ref.at mu.2 tP rfl:_=bD (B o)).trans (by rw[KF];rfl)
         have D0:bb (B o)=(aZ rM).toList++DC.flatMap fun v=>(aZ v).toList:=by rw[KF];simp only[bb,List.flatMap_cons]
         rw[D0] at L2;obtain⟨v',w',h1,⟨bz,h2⟩,Y,aP⟩:=sw (P:=P) (u:=t2.fc) w T eb D.type e OK i z (au t2) bytes dS q_ af r0 la r1 e3 (iJ _) rM xs.length aaG ⟨_,Zn⟩ _ _ D1 dH hb.2 hb.1;have ic:bb (.tuple (rM::(DC++tI)).toArray)=((aZ rM).toList++DC.flatMap fun v=>(aZ v).toList)++tI.flatMap fun v=>(aZ v).toList:=by
          simp only[bb,List.flatMap_cons,List.flatMap_append,List.append_assoc]
         have yJ:aR ((st.c7 E (.dead s1)).c7 o (.dead s2)) dst=aR st dst:=by
          have:(st.c7 E (.dead s1)).M o=some (.deep s2 t2 xs):=by
           rw[ab.kI,if_neg (fun e=>cF e.symm)]
           exact tP
          exact(FX (st:=st.c7 E (.dead s1)) (s:=s2) this rfl).trans (yK dst)
         have bO:=S.GY (dst:=dst) (bT:=aR ((st.c7 E (.dead s1)).c7 o (.dead s2)) dst) (ks:=[(E,.dead s1),(o,.dead s2)]) (xs:=xs) (ys:=ys) (v0:=rM) (fun aE ag hm=>by
          simp only[List.mem_cons,List.not_mem_nil,or_false,Prod.mk.injEq] at hm;rcases hm with⟨rfl,rfl⟩|⟨rfl,rfl⟩
          ·exact⟨_,rB,rfl,rfl⟩
          ·exact⟨_,tP,rfl,rfl⟩) Y3 C5 (by
           rw[ic];refine List.nodup_append.2 ⟨L2,Ku,fun b hb c hc e=>?_⟩
           subst e;exact cF (S.df o E b ⟨_,tP,rfl⟩ ⟨_,rB,rfl⟩ (by rw[D0];exact hb) (by rw[yO];exact List.mem_append.2 (.inr hc)))) (fun b hb=>by
           rw[ic] at hb;rcases List.mem_append.1 hb with hb|hb
           ·exact⟨o,by simp[keys],by rw[D0];exact hb⟩
           ·exact⟨E,by simp[keys],by rw[yO];exact List.mem_append.2 (.inr hb)⟩) h2 Y aP (fun M L=>by rw[yJ];exact iI L)
         refine hz (us:=[(E,.dead s1),(o,.dead s2),(dst,.deep (aR ((st.c7 E (.dead s1)).c7 o (.dead s2)) dst) t2 (xs++ys))]) bO U (runs (by rw[EK];exact h1)) ?_
         refine⟨one h2,Ref.mk (M:=.deep (aR ((st.c7 E (.dead s1)).c7 o (.dead s2)) dst) t2 (xs++ys)) ?_ rfl (by simp[bD])⟩
         simp only[aT,ck];simp
        ·cases cp
      ·exact .fail
     ·exact .fail
    ·exact .fail
   ·exact .fail
  ·exact .fail
 ·exact .fail
end
section
variable {P:Program}{J:World}{H:List Nat}{X:Nat->Prop}{B:Nat->Value}{st:ab}{tm:Array Value}{w:World}{D:Oper}
theorem Vf(S:ad J H X B st tm w){C:Ctx}(az:CtxOk P C){T:TypeId}{a x:Operand}{v:bt}(an:D.op=.store T a x)(U:b2 st D.dst=true)(ah:(C.tt T).known=true)(Z:lI (aI C st T x)=some v):
  Holds (qE (C.tt T).size st (aI C st T a) v) (cr P J H X st tm w D):=by
 have hn:=AX ah;have nM:=cJ S C T a;have hex:=cJ S C T x;rw[oV Z] at hex;have hex:gm B st.sites w (al X B st.sites) v (Act.eval ⟨tm,[]⟩ x):=hex;have run:∀{b p:Nat} {cur:List Value} {fS:TypeId} {u:Bool} {br:Nat×Nat},Act.eval ⟨tm,[]⟩ a=.pointer (some ⟨b,p,none⟩)->w.heap[b]? =some (.cells cur.toArray fS br)->k2 u fS cur.toArray br->(Act.eval ⟨tm,[]⟩ x).cells.toList.length=(C.tt T).size->
   p+(Act.eval ⟨tm,[]⟩ x).cells.toList.length<=cur.length->(∀u∈(Act.eval ⟨tm,[]⟩ x).cells.toList,u.oneCell'=true)->
   (execOp (Act.eval ⟨tm,[]⟩) D).run P w=.ok .skip (w.setRow b (b' cur p (Act.eval ⟨tm,[]⟩ x).cells.toList).toArray):=by
  intro b p cur fS u br h1 h2 aM Y aP bq;unfold execOp;simp only[an,h1,Instr.storeAt,Instr.sureAddr,Sem.run_bind,Sem.run_pure,Result.andThen_ok,FS (az.tt T) hn h2 aM Y aP bq]
 unfold qE;cases hlen:v.cells.length.beq (C.tt T).size with
 |false=>simp only[cond_false];exact .fail
 |true=>
  have pa:=Nat.eq_of_beq_eq_true hlen;simp only[cond_true];split
  ·rename_i o s off bS;rw[bS] at nM;split
   ·rename_i cells hb;cases hc:(Nat.ble (off+(C.tt T).size) cells.length&&gz v.cells) with
    |false=>simp only[cond_false];exact .fail
    |true=>
     simp only[cond_true];simp only[Bool.and_eq_true] at hc;have c3:=Nat.le_of_ble_eq_true hc.1;have hl:=hex.cells hc.2;obtain⟨b,fS,cur,h1,h2,Y,bO⟩:=S.Vh (gK hb) nM hl (by rw[pa];exact c3) (hl.ij hc.2) hc.2
     exact Holds.eU (oS (us:=[(o,.box s (b' cells off v.cells))]) bO U (run (u:=false) h1 h2 ⟨(fun h=>by cases h),.inl rfl⟩ (by rw[hl.1];exact pa) Y (hl.ij hc.2)))
   ·exact .fail
  ·rename_i o s u k off bS;rw[bS] at nM;split
   ·rename_i ag t xs e';have kd:look st.sites o=some (.row ag t xs):=e';cases hc:(ag.beq s&&Nat.ble (off+(C.tt T).size) (au t)&&decide (t=u)) with
    |false=>simp only[cond_false];exact .fail
    |true=>
     simp only[cond_true];simp only[Bool.and_eq_true,decide_eq_true_eq] at hc;obtain⟨⟨uN,r6⟩,rfl⟩:=hc;have:=Nat.eq_of_beq_eq_true uN;subst this;have c3:=Nat.le_of_ble_eq_true r6;split
     ·rename_i ds us ek;cases kr:(look us o).isNone with
      |false=>simp only[cond_false];exact .fail
      |true=>
       simp only[cond_true];refine Holds.ee fun dd mD=>?_
       have jm:((xs[k]?).bind fun x=>dec t (b' (enc t x) off ds))=some dd:=mD
       cases lP:xs[k]? with
       |none=>rw[lP] at jm;cases jm
       |some oK=>
        rw[lP] at jm;have eg:dec t (b' (enc t oK) off ds)=some dd:=jm;have gr:=Cg ek;have aY:kF J H X B st tm w us:=⟨S,gr⟩;have dr:gz v.cells=true:=by
         clear hlen pa mD jm eg kr gr aY;revert ek
         generalize v.cells=O;intro ek;induction O generalizing ds us with
         |nil=>rfl
         |cons l O ih=>
          simp only[ht] at ek;split at ek
          ·rename_i d PT gv nS h1 h2;simp only[gz,Bool.and_eq_true];refine⟨?_,ih _ _ h2⟩;unfold jw at h1;split at h1<;>first|rfl|cases h1
          ·cases ek
        have hl:=hex.cells dr;have hr:=xk ek hl aY (fun p am=>am)
        have adk:ds.length=(C.tt T).size:=by
         have:=hr.1;rw[hl.1] at this;omega
        have tN:look (aT st.sites us) o=some (.row ag t xs):=by
         rcases ll gr o with h|⟨s2,t2,agy,h,ae⟩
         ·rw[h];exact kd
         ·exfalso
          have:∀(us:List (Nat×Site)) (sites:List (Nat×Site)),look us o=none->look (aT sites us) o=look sites o:=by
           intro us;induction us with
           |nil=>intro sites _;rfl
           |cons p us ih=>
            obtain⟨E,M⟩:=p;intro sites yk;simp only[look] at yk;cases hb:E.beq o with
            |true=>simp[hb] at yk
            |false=>
             simp only[hb,cond_false] at yk;simp only[aT];rw[ih _ yk,ck,if_neg];rintro rfl;simp at hb
          have Y:=this us st.sites (by simpa using kr)
          rw[ae,kd] at Y;cases Y
        have aat:=aY.go (a:=.av (.ak (.er o ag t k off))) nM;obtain⟨b,fS,cur,br,h1,h2,aM,Y,bO⟩:=aY.new.Vg tN aat lP (nb _ _ _ eg) hr (by rw[adk];exact c3) (hl.ij dr)
        refine oS (ax:=B) (us:=us++[(o,.row ag t (xs.set k dd))]) ?_ U (run h1 h2 aM (by rw[hl.1];exact pa) Y (hl.ij dr))
        rw[ie];exact bO
     ·exact .fail
   ·rename_i ag t xs e';have kd:look st.sites o=some (.deep ag t xs):=e';cases hc:(ag.beq s&&decide (t=u)) with
    |false=>simp only[cond_false];exact .fail
    |true=>
    simp only[cond_true];simp only[Bool.and_eq_true,decide_eq_true_eq] at hc;obtain⟨uN,rfl⟩:=hc;have:=Nat.eq_of_beq_eq_true uN;subst this;cases hc:(off.beq 0&&(C.tt T).size.beq (au t)) with
    |false=>
     simp only[cond_false];split
     ·rename_i d n';cases aD:(d.hs&&Nat.blt off (au t)) with
      |false=>simp only[cond_false];exact .fail
      |true=>
       simp only[cond_true];simp only[Bool.and_eq_true] at aD;have rV:off<au t:=Nat.le_of_ble_eq_true aD.2;refine Holds.ee fun dd mD=>?_
       have jm:((xs[k]?).bind fun x=>dec t (b' (enc t x) off [d]))=some dd:=mD
       cases lP:xs[k]? with
       |none=>rw[lP] at jm;cases jm
       |some oK=>
        rw[lP] at jm;have eg:dec t (b' (enc t oK) off [d])=some dd:=jm;have hl:=hex.cells (by rw[n'];rfl)
        rw[n'] at hl;obtain⟨oL,u5,hu,rS,pF⟩:=hl.inv;have jZ:u5=[]:=pF.kO;subst jZ;obtain⟨b,fS,cur,br,h1,h2,aM,Y,bO⟩:=S.Sm kd nM lP eg aD.1 rV rS;have ac2:(C.tt T).size=1:=by rw[<-pa,n'];rfl
        have cz:=run h1 h2 aM (by rw[hu,ac2];rfl) (by rw[hu];exact Y) (by rw[hu];intro v Z;rw[List.mem_singleton.1 Z];exact Rd.ij rS)
        rw[hu] at cz;refine oS (ax:=B) (us:=[(o,.deep ag t (xs.set k dd))]) ?_ U cz;exact bO
     ·exact .fail
    |true=>
     simp only[cond_true];simp only[Bool.and_eq_true] at hc;obtain⟨EV,r6⟩:=hc;have:=Nat.eq_of_beq_eq_true EV;subst this;split
     ·rename_i ds us ek;cases kr:((look us o).isNone&&eO (keys us)) with
      |false=>simp only[cond_false];exact .fail
      |true=>
       simp only[cond_true];rw[Bool.and_eq_true] at kr;refine Holds.ee fun dd mD=>?_
       have jm:((xs[k]?).bind fun _=>dec t ds)=some dd:=mD
       cases lP:xs[k]? with
       |none=>rw[lP] at jm;cases jm
       |some oK=>
        rw[lP] at jm;have eg:dec t ds=some dd:=jm;have hl:=hex.cells (FU ek);obtain⟨g1,ap,g2,g3⟩:=AL S ek hl;rw[<-nb _ _ _ eg] at g2;obtain⟨b,fS,cur,br,nv,h1,h2,aM,Y,bO⟩:=S.TP kd nM lP g1 ((nZ _).1 kr.2) (Gk kr.1) g2 g3;refine oS (ax:=fun E=>if E=o then nv else B E) (us:=us++[(o,.deep ag t (xs.set k dd))]) ?_ U (run h1 h2 aM (by rw[hl.1];exact pa) Y g2.one)
        rw[ie];exact bO
     ·exact .fail
   ·exact .fail
  ·exact .fail
theorem Rm(S:ad J H X B st tm w){C:Ctx}(az:CtxOk P C){T e:TypeId}{t:aB}{bytes:Nat}{x i:Operand}{k:IntKind}{n:Int}(aS:C.tt T=.slice e t bytes)(af:aI C st 0 i=.av (.ak (.d (.int k n))))(an:D.op=.indexAddr T x i)
  (U:b2 st D.dst=true):
  Holds (qb t st (aI C st T x) n) (cr P J H X st tm w D):=by
 obtain⟨dS,inf,z,jo,gl,nL,ku,e3,_⟩:=m2 az aS;have tS:=jL S af;have bi:=cJ S C T x;have run:∀{a:Addr} {len cap:Nat},Act.eval ⟨tm,[]⟩ x=.slice (some a) len cap->0<=n->n<len->(execOp (Act.eval ⟨tm,[]⟩) D).run P w=.ok (.value (.pointer (some (a.add (n.toNat*au t))))) w:=by
  intro a len cap hx aQ h1;unfold execOp;simp[an,hx,tS,Instr.indexAt,asIntOf,run_underlying dS,aQ,h1,sizeOf,jH jo,gl]
 unfold qb;split
 ·rename_i u xs bS;split;case isFalse=>exact .fail
  rename_i lS;subst lS;rw[bS] at bi;have bi:Rd w (al X B st.sites) (.sl u xs) (Act.eval ⟨tm,[]⟩ x):=bi;refine Holds.eh fun y aq=>?_
  have dU:bf xs n=some y:=aq;unfold bf at dU;split at dU
  ·rename_i aQ;have ba:n.toNat<xs.length:=by
    rcases Nat.lt_or_ge n.toNat xs.length with h|h
    ·exact h
    ·rw[List.getElem?_eq_none h] at dU;cases dU
   generalize hx:Act.eval ⟨tm,[]⟩ x=v at bi;cases bi with
   |nil=>simp at ba
   |sl _ _ a cap cs m hm hcap hb hl hc hr=>
    subst hm;have cF:xs≠[]:=by rintro rfl;simp at ba
    have cW:ch w (al X B st.sites) (flat u xs) cs:=⟨hl,hr⟩;have lT:a.spot=none:=by
     have nw:0<cs.length:=by rw[hl,dD];exact Nat.mul_pos (List.length_pos_iff.mpr cF) (iJ u)
     have h1:=hc 0 cs[0] (List.getElem?_eq_getElem nw);have h2:a.add 0=a:=by unfold Addr.add;simp
     rw[h2] at h1;unfold World.cell? at h1;split at h1
     ·cases L:a.spot with
      |none=>rfl
      |some _=>simp[L] at h1
     ·cases h1
    obtain⟨nX,zB,ad0⟩:=a;simp only at lT;subst lT;have dW:gO w nX zB cs:=fun j v Z=>by have:=hc j v Z;rwa[gg] at this
    refine dt S U (run hx aQ (by omega)) ?_
    rw[gg];have fA:=sD u xs n.toNat y dU;have tB:=(dW.drop (n.toNat*au u)).take (au u);have kt:=((fV (B:=B) (sites:=st.sites) hl hr).drop (n.toNat*au u)).take (au u);have e2:((ci (flat u xs)).drop (n.toNat*au u)).take (au u)=ci (enc u y):=by
     rw[<-fA];simp[ci,List.map_drop,List.map_take]
    rw[e2] at kt;have c2:=hU kt;have jn:nX<w.heap.size:=by
     have nw:0<cs.length:=by rw[hl,dD];exact Nat.mul_pos (List.length_pos_iff.mpr cF) (iJ u)
     exact World.block_lt_of_cell? w _ (dW 0 cs[0] (List.getElem?_eq_getElem nw))
    exact⟨nX,zB+n.toNat*au u,by rw[Nat.add_zero],hb cF,jn,_,c2.1,tB,c2.2⟩
  ·cases dU
 ·rename_i o s bS;rw[bS] at bi;split
  ·rename_i u xs cW;split;case isFalse=>exact .fail
   rename_i lS;subst lS;refine Holds.eh fun y aq=>?_
   have dU:e0 xs.length n=some y:=aq;unfold e0 at dU;split at dU
   ·rename_i hb;cases dU;obtain⟨⟨M,fA,iY⟩,is⟩:=S.all cW;have Z:Act.eval ⟨tm,[]⟩ x=bD (B o):=Ref.at bi.2 fA iY;rcases is with⟨hn,lQ⟩|⟨b,q,c,bw⟩
    ·subst lQ;simp at hb;omega
    ·refine dt S U (run (by rw[Z];exact bw) hb.1 hb.2) ?_
     rw[gg];exact⟨b,q,by rw[Nat.add_zero],Ref.mk fA iY ⟨_,_,bw⟩⟩
   ·cases dU
  ·exact .fail
 ·exact .fail
end
section
variable {P:Program}{J:World}{H:List Nat}{X:Nat->Prop}{B:Nat->Value}{st:ab}{tm:Array Value}{w:World}{D:Oper}
theorem Bb(S:ad J H X B st tm w){C:Ctx}{ce:Option Operand}{iS l:Int}(h:hE iS (ce.map (aI C st 0))=some l):
  (ce=none/\l=iS)\/∃x k,ce=some x/\Act.eval ⟨tm,[]⟩ x=.int k l:=by
 cases ce with
 |none=>simp only[Option.map_none,hE,Option.some.injEq] at h;exact .inl ⟨rfl,h.symm⟩
 |some x=>
  simp only[Option.map_some] at h;generalize hx:aI C st 0 x=v at h;unfold hE at h;split at h
  ·rename_i bS;cases bS
  ·rename_i k n bS;cases h;cases bS;exact .inr ⟨x,k,rfl,jL S hx⟩
  ·cases h
theorem Hx(t:aB)(xs:List (den t))(n:Nat):flat t (xs.take n)=(flat t xs).take (n*au t):=by
 rcases Nat.lt_or_ge xs.length n with h|h
 ·rw[List.take_of_length_le (Nat.le_of_lt h),List.take_of_length_le (by rw[dD];exact Nat.mul_le_mul_right _ (Nat.le_of_lt h))]
 ·have:=m0 t (xs.take n) (xs.drop n);rw[List.take_append_drop] at this;rw[this,List.take_left' (by rw[dD,List.length_take,Nat.min_eq_left h])]
theorem UG(t:aB)(xs:List (den t))(n:Nat):flat t (xs.drop n)=(flat t xs).drop (n*au t):=by
 rcases Nat.lt_or_ge xs.length n with h|h
 ·rw[List.drop_eq_nil_of_le (Nat.le_of_lt h),List.drop_eq_nil_of_le (by rw[dD];exact Nat.mul_le_mul_right _ (Nat.le_of_lt h))]
  rfl
 ·have:=m0 t (xs.take n) (xs.drop n);rw[List.take_append_drop] at this;rw[this,List.drop_left' (by rw[dD,List.length_take,Nat.min_eq_left h])]
theorem vp{P:Program}{w:World}(isSlice:Bool)(len cap:Nat)(ce af:Option Value)(l h:Int)(fB:(ce=none/\l=0)\/∃k,ce=some (.int k l))(h6:(af=none/\h=len)\/∃k,af=some (.int k h))
  (aQ:0<=l) (h1:l<=h) (h2:h<=len) (hc:len<=cap):(Instr.sliceBounds isSlice len cap ce af none).run P w=.ok (l.toNat,h.toNat,cap) w:=by
 have b6:0<=h:=by omega
 have OD:h<=cap:=by omega
 have acP:((h.toNat:Nat):Int)=h:=Int.toNat_of_nonneg b6;rcases fB with⟨rfl,rfl⟩|⟨k,rfl⟩<;>rcases h6 with⟨rfl,rfl⟩|⟨k',rfl⟩
 ·simp[Instr.sliceBounds]
 ·simp[Instr.sliceBounds,Instr.sliceBound,asIntOf,b6,OD]
 ·simp[Instr.sliceBounds,Instr.sliceBound,asIntOf,aQ,h1]
 ·simp[Instr.sliceBounds,Instr.sliceBound,asIntOf,b6,OD,aQ,acP,h1]
theorem Ve(s:ByteArray)(l h:Nat)(h2:h<=s.size):(s.extract l h).data.toList=(s.data.toList.take h).drop l:=by
 rw[ByteArray.data_extract,Array.toList_extract];simp[List.extract_eq_take_drop,List.drop_take]
theorem JD{w:World}{av:Nat->Prop}{t:aB}{xs:List (den t)}{b D:Nat}{cs:List Value}(hb:xs≠[]->¬av b)(hr:ch w av (flat t xs) cs)(hc:gO w b D cs)(l h:Nat)(h1:l<=h)(h2:h<=xs.length)(a:Addr)(fF:Nat)(OI:h-l<=fF)
  (bo:a=⟨b,D+l*au t,none⟩\/l=h) (uQ:a.block=b):Rd w av (.sl t ((xs.take h).drop l)) (.slice (some a) (h-l) fF):=by
 have hlen:((xs.take h).drop l).length=h-l:=by simp;omega
 by_cases Oz:l=h
 ·subst Oz;have:(xs.take l).drop l=[]:=List.eq_nil_of_length_eq_zero (by rw[hlen];omega)
  rw[this];exact .sl t [] a fF [] _ (by simp) OI (fun hx=>absurd rfl hx) rfl (fun j u hu=>by simp at hu) (fun j h=>by simp[flat] at h)
 ·rcases bo with bo|bo
  ·subst bo;have hf:flat t ((xs.take h).drop l)=((flat t xs).take (h*au t)).drop (l*au t):=by
    rw[UG,Hx]
   have kt:=((fV (B:=fun _=>undef) (sites:=[]) hr.1 hr.2).take (h*au t)).drop (l*au t)
   have e2:((ci (flat t xs)).take (h*au t)).drop (l*au t)=ci (flat t ((xs.take h).drop l)):=by
    rw[hf];simp[ci,List.map_drop,List.map_take]
   rw[e2] at kt;have cp:=hU kt;refine .sl t _ _ fF _ _ hlen.symm OI (fun hx=>hb ?_) cp.1 (fun j u hu=>?_) cp.2
   ·rintro rfl;simp at hx
   ·rw[gg];exact((hc.take (h*au t)).drop (l*au t)) j u hu
  ·exact absurd bo Oz
theorem BJ{w:World}{av:Nat->Prop}{t:aB}{xs:List (den t)}{a:Addr}{cs:List Value}(hb:xs≠[]->¬av a.block)(hr:ch w av (flat t xs) cs)(hc:∀j u,cs[j]? =some u->w.cell? (a.add j)=some u)
  (l h cap:Nat) (h1:l<=h) (h2:h<=xs.length) (hcap:xs.length<=cap):
  Rd w av (.sl t ((xs.take h).drop l)) (.slice (if cap=l then some a else(some a).map (·.add (l*au t))) (h-l) (cap-l)):=by
 by_cases hx:xs=[]
 ·subst hx;have:h=0:=by simpa using h2
  subst this;have jt:l=0:=by omega
  subst jt;have:((if cap=0 then some a else(some a).map (·.add (0*au t))):Option Addr)=some a:=by
   split
   ·rfl
   ·simp[Addr.add]
  rw[this];exact .sl t [] a (cap-0) [] 0 rfl (by omega) (fun hx=>absurd rfl hx) rfl (fun j u hu=>by simp at hu) (fun j h=>by simp[flat] at h)
 ·have lT:a.spot=none:=by
   have nw:0<cs.length:=by rw[hr.1,dD];exact Nat.mul_pos (List.length_pos_iff.mpr hx) (iJ t)
   have h1:=hc 0 cs[0] (List.getElem?_eq_getElem nw);have h2:a.add 0=a:=by unfold Addr.add;simp
   rw[h2] at h1;unfold World.cell? at h1;split at h1
   ·cases L:a.spot with
    |none=>rfl
    |some _=>simp[L] at h1
   ·cases h1
  obtain⟨nX,zB,ad0⟩:=a;simp only at lT;subst lT;have dW:gO w nX zB cs:=fun j v Z=>by have:=hc j v Z;rwa[gg] at this
  split
  ·rename_i e;exact JD hb hr dW l h h1 h2 _ _ (by omega) (.inr (by omega)) rfl
  ·simp only[Option.map_some,gg];exact JD hb hr dW l h h1 h2 _ _ (by omega) (.inl rfl) rfl
theorem G9{v:aF}{us jr:List (Nat×Site)}(e:aT st.sites us=aT st.sites jr)(h:cr P J H X st tm w D v us):cr P J H X st tm w D v jr:=by
 have:st.cK D.dst v jr=st.cK D.dst v us:=by cases D.dst<;>simp only[ab.cK,ab.sV,e]
 intro K Q bA;rw[this] at bA;exact h K Q bA
theorem Vm(S:ad J H X B st tm w){C:Ctx}(az:CtxOk P C){T:TypeId}{x:Operand}{ce af:Option Operand}(an:D.op=.slice T x ce af none)(U:b2 st D.dst=true):
  Holds (qI (C.tt T) st (aI C st T x) (ce.map (aI C st 0)) (af.map (aI C st 0))) (cr P J H X st tm w D):=by
 have bi:=cJ S C T x;have nx:∀{ce:Option Operand} {iS l:Int},hE iS (ce.map (aI C st 0))=some l->(ce.map (Act.eval ⟨tm,[]⟩)=none/\l=iS)\/∃k,ce.map (Act.eval ⟨tm,[]⟩)=some (.int k l):=by
  intro ce iS l h;rcases Bb S h with⟨rfl,ae⟩|⟨x,k,rfl,ae⟩
  ·exact .inl ⟨rfl,ae⟩
  ·exact .inr ⟨k,by simp[ae]⟩
 have runs:∀{vv:Value},(Instr.sliceAt T (Act.eval ⟨tm,[]⟩ x) (ce.map (Act.eval ⟨tm,[]⟩)) (af.map (Act.eval ⟨tm,[]⟩)) none).run P w=.ok vv w->(execOp (Act.eval ⟨tm,[]⟩) D).run P w=.ok (.value vv) w:=by
  intro vv h;unfold execOp;simp only[an,Option.map_none,Sem.run_bind,h,Result.andThen_ok,Sem.run_pure]
 have ts:∀{e:TypeId} {t:aB} {bytes:Nat} {a:Option Addr} {len cap:Nat} {l h:Int},C.tt T=.slice e t bytes->Act.eval ⟨tm,[]⟩ x=.slice a len cap->hE 0 (ce.map (aI C st 0))=some l->hE len (af.map (aI C st 0))=some h->
   0<=l->l<=h->h<=len->len<=cap->(execOp (Act.eval ⟨tm,[]⟩) D).run P w=.ok (.value (.slice (if cap=l.toNat then a else a.map (·.add (l.toNat*au t))) (h.toNat-l.toNat) (cap-l.toNat))) w:=by
  intro e t bytes a len cap l h aS hx fB h6 aQ h1 h2 hc;obtain⟨dS,inf,z,jo,gl,_⟩:=m2 az aS;refine runs ?_
  have hb:=vp (P:=P) (w:=w) true len cap (ce.map (Act.eval ⟨tm,[]⟩)) (af.map (Act.eval ⟨tm,[]⟩)) l h (nx fB) (nx h6) aQ h1 h2 hc;simp only[Instr.sliceAt,Instr.slice,Sem.run_bind,run_underlying dS,Result.andThen_ok,hx,hb,sizeOf,jH jo,gl,Sem.run_pure]
 unfold qI;split
 ·rename_i s bS;rw[bS] at bi;obtain⟨b,hx,L⟩:=gf bi;split
  ·rename_i l h aS fB h6;have bk:=az.tt T;rw[aS] at bk;refine Holds.eh fun r hr=>?_
   have cp:cO s l h=some r:=hr;unfold cO at cp;split at cp
   ·rename_i hb;obtain⟨aQ,h1,h2⟩:=hb;cases cp;have eJ:s.length=b.size:=by rw[<-L];rfl
    rw[eJ] at h2 h6;refine dt S U (vv:=.string (b.extract l.toNat h.toNat)) (runs ?_) (.str _ _ ?_)
    ·have hb:=vp (P:=P) (w:=w) false b.size b.size (ce.map (Act.eval ⟨tm,[]⟩)) (af.map (Act.eval ⟨tm,[]⟩)) l h (nx fB) (nx h6) aQ h1 h2 (Nat.le_refl _);simp[Instr.sliceAt,Instr.slice,run_underlying bk.1,hx,hb]
    ·rw[Ve b _ _ (by omega),L]
   ·cases cp
  ·exact .fail
 ·rename_i t xs bS;rw[bS] at bi;have bi:Rd w (al X B st.sites) (.sl t xs) (Act.eval ⟨tm,[]⟩ x):=bi;split
  ·rename_i e u bytes l h aS fB h6;split;case isFalse=>exact .fail
   rename_i lS;subst lS;refine Holds.eh fun r hr=>?_
   have cp:cO xs l h=some r:=hr;unfold cO at cp;split at cp
   ·rename_i hb;obtain⟨aQ,h1,h2⟩:=hb;cases cp;generalize hx:Act.eval ⟨tm,[]⟩ x=v at bi;cases bi with
    |nil=>
     have b6:h=0:=by simp at h2;omega
     have hl:l=0:=by omega
     subst b6 hl;refine dt S U (ts aS hx fB h6 aQ h1 h2 (Nat.le_refl _)) ?_
     simp only[List.take_nil,List.drop_nil];exact Rd.nil t
    |sl _ _ a cap cs m hm hcap hb hl hc hr=>
     subst hm;refine dt S U (ts aS hx fB h6 aQ h1 h2 hcap) ?_
     exact BJ hb ⟨hl,hr⟩ hc l.toNat h.toNat cap (by omega) (by omega) hcap
   ·cases cp
  ·exact .fail
 ·rename_i t bS;rw[bS] at bi;have hx:Act.eval ⟨tm,[]⟩ x=.slice none 0 0:=bi;split
  ·rename_i e u bytes l h aS fB h6;refine Holds.eh fun r hr=>?_
   have cp:cO ([]:List (den t)) l h=some r:=hr;unfold cO at cp;split at cp
   ·rename_i hb;obtain⟨aQ,h1,h2⟩:=hb;cases cp;have b6:h=0:=by simp at h2;omega
    have hl:l=0:=by omega
    subst b6 hl;refine dt S U (ts aS hx fB h6 aQ h1 h2 (Nat.le_refl _)) ?_
    simp only[List.take_nil,List.drop_nil];exact Rd.nil t
   ·cases cp
  ·exact .fail
 ·rename_i o s bS;rw[bS] at bi;split
  ·rename_i t xs cW;split
   ·rename_i e u bytes l h aS fB h6;split;case isFalse=>exact .fail
    rename_i lS;subst lS;refine Holds.ee fun r hr=>?_
    have cp:cO xs l h=some r:=hr;unfold cO at cp;split at cp
    ·rename_i hb;obtain⟨aQ,h1,h2⟩:=hb;cases cp;refine G9 (us:=[(o,.c0 s t xs)]) (Iq cW).symm ?_
     have gr:dv st.sites [(o,.c0 s t xs)]:=by
      intro E M hm;simp only[List.mem_singleton,Prod.mk.injEq] at hm;obtain⟨rfl,rfl⟩:=hm;exact⟨s,t,xs,rfl,(jI cW).imp id .inl⟩
     have aY:kF J H X B st tm w [(o,.c0 s t xs)]:=⟨S,gr⟩;have oz:=vj gr (List.mem_singleton.2 rfl);obtain⟨c2,KK⟩:=aY.new.sites o _ oz;have Z:Act.eval ⟨tm,[]⟩ x=bD (B o):=by
      rcases jI cW with h1|h1<;>exact Ref.at bi.2 h1 rfl
     generalize hx:bD (B o)=v at c2 KK;rw[hx] at Z;cases c2 with
     |nil=>
      have b6:h=0:=by simp at h2;omega
      have hl:l=0:=by omega
      subst b6 hl;refine hz (us:=[(o,.c0 s t [])]) aY.new U (ts aS Z fB h6 aQ h1 h2 (Nat.le_refl _)) ?_
      simp only[List.take_nil,List.drop_nil];exact Rd.nil t
     |sl _ _ a cap cs m hm hcap hb hl hc hr=>
      subst hm;refine hz (us:=[(o,.c0 s t xs)]) aY.new U (ts aS Z fB h6 aQ h1 h2 hcap) ?_
      exact BJ hb ⟨hl,hr⟩ hc l.toNat h.toNat cap (by omega) (by omega) hcap
    ·cases cp
   ·exact .fail
  ·exact .fail
 ·exact .fail
theorem TT(S:ad J H X B st tm w){C:Ctx}(az:CtxOk P C){T:TypeId}{x:Operand}{ce af:Option Operand}{dst:Nat}(an:D.op=.slice T x ce af none)(c9:D.dst=some dst)(U:b2 st D.dst=true):
  Holds (qJ (C.tt T) dst st (aI C st T x) (ce.map (aI C st 0)) (af.map (aI C st 0))) (cr P J H X st tm w D):=by
 have bi:=cJ S C T x;have nx:∀{ce:Option Operand} {iS l:Int},hE iS (ce.map (aI C st 0))=some l->(ce.map (Act.eval ⟨tm,[]⟩)=none/\l=iS)\/∃k,ce.map (Act.eval ⟨tm,[]⟩)=some (.int k l):=by
  intro ce iS l h;rcases Bb S h with⟨rfl,ae⟩|⟨x,k,rfl,ae⟩
  ·exact .inl ⟨rfl,ae⟩
  ·exact .inr ⟨k,by simp[ae]⟩
 unfold qJ;split
 ·rename_i o s bS;rw[bS] at bi;split
  ·rename_i t xs cW;split
   ·rename_i e u bytes l aS fB h6;split;case isFalse=>exact .fail
    rename_i lS;subst lS;refine Holds.ee fun r hr=>?_
    have cp:cO xs l xs.length=some r:=hr;unfold cO at cp;split at cp
    ·rename_i hb;obtain⟨aQ,h1,h2⟩:=hb;cases cp;have hl:=zI cW;obtain⟨uv,bz,cs,aC,c2⟩:=S.sites o _ hl;have Z:Act.eval ⟨tm,[]⟩ x=bD (B o):=Ref.at bi.2 hl rfl;have cz:∀{a:Option Addr} {cap:Nat},Act.eval ⟨tm,[]⟩ x=.slice a xs.length cap->xs.length<=cap->(execOp (Act.eval ⟨tm,[]⟩) D).run P w=.ok (.value (.slice (if cap=l.toNat then a else a.map (·.add (l.toNat*au t))) (xs.length-l.toNat) (cap-l.toNat))) w:=by
      intro a cap hx hc;obtain⟨dS,inf,z,jo,gl,_⟩:=m2 az aS;have hb:=vp (P:=P) (w:=w) true xs.length cap (ce.map (Act.eval ⟨tm,[]⟩)) (af.map (Act.eval ⟨tm,[]⟩)) l xs.length (nx fB) (.inl ⟨by cases af with
       |none=>rfl
       |some _=>simp at h6,rfl⟩) aQ h1 h2 hc
      unfold execOp;simp only[an,Option.map_none,Instr.sliceAt,Instr.slice,Sem.run_bind,run_underlying dS,Result.andThen_ok,hx,hb,sizeOf,jH jo,gl,Sem.run_pure,Int.toNat_natCast]
     have tB:ch w (al X B st.sites) (flat t (xs.drop l.toNat)) (cs.drop (l.toNat*au t)):=by
      have h:=hU ((fV (B:=B) (sites:=st.sites) c2.1 c2.2).drop (l.toNat*au t)|>fun h=>by
       rw[show(ci (flat t xs)).drop (l.toNat*au t)=ci (flat t (xs.drop l.toNat)) from by
        have e1:flat t xs=flat t (xs.take l.toNat)++flat t (xs.drop l.toNat):=by rw[<-m0,List.take_append_drop]
        have e2:(flat t (xs.take l.toNat)).length=l.toNat*au t:=by rw[dD,List.length_take,Nat.min_eq_left (by omega)]
        rw[e1,ci,List.map_append,List.drop_append,List.drop_eq_nil_of_le (by simp[e2]),List.length_map,e2,Nat.sub_self,List.drop_zero,List.nil_append];rfl] at h
       exact h)
      exact h
     have main:∃nv,(execOp (Act.eval ⟨tm,[]⟩) D).run P w=.ok (.value nv) w/\bD nv=nv/\nv.oneCell'=true/\(∀b,b∈bb nv->b∈bb (B o))/\nf w bz (au t) nv (xs.drop l.toNat).length (cs.drop (l.toNat*au t)):=by
      have hlen:(cs.drop (l.toNat*au t)).length=(xs.drop l.toNat).length*au t:=by rw[tB.1,dD]
      rcases aC.2 with⟨hn,aM⟩|⟨g,q,cap,cur,gY,aJ,gq,iB,dW,gE⟩
      ·have lQ:xs=[]:=List.eq_nil_of_length_eq_zero aM;subst lQ;have jt:l=0:=by simp at h1;omega
       subst jt;have hx:Act.eval ⟨tm,[]⟩ x=.slice none 0 0:=by rw[Z,hn];rfl
       refine⟨_,cz hx (Nat.le_refl _),rfl,rfl,(fun b hb=>by cases hb),hlen,.inl ⟨rfl,by simp⟩⟩
      ·have hx:Act.eval ⟨tm,[]⟩ x=.slice (some ⟨g,q,none⟩) xs.length cap:=by rw[Z,gY];rfl
       refine⟨_,cz hx gq,rfl,rfl,fun b hb=>?_,hlen,.inr ?_⟩
       ·rw[gY];by_cases hc:cap=l.toNat
        ·rw[if_pos hc] at hb;exact hb
        ·rw[if_neg hc] at hb;simp only[Option.map_some,gg] at hb;exact hb
       ·by_cases hc:cap=l.toNat
        ·rw[if_pos hc];have k7:xs.length=l.toNat:=by omega
         refine⟨g,q,_,cur,by rw[List.length_drop],aJ,by rw[List.length_drop];omega,by omega,by rw[hc,Nat.sub_self,Nat.zero_mul];omega,?_⟩
         rw[List.length_drop,k7,Nat.sub_self,Nat.zero_mul,List.take_zero,List.drop_eq_nil_of_le];rw[aC.1,k7];exact Nat.le_refl _
        ·rw[if_neg hc];have c3:l.toNat<=cap:=by omega
         have hmul:cap*au t=l.toNat*au t+(cap-l.toNat)*au t:=by rw[<-Nat.add_mul];congr 1;omega
         refine⟨g,q+l.toNat*au t,cap-l.toNat,cur,by simp only[Option.map_some,gg,List.length_drop],aJ,by rw[List.length_drop];omega,by omega,by omega,?_⟩
         rw[<-gE,List.drop_take,List.drop_drop,List.length_drop,Nat.sub_mul]
     obtain⟨nv,pK,pJ,EM,Ov,acS⟩:=main;have fo:(xs.take (xs.length:Int).toNat).drop l.toNat=xs.drop l.toNat:=by rw[Int.toNat_natCast,List.take_length]
     rw[fo];have bO:=S.Cj (dst:=dst) (hC:=.tail (aR (st.c7 o (.dead s)) dst) t (xs.drop l.toNat)) hl rfl rfl rfl (nv:=nv) (w':=w) ⟨rfl,rfl,rfl,Nat.le_refl _,fun _ _ _=>rfl⟩
      (fun b hb=>⟨S.dL ⟨_,hl,rfl⟩ (Ov b hb),.inl (Ov b hb)⟩) (fun bw go=>⟨uv,bz,_,by rw[bw];exact acS,tB.1,fun j g1 g2=>hB go (tB.2 j g1 g2)⟩)
     refine hz (us:=[(o,.dead s),(dst,.tail (aR (st.c7 o (.dead s)) dst) t (xs.drop l.toNat))]) bO U pK ?_
     refine⟨EM,Ref.mk (M:=.tail (aR (st.c7 o (.dead s)) dst) t (xs.drop l.toNat)) ?_ rfl (by simp[pJ])⟩
     simp only[aT,ck];simp
    ·cases cp
   ·exact .fail
  ·exact .fail
 ·exact .fail
end
section
variable {P:Program}{J:World}{H:List Nat}{X:Nat->Prop}{B:Nat->Value}{st:ab}{tm:Array Value}{w:World}{D:Oper}
theorem Xl{av:Nat->Prop}{o s:Nat}{t:aB}{xs:List (den t)}{v:Value}(h:b4 B st.sites w av (bQ (.own o s)) v)(hr:rowOf st o s=some ⟨t,xs⟩):v=bD (B o):=by
 rcases jI hr with h1|h1<;>exact Ref.at h.2 h1 rfl
theorem I8(S:ad J H X B st tm w){o s:Nat}{v:Value}{t:aB}{es:List (G×den t)}(h:dl B st.sites w (al X B st.sites) (.own o s) v)(hm:mapOf st (.own o s)=some ⟨t,es⟩):
  t≠.strs/\∃b,v=.map (some b)/\ly w b t es:=by
 simp only[mapOf] at hm;split at hm
 ·rename_i ag u g' hl;cases hb:(ag.beq s&&!u.uk) with
  |false=>rw[hb] at hm;cases hm
  |true=>
   rw[hb] at hm;simp only[Bool.and_eq_true,Bool.not_eq_true'] at hb;have L:=Nat.eq_of_beq_eq_true hb.1;subst L;cases hm;have hl:look st.sites o=some (.map ag _ es):=hl;have Z:v=bD (B o):=Ref.at h.2 hl rfl;obtain⟨b,h1,h2⟩:=S.sites o _ hl;exact⟨aB.JS hb.2,b,by rw[Z,h1];rfl,h2⟩
 ·cases hm
theorem Hl{l:aw}{t:aB}{es:List (G×den t)}(hm:mapOf st l=some ⟨t,es⟩):l=.d (.map t es)\/∃o s,l=.own o s:=by
 cases l<;>first|(cases hm;done)|skip
 ·rename_i v;cases v<;>first|(cases hm;done)|skip
  simp only[mapOf,Option.some.injEq,Sigma.mk.injEq] at hm;obtain⟨rfl,h⟩:=hm;cases h;exact .inl rfl
 ·exact .inr ⟨_,_,rfl⟩
theorem I7(S:ad J H X B st tm w){l:aw}{v:Value}{t:aB}{es:List (G×den t)}(aC:t≠.strs)(h:dl B st.sites w (al X B st.sites) l v)(hm:mapOf st l=some ⟨t,es⟩):
  (v=.map none/\es=[])\/∃b,v=.map (some b)/\ly w b t es:=by
 rcases Hl hm with rfl|⟨o,s,rfl⟩
 ·have h:Rd w (al X B st.sites) (.map t es) v:=h;cases h with
  |pq=>exact .inl ⟨rfl,rfl⟩
  |map _ _ b _ hb hm=>exact .inr ⟨b,rfl,hm⟩
  |maps=>exact absurd rfl aC
 ·exact .inr (I8 S h hm).2
theorem Ih(S:ad J H X B st tm w){l:aw}{v:Value}{es:List (G×List G)}(h:dl B st.sites w (al X B st.sites) l v)(hm:mapOf st l=some ⟨.strs,es⟩):
  (v=.map none/\es=[])\/∃b arr clock,∃ps:List (G×Value),v=.map (some b)/\w.heap[b]? =some (.map arr clock)/\ps.length=es.length/\hX arr=iu ps/\ps.map (·.1)=es.map (·.1)/\
   ∀i (h1:i<es.length) (h2:i<ps.length),Rd w (al X B st.sites) (.sl .str (es[i]).2) (ps[i]).2:=by
 rcases Hl hm with rfl|⟨o,s,rfl⟩
 ·have h:Rd w (al X B st.sites) (.map .strs es) v:=h;cases h with
  |pq=>exact .inl ⟨rfl,rfl⟩
  |map _ _ b aC hb hm=>exact absurd rfl aC
  |maps _ b arr clock ps hb hm ah hn hl hr=>exact .inr ⟨b,arr,clock,ps,rfl,hm,hl,ah,hn,hr⟩
 ·exact absurd rfl (I8 S h hm).1
theorem ly.size{b:Nat}{t:aB}{es:List (G×den t)}{arr:Array MapEntry}(h:hX arr=nh t es):arr.size=es.length:=by
 have:=congrArg List.length h;simpa[hX,nh] using this
theorem Xr(S:ad J H X B st tm w){l:aw}{v:Value}{t:aB}{es:List (G×den t)}(h:dl B st.sites w (al X B st.sites) l v)(hm:mapOf st l=some ⟨t,es⟩):
  (v=.map none/\es=[])\/∃b arr clock,v=.map (some b)/\w.heap[b]? =some (.map arr clock)/\arr.size=es.length:=by
 by_cases aC:t=.strs
 ·subst aC;rcases Ih S h hm with h|⟨b,arr,clock,vs,h1,h2,Y,aP,_⟩
  ·exact .inl h
  ·refine .inr ⟨b,arr,clock,h1,h2,?_⟩;have:=congrArg List.length aP;simpa[hX,iu,Y] using this
 ·rcases I7 S aC h hm with h|⟨b,h1,arr,clock,h2,Y⟩
  ·exact .inl h
  ·exact .inr ⟨b,arr,clock,h1,h2,ly.size (b:=b) Y⟩
theorem YM(S:ad J H X B st tm w){C:Ctx}(az:CtxOk P C){T:TypeId}{x:Operand}(an:D.op=.call {callee:=.builtin .len,args:=#[x],argTypes:=#[T]})(U:b2 st D.dst=true):
  Holds (ry (C.tt T) st (aI C st T x)) (cr P J H X st tm w D):=by
 have bi:=cJ S C T x;have bk:=az.tt T;have run:∀{vv:Value},(Builtin.len_ #[T] D.type #[Act.eval ⟨tm,[]⟩ x]).run P w=.ok vv w->(execOp (Act.eval ⟨tm,[]⟩) D).run P w=.ok (.value vv) w:=by
  intro vv h;unfold execOp;simp only[an,resolve,invoke,builtin,Sem.run_bind,Sem.run_pure,Result.andThen_ok,List.map_toArray,List.map_cons,List.map_nil,h]
 unfold ry;split
 ·rename_i s aS bS;rw[bS] at bi;rw[aS] at bk;obtain⟨b,hx,L⟩:=gf bi;refine Holds.ok (dt S U (run (vv:=.int .i64 s.length) ?_) (.int _ _));have:s.length=b.size:=by rw[<-L];rfl
  simp[Builtin.len_,hx,run_underlying bk.1,goInt,this]
 ·rename_i e t b u xs aS bS;rw[bS] at bi;rw[aS] at bk;have bi:Rd w (al X B st.sites) (.sl u xs) (Act.eval ⟨tm,[]⟩ x):=bi;refine Holds.ok (dt S U (run (vv:=.int .i64 xs.length) ?_) (.int _ _));generalize Act.eval ⟨tm,[]⟩ x=v at bi;cases bi with
  |nil=>simp[Builtin.len_,run_underlying bk.1.1,goInt]
  |sl _ _ a cap cs n hn hcap hb hl hc hr=>simp[Builtin.len_,run_underlying bk.1.1,goInt,hn]
 ·rename_i e t b u aS bS;rw[bS] at bi;rw[aS] at bk;have hx:Act.eval ⟨tm,[]⟩ x=.slice none 0 0:=bi;exact Holds.ok (dt S U (run (vv:=.int .i64 0) (by simp[Builtin.len_,hx,run_underlying bk.1.1,goInt])) (.int _ _))
 ·rename_i e t b o s aS bS;rw[bS] at bi;rw[aS] at bk;split
  ·rename_i u xs cW;obtain⟨⟨M,fA,iY⟩,hc⟩:=S.all cW;have Z:Act.eval ⟨tm,[]⟩ x=bD (B o):=Ref.at bi.2 fA iY;refine Holds.ok (dt S U (run (vv:=.int .i64 xs.length) ?_) (.int _ _));rcases hc with⟨h1,h2⟩|⟨a8,q,c,h1⟩
   ·subst h2;simp[Builtin.len_,Z,h1,run_underlying bk.1.1,goInt]
   ·simp[Builtin.len_,Z,h1,run_underlying bk.1.1,goInt]
  ·exact .fail
 ·rename_i eL fo u l aS bS;rw[bS] at bi;rw[aS] at bk;split
  ·rename_i bW es hm;refine Holds.ok (dt S U (run (vv:=.int .i64 es.length) ?_) (.int _ _));rcases Xr S bi hm with⟨h1,rfl⟩|⟨b,arr,c,h1,h2,eJ⟩
   ·simp[Builtin.len_,h1,run_underlying bk.1.1,goInt]
   ·simp[Builtin.len_,h1,run_underlying bk.1.1,goInt,MapKept.run_getObj_map h2,eJ,Result.andThen]
  ·exact .fail
 ·exact .fail
theorem V9(S:ad J H X B st tm w){C:Ctx}(az:CtxOk P C){T:TypeId}{x i:Operand}{s:G}{k:IntKind}{n:Int}(an:D.op=.index T x i)(U:b2 st D.dst=true)(aS:C.tt T=.str)
  (hx:aI C st T x=.av (.ak (.d (.str s)))) (af:aI C st 0 i=.av (.ak (.d (.int k n)))):Holds (.eh (bf s n) fun b=>one (.int .u8 b.toNat)) (cr P J H X st tm w D):=by
 have bk:=az.tt T;rw[aS] at bk;obtain⟨b,hb,L⟩:=Y0 S hx;have hn:=jL S af;refine Holds.eh fun y aq=>?_
 have dU:bf s n=some y:=aq;unfold bf at dU;split at dU
 ·rename_i aQ;refine dt S U (vv:=.int .u8 y.toNat) ?_ (.int _ _);have jR:b[n.toNat]? =some y:=by
   have:n.toNat<s.length:=by
    rcases Nat.lt_or_ge n.toNat s.length with h|h
    ·exact h
    ·rw[List.getElem?_eq_none h] at dU;cases dU
   rw[<-L] at dU this;have eJ:n.toNat<b.size:=this;rw[getElem?_pos b n.toNat eJ];rw[List.getElem?_eq_getElem this] at dU;have Y:b.data[n.toNat]=y:=by simpa using dU
   rw[<-Y];rfl
  unfold execOp;simp[an,hb,hn,Instr.index,asIntOf,run_underlying bk.1,aQ,jR]
 ·cases dU
theorem bytes_beq(x y:ByteArray):(x==y)=(x.data.toList==y.data.toList):=by
 obtain⟨a⟩:=x;obtain⟨b⟩:=y;have h:((⟨a⟩:ByteArray)==⟨b⟩)=(a==b):=rfl;rw[h,Bool.eq_iff_iff];simp
theorem Wf:∀{z O:List aw} {vs:List Value},pu z O=true->cl B st.sites w (al X B st.sites) O vs->oq z vs=true:=by
 intro z;induction z with
 |nil=>
  intro O vs h h1;cases O with
  |nil=>rw[h1.kO];rfl
  |cons l O=>cases h
 |cons c z ih=>
  intro O vs h h1;unfold pu at h;split at h
  ·rename_i aM;cases aM
  ·rename_i bS;cases bS;obtain⟨v,ct,rfl,a1,a2⟩:=h1.inv;rw[jh a1];exact ih h a2
  ·rename_i bS;cases bS;obtain⟨v,ct,rfl,a1,a2⟩:=h1.inv;rw[jf a1];exact ih h a2
  ·rename_i bS;cases bS;obtain⟨v,ct,rfl,a1,a2⟩:=h1.inv;obtain⟨x,rfl,hx⟩:=gf a1;exact ih h a2
  ·cases h
theorem R8:∀{O iF:List aw} {vs us:List Value} {b:Bool},s_ O iF=some b->cl B st.sites w (al X B st.sites) O vs->cl B st.sites w (al X B st.sites) iF us->je vs us=some b:=by
 have leaf:∀{d e:aK} {v u:Value} {b:Bool} {av:Nat->Prop},xK d e=some b->Rd w av d v->Rd w av e u->m_ v u=some b:=by
  intro d e v u b av h h1 h2;unfold xK at h;split at h
  ·rw[jh h1,jh h2];exact h
  ·rw[jf h1,jf h2];exact h
  ·obtain⟨x,rfl,hx⟩:=gf h1;obtain⟨y,rfl,aq⟩:=gf h2;subst hx aq;cases h;show some (x==y)=some (x.data.toList==y.data.toList);rw[bytes_beq]
  ·cases h
 intro O;induction O with
 |nil=>intro iF vs us b h _ _;cases iF<;>simp[s_] at h
 |cons l O ih=>
  intro iF vs us b h h1 h2;obtain⟨v,ct,rfl,a1,a2⟩:=h1.inv;unfold s_ at h;split at h
  ·rename_i d e bS;cases bS;obtain⟨u,jr,rfl,aX,aG⟩:=h2.inv;rw[a2.kO,aG.kO];exact leaf h a1 aX
  ·rename_i d ds e es cF bS;cases bS;obtain⟨u,jr,rfl,aX,aG⟩:=h2.inv;split at h
   ·rename_i x y hx aq;cases h;have e1:=leaf hx a1 aX;have e2:=ih aq a2 aG;match ct,jr,e2 with
    |[],[],e2=>simp[je] at e2
    |[],_::_,e2=>simp[je] at e2
    |_::_,[],e2=>simp[je] at e2
    |v2::agz,u2::agB,e2=>rw[je,e1,e2];simp
   ·cases h
  ·cases h
theorem run_equal_bool{T:TypeId}(h:P.underlying T=some .bool)(a b:Bool):(Op.equal T (.bool a) (.bool b)).run P w=.ok (a==b) w:=by
 have e:Op.maxDepth=9999+1:=rfl;unfold Op.equal;rw[e];unfold Op.equalIn;simp only[Sem.run_bind,run_underlying h,Result.andThen_ok,Sem.run_pure]
theorem run_eql_bool{T:TypeId}(h:P.underlying T=some .bool)(a b:Bool):(binOp .eql T (.bool a) (.bool b)).run P w=.ok (.bool (a==b)) w:=by
 show((do pure (.bool (<-Op.equal T (.bool a) (.bool b)))):Sem Value).run P w=_
 simp only[Sem.run_bind,run_equal_bool h,Result.andThen_ok,Sem.run_pure]
theorem run_neq_bool{T:TypeId}(h:P.underlying T=some .bool)(a b:Bool):(binOp .neq T (.bool a) (.bool b)).run P w=.ok (.bool (!(a==b))) w:=by
 show((do pure (.bool (!(<-Op.equal T (.bool a) (.bool b))))):Sem Value).run P w=_
 simp only[Sem.run_bind,run_equal_bool h,Result.andThen_ok,Sem.run_pure]
theorem X2(S:ad J H X B st tm w){C:Ctx}(az:CtxOk P C){op:BinOp}{T mQ:TypeId}{x y:Operand}(an:D.op=.binOp op T x y mQ)(U:b2 st D.dst=true):
  Holds (D3 op (C.tt T) (aI C st T x) (aI C st T y)) (cr P J H X st tm w D):=by
 have hx:=cJ S C T x;have aq:=cJ S C T y;have bk:=az.tt T;have run:∀{vv:Value},(eqGuard op T x y (Act.eval ⟨tm,[]⟩ x) (Act.eval ⟨tm,[]⟩ y)).run P w=.ok () w->(binOp op T (Act.eval ⟨tm,[]⟩ x) (Act.eval ⟨tm,[]⟩ y)).run P w=.ok vv w->
   (execOp (Act.eval ⟨tm,[]⟩) D).run P w=.ok (.value vv) w:=by
  intro vv h1 h2;unfold execOp;simp only[an,Sem.run_bind,h1,h2,Result.andThen_ok,Sem.run_pure]
 have plain:∀{r:c'},(eqGuard op T x y (Act.eval ⟨tm,[]⟩ x) (Act.eval ⟨tm,[]⟩ y)).run P w=.ok () w->Holds r (Plain P w (binOp op T (Act.eval ⟨tm,[]⟩ x) (Act.eval ⟨tm,[]⟩ y)))->Holds r (cr P J H X st tm w D):=by
  intro r h1 h2 z aM hc;obtain⟨vv,d,g1,g2,g3,g4⟩:=h2 z aM hc;rw[g2,g3];exact dt S U (run h1 g1) (g4 _)
 unfold D3;split
 ·rename_i k a k' b kp pB;rw[kp] at hx;rw[pB] at aq;refine plain (by rw[jh hx,jh aq];exact Qx _ _ _ _ _ _ _ _) ?_
  rw[jh hx,jh aq];unfold JU;split
  ·refine Holds.eh fun n hn=>?_
   have ff:Ds k a b=some n:=hn;unfold Ds at ff;split at ff
   ·cases ff
   ·rename_i hb;cases ff;exact .mk (by simp[binOp,Op.shift,hb]) fun av=>.int _ _
  ·refine Holds.eh fun n hn=>?_
   have ff:pm k a b=some n:=hn;unfold pm at ff;split at ff
   ·cases ff
   ·rename_i hb;cases ff;exact .mk (by simp[binOp,Op.shift,hb]) fun av=>.int _ _
  ·rename_i h1 h2;split
   ·rename_i ah;subst ah;exact T1 _ T k a b h1 h2
   ·exact .fail
 ·rename_i s t kp pB;rw[kp] at hx;rw[pB] at aq;obtain⟨a,bo,L⟩:=gf hx;obtain⟨b,hb,aC⟩:=gf aq;subst L aC;refine plain (by rw[bo,hb];exact Qq _ _ _ _ _ _) ?_
  rw[bo,hb];exact TZ op T a b
 ·rename_i a b kp pB;rw[kp] at hx;rw[pB] at aq;unfold J7;split
  ·rename_i aS;rw[aS] at bk;split
   ·refine plain (by rw[jf hx,jf aq];exact FR _ _ _ _ _ _) (Holds.ok ?_)
    rw[jf hx,jf aq];exact .mk (run_eql_bool bk.1 _ _) fun av=>.bool _
   ·refine plain (by rw[jf hx,jf aq];exact FR _ _ _ _ _ _) (Holds.ok ?_)
    rw[jf hx,jf aq];exact .mk (run_neq_bool bk.1 _ _) fun av=>.bool _
   ·exact .fail
  ·exact .fail
 ·rename_i xs ys kp pB;rw[kp] at hx;rw[pB] at aq;unfold KR;split
  ·rename_i bJ n z aS;rw[aS] at bk;cases hl:xs.length.beq n&&pu z xs with
   |false=>exact .fail
   |true=>
    simp only[cond_true];simp only[Bool.and_eq_true] at hl;have fk:=Nat.eq_of_beq_eq_true hl.1;split
    ·rename_i b hb;obtain⟨vs,Z,js,jY⟩:=hx;obtain⟨us,hu,rS,pF⟩:=aq;have ado:=R8 hb ⟨js,jY⟩ ⟨rS,pF⟩;obtain⟨fields,dS,_,⟨fC,aM,_,_⟩,bS⟩:=bk;obtain⟨aJ,DQ⟩:=bS rfl;have:=DQ vs us b w ado (Wf hl.2 ⟨js,jY⟩);split
     ·refine plain ?_ (Holds.ok ?_)
      ·rw[Z,hu];simp[eqGuard,aJ]
      ·rw[Z,hu];refine .mk (vv:=.bool b) ?_ fun av=>.bool _
       show((do pure (.bool (<-Op.equal T (.agg vs.toArray) (.agg us.toArray)))):Sem Value).run P w=_
       simp only[Sem.run_bind,this,Result.andThen_ok,Sem.run_pure]
     ·refine plain ?_ (Holds.ok ?_)
      ·rw[Z,hu];simp[eqGuard,aJ]
      ·rw[Z,hu];refine .mk (vv:=.bool (!b)) ?_ fun av=>.bool _
       show((do pure (.bool (!(<-Op.equal T (.agg vs.toArray) (.agg us.toArray))))):Sem Value).run P w=_
       simp only[Sem.run_bind,this,Result.andThen_ok,Sem.run_pure]
     ·exact .fail
    ·exact .fail
  ·exact .fail
 ·exact .fail
theorem Q'{T:TypeId}{iF:Array (String×TypeId)}(aC:P.underlying T=some (.interface iF))(fS:TypeId)(cX:Option Int)(v:Value)(Z:v=match cX with|none=>.nilIface|some n=>.iface fS (.agg #[.int .i64 n])):
  (Op.equal T v .nilIface).run P w=.ok cX.isNone w:=by
 have h:∀d:Nat,(Op.equalIn (d+1) T v .nilIface).run P w=.ok cX.isNone w:=fun d=>by
  subst Z;cases cX<;>simp[Op.equalIn,run_underlying aC]
 exact h 9999
theorem UI(S:ad J H X B st tm w){C:Ctx}(az:CtxOk P C){op:BinOp}{T mQ:TypeId}{x y:Operand}(an:D.op=.binOp op T x y mQ)(U:b2 st D.dst=true)(hn:xN y=true):
  Holds (C2 op (C.tt T) (aI C st T x)) (cr P J H X st tm w D):=by
 have aq:y=.const .nilIface:=by
  unfold xN at hn;split at hn
  ·rfl
  ·cases hn
 subst aq;have hx:=cJ S C T x;have bk:=az.tt T;have key:∀(fS:TypeId) (cX:Option Int),(Act.eval ⟨tm,[]⟩ x=match cX with|none=>.nilIface|some n=>.iface fS (.agg #[.int .i64 n]))->Holds (yu op (C.tt T) cX) (cr P J H X st tm w D):=by
  intro fS cX Z;unfold yu;split
  ·rename_i aS;rw[aS] at bk;obtain⟨iF,bk⟩:=bk;have he:=Q' (P:=P) (w:=w) bk.1 fS cX _ Z;have aJ:(eqGuard op T x (.const .nilIface) (Act.eval ⟨tm,[]⟩ x) .nilIface).run P w=.ok () w:=by
    rw[Z];cases cX<;>cases op<;>simp[eqGuard]
   split
   ·refine Holds.ok (dt S U (vv:=.bool cX.isNone) ?_ (.bool _));unfold execOp;simp only[an,Act.eval,Sem.run_bind,Result.andThen_ok,Sem.run_pure] at aJ ⊢;rw[aJ];simp only[Result.andThen_ok];have:(binOp .eql T (Act.eval ⟨tm,[]⟩ x) .nilIface).run P w=.ok (.bool cX.isNone) w:=by
     have e:binOp .eql T (Act.eval ⟨tm,[]⟩ x) .nilIface=(do pure (.bool (<-Op.equal T (Act.eval ⟨tm,[]⟩ x) .nilIface))):=by rw[Z];cases cX<;>rfl
     rw[e];simp only[Sem.run_bind,he,Result.andThen_ok,Sem.run_pure]
    simp only[Act.eval] at this;rw[this];rfl
   ·refine Holds.ok (dt S U (vv:=.bool cX.isSome) ?_ (.bool _));unfold execOp;simp only[an,Act.eval,Sem.run_bind,Result.andThen_ok,Sem.run_pure] at aJ ⊢;rw[aJ];simp only[Result.andThen_ok];have:(binOp .neq T (Act.eval ⟨tm,[]⟩ x) .nilIface).run P w=.ok (.bool cX.isSome) w:=by
     have e:binOp .neq T (Act.eval ⟨tm,[]⟩ x) .nilIface=(do pure (.bool (!(<-Op.equal T (Act.eval ⟨tm,[]⟩ x) .nilIface)))):=by rw[Z];cases cX<;>rfl
     rw[e];simp only[Sem.run_bind,he,Result.andThen_ok,Sem.run_pure];cases cX<;>rfl
    simp only[Act.eval] at this;rw[this];rfl
   ·exact .fail
  ·exact .fail
 unfold C2;split
 ·rename_i fS cX kp;rw[kp] at hx;have hx:Rd w (al X B st.sites) (.err fS cX) (Act.eval ⟨tm,[]⟩ x):=hx;exact key fS cX (by revert hx;generalize Act.eval ⟨tm,[]⟩ x=vv;intro hx;cases hx<;>rfl)
 ·rename_i kp;rw[kp] at hx;exact key 0 none hx
 ·exact .fail
theorem Qu(S:ad J H X B st tm w){C:Ctx}(az:CtxOk P C){T:TypeId}{x:Operand}{n:Int}{bJ z q e}(an:D.op=.makeInterface T x)(U:b2 st D.dst=true)(aS:C.tt T=.struct bJ q z e)
  (hx:aI C st T x=.av (.agg [.d (.int .i64 n)])):cr P J H X st tm w D (one (.err T (some n))) []:=by
 have bk:=az.tt T;rw[aS] at bk;obtain⟨fields,hu,_⟩:=bk;have bi:=cJ S C T x;rw[hx] at bi;obtain⟨vs,h1,h2,Y⟩:=bi;match vs,h2,h1,Y with
 |[v],_,h1,Y=>
  have Z:=jh (Y 0 (by simp) (by simp))
  simp only[List.getElem_cons_zero] at Z;subst Z;refine dt S U (vv:=.iface T (.agg #[.int .i64 n])) ?_ (.err _ _);unfold execOp;simp[an,Instr.makeInterface,run_underlying hu,h1]
end
end Go.Jk
