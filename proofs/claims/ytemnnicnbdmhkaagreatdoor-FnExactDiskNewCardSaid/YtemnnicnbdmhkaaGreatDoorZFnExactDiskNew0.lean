/- FnExactDiskNew: the program's DiskNew returns what the reference's returns, for all arguments. (part 1 of 6: JkCore, JkGlob, JkState, JkExec, JkFoot, JkCode, JkTurn, JkOps1, JkOps2, JkOps3, JkOps4, JkOps5, JkOps6, JkOps7, JkOps8, JkOps9, JkOps10, JkOps11, JkOps12, JkOps13, JkOps14, JkOps15, JkOps16, JkOps17) Conditions: none beyond the statement. -/
import Derived.Calls
import Derived.Below
import Derived.WalkKit
import Derived.Laws.AppendOwn
import Derived.Great.BuildSlice
import Derived.IntWalk
import Derived.Laws.Tables
import Derived.MapKept
import Derived.Laws.BytesArg
import Derived.Lib.ConvBytes
set_option linter.unusedSimpArgs false
set_option linter.unusedVariables false
namespace Go.Jk
abbrev Str := List UInt8
structure Entry where
 path : Str
 kind : Int
 mode : Int
 text : Str
structure Need where
 name : Str
 kind : Int
 version : Str
structure Pack where
 name : Str
 version : Str
 needs : List Need
 tree : List Entry
structure File where
 name : Str
 text : Str
structure Lt where
 name : Str
 text : Str
structure Source where
 name : Str
 sum : Str
structure Piece where
 name : Str
 glob : Str
structure Recipe where
 name : Str
 version : Str
 lets : List Lt
 builds : List Need
 runs : List Need
 sources : List Source
 pieces : List Piece
 steps : List Str
structure Hunk where
 at_ : Int
 lines : List Str
inductive Ty where
 | i64 | u8 | u32 | bool | str | entry | need | pack | file | lt | source | piece | recipe | hunk | bools
 deriving DecidableEq
@[reducible] def den : Ty → Type
 | .i64 | .u8 | .u32 => Int
 | .bool => Bool
 | .str => Str
 | .entry => Entry
 | .need => Need
 | .pack => Pack
 | .file => File
 | .lt => Lt
 | .source => Source
 | .piece => Piece
 | .recipe => Recipe
 | .hunk => Hunk
 | .bools => List Bool
inductive D : Type where
 | int (k : IntKind) (n : Int)
 | bool (b : Bool)
 | str (s : Str)
 | sl (t : Ty) (xs : List (den t))
 | fn (g : FuncId) (caps : List (List D))
 | map (t : Ty) (es : List (Str × den t))
def enc : (t : Ty) → den t → List D
 | .i64, n => [.int .i64 n]
 | .u8, n => [.int .u8 n]
 | .u32, n => [.int .u32 n]
 | .bool, b => [.bool b]
 | .str, s => [.str s]
 | .entry, e => [.str e.path, .int .i64 e.kind, .int .i64 e.mode, .str e.text]
 | .need, n => [.str n.name, .int .i64 n.kind, .str n.version]
 | .pack, p => [.str p.name, .str p.version, .sl .need p.needs, .sl .entry p.tree]
 | .file, f => [.str f.name, .str f.text]
 | .lt, f => [.str f.name, .str f.text]
 | .source, f => [.str f.name, .str f.sum]
 | .piece, f => [.str f.name, .str f.glob]
 | .recipe, r => [.str r.name, .str r.version, .sl .lt r.lets, .sl .need r.builds, .sl .need r.runs, .sl .source r.sources, .sl .piece r.pieces, .sl .str r.steps]
 | .hunk, h => [.int .i64 h.at_, .sl .str h.lines]
 | .bools, b => [.sl .bool b]
def esz : Ty → Nat
 | .i64 | .u8 | .u32 | .bool | .str | .bools => 1
 | .entry => 4
 | .need => 3
 | .pack => 4
 | .file | .lt | .source | .piece | .hunk => 2
 | .recipe => 8
def dec : (t : Ty) → List D → Option (den t)
 | .i64, [.int .i64 n] => some n
 | .u8, [.int .u8 n] => some n
 | .u32, [.int .u32 n] => some n
 | .bool, [.bool b] => some b
 | .str, [.str s] => some s
 | .entry, [.str a, .int .i64 k, .int .i64 m, .str b] => some ⟨a, k, m, b⟩
 | .need, [.str a, .int .i64 k, .str b] => some ⟨a, k, b⟩
 | .pack, [.str a, .str b, .sl .need ns, .sl .entry es] => some ⟨a, b, ns, es⟩
 | .file, [.str a, .str b] => some ⟨a, b⟩
 | .lt, [.str a, .str b] => some ⟨a, b⟩
 | .source, [.str a, .str b] => some ⟨a, b⟩
 | .piece, [.str a, .str b] => some ⟨a, b⟩
 | .recipe, [.str a, .str b, .sl .lt ls, .sl .need bs, .sl .need rs, .sl .source ss, .sl .piece ps, .sl .str ts] => some ⟨a, b, ls, bs, rs, ss, ps, ts⟩
 | .hunk, [.int .i64 n, .sl .str ls] => some ⟨n, ls⟩
 | .bools, [.sl .bool b] => some b
 | _, _ => none
theorem jjS : ∀ (t : Ty) (x : den t), (enc t x).length = esz t := by
 intro t x; cases t <;> rfl
theorem jxr (t : Ty) : 0 < esz t := by cases t <;> decide
theorem dec_enc : ∀ (t : Ty) (ds : List D) (x : den t), dec t ds = some x → enc t x = ds := by
 intro t ds x h
 unfold dec at h
 split at h <;> first | (cases h; rfl) | cases h
def jjM (t : Ty) (xs : List (den t)) : List D := xs.flatMap (enc t)
theorem jjp (t : Ty) (xs : List (den t)) : (jjM t xs).length = xs.length * esz t := by
 unfold jjM
 induction xs with
 | nil => simp
 | cons x xs ih => simp [List.flatMap_cons, jjS, ih, Nat.add_mul, Nat.add_comm]
theorem jqY (t : Ty) (xs ys : List (den t)) : jjM t (xs ++ ys) = jjM t xs ++ jjM t ys := by
 simp [jjM, List.flatMap_append]
theorem flat_get (t : Ty) (xs : List (den t)) (i j : Nat) (x : den t) (hx : xs[i]? = some x) (hj : j < esz t) :
  (jjM t xs)[i * esz t + j]? = (enc t x)[j]? := by
 induction xs generalizing i with
 | nil => simp at hx
 | cons y ys ih =>
  cases i with
  | zero =>
   simp only [List.getElem?_cons_zero, Option.some.injEq] at hx
   subst hx
   simp only [Nat.zero_mul, Nat.zero_add, jjM, List.flatMap_cons]
   rw [List.getElem?_append_left (by rw [jjS]; exact hj)]
  | succ i =>
   simp only [List.getElem?_cons_succ] at hx
   have := ih i hx
   simp only [jjM, List.flatMap_cons] at this ⊢
   rw [List.getElem?_append_right (by rw [jjS, Nat.add_mul]; omega), jjS]
   rw [← this]
   congr 1
   rw [Nat.add_mul]; omega
theorem flat_set (t : Ty) (xs : List (den t)) (i : Nat) (x : den t) :
  jjM t (xs.set i x) = (jjM t xs).take (i * esz t) ++ (if i < xs.length then enc t x else []) ++ (jjM t xs).drop ((i + 1) * esz t) := by
 induction xs generalizing i with
 | nil => simp [jjM]
 | cons y ys ih =>
  cases i with
  | zero =>
   simp only [List.set_cons_zero, jjM, List.flatMap_cons, Nat.zero_mul, List.take_zero, List.nil_append, List.length_cons, Nat.zero_lt_succ, if_true, Nat.zero_add, Nat.one_mul]
   rw [List.drop_append_of_le_length (by rw [jjS]; omega)]
   rw [show List.drop (esz t) (enc t y) = [] from List.drop_eq_nil_of_le (by rw [jjS]; exact Nat.le_refl _)]
   rfl
  | succ i =>
   have h := ih i
   simp only [jjM] at h
   simp only [List.set_cons_succ, jjM, List.flatMap_cons, List.length_cons]
   rw [h]
   have e1 : List.take ((i + 1) * esz t) (enc t y ++ ys.flatMap (enc t)) = enc t y ++ (ys.flatMap (enc t)).take (i * esz t) := by
    rw [List.take_append, List.take_of_length_le (by rw [jjS, Nat.add_mul]; omega), jjS]
    congr 2
    rw [Nat.add_mul]; omega
   have e2 : List.drop ((i + 1 + 1) * esz t) (enc t y ++ ys.flatMap (enc t)) = (ys.flatMap (enc t)).drop ((i + 1) * esz t) := by
    rw [List.drop_append, List.drop_eq_nil_of_le (by rw [jjS, Nat.add_mul, Nat.add_mul]; omega), jjS, List.nil_append]
    congr 1
    rw [Nat.add_mul (i + 1) 1]; omega
   rw [e1, e2]
   simp only [Nat.add_lt_add_iff_right, List.append_assoc]
def shaK : List Int := [1116352408, 1899447441, 3049323471, 3921009573, 961987163, 1508970993, 2453635748, 2870763221, 3624381080, 310598401, 607225278, 1426881987, 1925078388, 2162078206, 2614888103, 3248222580, 3835390401, 4022224774, 264347078, 604807628, 770255983, 1249150122, 1555081692, 1996064986, 2554220882, 2821834349, 2952996808, 3210313671, 3336571891, 3584528711, 113926993, 338241895, 666307205, 773529912, 1294757372, 1396182291, 1695183700, 1986661051, 2177026350, 2456956037, 2730485921, 2820302411, 3259730800, 3345764771, 3516065817, 3600352804, 4094571909, 275423344, 430227734, 506948616, 659060556, 883997877, 958139571, 1322822218, 1537002063, 1747873779, 1955562222, 2024104815, 2227730452, 2361852424, 2428436474, 2756734187, 3204031479, 3329325298]
def powK : List Int := (List.range 20).map fun i => ((10 ^ i : Nat) : Int)
def TabAt (w : World) (g : Nat) (k : IntKind) (zs : List Int) : Prop := ∃ T fz, w.heap[g]? = some (.cells (zs.map fun z => Value.int k z).toArray T fz)
def gBT : TypeId := 97
def gU8 : TypeId := 5
def gBs : List Nat := [0, 2]
def gOk (w : World) : Prop := TabAt w 0 .u32 shaK ∧ TabAt w 2 .u64 powK
theorem gKeep {w w' : World} (h : ∀ b, b ∈ gBs → w'.heap[b]? = w.heap[b]?) (k : gOk w) : gOk w' := by
 obtain ⟨⟨T0, f0, h0⟩, ⟨T1, f1, h1⟩⟩ := k
 exact ⟨⟨T0, f0, (h 0 (by simp [gBs])).trans h0⟩, ⟨T1, f1, (h 2 (by simp [gBs])).trans h1⟩⟩
theorem TabAt.lt {w : World} {g : Nat} {k : IntKind} {zs : List Int} (h : TabAt w g k zs) : g < w.heap.size := by
 obtain ⟨T, f, h⟩ := h
 exact (Array.getElem?_eq_some_iff.1 h).1
theorem gLt {w : World} (k : gOk w) (b : Nat) (h : b ∈ gBs) : b < w.heap.size := by
 simp only [gBs, List.mem_cons, List.not_mem_nil, or_false] at h
 rcases h with rfl | rfl
 ·exact k.1.lt
 ·exact k.2.lt
inductive Lf : Type where
 | d (v : D)
 | nil (t : Ty)                                  -- the nil slice
 | own (σ s : Nat)                               -- the whole of a row of one's own
 | ptr (σ s off : Nat)                           -- a pointer into a box of one's own
 | rptr (cells : List D) (off : Nat)             -- a pointer to cells that are only read
 | optr (σ s : Nat) (t : Ty) (k off : Nat)       -- a pointer to element k of a row of one's own, its cell 'off'
 | clo (g : FuncId) (caps : List (Nat × Nat))    -- a closure over boxes of one's own
 | cst (v : Value)                               -- just this value
 | fresh (t : Ty) (xs : List (den t))            -- a row that nobody else holds (between caller and callee alone)
 | slf                                           -- in a box's first cell: nil, or the box's own address (strings.Builder)
 | any
inductive AV : Type where
 | lf (l : Lf)
 | agg (ls : List Lf)
inductive SV : Type where
 | av (a : AV)
 | tup (as : List AV)
inductive Site : Type where
 | box (s : Nat) (cells : List Lf)
 | row (s : Nat) (t : Ty) (xs : List (den t))
 | froz (s : Nat) (t : Ty) (xs : List (den t))
 | map (s : Nat) (t : Ty) (es : List (Str × den t))
 | dead (s : Nat)
def Site.stamp : Site → Nat
 | .box s _ | .row s _ _ | .froz s _ _ | .map s _ _ | .dead s => s
def Site.live : Site → Bool
 | .box _ _ | .row _ _ _ | .map _ _ _ => true
 | _ => false
def jjB {α : Type} : List (Nat × α) → Nat → Option α
 | [], _ => none
 | (k, v) :: r, n => bif k.beq n then some v else jjB r n
def upd {α : Type} : List (Nat × α) → Nat → α → List (Nat × α)
 | [], n, v => [(n, v)]
 | (k, w) :: r, n, v => bif k.beq n then (k, v) :: r else (k, w) :: upd r n v
theorem beqF {a b : Nat} (h : ¬ a = b) : a.beq b = false := by
 cases e : a.beq b
 ·rfl
 ·exact absurd (Nat.eq_of_beq_eq_true e) h
theorem jjl {α : Type} (l : List (Nat × α)) (n m : Nat) (v : α) : jjB (upd l n v) m = if n = m then some v else jjB l m := by
 induction l with
 | nil =>
  simp only [upd, jjB]
  by_cases h : n = m
  ·subst h; simp
  ·have : n.beq m = false := beqF h
   simp [this, h]
 | cons p l ih =>
  obtain ⟨k, w⟩ := p
  simp only [upd]
  by_cases h : k = n
  ·subst h
   simp only [Nat.beq_refl, cond_true, jjB]
   by_cases hm : k = m
   ·subst hm; simp
   ·have : k.beq m = false := beqF hm
    simp [this, hm]
  ·have hb : k.beq n = false := beqF h
   simp only [hb, cond_false, jjB]
   by_cases hm : k = m
   ·subst hm
    have : ¬ n = k := fun e => h e.symm
    simp [this]
   ·have : k.beq m = false := beqF hm
    simp [this, ih]
structure St where
 slots : List (Nat × SV)
 sites : List (Nat × Site)
 nt : Nat
def St.get (st : St) (t : Nat) : SV := match jjB st.slots t with | some v => v | none => .av (.lf .any)
def St.site (st : St) (σ : Nat) : Option Site := jjB st.sites σ
def St.set (st : St) (t : Nat) (v : SV) : St := { st with slots := upd st.slots t v }
def St.setSite (st : St) (σ : Nat) (s : Site) : St := { st with sites := upd st.sites σ s }
@[simp] theorem St.get_set (st : St) (t u : Nat) (v : SV) : (st.set t v).get u = if t = u then v else st.get u := by
 unfold St.set St.get
 rw [jjl]
 by_cases h : t = u <;> simp [h]
@[simp] theorem St.site_set (st : St) (t σ : Nat) (v : SV) : (st.set t v).site σ = st.site σ := rfl
@[simp] theorem St.nt_set (st : St) (t : Nat) (v : SV) : (st.set t v).nt = st.nt := rfl
@[simp] theorem St.get_setSite (st : St) (σ u : Nat) (s : Site) : (st.setSite σ s).get u = st.get u := rfl
@[simp] theorem St.site_setSite (st : St) (σ τ : Nat) (s : Site) : (st.setSite σ s).site τ = if σ = τ then some s else st.site τ := by
 unfold St.setSite St.site; simp only [jjl]
@[simp] theorem St.nt_setSite (st : St) (σ : Nat) (s : Site) : (st.setSite σ s).nt = st.nt := rfl
def mv : (t : Ty) → den t → Value
 | .i64, n => .int .i64 n
 | .bool, b => .bool b
 | _, _ => undef
def strV (l : Str) : Value := .string ⟨l.toArray⟩
def jJa (arr : Array MapEntry) : List (Value × Value) := arr.toList.map fun e => (e.key, e.val)
def mapEs (t : Ty) (es : List (Str × den t)) : List (Value × Value) := es.map fun p => (strV p.1, mv t p.2)
def MapAt (w : World) (b : Nat) (t : Ty) (es : List (Str × den t)) : Prop := ∃ arr clock, w.heap[b]? = some (.map arr clock) ∧ jJa arr = mapEs t es
theorem MapAt.of {w w' : World} {b : Nat} {t : Ty} {es : List (Str × den t)} (h : w'.heap[b]? = w.heap[b]?) (m : MapAt w b t es) : MapAt w' b t es := by
 obtain ⟨arr, c, h1, h2⟩ := m
 exact ⟨arr, c, h.trans h1, h2⟩
theorem MapAt.lt {w : World} {b : Nat} {t : Ty} {es : List (Str × den t)} (m : MapAt w b t es) : b < w.heap.size := by
 obtain ⟨arr, c, h1, h2⟩ := m
 rcases Nat.lt_or_ge b w.heap.size with h | h
 ·exact h
 ·rw [Array.getElem?_eq_none h] at h1; cases h1
inductive Rd (w : World) (av : Nat → Prop) : D → Value → Prop where
 | int (k : IntKind) (n : Int) : Rd w av (.int k n) (.int k n)
 | bool (b : Bool) : Rd w av (.bool b) (.bool b)
 | str (l : Str) (s : ByteArray) (h : s.data.toList = l) : Rd w av (.str l) (.string s)
 | nil (t : Ty) : Rd w av (.sl t []) (.slice none 0 0)
 | sl (t : Ty) (xs : List (den t)) (a : Addr) (cap : Nat) (cs : List Value) (n : Nat) (hn : n = xs.length) (hcap : n ≤ cap) (hb : xs ≠ [] → ¬ av a.block)
   (hl : cs.length = (jjM t xs).length)
   (hc : ∀ j u, cs[j]? = some u → w.cell? (a.add j) = some u)
   (hr : ∀ j (h : j < (jjM t xs).length) (h' : j < cs.length), Rd w av ((jjM t xs)[j]) (cs[j])) : Rd w av (.sl t xs) (.slice (some a) n cap)
 | fn (g : FuncId) (caps : List (List D)) (bs : List Nat) (cv : Nat → List Value) (lb : Array Value) (hlb : lb = (bs.map fun b => Value.pointer (some ⟨b, 0, none⟩)).toArray) (hbl : bs.length = caps.length)
   (hb : ∀ b, b ∈ bs → ¬ av b) (hlt : ∀ b, b ∈ bs → b < w.heap.size)
   (hl : ∀ i (h : i < caps.length), (cv i).length = (caps[i]).length)
   (hc : ∀ i (h : i < bs.length) j u, (cv i)[j]? = some u → w.cell? ⟨bs[i], j, none⟩ = some u)
   (hr : ∀ i (h : i < caps.length) j (h1 : j < (caps[i]).length) (h2 : j < (cv i).length), Rd w av ((caps[i])[j]) ((cv i)[j])) :
   Rd w av (.fn g caps) (.func (.func g) #[] lb)
 | mapn (t : Ty) : Rd w av (.map t []) (.map none)
 | map (t : Ty) (es : List (Str × den t)) (b : Nat) (hb : ¬ av b) (hm : MapAt w b t es) : Rd w av (.map t es) (.map (some b))
theorem Rd.oneCell {w : World} {av : Nat → Prop} {d : D} {v : Value} (r : Rd w av d v) : v.oneCell' = true := by
 cases r <;> rfl
def Head (v : Value) : Prop := v = .slice none 0 0 ∨ ∃ b n c, v = .slice (some ⟨b, 0, none⟩) n c
def blk : Value → Option Nat
 | .slice (some a) _ _ => some a.block
 | .pointer (some a) => some a.block
 | .map (some b) => some b
 | _ => none
section
variable (ι : Nat → Value) (sites : List (Nat × Site)) (w : World) (av : Nat → Prop)
def Ref (σ s : Nat) (p : Prop) : Prop := ∃ site, jjB sites σ = some site ∧ s ≤ site.stamp ∧ (site.stamp = s → p)
def LfOk : Lf → Value → Prop
 | .d x, v => Rd w av x v
 | .nil _, v => v = .slice none 0 0
 | .own σ s, v => v.oneCell' = true ∧ Ref sites σ s (v = ι σ)
 | .ptr σ s off, v => ∃ b, v = .pointer (some ⟨b, off, none⟩) ∧ Ref sites σ s (ι σ = .pointer (some ⟨b, 0, none⟩))
 | .rptr cells off, v => ∃ b o, v = .pointer (some ⟨b, o + off, none⟩) ∧ ¬ av b ∧ b < w.heap.size ∧ ∃ cs : List Value, cs.length = cells.length ∧ (∀ j u, cs[j]? = some u → w.cell? ⟨b, o + j, none⟩ = some u) ∧
   ∀ j (h : j < cells.length) (h' : j < cs.length), Rd w av (cells[j]) (cs[j])
 | .optr σ s t k off, v => ∃ b, v = .pointer (some ⟨b, k * esz t + off, none⟩) ∧ Ref sites σ s (∃ n c, ι σ = .slice (some ⟨b, 0, none⟩) n c)
 | .clo g caps, v => ∃ vs : List Value, v = .func (.func g) #[] vs.toArray ∧ vs.length = caps.length ∧ ∀ i (h : i < caps.length) (h' : i < vs.length), Ref sites (caps[i]).1 (caps[i]).2 (vs[i] = ι (caps[i]).1)
 | .cst u, v => v = u
 | .fresh _ _, _ => False
 | .slf, _ => True
 | .any, _ => True
def Ty.isB : Ty → Bool
 | .u8 => true
 | _ => false
def FzOk (u : Bool) (e : TypeId) (cur : Array Value) (fz : Nat × Nat) : Prop := (u = true → e = gU8) ∧ (fz = (0, 0) ∨ u = true ∧ cur.size ≤ fz.1)
def rowAt (w : World) (u : Bool) (e : TypeId) (size : Nat) (v : Value) (n : Nat) (xs : List Value) : Prop :=
 xs.length = n * size ∧ ((v = .slice none 0 0 ∧ n = 0) ∨
  ∃ g cap cur fz, v = .slice (some ⟨g, 0, none⟩) n cap ∧ FzOk u e cur fz ∧ w.heap[g]? = some (.cells cur e fz) ∧ n ≤ cap ∧ cap ≤ maxLen ∧ cur.size = cap * size ∧ cur.toList.take (n * size) = xs)
theorem rowAt_nil (w : World) (u : Bool) (e : TypeId) (size : Nat) : rowAt w u e size (.slice none 0 0) 0 [] := ⟨by simp, .inl ⟨rfl, rfl⟩⟩
def SlfOk (cells : List Lf) (T : TypeId) (cur : List Value) (b : Nat) : Prop := cells.head? = some .slf → T = gBT ∧ (cur.head? = some (.pointer none) ∨ cur.head? = some (.pointer (some ⟨b, 0, none⟩)))
def AVOk : AV → Value → Prop
 | .lf l, v => LfOk ι sites w av l v
 | .agg ls, v => ∃ vs : List Value, v = .agg vs.toArray ∧ vs.length = ls.length ∧ ∀ j (h : j < ls.length) (h' : j < vs.length), LfOk ι sites w av (ls[j]) (vs[j])
def SVOk : SV → Value → Prop
 | .av a, v => AVOk ι sites w av a v
 | .tup as, v => ∃ vs : List Value, v = .tuple vs.toArray ∧ vs.length = as.length ∧ ∀ j (h : j < as.length) (h' : j < vs.length), AVOk ι sites w av (as[j]) (vs[j])
def SiteOk (σ : Nat) : Site → Prop
 | .box _ cells => ∃ b T, ∃ cur : List Value, ι σ = .pointer (some ⟨b, 0, none⟩) ∧ w.heap[b]? = some (.cells cur.toArray T (0, 0)) ∧ cur.length = cells.length ∧
   (∀ u ∈ cur, u.oneCell' = true) ∧ SlfOk cells T cur b ∧ ∀ j (h : j < cells.length) (h' : j < cur.length), LfOk ι sites w av (cells[j]) (cur[j])
 | .row _ t xs => ∃ e, ∃ cs : List Value, rowAt w t.isB e (esz t) (ι σ) xs.length cs ∧ ∀ j (h : j < (jjM t xs).length) (h' : j < cs.length), Rd w av ((jjM t xs)[j]) (cs[j])
 | .froz _ t xs => Rd w av (.sl t xs) (ι σ) ∧ Head (ι σ)
 | .map _ t es => ∃ b, ι σ = .map (some b) ∧ MapAt w b t es
 | .dead _ => True
end
def jjs (sites : List (Nat × Site)) (σ : Nat) : Prop := ∃ site, jjB sites σ = some site ∧ site.live = true
def jjh (X : Nat → Prop) (ι : Nat → Value) (sites : List (Nat × Site)) (b : Nat) : Prop := X b ∨ ∃ σ, jjs sites σ ∧ blk (ι σ) = some b
structure Fr (fb : List Nat) (w0 w : World) : Prop where
 os : w.os = w0.os
 tape : w.tape = w0.tape
 output : w.output = w0.output
 size : w0.heap.size ≤ w.heap.size
 block : ∀ b, b < w0.heap.size → b ∉ fb → w.heap[b]? = w0.heap[b]?
theorem Fr.refl (fb : List Nat) (w : World) : Fr fb w w := ⟨rfl, rfl, rfl, Nat.le_refl _, fun _ _ _ => rfl⟩
structure GlobOk (w : World) (fb : List Nat) (X : Nat → Prop) : Prop where
 ok : gOk w
 fb : ∀ b, b ∈ gBs → b ∉ fb
 X : ∀ b, b ∈ gBs → ¬ X b
 lt : ∀ b, b ∈ gBs → b < w.heap.size
theorem GlobOk.less {w : World} {fb : List Nat} {X X' : Nat → Prop} (G : GlobOk w fb X) (h : ∀ b, b ∈ gBs → X' b → X b) : GlobOk w fb X' := ⟨G.ok, G.fb, fun b hb hx => G.X b hb (h b hb hx), G.lt⟩
theorem GlobOk.less' {w : World} {fb : List Nat} {X X' : Nat → Prop} (G : GlobOk w fb X) (h : ∀ b, X' b → X b ∨ b ∈ fb) : GlobOk w fb X' := ⟨G.ok, G.fb, fun b hb hx => (h b hx).elim (G.X b hb) (G.fb b hb), G.lt⟩
structure Sim (w0 : World) (fb : List Nat) (X : Nat → Prop) (ι : Nat → Value) (st : St) (tm : Array Value) (w : World) : Prop where
 nt : tm.size = st.nt
 slots : ∀ t, SVOk ι st.sites w (jjh X ι st.sites) (st.get t) (tm.getD t undef)
 sites : ∀ σ site, jjB st.sites σ = some site → SiteOk ι st.sites w (jjh X ι st.sites) σ site
 excl : ∀ σ τ b, jjs st.sites σ → jjs st.sites τ → blk (ι σ) = some b → blk (ι τ) = some b → σ = τ
 mine : ∀ σ b, jjs st.sites σ → blk (ι σ) = some b → ¬ X b ∧ (b ∈ fb ∨ w0.heap.size ≤ b)
 frame : Fr fb w0 w
 old : ∀ b, X b → b < w.heap.size
 glob : GlobOk w0 fb X
inductive TI : Type where
 | none
 | int (k : IntKind)
 | bool
 | str
 | ptr
 | func
 | slice (e : TypeId) (t : Ty) (bytes : Nat)
 | struct (fs : List (Nat × Nat)) (n : Nat) (z : List Lf) (eq : Bool)
 | map (k e : TypeId) (t : Ty)
 | arr (e : TypeId) (t : Ty) (n : Nat)
def zt : (t : Ty) → Option (den t)
 | .i64 | .u8 | .u32 => some (0 : Int)
 | .bool => some false
 | .str => some ([] : Str)
 | _ => none
def zlf : Ty → Option Lf
 | .i64 => some (.d (.int .i64 0))
 | .u8 => some (.d (.int .u8 0))
 | .u32 => some (.d (.int .u32 0))
 | .bool => some (.d (.bool false))
 | .str => some (.d (.str []))
 | _ => none
def TI.agg : TI → Bool
 | .struct _ _ _ _ | .arr _ _ _ => true
 | _ => false
def TI.known : TI → Bool
 | .none => false
 | _ => true
def TI.size : TI → Nat
 | .struct _ n _ _ => n
 | .arr _ _ n => n
 | _ => 1
def TI.zero : TI → Option (List Lf)
 | .none => Option.none
 | .int k => some [.d (.int k 0)]
 | .bool => some [.d (.bool false)]
 | .str => some [.d (.str [])]
 | .ptr => some [.cst (.pointer Option.none)]
 | .func => some [.cst .nilFunc]
 | .slice _ t _ => some [.nil t]
 | .struct _ _ z _ => some z
 | .map _ _ _ => some [.cst (.map Option.none)]
 | .arr _ t n => (zlf t).map (List.replicate n)
inductive Arg : Type where
 | av (a : AV)
 | bx (cells : List Lf)
structure SumR : Type 1 where
 Y : Type
 comp : Option Y
 bx : Y → List (List Lf)
 res : Y → List AV
abbrev jjC := List Arg → SumR
def SumR.fail : SumR := ⟨Unit, Option.none, fun _ => [], fun _ => []⟩
structure Ctx : Type 1 where
 tt : TypeId → TI
 fs : FuncId → Option jjC
 sp : FuncId → Option FuncId := fun _ => none
 gv : FuncId → Bool := fun _ => false
 op : FuncId → Bool := fun _ => false
 cc : FuncId → Bool := fun _ => false       -- a Builder's copy check
 bs : FuncId → Bool := fun _ => false       -- a Builder's String
 gt : Nat → Option ((t : Ty) × List (den t)) := fun _ => none     -- the program's tables
structure StepR : Type 1 where
 Y : Type
 comp : Option Y
 val : Y → SV
 us : Y → List (Nat × Site)
 chk : Y → Bool
def StepR.fail : StepR := ⟨Unit, Option.none, fun _ => .av (.lf .any), fun _ => [], fun _ => false⟩
def StepR.ok (v : SV) : StepR := ⟨Unit, some (), fun _ => v, fun _ => [], fun _ => true⟩
def StepR.okU (v : SV) (us : List (Nat × Site)) : StepR := ⟨Unit, some (), fun _ => v, fun _ => us, fun _ => true⟩
def StepR.opt {Y : Type} (c : Option Y) (f : Y → SV) : StepR := ⟨Y, c, f, fun _ => [], fun _ => true⟩
def StepR.optU {Y : Type} (c : Option Y) (f : Y → SV) (us : Y → List (Nat × Site)) : StepR := ⟨Y, c, f, us, fun _ => true⟩
def ix {α : Type} (xs : List α) (i : Int) : Option α := if 0 ≤ i then xs[i.toNat]? else none
def inb (n : Nat) (i : Int) : Option Nat := if 0 ≤ i ∧ i < n then some i.toNat else none
def jq5 {α : Type} (xs : List α) (lo hi : Int) : Option (List α) := if 0 ≤ lo ∧ lo ≤ hi ∧ hi ≤ xs.length then some ((xs.take hi.toNat).drop lo.toNat) else none
def room : Nat := 140737488355328
def apd {α : Type} (bytes : Nat) (xs ys : List α) : Option (List α) := if (xs.length + ys.length) * bytes ≤ room ∧ xs.length + ys.length ≤ maxLen then some (xs ++ ys) else none
def cat (s t : Str) : Option Str := if ((s.length + t.length : Nat) : Int) > IntKind.i64.max then none else some (s ++ t)
def quoI (k : IntKind) (x y : Int) : Option Int := if y = 0 then none else some (k.wrap (x.tdiv y))
def remI (x y : Int) : Option Int := if y = 0 then none else some (x.tmod y)
def shlI (k : IntKind) (x y : Int) : Option Int := if y < 0 then none else some (k.wrap (x * 2 ^ (min y.toNat k.bits)))
def shrI (k : IntKind) (x y : Int) : Option Int := if y < 0 then none else some (x.fdiv (2 ^ (min y.toNat k.bits)))
def mk0 {α : Type} (bytes : Nat) (n c : Int) (z : α) : Option (List α) := if 0 ≤ n ∧ n ≤ c ∧ c * bytes ≤ room ∧ c ≤ maxLen then some (List.replicate n.toNat z) else none
def maxI (x y : Int) : Int := if y > x then y else x
def minI (x y : Int) : Int := if y < x then y else x
def jz3 (k : IntKind) (x y : Int) : Int := k.wrap (BitVec.ofInt k.bits x &&& BitVec.ofInt k.bits y).toNat
def orI (k : IntKind) (x y : Int) : Int := k.wrap (BitVec.ofInt k.bits x ||| BitVec.ofInt k.bits y).toNat
def jxv (k : IntKind) (x y : Int) : Int := k.wrap (BitVec.ofInt k.bits x ^^^ BitVec.ofInt k.bits y).toNat
def jjo (s : Str) : List Int := s.map fun b => (b.toNat : Int)
def jqF (xs : List Int) : Str := xs.map fun n => UInt8.ofNat n.toNat
abbrev one (d : D) : SV := .av (.lf (.d d))
abbrev lfv (l : Lf) : SV := .av (.lf l)
def constSV (ti : TI) : Value → SV
 | .int k n => one (.int k n)
 | .bool b => one (.bool b)
 | .string s => one (.str s.data.toList)
 | .slice none 0 0 => match ti with | .slice _ t _ => lfv (.nil t) | _ => lfv (.cst (.slice none 0 0))
 | .map none => match ti with | .map _ _ t => one (.map t []) | _ => lfv (.cst (.map none))
 | .agg _ | .tuple _ => lfv .any
 | v => lfv (.cst v)
def ev (C : Ctx) (st : St) (T : TypeId) : Operand → SV
 | .tmp t => st.get t
 | .const v => constSV (C.tt T) v
 | .global g => lfv (.cst (.pointer (some ⟨g, 0, none⟩)))
 | .func f => lfv (.clo f [])
def jxC (st : St) (σ s : Nat) : Option ((t : Ty) × List (den t)) :=
 match st.site σ with
 | some (.row s' t xs) => bif s'.beq s then some ⟨t, xs⟩ else none
 | some (.froz s' t xs) => bif s'.beq s then some ⟨t, xs⟩ else none
 | _ => none
def jq4 (st : St) (σ s : Nat) : Option (List Lf) :=
 match st.site σ with
 | some (.box s' cells) => bif s'.beq s then some cells else none
 | _ => none
def mapOf (st : St) : Lf → Option ((t : Ty) × List (Str × den t))
 | .d (.map t es) => some ⟨t, es⟩
 | .own σ s => match st.site σ with
  | some (.map s' t es) => bif s'.beq s then some ⟨t, es⟩ else none
  | _ => none
 | _ => none
def jxJ {α : Type} : List (Str × α) → Str → Option α
 | [], _ => none
 | (k, v) :: r, n => bif k == n then some v else jxJ r n
def mapPut {α : Type} : List (Str × α) → Str → α → List (Str × α)
 | [], n, v => [(n, v)]
 | (k, w) :: r, n, v => bif k == n then (k, v) :: r else (k, w) :: mapPut r n v
def valD : (t : Ty) → D → Option (den t)
 | .i64, .int .i64 n => some n
 | .bool, .bool b => some b
 | _, _ => none
def asVal : (t : Ty) → Option (den t) → Option D
 | .i64, o => some (.int .i64 (o.getD 0))
 | .bool, o => some (.bool (o.getD false))
 | _, _ => none
def jjd (st : St) (σ : Nat) : Nat := match st.site σ with | some x => x.stamp + 1 | none => 0
def frzU (st : St) (σ s : Nat) (t : Ty) (xs : List (den t)) : List (Nat × Site) := match st.site σ with
 | some (.froz _ _ _) => []
 | _ => [(σ, .froz s t xs)]
def dat (st : St) : Lf → Option (D × List (Nat × Site))
 | .d v => some (v, [])
 | .nil t => some (.sl t [], [])
 | .own σ s => match jxC st σ s with | some ⟨t, xs⟩ => some (.sl t xs, frzU st σ s t xs) | none => none
 | .clo g [] => some (.fn g [], [])
 | _ => none
def dats (st : St) : List Lf → Option (List D × List (Nat × Site))
 | [] => some ([], [])
 | l :: ls => match dat st l, dats st ls with
  | some (d, us), some (ds, vs) => some (d :: ds, us ++ vs)
  | _, _ => none
def AV.cells : AV → List Lf
 | .lf l => [l]
 | .agg ls => ls
def Lf.storable : Lf → Bool
 | .any | .slf | .fresh _ _ | .rptr _ _ | .optr _ _ _ _ _ => false
 | .cst (.agg _) | .cst (.tuple _) => false
 | _ => true
def jjz : List Lf → Bool
 | [] => true
 | l :: ls => l.storable && jjz ls
def cut (agg : Bool) (off n : Nat) (ls : List Lf) : Option SV :=
 bif agg then (bif Nat.ble (off + n) ls.length then some (.av (.agg ((ls.drop off).take n))) else none)
 else match ls.drop off with | l :: _ => some (lfv l) | [] => none
def asD (ds : List D) : List Lf := ds.map .d
def splice {α : Type} (old : List α) (off : Nat) (new : List α) : List α := old.take off ++ new ++ old.drop (off + new.length)
def leafEq : D → D → Option Bool
 | .int k a, .int k' b => if k = k' then some (a == b) else none
 | .bool a, .bool b => some (a == b)
 | .str a, .str b => some (a == b)
 | _, _ => none
def cellsEq : List Lf → List Lf → Option Bool
 | [.d a], [.d b] => leafEq a b
 | .d a :: as, .d b :: bs => match leafEq a b, cellsEq as bs with
  | some x, some y => some (x && y)
  | _, _ => none
 | _, _ => none
def intOp (op : BinOp) (k : IntKind) (x y : Int) : StepR :=
 match op with
 | .add => .ok (one (.int k (k.wrap (x + y))))
 | .sub => .ok (one (.int k (k.wrap (x - y))))
 | .mul => .ok (one (.int k (k.wrap (x * y))))
 | .quo => .opt (quoI k x y) fun n => one (.int k n)
 | .rem => .opt (remI x y) fun n => one (.int k n)
 | .and => .ok (one (.int k (jz3 k x y)))
 | .or => .ok (one (.int k (orI k x y)))
 | .xor => .ok (one (.int k (jxv k x y)))
 | .eql => .ok (one (.bool (x == y)))
 | .neq => .ok (one (.bool (x != y)))
 | .lss => .ok (one (.bool (decide (x < y))))
 | .leq => .ok (one (.bool (decide (x ≤ y))))
 | .gtr => .ok (one (.bool (decide (x > y))))
 | .geq => .ok (one (.bool (decide (x ≥ y))))
 | _ => .fail
def strOp (op : BinOp) (s t : Str) : StepR :=
 match op with
 | .add => .opt (cat s t) fun r => one (.str r)
 | .eql => .ok (one (.bool (s == t)))
 | .neq => .ok (one (.bool (!(s == t))))
 | .lss => .ok (one (.bool (Op.bytesLess s t)))
 | .leq => .ok (one (.bool (Op.bytesLess s t || s == t)))
 | .gtr => .ok (one (.bool (!(Op.bytesLess s t || s == t))))
 | .geq => .ok (one (.bool (!(Op.bytesLess s t))))
 | _ => .fail
def intOp2 (op : BinOp) (k : IntKind) (a : Int) (k' : IntKind) (b : Int) : StepR :=
 match op with
 | .shl => .opt (shlI k a b) fun n => one (.int k n)
 | .shr => .opt (shrI k a b) fun n => one (.int k n)
 | op => if k = k' then intOp op k a b else .fail
def boolOp (op : BinOp) (ti : TI) (a b : Bool) : StepR :=
 match ti with
 | .bool => match op with
  | .eql => .ok (one (.bool (a == b)))
  | .neq => .ok (one (.bool (!(a == b))))
  | _ => .fail
 | _ => .fail
def fitZ : List Lf → List Lf → Bool
 | [], [] => true
 | .d (.int _ _) :: z, .d (.int _ _) :: l => fitZ z l
 | .d (.bool _) :: z, .d (.bool _) :: l => fitZ z l
 | .d (.str _) :: z, .d (.str _) :: l => fitZ z l
 | _, _ => false
def aggOp (op : BinOp) (ti : TI) (xs ys : List Lf) : StepR :=
 match ti with
 | .struct _ n z true => bif xs.length.beq n && fitZ z xs then
   match cellsEq xs ys with
   | some b => match op with
    | .eql => .ok (one (.bool b))
    | .neq => .ok (one (.bool (!b)))
    | _ => .fail
   | none => .fail
  else .fail
 | _ => .fail
def binV (op : BinOp) (ti : TI) (x y : SV) : StepR :=
 match x, y with
 | .av (.lf (.d (.int k a))), .av (.lf (.d (.int k' b))) => intOp2 op k a k' b
 | .av (.lf (.d (.str s))), .av (.lf (.d (.str t))) => strOp op s t
 | .av (.lf (.d (.bool a))), .av (.lf (.d (.bool b))) => boolOp op ti a b
 | .av (.agg xs), .av (.agg ys) => aggOp op ti xs ys
 | _, _ => .fail
def loadV (agg : Bool) (n : Nat) (st : St) (a : SV) : StepR :=
 match a with
 | .av (.lf (.ptr σ s off)) => match jq4 st σ s with
  | some cells => match cut agg off n cells with | some v => .ok v | none => .fail
  | none => .fail
 | .av (.lf (.rptr cells off)) => match cut agg off n (asD cells) with | some v => .ok v | none => .fail
 | .av (.lf (.optr σ s u k off)) => match jxC st σ s with
  | some ⟨t, xs⟩ => if t = u ∧ off + n ≤ esz t then .opt (xs[k]?) fun x => match cut agg off n (asD (enc t x)) with | some v => v | none => lfv .any else .fail
  | none => .fail
 | _ => .fail
def storeV (n : Nat) (st : St) (a : SV) (v : AV) : StepR :=
 bif v.cells.length.beq n then
 match a with
 | .av (.lf (.ptr σ s off)) => match jq4 st σ s with
  | some cells => bif Nat.ble (off + n) cells.length && jjz v.cells then .okU (lfv (.cst undef)) [(σ, .box s (splice cells off v.cells))] else .fail
  | none => .fail
 | .av (.lf (.optr σ s u k off)) => match st.site σ with
  | some (.row s' t xs) => bif s'.beq s && Nat.ble (off + n) (esz t) && decide (t = u) then
    match dats st v.cells with
    | some (ds, us) => bif (jjB us σ).isNone then .optU ((xs[k]?).bind fun x => dec t (splice (enc t x) off ds)) (fun _ => lfv (.cst undef)) fun x => us ++ [(σ, .row s t (xs.set k x))] else .fail
    | none => .fail
   else .fail
  | _ => .fail
 | _ => .fail
 else .fail
def jxf (u : Ty) (st : St) (x : SV) (i : Int) : StepR :=
 match x with
 | .av (.lf (.d (.sl t xs))) => if t = u then .opt (ix xs i) fun x => lfv (.rptr (enc t x) 0) else .fail
 | .av (.lf (.own σ s)) => match jxC st σ s with
  | some ⟨t, xs⟩ => if t = u then .opt (inb xs.length i) fun k => lfv (.optr σ s t k 0) else .fail
  | none => .fail
 | _ => .fail
def fieldAddrV (off : Nat) : SV → StepR
 | .av (.lf (.ptr σ s o)) => .ok (lfv (.ptr σ s (o + off)))
 | .av (.lf (.rptr cells o)) => .ok (lfv (.rptr cells (o + off)))
 | .av (.lf (.optr σ s t k o)) => .ok (lfv (.optr σ s t k (o + off)))
 | _ => .fail
def jzJ (dflt : Int) : Option SV → Option Int
 | none => some dflt
 | some (.av (.lf (.d (.int _ n)))) => some n
 | some _ => none
def sliceV (ti : TI) (st : St) (x : SV) (lo hi : Option SV) : StepR :=
 match x with
 | .av (.lf (.d (.str s))) => match ti, jzJ 0 lo, jzJ s.length hi with
  | .str, some l, some h => .opt (jq5 s l h) fun r => one (.str r)
  | _, _, _ => .fail
 | .av (.lf (.d (.sl t xs))) => match ti, jzJ 0 lo, jzJ xs.length hi with
  | .slice _ u _, some l, some h => if t = u then .opt (jq5 xs l h) fun r => one (.sl t r) else .fail
  | _, _, _ => .fail
 | .av (.lf (.nil t)) => match ti, jzJ 0 lo, jzJ 0 hi with
  | .slice _ _ _, some l, some h => .opt (jq5 ([] : List (den t)) l h) fun r => one (.sl t r)
  | _, _, _ => .fail
 | .av (.lf (.own σ s)) => match jxC st σ s with
  | some ⟨t, xs⟩ => match ti, jzJ 0 lo, jzJ xs.length hi with
   | .slice _ u _, some l, some h => if t = u then .optU (jq5 xs l h) (fun r => one (.sl t r)) fun _ => frzU st σ s t xs else .fail
   | _, _, _ => .fail
  | none => .fail
 | _ => .fail
def lenV (ti : TI) (st : St) (x : SV) : StepR :=
 match ti, x with
 | .str, .av (.lf (.d (.str s))) => .ok (one (.int .i64 s.length))
 | .slice _ _ _, .av (.lf (.d (.sl _ xs))) => .ok (one (.int .i64 xs.length))
 | .slice _ _ _, .av (.lf (.nil _)) => .ok (one (.int .i64 0))
 | .slice _ _ _, .av (.lf (.own σ s)) => match jxC st σ s with
  | some ⟨_, xs⟩ => .ok (one (.int .i64 xs.length))
  | none => .fail
 | .map _ _ _, .av (.lf l) => match mapOf st l with
  | some ⟨_, es⟩ => .ok (one (.int .i64 es.length))
  | none => .fail
 | _, _ => .fail
def srcOf (st : St) : SV → Option D
 | .av (.lf (.d (.sl t xs))) => some (.sl t xs)
 | .av (.lf (.d (.str s))) => some (.str s)
 | .av (.lf (.nil t)) => some (.sl t [])
 | .av (.lf (.own σ s)) => match jxC st σ s with | some ⟨t, xs⟩ => some (.sl t xs) | none => none
 | _ => none
def jJo (bytes : Nat) (t : Ty) (dst : Nat) (st : St) (s : SV) (ys : List (den t)) : StepR :=
 match s with
 | .av (.lf (.nil _)) => .optU (apd bytes [] ys) (fun _ => lfv (.own dst (jjd st dst))) fun r => [(dst, .row (jjd st dst) t r)]
 | .av (.lf (.own σ s)) => match st.site σ with
  | some (.row s' t' xs) => bif s'.beq s then
    if h' : t' = t then .optU (apd bytes (h' ▸ xs : List (den t)) ys) (fun _ => lfv (.own dst (jjd (st.setSite σ (.dead s)) dst)))
     fun r => [(σ, .dead s), (dst, .row (jjd (st.setSite σ (.dead s)) dst) t r)]
    else .fail
   else .fail
  | _ => .fail
 | _ => .fail
def appendV (bytes : Nat) (t : Ty) (dst : Nat) (st : St) (s x : SV) : StepR :=
 match srcOf st x with
 | none => .fail
 | some d => match d with
  | .sl u ys => if h : u = t then jJo bytes t dst st s (h ▸ ys : List (den t)) else .fail
  | _ => .fail
def appendS (bytes : Nat) (t : Ty) (dst : Nat) (st : St) (s x : SV) : StepR :=
 match x with
 | .av (.lf (.d (.str y))) => if h : t = .u8 then jJo bytes t dst st s (h ▸ (jjo y : List (den .u8))) else .fail
 | _ => .fail
def decs (t : Ty) (st : St) : List AV → Option (List (den t) × List (Nat × Site))
 | [] => some ([], [])
 | a :: as => match dats st a.cells with
  | some (ds, us) => match dec t ds, decs t st as with
   | some x, some (xs, vs) => some (x :: xs, us ++ vs)
   | _, _ => none
  | none => none
def avOf : SV → Option AV
 | .av a => some a
 | .tup _ => none
def avsOf : List SV → Option (List AV)
 | [] => some []
 | v :: vs => match avOf v, avsOf vs with | some a, some as => some (a :: as) | _, _ => none
def inOrder : Nat → List (Nat × Operand) → Bool
 | _, [] => true
 | n, (i, _) :: r => i.beq n && inOrder (n + 1) r
def jz9 : TI → Bool
 | .int .u8 => true
 | _ => false
def convV (C : Ctx) (src dst : TypeId) (σ : Nat) (st : St) (x : SV) : StepR :=
 match C.tt src, C.tt dst, x with
 | .none, _, _ => .fail
 | _, .int k, .av (.lf (.d (.int _ n))) => .ok (one (.int k (k.wrap n)))
 | _, .str, .av (.lf (.d (.str s))) => .ok (one (.str s))
 | .slice e .u8 _, .str, .av (.lf (.d (.sl .u8 xs))) => bif jz9 (C.tt e) then .ok (one (.str (jqF xs))) else .fail
 | .slice e .u8 _, .str, .av (.lf (.nil _)) => bif jz9 (C.tt e) then .ok (one (.str [])) else .fail
 | .slice e .u8 _, .str, .av (.lf (.own τ s)) => match jxC st τ s with
  | some ⟨.u8, xs⟩ => bif jz9 (C.tt e) then .ok (one (.str (jqF xs))) else .fail
  | _ => .fail
 | .str, .slice e .u8 _, .av (.lf (.d (.str s))) => bif jz9 (C.tt e) then .optU (if s.length ≤ maxLen then some () else none) (fun _ => lfv (.own σ (jjd st σ))) fun _ => [(σ, .row (jjd st σ) .u8 (jjo s))] else .fail
 | _, _, _ => .fail
def jzf (st : St) : List (Nat × Nat) → Option (List (List D) × List (Nat × Site) × List Nat)
 | [] => some ([], [], [])
 | (σ, s) :: r => match jq4 st σ s with
  | some cells => match dats st cells, jzf st r with
   | some (ds, us), some (rest, vs, bs) => some (ds :: rest, us ++ vs, σ :: bs)
   | _, _ => none
  | none => none
def lend (st : St) : Lf → Option (Lf × List (Nat × Site) × List Nat)
 | .rptr cells 0 => some (.rptr cells 0, [], [])
 | .clo g (c :: cs) => match jzf st (c :: cs) with | some (ds, us, bs) => some (.d (.fn g ds), us, bs) | none => none
 | l => match dat st l with | some (d, us) => some (.d d, us, []) | none => none
def lends (st : St) : List Lf → Option (List Lf × List (Nat × Site) × List Nat)
 | [] => some ([], [], [])
 | l :: ls => match lend st l, lends st ls with
  | some (a, us, bs), some (as, vs, cs) => some (a :: as, us ++ vs, bs ++ cs)
  | _, _ => none
def give1 (st : St) : Lf → Option (Lf × List (Nat × Site))
 | .d v => some (.d v, [])
 | .nil t => some (.fresh t [], [])
 | .own σ s => match st.site σ with
  | some (.row s' t xs) => bif s'.beq s then some (.fresh t xs, [(σ, .dead s)]) else none
  | some (.froz s' t xs) => bif s'.beq s then some (.d (.sl t xs), []) else none
  | _ => none
 | .slf => some (.slf, [])
 | .cst v => some (.cst v, [])
 | _ => none
def selfL : List Lf → List Lf
 | .cst (.pointer none) :: r => .slf :: r
 | l => l
def give (st : St) : List Lf → Option (List Lf × List (Nat × Site))
 | [] => some ([], [])
 | l :: ls => match give1 st l, give st ls with
  | some (a, us), some (as, vs) => some (a :: as, us ++ vs)
  | _, _ => none
structure Args where
 as : List Arg
 lent : List (Nat × Site)       -- rows that are lent, as they'd be frozen
 lentB : List Nat               -- boxes that are lent
 gone : List (Nat × Site)       -- boxes that go over, and rows in them
 boxes : List (Nat × Nat)       -- the boxes: site, stamp
def jq8 (st : St) : List SV → Option Args
 | [] => some ⟨[], [], [], [], []⟩
 | .av (.lf (.ptr σ s 0)) :: vs => match jq4 st σ s, jq8 st vs with
  | some cells, some r => match give st cells with
   | some (cs, gone) => some ⟨.bx cs :: r.as, r.lent, r.lentB, ((σ, .dead s) :: gone) ++ r.gone, (σ, s) :: r.boxes⟩
   | none => none
  | _, _ => none
 | .av (.lf l) :: vs => match lend st l, jq8 st vs with
  | some (a, us, bs), some r => some ⟨.av (.lf a) :: r.as, us ++ r.lent, bs ++ r.lentB, r.gone, r.boxes⟩
  | _, _ => none
 | .av (.agg ls) :: vs => match lends st ls, jq8 st vs with
  | some (as, us, bs), some r => some ⟨.av (.agg as) :: r.as, us ++ r.lent, bs ++ r.lentB, r.gone, r.boxes⟩
  | _, _ => none
 | _ :: _ => none
def giveOr (st : St) : Lf → Option (Lf × List (Nat × Site) × List (Nat × Site) × List Nat)
 | .own σ s => match give1 st (.own σ s) with | some (a, us) => some (a, us, [], []) | none => none
 | .nil t => some (.fresh t [], [], [], [])
 | l => match lend st l with | some (a, us, bs) => some (a, [], us, bs) | none => none
def jxp (st : St) : List SV → Option Args
 | [] => some ⟨[], [], [], [], []⟩
 | .av (.lf l) :: vs => match giveOr st l, jxp st vs with
  | some (a, us, ls, bs), some r => some ⟨.av (.lf a) :: r.as, ls ++ r.lent, bs ++ r.lentB, us ++ r.gone, r.boxes⟩
  | _, _ => none
 | _ :: _ => none
def mkArgsV (b : Bool) (st : St) (vs : List SV) : Option Args := bif b then jxp st vs else jq8 st vs
def Ty.slicey : Ty → Bool
 | .pack | .recipe | .hunk | .bools => true
 | _ => false
def Lf.slicey : Lf → Bool
 | .d (.sl _ _) | .d (.fn _ _) | .d (.map _ _) => true
 | .d _ => false
 | .fresh t _ => t.slicey
 | .slf | .cst _ => false
 | _ => true
def jxQ : List Lf → Bool
 | [] => false
 | l :: ls => l.slicey || jxQ ls
def jxi : List AV → Bool
 | [] => false
 | a :: as => jxQ a.cells || jxi as
def jxh : List (List Lf) → Bool
 | [] => false
 | a :: as => jxQ a || jxh as
def take (st : St) (n : Nat) : List Lf → List Lf × List (Nat × Site)
 | [] => ([], [])
 | .fresh t xs :: ls => let r := take st (n + 1) ls; (.own n (jjd st n) :: r.1, (n, .row (jjd st n) t xs) :: r.2)
 | l :: ls => let r := take st (n + 1) ls; (l :: r.1, r.2)
def jqj (st : St) (n : Nat) : List AV → List AV × List (Nat × Site)
 | [] => ([], [])
 | .lf l :: as => let x := take st n [l]; let r := jqj st (n + 100) as; ((match x.1 with | [l'] => .lf l' | ls => .agg ls) :: r.1, x.2 ++ r.2)
 | .agg ls :: as => let x := take st n ls; let r := jqj st (n + 100) as; (.agg x.1 :: r.1, x.2 ++ r.2)
def jxA (st : St) : List (Nat × Nat) → List (List Lf) → List (Nat × Site)
 | (σ, s) :: bs, cs :: css => let x := take st (1000000 + σ * 100) cs; x.2 ++ (σ, .box s x.1) :: jxA st bs css
 | _, _ => []
def resSV : List AV → SV
 | [a] => .av a
 | as => .tup as
def jjF {α : Type} : List (Nat × α) → List Nat
 | [] => []
 | p :: r => p.1 :: jjF r
def memN (n : Nat) : List Nat → Bool
 | [] => false
 | m :: r => n.beq m || memN n r
def jqk : List Nat → Bool
 | [] => true
 | n :: r => !memN n r && jqk r
def jqT : List Nat → List Nat → Bool
 | [], _ => true
 | n :: r, l => !memN n l && jqT r l
def callV (dst : Nat) (st : St) (S : jjC) (a : Args) : StepR :=
 let r := S a.as
 {Y := r.Y, comp := r.comp
  val := fun y => resSV (jqj st (2000000 + dst * 10000) (r.res y)).1
  us := fun y => (bif jxi (r.res y) || jxh (r.bx y) then a.lent else []) ++ a.gone ++ jxA st a.boxes (r.bx y) ++ (jqj st (2000000 + dst * 10000) (r.res y)).2
  chk := fun y => jqk (jjF a.gone) && jqT (jjF a.lent ++ a.lentB) (jjF a.gone) && jqk (jjF (jxA st a.boxes (r.bx y) ++ (jqj st (2000000 + dst * 10000) (r.res y)).2)) &&
   jqT (jjF a.lent ++ a.lentB) (jjF (jxA st a.boxes (r.bx y) ++ (jqj st (2000000 + dst * 10000) (r.res y)).2)) && (!(jxi (r.res y) || jxh (r.bx y)) || a.lentB.isEmpty) }
def callee (v : SV) : Option (FuncId × List (Nat × Nat)) :=
 match v with
 | .av (.lf (.clo g caps)) => some (g, caps)
 | _ => none
def evs (C : Ctx) (st : St) : List Operand → List TypeId → List SV
 | [], _ => []
 | x :: xs, [] => ev C st 0 x :: evs C st xs []
 | x :: xs, T :: Ts => ev C st T x :: evs C st xs Ts
def jx8 : List (List D) → List Arg
 | [] => []
 | c :: cs => .av (.lf (.rptr c 0)) :: jx8 cs
def splitV (g : FuncId) (n : Nat) (st : St) : List SV → StepR
 | [.av (.lf (.d (.str s))), .av (.lf (.d (.str p)))] => .okU (lfv (.clo g [(n, jjd st n), (n + 1, jjd st (n + 1)), (n + 2, jjd st (n + 2))]))
   [(n, .box (jjd st n) [.d (.str p)]), (n + 1, .box (jjd st (n + 1)) [.d (.str s)]), (n + 2, .box (jjd st (n + 2)) [.d (.int .i64 0)])]
 | _ => .fail
def copyV (st : St) : List SV → StepR
 | [.av (.lf (.ptr σ s 0))] => match st.site σ with
  | some (.box s' [.slf, l]) => bif s'.beq s then .okU (.tup []) [(σ, .box s [.slf, l])] else .fail
  | _ => .fail
 | _ => .fail
def stringV (st : St) : List SV → StepR
 | [.av (.lf (.ptr σ s 0))] => match jq4 st σ s with
  | some [_, .nil .u8] => .ok (one (.str []))
  | some [_, .own τ u] => match st.site τ with
   | some (.row u' .u8 xs) => bif u'.beq u then .okU (one (.str (jqF xs))) [(τ, .froz u .u8 xs)] else .fail
   | _ => .fail
  | _ => .fail
 | _ => .fail
def openV (n : Nat) (st : St) : List SV → StepR
 | [.av (.lf (.d (.sl .u8 xs)))] => .okU (lfv (.ptr n (jjd st n) 0)) [(n, .box (jjd st n) [.d (.sl .u8 (xs.take 2000)), .d (.int .i64 0)])]
 | _ => .fail
def jqU (C : Ctx) (dst : Nat) (st : St) (f : SV) (vs : List SV) : StepR :=
  match f with
  | .av (.lf (.clo g caps)) => match C.sp g with
   | some g' => match caps with
    | [] => splitV g' (3000000 + dst * 10) st vs
    | _ => .fail
   | none => bif C.op g then (match caps with
    | [] => openV (4000000 + dst) st vs
    | _ => .fail) else bif C.cc g then (match caps with
    | [] => copyV st vs
    | _ => .fail) else bif C.bs g then (match caps with
    | [] => stringV st vs
    | _ => .fail) else match C.fs g, mkArgsV (C.gv g) st vs, jzf st caps with
    | some S, some a, some (cs, us, bs) => callV dst st S { a with as := a.as ++ jx8 cs, lent := a.lent ++ us, lentB := a.lentB ++ bs }
    | _, _, _ => .fail
  | .av (.lf (.d (.fn g caps))) => match C.fs g, jq8 st vs with
    | some S, some a => callV dst st S { a with as := a.as ++ jx8 caps }
    | _, _ => .fail
  | _ => .fail
def arrL (t : Ty) (xs : List (den t)) (n : Nat) : List Lf := match zt t with
 | some z => (List.range n).flatMap fun j => asD (enc t (xs.getD j z))
 | none => []
def decA (t : Ty) : List Lf → Option (List (den t))
 | [] => some []
 | .d d :: ls => match dec t [d], decA t ls with
  | some x, some xs => some (x :: xs)
  | _, _ => none
 | _ => none
def jq9 {α : Type} (n : Nat) (xs : List α) : Option (List α) := if xs.length = n then some xs else none
def newA (σ : Nat) (st : St) (t : Ty) (n : Nat) (xs : List (den t)) : StepR := bif xs.length.beq n && Nat.ble n 1000 then .okU (lfv (.optr σ (jjd st σ) t 0 0)) [(σ, .row (jjd st σ) t xs)] else .fail
def allocA (σ : Nat) (st : St) (t : Ty) (n : Nat) : StepR := match zt t with
 | some z => newA σ st t n (List.replicate n z)
 | none => .fail
def boxA (σ : Nat) (st : St) (t : Ty) (n : Nat) (v : SV) : StepR := match v with
 | .av (.agg ls) => match decA t ls with
  | some xs => newA σ st t n xs
  | none => .fail
 | _ => .fail
def loadA (st : St) (t : Ty) (n : Nat) (a : SV) : StepR := match a with
 | .av (.lf (.optr σ s u 0 0)) => match jxC st σ s with
  | some ⟨t', xs⟩ => if t' = t ∧ t' = u then .opt (jq9 n xs) fun xs => .av (.agg (arrL t' xs n)) else .fail
  | none => .fail
 | _ => .fail
def storeA (st : St) (t : Ty) (n : Nat) (a : SV) (v : AV) : StepR := match a, v with
 | .av (.lf (.optr σ s u 0 0)), .agg ls => match st.site σ with
  | some (.row s' t' xs) => if t' = t ∧ t' = u ∧ s' = s then (match decA t' ls with
   | some ys => bif ys.length.beq n then .optU (jq9 n xs) (fun _ => lfv (.cst undef)) fun _ => [(σ, .row s t' ys)] else .fail
   | none => .fail) else .fail
  | _ => .fail
 | _, _ => .fail
def jxg (C : Ctx) (st : St) (t : Ty) (n : Nat) (x : SV) (i : Int) : StepR := match x with
 | .av (.lf (.optr σ s u 0 0)) => match jxC st σ s with
  | some ⟨t', xs⟩ => if t' = t ∧ t' = u then .opt ((jq9 n xs).bind fun xs => inb xs.length i) fun k => lfv (.optr σ s t' k 0) else .fail
  | none => .fail
 | .av (.lf (.cst (.pointer (some ⟨g, 0, none⟩)))) => match C.gt g with
  | some ⟨t', xs⟩ => bif decide (t' = t) && xs.length.beq n then .opt (ix xs i) fun x => lfv (.rptr (enc t' x) 0) else .fail
  | none => .fail
 | _ => .fail
def indexA (t : Ty) (n : Nat) (x : SV) (i : Int) : StepR := match x with
 | .av (.agg ls) => match decA t ls with
  | some xs => bif xs.length.beq n then .opt (ix xs i) fun x => (match enc t x with | [d] => lfv (.d d) | _ => lfv .any) else .fail
  | none => .fail
 | _ => .fail
def sliceA (st : St) (t : Ty) (n : Nat) (x : SV) (lo hi : Option SV) : StepR := match x with
 | .av (.lf (.optr σ s u 0 0)) => match jxC st σ s, jzJ 0 lo, jzJ n hi with
  | some ⟨t', xs⟩, some l, some h => if t' = t ∧ t' = u then .optU ((jq9 n xs).bind fun xs => jq5 xs l h) (fun r => lfv (.d (.sl t' r))) fun _ => frzU st σ s t' xs else .fail
  | _, _, _ => .fail
 | _ => .fail
def mapStep (C : Ctx) (st : St) (o : Oper) : StepR :=
 match o.op with
 | .makeMap t r => match o.dst, C.tt t with
  | some σ, .map _ _ ty => match r with
   | none => .okU (lfv (.own σ (jjd st σ))) [(σ, .map (jjd st σ) ty [])]
   | some x => match ev C st 0 x with
    | .av (.lf (.d (.int _ _))) => .okU (lfv (.own σ (jjd st σ))) [(σ, .map (jjd st σ) ty [])]
    | _ => .fail
  | _, _ => .fail
 | .mapUpdate t m k x => mapSet C st t m k x
 | .insert t m k x => mapSet C st t m k x
 | .lookup t m k c => match C.tt t, ev C st t m, ev C st 0 k with
  | .map _ _ ty, .av (.lf l), .av (.lf (.d (.str n))) => match mapOf st l with
   | some ⟨u, es⟩ => bif decide (u = ty) then (match asVal u (jxJ es n) with
    | some d => .ok (bif c then .tup [.lf (.d d), .lf (.d (.bool (jxJ es n).isSome))] else one d)
    | none => .fail) else .fail
   | none => .fail
  | _, _, _ => .fail
 | _ => .fail
where
 mapSet (C : Ctx) (st : St) (t : TypeId) (m k x : Operand) : StepR := match C.tt t, ev C st t m, ev C st 0 k, ev C st 0 x with
  | .map _ _ ty, .av (.lf (.own σ s)), .av (.lf (.d (.str n))), .av (.lf (.d d)) => match st.site σ with
   | some (.map s' u es) => bif s'.beq s && decide (u = ty) then (match valD u d with
    | some v => .okU (lfv (.cst undef)) [(σ, .map s u (mapPut es n v))]
    | none => .fail) else .fail
   | _ => .fail
  | _, _, _, _ => .fail
def step (C : Ctx) (st : St) (o : Oper) : StepR :=
 match o.op with
 | .move x | .assign x => .ok (ev C st o.type x)
 | .pick c a b => match ev C st o.type c with
  | .av (.lf (.d (.bool true))) => .ok (ev C st o.type a)
  | .av (.lf (.d (.bool false))) => .ok (ev C st o.type b)
  | _ => .fail
 | .alloc elem => match o.dst, C.tt elem with
  | some σ, .arr _ t n => allocA σ st t n
  | some σ, ti => match ti.zero with
   | some z => .okU (lfv (.ptr σ (jjd st σ) 0)) [(σ, .box (jjd st σ) (bif elem.beq gBT then selfL z else z))]
   | none => .fail
  | _, _ => .fail
 | .box elem x => match o.dst, C.tt elem with
  | some σ, .arr _ t n => boxA σ st t n (ev C st elem x)
  | some σ, _ => match avOf (ev C st elem x) with
   | some a => bif jjz a.cells then .okU (lfv (.ptr σ (jjd st σ) 0)) [(σ, .box (jjd st σ) a.cells)] else .fail
   | none => .fail
  | _, _ => .fail
 | .build t parts => match C.tt t with
  | .struct fs _ z _ => buildV C st fs z parts.toList
  | .arr _ ty n => match zlf ty with
   | some z => buildV C st ((List.range n).map fun j => (j, 1)) (List.replicate n z) parts.toList
   | none => .fail
  | _ => .fail
 | .buildSlice t len parts => match o.dst, C.tt t with
  | some σ, .slice e ty _ => bif parts.toList.length.beq len && inOrder 0 parts.toList && Nat.ble (len * esz ty) 1000 then
    match avsOf (parts.toList.map fun p => ev C st e p.2) with
    | some as => match decs ty st as with
     | some (xs, us) => .okU (lfv (.own σ (jjd st σ))) (us ++ [(σ, .row (jjd st σ) ty xs)])
     | none => .fail
    | none => .fail
   else .fail
  | _, _ => .fail
 | .load t a => match C.tt t with
  | .arr _ ty n => loadA st ty n (ev C st t a)
  | ti => bif ti.known then loadV ti.agg ti.size st (ev C st t a) else .fail
 | .store t a x => match avOf (ev C st t x) with
  | some v => match C.tt t with
   | .arr _ ty n => storeA st ty n (ev C st t a) v
   | ti => bif ti.known then storeV ti.size st (ev C st t a) v else .fail
  | none => .fail
 | .nilCheck x => match ev C st o.type x with
  | .av (.lf (.ptr σ s f)) => .ok (lfv (.ptr σ s f))
  | .av (.lf (.rptr cs f)) => .ok (lfv (.rptr cs f))
  | .av (.lf (.optr σ s t k f)) => .ok (lfv (.optr σ s t k f))
  | _ => .fail
 | .binOp op t x y _ => binV op (C.tt t) (ev C st t x) (ev C st t y)
 | .unOp op _ x => match op, ev C st o.type x with
  | .not, .av (.lf (.d (.bool b))) => .ok (one (.bool (!b)))
  | .neg, .av (.lf (.d (.int k n))) => .ok (one (.int k (k.wrap (0 - n))))
  | .xor, .av (.lf (.d (.int k n))) => .ok (one (.int k (jxv k (if k.signed then -1 else k.max) n)))
  | _, _ => .fail
 | .convert src dst x => (match o.dst with | some σ => convV C src dst σ st (ev C st src x) | none => .fail)
 | .makeFunc fn first captured => match fn with
  | .func g => bif first.toList.isEmpty then (match cloOf C st captured.toList with | some caps => .ok (lfv (.clo g caps)) | none => .fail) else .fail
  | _ => .fail
 | .makeSlice t l c => match o.dst, C.tt t, ev C st 0 l, ev C st 0 c with
  | some σ, .slice e ty bytes, .av (.lf (.d (.int _ n))), .av (.lf (.d (.int _ m))) => match (C.tt e).zero with
   | some z => match dats st z with
    | some (ds, _) => match dec ty ds with
     | some z' => .optU (mk0 bytes n m z') (fun _ => lfv (.own σ (jjd st σ))) fun r => [(σ, .row (jjd st σ) ty r)]
     | none => .fail
    | none => .fail
   | none => .fail
  | _, _, _, _ => .fail
 | .slice t x lo hi mx => match mx with
  | none => match C.tt t with
   | .arr _ ty n => sliceA st ty n (ev C st t x) (lo.map (ev C st 0)) (hi.map (ev C st 0))
   | ti => sliceV ti st (ev C st t x) (lo.map (ev C st 0)) (hi.map (ev C st 0))
  | some _ => .fail
 | .fieldAddr s x f => match C.tt s with
  | .struct fs _ _ _ => match fs[f]? with
   | some (off, _) => fieldAddrV off (ev C st 0 x)
   | none => .fail
  | _ => .fail
 | .indexAddr t x i => match C.tt t, ev C st 0 i with
  | .slice _ ty _, .av (.lf (.d (.int _ n))) => jxf ty st (ev C st t x) n
  | .arr _ ty m, .av (.lf (.d (.int _ n))) => jxg C st ty m (ev C st t x) n
  | _, _ => .fail
 | .index t x i => match C.tt t, ev C st t x, ev C st 0 i with
  | .str, .av (.lf (.d (.str s))), .av (.lf (.d (.int _ n))) => .opt (ix s n) fun b => one (.int .u8 b.toNat)
  | .arr _ ty m, v, .av (.lf (.d (.int _ n))) => indexA ty m v n
  | _, _, _ => .fail
 | .extract t i => match ev C st 0 t with
  | .tup as => match as[i]? with
   | some a => .ok (.av a)
   | none => .fail
  | _ => .fail
 | .call c => match c.callee with
  | .value f => match o.dst with
   | some d => jqU C d st (ev C st 0 f) (evs C st c.args.toList c.argTypes.toList)
   | none => jqU C 0 st (ev C st 0 f) (evs C st c.args.toList c.argTypes.toList)
  | .builtin b => match b, o.dst, c.args.toList, c.argTypes.toList with
   | .len, _, [x], [t] => lenV (C.tt t) st (ev C st t x)
   | .append, some σ, [s, x], [t, u] => match C.tt t, C.tt u with
    | .slice _ ty bytes, .slice _ _ _ => appendV bytes ty σ st (ev C st t s) (ev C st u x)
    | .slice _ ty bytes, .str => appendS bytes ty σ st (ev C st t s) (ev C st u x)
    | _, _ => .fail
   | .max, _, [x, y], _ => match ev C st o.type x, ev C st o.type y with
    | .av (.lf (.d (.int k a))), .av (.lf (.d (.int _ b))) => .ok (one (.int k (maxI a b)))
    | _, _ => .fail
   | .min, _, [x, y], _ => match ev C st o.type x, ev C st o.type y with
    | .av (.lf (.d (.int k a))), .av (.lf (.d (.int _ b))) => .ok (one (.int k (minI a b)))
    | _, _ => .fail
   | _, _, _, _ => .fail
  | _ => .fail
 | _ => mapStep C st o
where
 buildV (C : Ctx) (st : St) (fs : List (Nat × Nat)) : List Lf → List (Nat × Operand) → StepR
  | z, [] => .ok (.av (.agg z))
  | z, (i, x) :: r => match fs[i]?, avOf (ev C st 0 x) with
   | some (off, n), some a => bif a.cells.length.beq n && jjz a.cells && Nat.ble (off + n) z.length then buildV C st fs (splice z off a.cells) r else .fail
   | _, _ => .fail
 cloOf (C : Ctx) (st : St) : List Operand → Option (List (Nat × Nat))
  | [] => some []
  | x :: r => match ev C st 0 x, cloOf C st r with
   | .av (.lf (.ptr σ s 0)), some l => some ((σ, s) :: l)
   | _, _ => none
def nilCmp (C : Ctx) (st : St) (o : Oper) : Option (((t : Ty) × List (den t)) × Bool) :=
 match o.op with
 | .binOp op T x (.const (.slice none 0 0)) _ => match C.tt T with
  | .slice _ _ _ => match op with
   | .eql => match ev C st T x with
    | .av (.lf (.d (.sl t xs))) => some (⟨t, xs⟩, false)
    | _ => none
   | .neq => match ev C st T x with
    | .av (.lf (.d (.sl t xs))) => some (⟨t, xs⟩, true)
    | _ => none
   | _ => none
  | _ => none
 | _ => none
def Lf.names : Lf → List Nat
 | .own σ _ | .ptr σ _ _ | .optr σ _ _ _ _ => [σ]
 | .clo _ caps => jjF caps
 | _ => []
def jjr : List Lf → List Nat
 | [] => []
 | l :: ls => l.names ++ jjr ls
def jz2 : List AV → List Nat
 | [] => []
 | a :: as => jjr a.cells ++ jz2 as
def SV.names : SV → List Nat
 | .av a => jjr a.cells
 | .tup as => jz2 as
def siteNames (st : St) (σ : Nat) : List Nat := match st.site σ with
 | some (.box _ cells) => jjr cells
 | _ => []
def jqN (st : St) : List Nat → List Nat
 | [] => []
 | σ :: r => σ :: (siteNames st σ ++ jqN st r)
def opnds : Op → List Operand
 | .move x | .assign x | .box _ x | .load _ x | .nilCheck x | .unOp _ _ x | .convert _ _ x | .fieldAddr _ x _ | .extract x _ => [x]
 | .pick c a b => [c, a, b]
 | .build _ ps | .buildSlice _ _ ps => ps.toList.map (·.2)
 | .store _ a v | .binOp _ _ a v _ | .makeSlice _ a v | .indexAddr _ a v | .index _ a v => [a, v]
 | .makeFunc _ _ captured => captured.toList
 | .slice _ x l h _ => x :: (l.toList ++ h.toList)
 | .call c => (match c.callee with | .value f => [f] | _ => []) ++ c.args.toList
 | .lookup _ m k _ => [m, k]
 | .mapUpdate _ m k x | .insert _ m k x => [m, k, x]
 | .makeMap _ r => r.toList
 | _ => []
def jxY (st : St) : List Operand → List Nat
 | [] => []
 | .tmp t :: r => (st.get t).names ++ jxY st r
 | _ :: r => jxY st r
def jzw : List Operand → List Nat
 | [] => []
 | .tmp t :: r => t :: jzw r
 | _ :: r => jzw r
def isCall : Op → Bool
 | .call c => match c.callee with
  | .value _ => true
  | _ => false
 | _ => false
def zeroN (C : Ctx) : Op → List Nat
 | .makeSlice t _ _ => match C.tt t with
  | .slice e _ _ => match (C.tt e).zero with
   | some z => jjr z
   | none => []
  | _ => []
 | _ => []
def looks : Op → Bool
 | .load _ _ | .store _ _ _ | .slice _ _ _ _ _ | .indexAddr _ _ _ | .convert _ _ _ | .buildSlice _ _ _ | .call _ | .lookup _ _ _ _ | .mapUpdate _ _ _ _ | .insert _ _ _ _ => true
 | _ => false
def footN (C : Ctx) (st : St) (o : Oper) : List Nat := (bif looks o.op then jqN st (jxY st (opnds o.op)) else []) ++ o.dst.toList ++ zeroN C o.op
def moversOf (u : Nat) : List Oper → List Nat
 | [] => []
 | o :: r => (match o.op, o.dst with
  | .move (.tmp t), some d => bif Nat.beq d u then [t] else []
  | _, _ => []) ++ moversOf u r
def slicedOf (all : List Oper) : List Oper → List Nat
 | [] => []
 | o :: r => (match o.op with
  | .slice _ (.tmp u) _ _ _ => u :: moversOf u all
  | _ => []) ++ slicedOf all r
def frzAt (st : St) (t : Nat) : List (Nat × Site) := match st.get t with
 | .av (.lf (.own σ s)) => match st.site σ with
  | some (.row s' t xs) => bif s'.beq s then [(σ, .froz s' t xs)] else []
  | _ => []
 | _ => []
def frzAts (st : St) : List Nat → List (Nat × Site)
 | [] => []
 | t :: r => frzAt st t ++ frzAts st r
def St.upds (st : St) : List (Nat × Site) → St
 | [] => st
 | (σ, s) :: r => (st.setSite σ s).upds r
def St.app (st : St) (dst : Option Nat) (v : SV) (us : List (Nat × Site)) : St :=
 match dst with
 | some t => (st.upds us).set t v
 | none => st.upds us
def jjJ (st : St) : Option Nat → Bool
 | some t => Nat.blt t st.nt
 | none => true
abbrev undefV : SV := lfv (.cst undef)
section
variable {R : Type}
open Classical in
noncomputable def jxT {t : Ty} (xs : List (den t)) (a b : Option R) : Option R := if xs = [] → a = b then b else none
def jxI (C : Ctx) (st : St) (o : Oper) (K : St → Option R) : Option R :=
 bif jjJ st o.dst then (step C st o).comp.bind fun y => bif (step C st o).chk y then K (st.app o.dst ((step C st o).val y) ((step C st o).us y)) else none else none
noncomputable def runOp (C : Ctx) (st : St) (o : Oper) (K : St → Option R) : Option R :=
 match nilCmp C st o with
 | some (⟨t, xs⟩, neg) => bif jjJ st o.dst then jxT xs (K (st.app o.dst (one (.bool (!neg))) [])) (K (st.app o.dst (one (.bool neg)) [])) else none
 | none => jxI C st o K
def skipOp (st : St) (o : Oper) (K : St → Option R) : Option R :=
 bif jjJ st o.dst then K (st.app o.dst undefV []) else none
noncomputable def guardOp (C : Ctx) (ops : Array Oper) (st : St) (o : Oper) (K : St → Option R) : Option R :=
 match o.guard with
 | none => runOp C st o K
 | some (j, want) => match (ops[j]?).bind (·.dst) with
  | some t => match st.get t with
   | .av (.lf (.d (.bool b))) => bif (bif want then b else !b) then runOp C (st.set t (one (.bool want))) o K else skipOp (st.set t (one (.bool (!want)))) o K
   | .av (.lf (.cst (.tuple _))) => skipOp st o K
   | _ => none
  | none => none
noncomputable def runOps (C : Ctx) (ops : Array Oper) : List Oper → St → (St → Option R) → Option R
 | [], st, K => K st
 | o :: r, st, K => guardOp C ops st o fun st' => runOps C ops r st' K
structure Rec where
 o : Oper
 go : Bool
 v : SV
 us : List (Nat × Site)
 rs : List Nat
 rn : List Nat
 big : Bool
def anyBig : List Nat → Bool
 | [] => false
 | n :: r => Nat.ble 1000000 n || anyBig r
def memO (d : Option Nat) (l : List Nat) : Bool := match d with | some d => memN d l | none => false
def hits (a b : Rec) : Bool :=
 memO a.o.dst b.rs || memO a.o.dst b.o.dst.toList || memO b.o.dst a.rs ||
 !jqT (jjF a.us) (b.rn ++ jjF b.us) || !jqT (jjF b.us) a.rn || (a.big && anyBig (jjF b.us)) || (b.big && anyBig (jjF a.us))
def befOf (acc : List (Nat × Rec × List Nat)) : List Edge → List Nat
 | [] => []
 | e :: r => bif Region.binds .any e then (match jjB acc e.on with | some x => e.on :: (x.2 ++ befOf acc r) | none => befOf acc r) else befOf acc r
def edgesOk (i : Nat) : List Edge → Bool
 | [] => true
 | e :: r => (!Region.binds .any e || Nat.blt e.on i) && edgesOk i r
def okWith (bef : List Nat) (x : Rec) : List (Nat × Rec × List Nat) → Bool
 | [] => true
 | (j, y, _) :: r => (memN j bef || !hits y x) && okWith bef x r
def isGuard (i : Nat) : List Oper → Bool
 | [] => false
 | o :: r => (match o.guard with | some (j, _) => Nat.beq i j | none => false) || isGuard i r
def litB (g : Bool) (v : SV) (K : SV → Option R) : Option R :=
 bif g then (match v with
  | .av (.lf (.d (.bool b))) => bif b then K (one (.bool true)) else K (one (.bool false))
  | v => K v) else K v
def drawRun (C : Ctx) (g : Bool) (st : St) (o : Oper) (gs : List Nat) (K : Rec → Option R) : Option R :=
 (step C st o).comp.bind fun y => bif (step C st o).chk y then litB g ((step C st o).val y) fun v =>
  K ⟨o, true, v, (step C st o).us y, gs ++ jzw (opnds o.op), footN C st o, isCall o.op⟩ else none
def drawSkip (o : Oper) (gs : List Nat) (K : Rec → Option R) : Option R := K ⟨o, false, undefV, [], gs, [], false⟩
def drawOp (C : Ctx) (ops : Array Oper) (g : Bool) (st : St) (o : Oper) (K : Rec → Option R) : Option R :=
 match o.guard with
 | none => drawRun C g st o [] K
 | some (j, want) => match (ops[j]?).bind (·.dst) with
  | some t => match st.get t with
   | .av (.lf (.d (.bool b))) => bif (bif want then b else !b) then drawRun C g st o [t] K else drawSkip o [t] K
   | .av (.lf (.cst (.tuple _))) => drawSkip o [t] K
   | _ => none
  | none => none
def drawGo (C : Ctx) (ops : Array Oper) : List Oper → Nat → List (Nat × Rec × List Nat) → St → (St → Option R) → Option R
 | [], _, _, st, K => K st
 | o :: r, i, acc, st, K => bif jjJ st o.dst && edgesOk i o.after.toList then drawOp C ops (isGuard i r) st o fun x =>
   bif okWith (befOf acc o.after.toList) x acc then drawGo C ops r (i + 1) ((i, x, befOf acc o.after.toList) :: acc) (st.app o.dst x.v x.us) K else none
  else none
def drawOps (C : Ctx) (ops : Array Oper) (st : St) (K : St → Option R) : Option R := drawGo C ops ops.toList 0 [] (st.upds (frzAts st (slicedOf ops.toList ops.toList))) K
inductive Out : Type where
 | norm (st : St)
 | exit (id : Nat) (st : St)
 | ret (st : St)
structure OutR : Type 1 where
 Y : Type
 comp : Option Y
 out : Y → Out
 run : (R : Type) → Y → (Out → Option R) → Option R
 run_eq : ∀ (R : Type) (y : Y) (K : Out → Option R), run R y K = K (out y)
abbrev Orc := St → OutR
structure CtxC : Type 1 extends Ctx where
 orc : Nat → Option Orc
def wrap (C : CtxC) (p : Nat) (st : St) (K : Out → Option R) (x : Option R) : Option R :=
 match C.orc p with
 | some f => (f st).comp.bind fun y => (f st).run R y K
 | none => x
noncomputable def jz0 (C : CtxC) : Code → Nat → St → (Out → Option R) → Option R
 | .skip, _, st, K => K (.norm st)
 | .region _ ops false, p, st, K => wrap C p st K (runOps C.toCtx ops ops.toList st fun st' => K (.norm st'))
 | .region _ ops true, p, st, K => wrap C p st K (drawOps C.toCtx ops st fun st' => K (.norm st'))
 | .seq a b, p, st, K => wrap C p st K (jz0 C a (2 * p) st fun
  | .norm st' => jz0 C b (2 * p + 1) st' K
  | o => K o)
 | .cond c a b, p, st, K => wrap C p st K (match ev C.toCtx st 0 c with
  | .av (.lf (.d (.bool t))) => bif t then jz0 C a (2 * p) st K else jz0 C b (2 * p + 1) st K
  | _ => none)
 | .block id c, p, st, K => wrap C p st K (jz0 C c (2 * p) st fun
  | .exit id' st' => bif id'.beq id then K (.norm st') else K (.exit id' st')
  | o => K o)
 | .loop _, p, st, K => wrap C p st K none
 | .rangeFunc _ _ _ _, p, st, K => wrap C p st K none
 | .exit id, _, st, K => K (.exit id st)
 | .ret, _, st, K => K (.ret st)
 | _, _, _, _ => none
end
section
variable {ι ι' : Nat → Value} {sites sites' : List (Nat × Site)} {w w' : World} {av av' : Nat → Prop}
structure Goes (ι ι' : Nat → Value) (sites sites' : List (Nat × Site)) (w w' : World) (av av' : Nat → Prop) : Prop where
 ref : ∀ σ site, jjB sites σ = some site → ∃ site', jjB sites' σ = some site' ∧ site.stamp ≤ site'.stamp ∧ (site'.stamp = site.stamp → ι' σ = ι σ)
 blk : ∀ b, ¬ av b → b < w.heap.size → w'.heap[b]? = w.heap[b]?
 av : ∀ b, ¬ av b → b < w.heap.size → ¬ av' b
theorem Rd.goes {d : D} {v : Value} (G : Goes ι ι' sites sites' w w' av av') (hs : w.heap.size ≤ w'.heap.size) (_hav : ∀ b, av' b → b < w'.heap.size) (r : Rd w av d v) : Rd w' av' d v := by
 induction r with
 | int k n => exact .int k n
 | bool b => exact .bool b
 | str l s h => exact .str l s h
 | nil t => exact .nil t
 | sl t xs a cap cs n hn hcap hb hl hc _ ih =>
  have key : xs ≠ [] → a.block < w.heap.size := by
   intro hne
   have hpos : 0 < cs.length := by
    rw [hl, jjp]
    exact Nat.mul_pos (List.length_pos_iff.mpr hne) (jxr t)
   have := hc 0 (cs[0]) (List.getElem?_eq_getElem hpos)
   have h2 := World.block_lt_of_cell? w _ this
   have hblk : (a.add 0).block = a.block := by unfold Addr.add; split <;> rfl
   rwa [hblk] at h2
  refine .sl t xs a cap cs n hn hcap (fun hx => G.av _ (hb hx) (key hx)) hl (fun j u hu => ?_) ih
  have hcell := hc j u hu
  have hne : xs ≠ [] := by
   rintro rfl
   have : cs = [] := List.eq_nil_of_length_eq_zero (by simpa [jjM] using hl)
   subst this; simp at hu
  have hblk : (a.add j).block = a.block := by unfold Addr.add; split <;> rfl
  rw [World.cell?_of_block (w := w) (a := a.add j) (by rw [hblk]; exact G.blk _ (hb hne) (key hne))]
  exact hcell
 | fn g caps bs cv lb hlb hbl hb hlt hl hc _ ih =>
  refine .fn g caps bs cv lb hlb hbl (fun b hm => G.av b (hb b hm) (hlt b hm)) (fun b hm => Nat.lt_of_lt_of_le (hlt b hm) hs) hl (fun i hi j u hu => ?_) ih
  have hcell := hc i hi j u hu
  have hm : bs[i] ∈ bs := List.getElem_mem hi
  rw [World.cell?_of_block (w := w) (a := ⟨bs[i], j, none⟩) (G.blk _ (hb _ hm) (hlt _ hm))]
  exact hcell
 | mapn t => exact .mapn t
 | map t es b hb hm => exact .map t es b (G.av b hb hm.lt) (hm.of (G.blk b hb hm.lt))
theorem Ref.goes {σ s : Nat} {p p' : Prop} (G : Goes ι ι' sites sites' w w' av av') (h : Ref sites σ s p) (hp : ι' σ = ι σ → p → p') : Ref sites' σ s p' := by
 obtain ⟨site, h1, h2, h3⟩ := h
 obtain ⟨site', g1, g2, g3⟩ := G.ref σ site h1
 refine ⟨site', g1, Nat.le_trans h2 g2, fun e => ?_⟩
 have : site'.stamp = site.stamp := by omega
 exact hp (g3 this) (h3 (by omega))
theorem LfOk.goes {l : Lf} {v : Value} (G : Goes ι ι' sites sites' w w' av av') (hs : w.heap.size ≤ w'.heap.size) (hav : ∀ b, av' b → b < w'.heap.size) (h : LfOk ι sites w av l v) : LfOk ι' sites' w' av' l v := by
 cases l with
 | d x => exact Rd.goes G hs hav h
 | nil t => exact h
 | own σ s => exact ⟨h.1, Ref.goes G h.2 (fun e p => p.trans e.symm)⟩
 | ptr σ s off => obtain ⟨b, h1, h2⟩ := h; exact ⟨b, h1, Ref.goes G h2 (fun e p => by rw [e]; exact p)⟩
 | rptr cells off =>
  obtain ⟨b, o, hv, hb, hlt, cs, hl, hc, hr⟩ := h
  refine ⟨b, o, hv, G.av b hb hlt, Nat.lt_of_lt_of_le hlt hs, cs, hl, fun j u hu => ?_, fun j h1 h2 => (hr j h1 h2).goes G hs hav⟩
  have hcell := hc j u hu
  rw [World.cell?_of_block (w := w) (a := ⟨b, o + j, none⟩) (G.blk b hb hlt)]
  exact hcell
 | optr σ s t k off => obtain ⟨b, h1, h2⟩ := h; exact ⟨b, h1, Ref.goes G h2 (fun e p => by rw [e]; exact p)⟩
 | clo g caps =>
  obtain ⟨vs, hv, hl, hr⟩ := h
  exact ⟨vs, hv, hl, fun i h1 h2 => Ref.goes G (hr i h1 h2) (fun e p => p.trans e.symm)⟩
 | cst u => exact h
 | fresh t xs => exact h
 | slf => trivial
 | any => trivial
theorem AVOk.goes {a : AV} {v : Value} (G : Goes ι ι' sites sites' w w' av av') (hs : w.heap.size ≤ w'.heap.size) (hav : ∀ b, av' b → b < w'.heap.size) (h : AVOk ι sites w av a v) : AVOk ι' sites' w' av' a v := by
 cases a with
 | lf l => exact LfOk.goes G hs hav h
 | agg ls =>
  obtain ⟨vs, hv, hl, hr⟩ := h
  exact ⟨vs, hv, hl, fun j h1 h2 => (hr j h1 h2).goes G hs hav⟩
theorem SVOk.goes {a : SV} {v : Value} (G : Goes ι ι' sites sites' w w' av av') (hs : w.heap.size ≤ w'.heap.size) (hav : ∀ b, av' b → b < w'.heap.size) (h : SVOk ι sites w av a v) : SVOk ι' sites' w' av' a v := by
 cases a with
 | av a => exact AVOk.goes G hs hav h
 | tup as =>
  obtain ⟨vs, hv, hl, hr⟩ := h
  exact ⟨vs, hv, hl, fun j h1 h2 => (hr j h1 h2).goes G hs hav⟩
theorem SiteOk.goes {σ : Nat} {site : Site} (G : Goes ι ι' sites sites' w w' av av') (hs : w.heap.size ≤ w'.heap.size) (hav : ∀ b, av' b → b < w'.heap.size) (hι : ι' σ = ι σ)
  (hb : site.live = true → ∀ b, Jk.blk (ι σ) = some b → w'.heap[b]? = w.heap[b]?) (h : SiteOk ι sites w av σ site) : SiteOk ι' sites' w' av' σ site := by
 cases site with
 | box s cells =>
  obtain ⟨b, T, cur, h1, h2, h3, h4, h4', h5⟩ := h
  have := hb rfl b (by rw [h1]; rfl)
  exact ⟨b, T, cur, hι.trans h1, this.trans h2, h3, h4, h4', fun j g1 g2 => (h5 j g1 g2).goes G hs hav⟩
 | row s t xs =>
  obtain ⟨e, cs, h1, h2⟩ := h
  refine ⟨e, cs, ?_, fun j g1 g2 => (h2 j g1 g2).goes G hs hav⟩
  rw [hι]
  refine ⟨h1.1, ?_⟩
  rcases h1.2 with hn | ⟨g, cap, cur, fz, hv, r1, r2, r3⟩
  ·exact .inl hn
  ·refine .inr ⟨g, cap, cur, fz, hv, r1, ?_, r3⟩
   rw [hb rfl g (by rw [hv]; rfl)]; exact r2
 | froz s t xs => exact ⟨by rw [hι]; exact Rd.goes G hs hav h.1, by rw [hι]; exact h.2⟩
 | map s t es =>
  obtain ⟨b, h1, h2⟩ := h
  exact ⟨b, hι.trans h1, h2.of (hb rfl b (by rw [h1]; rfl))⟩
 | dead s => trivial
end
theorem Sim.turn {w0 : World} {fb : List Nat} {X : Nat → Prop} {ι ι' : Nat → Value} {st : St} {sites' : List (Nat × Site)} {tm : Array Value} {w w' : World}
  (S : Sim w0 fb X ι st tm w)
  (href : ∀ σ site, jjB st.sites σ = some site → ∃ site', jjB sites' σ = some site' ∧ site.stamp ≤ site'.stamp ∧ (site'.stamp = site.stamp → ι' σ = ι σ))
  (hblk : ∀ b, ¬ jjh X ι st.sites b → b < w.heap.size → w'.heap[b]? = w.heap[b]?)
  (hav : ∀ b, ¬ jjh X ι st.sites b → b < w.heap.size → ¬ jjh X ι' sites' b)
  (hnew : (∀ {a v}, SVOk ι st.sites w (jjh X ι st.sites) a v → SVOk ι' sites' w' (jjh X ι' sites') a v) → ∀ σ site', jjB sites' σ = some site' →
   (jjB st.sites σ = some site' ∧ ι' σ = ι σ ∧ (site'.live = true → ∀ b, blk (ι σ) = some b → w'.heap[b]? = w.heap[b]?)) ∨ SiteOk ι' sites' w' (jjh X ι' sites') σ site')
  (hexcl : ∀ σ τ b, jjs sites' σ → jjs sites' τ → blk (ι' σ) = some b → blk (ι' τ) = some b → σ = τ)
  (hmine : ∀ σ b, jjs sites' σ → blk (ι' σ) = some b → ¬ X b ∧ (b ∈ fb ∨ w0.heap.size ≤ b))
  (hlt : ∀ σ b, jjs sites' σ → blk (ι' σ) = some b → b < w'.heap.size)
  (hframe : Fr fb w0 w') (hs : w.heap.size ≤ w'.heap.size) :
  Sim w0 fb X ι' { st with sites := sites' } tm w' := by
 have G : Goes ι ι' st.sites sites' w w' (jjh X ι st.sites) (jjh X ι' sites') := ⟨href, hblk, hav⟩
 have hav' : ∀ b, jjh X ι' sites' b → b < w'.heap.size := by
  rintro b (hx | ⟨σ, h1, h2⟩)
  ·exact Nat.lt_of_lt_of_le (S.old b hx) hs
  ·exact hlt σ b h1 h2
 refine ⟨S.nt, fun t => (S.slots t).goes G hs hav', fun σ site' hσ => ?_, hexcl, hmine, hframe, fun b h => Nat.lt_of_lt_of_le (S.old b h) hs, S.glob⟩
 rcases hnew (fun h => h.goes G hs hav') σ site' hσ with ⟨h1, h2, h3⟩ | h
 ·exact (S.sites σ site' h1).goes G hs hav' h2 h3
 ·exact h
def jqK (tm : Array Value) (dst : Option Nat) (v : Value) : Array Value :=
 match dst with
 | some d => tm.setIfInBounds d v
 | none => tm
section
variable {P : Program} {K : Act → World → Prop} {Q : Exit → Act → World → Prop} {o : Oper} {tm : Array Value} {w w' : World} {vv : Value}
theorem wp_val (h : (execOp (Act.eval ⟨tm, []⟩) o).run P w = .ok (.value vv) w') (hk : K ⟨jqK tm o.dst vv, []⟩ w') : o.wp P ⟨tm, []⟩ w K Q := by
 unfold Oper.wp
 rw [h, Oper.upon_value]
 cases hd : o.dst with
 | none => simp only [hd, jqK] at hk; simpa [Act.put] using hk
 | some d => simp only [hd, jqK] at hk; simpa [Act.put] using hk
theorem wp_skp (h : (execOp (Act.eval ⟨tm, []⟩) o).run P w = .ok .skip w') (hk : K ⟨jqK tm o.dst undef, []⟩ w') : o.wp P ⟨tm, []⟩ w K Q := by
 unfold Oper.wp
 rw [h, Oper.upon_skip]
 cases hd : o.dst with
 | none => simp only [hd, jqK] at hk; simpa [Act.put] using hk
 | some d => simp only [hd, jqK] at hk; simpa [Act.put] using hk
end
def jjN (sites : List (Nat × Site)) : List (Nat × Site) → List (Nat × Site)
 | [] => sites
 | (σ, s) :: r => jjN (upd sites σ s) r
theorem St.upds_eq (st : St) (us : List (Nat × Site)) : st.upds us = { st with sites := jjN st.sites us } := by
 induction us generalizing st with
 | nil => rfl
 | cons p us ih => obtain ⟨σ, s⟩ := p; simp only [St.upds, jjN]; rw [ih]; rfl
theorem jj0 (sites : List (Nat × Site)) (us vs : List (Nat × Site)) : jjN sites (us ++ vs) = jjN (jjN sites us) vs := by
 induction us generalizing sites with
 | nil => rfl
 | cons p us ih => obtain ⟨σ, s⟩ := p; simp only [List.cons_append, jjN]; exact ih _
section
variable {w0 : World} {fb : List Nat} {X : Nat → Prop} {ι : Nat → Value} {st : St} {tm : Array Value} {w : World}
theorem Sim.put (S : Sim w0 fb X ι st tm w) {t : Nat} {v : SV} {vv : Value} (ht : t < st.nt) (hv : SVOk ι st.sites w (jjh X ι st.sites) v vv) :
  Sim w0 fb X ι (st.set t v) (tm.setIfInBounds t vv) w := by
 refine ⟨by simpa using S.nt, fun u => ?_, S.sites, S.excl, S.mine, S.frame, S.old, S.glob⟩
 rw [St.get_set]
 by_cases h : t = u
 ·subst h
  simp only [if_true]
  have : (tm.setIfInBounds t vv).getD t undef = vv := by
   have h1 : t < tm.size := by rw [S.nt]; exact ht
   simp [Array.getD, h1]
  rw [this]; exact hv
 ·simp only [h, if_false]
  have : (tm.setIfInBounds t vv).getD u undef = tm.getD u undef := by
   simp only [Array.getD_eq_getD_getElem?, Array.getElem?_setIfInBounds, h, if_false]
  rw [this]; exact S.slots u
theorem Sim.app {dst : Option Nat} {v : SV} {vv : Value} {us : List (Nat × Site)} (S : Sim w0 fb X ι { st with sites := jjN st.sites us } tm w)
  (hd : jjJ st dst = true) (hv : SVOk ι (jjN st.sites us) w (jjh X ι (jjN st.sites us)) v vv) : Sim w0 fb X ι (st.app dst v us) (jqK tm dst vv) w := by
 cases dst with
 | none => simp only [St.app, St.upds_eq, jqK]; exact S
 | some t =>
  simp only [St.app, St.upds_eq, jqK]
  have ht : t < st.nt := by simpa [jjJ] using hd
  exact Sim.put (st := { st with sites := jjN st.sites us }) S ht hv
theorem jqe (S : Sim w0 fb X ι st tm w) (C : Ctx) (T : TypeId) (x : Operand) : SVOk ι st.sites w (jjh X ι st.sites) (ev C st T x) (Act.eval ⟨tm, []⟩ x) := by
 cases x with
 | tmp t => exact S.slots t
 | const v =>
  show SVOk _ _ _ _ (constSV (C.tt T) v) v
  unfold constSV
  split
  ·exact .int _ _
  ·exact .bool _
  ·exact .str _ _ rfl
  ·split <;> exact rfl
  ·split
   ·exact .mapn _
   ·exact rfl
  ·trivial
  ·trivial
  ·exact rfl
 | global g => exact rfl
 | func f =>
  refine ⟨[], rfl, rfl, fun i h => ?_⟩
  simp at h
variable {P : Program} {C : Ctx} {o : Oper} {K : Act → World → Prop} {Q : Exit → Act → World → Prop}
def jjA (P : Program) (w0 : World) (fb : List Nat) (X : Nat → Prop) (st : St) (tm : Array Value) (w : World) (o : Oper) (v : SV) (us : List (Nat × Site)) : Prop :=
 ∀ (K : Act → World → Prop) (Q : Exit → Act → World → Prop), (∀ ι' tm' w', Sim w0 fb X ι' (st.app o.dst v us) tm' w' → K ⟨tm', []⟩ w') → o.wp P ⟨tm, []⟩ w K Q
theorem jjm (S : Sim w0 fb X ι st tm w) (hd : jjJ st o.dst = true) {v : SV} {vv : Value}
  (h : (execOp (Act.eval ⟨tm, []⟩) o).run P w = .ok (.value vv) w) (hv : SVOk ι st.sites w (jjh X ι st.sites) v vv) : jjA P w0 fb X st tm w o v [] :=
 fun _ _ hK => wp_val h (hK _ _ _ (Sim.app (us := []) S hd hv))
end
section
variable {P : Program} {w : World}
theorem run_eqGuard_int (op : BinOp) (t : TypeId) (x y : Operand) (k k' : IntKind) (a b : Int) : (eqGuard op t x y (.int k a) (.int k' b)).run P w = .ok () w := by
 unfold eqGuard; cases op <;> rfl
theorem run_eqGuard_string (op : BinOp) (t : TypeId) (x y : Operand) (a b : ByteArray) : (eqGuard op t x y (.string a) (.string b)).run P w = .ok () w := by
 unfold eqGuard; cases op <;> rfl
theorem jzb (op : BinOp) (t : TypeId) (x y : Operand) (a b : Bool) : (eqGuard op t x y (.bool a) (.bool b)).run P w = .ok () w := by
 unfold eqGuard; cases op <;> rfl
def Holds (r : StepR) (Φ : SV → List (Nat × Site) → Prop) : Prop := ∀ y, r.comp = some y → r.chk y = true → Φ (r.val y) (r.us y)
theorem Holds.fail {Φ : SV → List (Nat × Site) → Prop} : Holds .fail Φ := fun _ h _ => by cases h
theorem Holds.ok {v : SV} {Φ : SV → List (Nat × Site) → Prop} (h : Φ v []) : Holds (.ok v) Φ := fun _ _ _ => h
theorem Holds.okU {v : SV} {us : List (Nat × Site)} {Φ : SV → List (Nat × Site) → Prop} (h : Φ v us) : Holds (.okU v us) Φ := fun _ _ _ => h
theorem Holds.opt {Y : Type} {c : Option Y} {f : Y → SV} {Φ : SV → List (Nat × Site) → Prop} (h : ∀ y, c = some y → Φ (f y) []) : Holds (.opt c f) Φ := fun y hy _ => h y hy
theorem Holds.optU {Y : Type} {c : Option Y} {f : Y → SV} {us : Y → List (Nat × Site)} {Φ : SV → List (Nat × Site) → Prop} (h : ∀ y, c = some y → Φ (f y) (us y)) : Holds (.optU c f us) Φ := fun y hy _ => h y hy
def Plain (P : Program) (w : World) (s : Sem Value) (v : SV) (us : List (Nat × Site)) : Prop :=
 ∃ vv d, s.run P w = .ok vv w ∧ us = [] ∧ v = one d ∧ ∀ av, Rd w av d vv
theorem Plain.mk {s : Sem Value} {vv : Value} {d : D} (h : s.run P w = .ok vv w) (hr : ∀ av, Rd w av d vv) : Plain P w s (one d) [] := ⟨vv, d, h, rfl, rfl, hr⟩
theorem run_intOp (op : BinOp) (T : TypeId) (k : IntKind) (a b : Int) (hs : op ≠ .shl) (hs' : op ≠ .shr) :
  Holds (intOp op k a b) (Plain P w (binOp op T (.int k a) (.int k b))) := by
 cases op with
 | shl => exact absurd rfl hs
 | shr => exact absurd rfl hs'
 | andNot => exact .fail
 | quo =>
  refine Holds.opt fun y hy => ?_
  unfold quoI at hy
  split at hy
  ·cases hy
  ·rename_i hb
   cases hy
   exact .mk (by simp [binOp, Op.intDiv, hb]) fun av => .int _ _
 | rem =>
  refine Holds.opt fun y hy => ?_
  unfold remI at hy
  split at hy
  ·cases hy
  ·rename_i hb
   cases hy
   exact .mk (by simp [binOp, Op.intDiv, hb]) fun av => .int _ _
 | add => exact Holds.ok (.mk (by simp [binOp, Op.intArith]) fun av => .int _ _)
 | sub => exact Holds.ok (.mk (by simp [binOp, Op.intArith]) fun av => .int _ _)
 | mul => exact Holds.ok (.mk (by simp [binOp, Op.intArith]) fun av => .int _ _)
 | and => exact Holds.ok (.mk (by simp [binOp, Op.intBits, jz3]) fun av => .int _ _)
 | or => exact Holds.ok (.mk (by simp [binOp, Op.intBits, orI]) fun av => .int _ _)
 | xor => exact Holds.ok (.mk (by simp [binOp, Op.intBits, jxv]) fun av => .int _ _)
 | eql => exact Holds.ok (.mk (by simp [binOp, Op.intCmp]) fun av => .bool _)
 | neq => exact Holds.ok (.mk (by simp [binOp, Op.intCmp]) fun av => .bool _)
 | lss => exact Holds.ok (.mk (by simp [binOp, Op.intCmp]) fun av => .bool _)
 | leq => exact Holds.ok (.mk (by simp [binOp, Op.intCmp]) fun av => .bool _)
 | gtr => exact Holds.ok (.mk (by simp [binOp, Op.intCmp]) fun av => .bool _)
 | geq => exact Holds.ok (.mk (by simp [binOp, Op.intCmp]) fun av => .bool _)
theorem run_strOp (op : BinOp) (T : TypeId) (a b : ByteArray) :
  Holds (strOp op a.data.toList b.data.toList) (Plain P w (binOp op T (.string a) (.string b))) := by
 have e1 : a.toList = a.data.toList := ByteArray.toList_eq a
 have e2 : b.toList = b.data.toList := ByteArray.toList_eq b
 have l1 : a.data.toList.length = a.size := rfl
 have l2 : b.data.toList.length = b.size := rfl
 cases op with
 | add =>
  refine Holds.opt fun y hy => ?_
  simp only [cat, l1, l2] at hy
  split at hy
  ·cases hy
  ·rename_i hc
   cases hy
   refine .mk (vv := .string (a ++ b)) ?_ fun av => .str _ _ (by simp [ByteArray.data_append])
   simp only [binOp, Op.stringOp, hc, if_false, Sem.run_pure]
 | eql => exact Holds.ok (.mk (by rw [← e1, ← e2]; rfl) fun av => .bool _)
 | neq => exact Holds.ok (.mk (by rw [← e1, ← e2]; rfl) fun av => .bool _)
 | lss => exact Holds.ok (.mk (by rw [← e1, ← e2]; rfl) fun av => .bool _)
 | leq => exact Holds.ok (.mk (by rw [← e1, ← e2]; rfl) fun av => .bool _)
 | gtr => exact Holds.ok (.mk (by rw [← e1, ← e2]; rfl) fun av => .bool _)
 | geq => exact Holds.ok (.mk (by rw [← e1, ← e2]; rfl) fun av => .bool _)
 | _ => exact .fail
end
def jJc : Lf → Option Value
 | .d (.int k n) => some (.int k n)
 | .d (.bool b) => some (.bool b)
 | .d (.str []) => some (.string ⟨#[]⟩)
 | .nil _ => some (.slice none 0 0)
 | .cst (.pointer none) => some (.pointer none)
 | .cst .nilFunc => some .nilFunc
 | .cst (.map none) => some (.map none)
 | _ => none
def jqE : List Lf → Option (List Value)
 | [] => some []
 | l :: ls => match jJc l, jqE ls with
  | some v, some vs => some (v :: vs)
  | _, _ => none
theorem zeroVal_ok {l : Lf} {v : Value} (h : jJc l = some v) (ι : Nat → Value) (sites : List (Nat × Site)) (w : World) (av : Nat → Prop) : LfOk ι sites w av l v ∧ v.oneCell' = true := by
 unfold jJc at h
 split at h <;> first | cases h | skip
 ·exact ⟨.int _ _, rfl⟩
 ·exact ⟨.bool _, rfl⟩
 ·exact ⟨.str _ _ rfl, rfl⟩
 ·exact ⟨rfl, rfl⟩
 ·exact ⟨rfl, rfl⟩
 ·exact ⟨rfl, rfl⟩
 ·exact ⟨rfl, rfl⟩
theorem jxj : ∀ {ls : List Lf} {vs : List Value}, jqE ls = some vs → vs.length = ls.length ∧ (∀ u ∈ vs, u.oneCell' = true) ∧
  ∀ (ι : Nat → Value) (sites : List (Nat × Site)) (w : World) (av : Nat → Prop) j (h : j < ls.length) (h' : j < vs.length), LfOk ι sites w av (ls[j]) (vs[j]) := by
 intro ls
 induction ls with
 | nil => intro vs h; simp [jqE] at h; subst h; exact ⟨rfl, fun u hu => by simp at hu, fun _ _ _ _ j h => by simp at h⟩
 | cons l ls ih =>
  intro vs h
  simp only [jqE] at h
  split at h
  ·rename_i v vs' h1 h2
   cases h
   obtain ⟨g1, g2, g3⟩ := ih h2
   refine ⟨by simp [g1], fun u hu => ?_, fun ι sites w av j hj hj' => ?_⟩
   ·rcases List.mem_cons.1 hu with rfl | hu
    ·exact (zeroVal_ok h1 (fun _ => undef) [] default (fun _ => False)).2
    ·exact g2 u hu
   ·cases j with
    | zero => exact (zeroVal_ok h1 _ _ _ _).1
    | succ j => exact g3 ι sites w av j (by simpa using hj) (by simpa using hj')
  ·cases h
def jx1 : Value → Value → Option Bool
 | .int k a, .int k' b => if k = k' then some (a == b) else none
 | .bool a, .bool b => some (a == b)
 | .string a, .string b => some (a == b)
 | _, _ => none
def jqh : List Value → List Value → Option Bool
 | [a], [b] => jx1 a b
 | a :: as, b :: bs => match jx1 a b, jqh as bs with
  | some x, some y => some (x && y)
  | _, _ => none
 | _, _ => none
def fitV : List Lf → List Value → Bool
 | [], [] => true
 | .d (.int _ _) :: z, .int _ _ :: l => fitV z l
 | .d (.bool _) :: z, .bool _ :: l => fitV z l
 | .d (.str _) :: z, .string _ :: l => fitV z l
 | _, _ => false
def Scal (P : Program) (T : TypeId) (d : TypeDesc) (z : Value) : Prop :=
 P.underlying T = some d ∧ (∀ fs, d ≠ .struct fs) ∧ (∀ n e, d ≠ .array n e) ∧ (P.info? T).map (fun i => (i.size, i.zero)) = some (1, some z)
def mapElem (P : Program) (e : TypeId) : Ty → Prop
 | .i64 => Scal P e (.int .i64) (.int .i64 0)
 | .bool => Scal P e .bool (.bool false)
 | _ => False
def arrElem (P : Program) (e : TypeId) : Ty → Prop
 | .i64 => Scal P e (.int .i64) (.int .i64 0)
 | .u32 => Scal P e (.int .u32) (.int .u32 0)
 | .bool => Scal P e .bool (.bool false)
 | .str => Scal P e .string (.string ⟨#[]⟩)
 | _ => False
def TI.ok (P : Program) (T : TypeId) : TI → Prop
 | .none => True
 | .int k => Scal P T (.int k) (.int k 0)
 | .bool => Scal P T .bool (.bool false)
 | .str => Scal P T .string (.string ⟨#[]⟩)
 | .ptr => ∃ e, Scal P T (.pointer e) (.pointer Option.none)
 | .func => ∃ ps rs v, Scal P T (.func ps rs v) .nilFunc
 | .slice e t bytes => Scal P T (.slice e) (.slice Option.none 0 0) ∧ ∃ z, (P.info? e).map (fun i => (i.size, i.bytes, i.zero)) = some (esz t, bytes, some z) ∧ z.cells.size = esz t ∧ (t.isB = true → e = gU8)
 | .struct fs n z eq => ∃ fields : Array Field, P.underlying T = some (.struct fields) ∧
   (fields.toList.mapM (fun f => (P.info? f.type).map fun i => (f.offset, i.size)) = some fs ∧ ∀ p ∈ fs, p.2 ≠ 0) ∧
   (∃ zv, (P.info? T).map (fun i => (i.size, i.zero)) = some (n, some (.agg zv)) ∧ jqE z = some zv.toList ∧ z.length = n) ∧
   (eq = true → P.eqGuardType P.depth T = false ∧ ∀ (vs us : List Value) (b : Bool) (w : World), jqh vs us = some b → fitV z vs = true → (Op.equal T (.agg vs.toArray) (.agg us.toArray)).run P w = .ok b w)
 | .map k e t => Scal P T (.map k e) (.map Option.none) ∧ P.underlying k = some .string ∧ mapElem P e t
 | .arr e t n => P.underlying T = some (.array n e) ∧ (∃ zv z, (P.info? T).map (fun i => (i.size, i.zero)) = some (n, some (.agg zv)) ∧ zlf t = some z ∧ jqE (List.replicate n z) = some zv.toList) ∧ arrElem P e t
section
variable {P : Program} {T : TypeId} {w : World}
theorem jjy {i : TypeInfo} (h : P.info? T = some i) : (typeInfo T).run P w = .ok i w := by
 simp [typeInfo, h]
theorem TI.run_size {ti : TI} (h : ti.ok P T) (hn : ti ≠ .none) : (sizeOf T).run P w = .ok ti.size w := by
 have key : ∀ {z : Option Value} {n : Nat}, (P.info? T).map (fun i => (i.size, i.zero)) = some (n, z) → (sizeOf T).run P w = .ok n w := by
  intro z n h
  cases hi : P.info? T with
  | none => simp [hi] at h
  | some i =>
   simp only [hi, Option.map_some, Option.some.injEq, Prod.mk.injEq] at h
   simp [sizeOf, jjy hi, h.1]
 cases ti with
 | none => exact absurd rfl hn
 | int k => exact key h.2.2.2
 | bool => exact key h.2.2.2
 | str => exact key h.2.2.2
 | ptr => obtain ⟨e, h⟩ := h; exact key h.2.2.2
 | func => obtain ⟨_, _, _, h⟩ := h; exact key h.2.2.2
 | slice e t b => exact key h.1.2.2.2
 | map k e t => exact key h.1.2.2.2
 | struct fs n z eq => obtain ⟨fields, _, _, ⟨zv, h, _⟩, _⟩ := h; exact key h
 | arr e t n => obtain ⟨_, ⟨zv, z, h, _⟩, _⟩ := h; exact key h
theorem TI.run_zero {ti : TI} (h : ti.ok P T) {z : List Lf} (hz : ti.zero = some z) : ∃ v, (zeroValue T).run P w = .ok v w ∧ jqE z = some v.cells.toList := by
 have key : ∀ {z : Value} {n : Nat}, (P.info? T).map (fun i => (i.size, i.zero)) = some (n, some z) → (zeroValue T).run P w = .ok z w := by
  intro z n h
  cases hi : P.info? T with
  | none => simp [hi] at h
  | some i =>
   simp only [hi, Option.map_some, Option.some.injEq, Prod.mk.injEq] at h
   simp [zeroValue, jjy hi, h.2]
 cases ti with
 | none => cases hz
 | int k => cases hz; exact ⟨_, key h.2.2.2, rfl⟩
 | bool => cases hz; exact ⟨_, key h.2.2.2, rfl⟩
 | str => cases hz; exact ⟨_, key h.2.2.2, rfl⟩
 | ptr => cases hz; obtain ⟨e, h⟩ := h; exact ⟨_, key h.2.2.2, rfl⟩
 | func => cases hz; obtain ⟨_, _, _, h⟩ := h; exact ⟨_, key h.2.2.2, rfl⟩
 | slice e t b => cases hz; exact ⟨_, key h.1.2.2.2, rfl⟩
 | map k e t => cases hz; exact ⟨_, key h.1.2.2.2, rfl⟩
 | struct fs n z' eq => cases hz; obtain ⟨fields, _, _, ⟨zv, h, h2, _⟩, _⟩ := h; exact ⟨_, key h, h2⟩
 | arr e t n =>
  obtain ⟨_, ⟨zv, z0, h, h1, h2⟩, _⟩ := h
  simp only [TI.zero, h1, Option.map_some, Option.some.injEq] at hz
  subst hz
  exact ⟨_, key h, h2⟩
theorem TI.run_isAgg {ti : TI} (h : ti.ok P T) (hn : ti ≠ .none) : (isAgg T).run P w = .ok ti.agg w := by
 have key : ∀ {d : TypeDesc}, P.underlying T = some d → (∀ fs, d ≠ .struct fs) → (∀ n e, d ≠ .array n e) → (isAgg T).run P w = .ok false w := by
  intro d h h1 h2
  simp only [isAgg, Sem.run_bind, run_underlying h, Result.andThen_ok]
  cases d <;> first | rfl | exact absurd rfl (h1 _) | exact absurd rfl (h2 _ _)
 cases ti with
 | none => exact absurd rfl hn
 | int k => exact key h.1 h.2.1 h.2.2.1
 | bool => exact key h.1 h.2.1 h.2.2.1
 | str => exact key h.1 h.2.1 h.2.2.1
 | ptr => obtain ⟨e, h⟩ := h; exact key h.1 h.2.1 h.2.2.1
 | func => obtain ⟨_, _, _, h⟩ := h; exact key h.1 h.2.1 h.2.2.1
 | slice e t b => exact key h.1.1 h.1.2.1 h.1.2.2.1
 | map k e t => exact key h.1.1 h.1.2.1 h.1.2.2.1
 | struct fs n z eq =>
  obtain ⟨fields, h, _⟩ := h
  simp only [isAgg, Sem.run_bind, run_underlying h, Result.andThen_ok]
  rfl
 | arr e t n =>
  obtain ⟨h, _⟩ := h
  simp only [isAgg, Sem.run_bind, run_underlying h, Result.andThen_ok]
  rfl
def packV (agg : Bool) (cs : List Value) : Value := bif agg then .agg cs.toArray else cs.headD undef
theorem jqf {ti : TI} (h : ti.ok P T) (hn : ti ≠ .none) (a : Addr) (cs : List Value) (hl : cs.length = ti.size) (hc : ∀ j u, cs[j]? = some u → w.cell? (a.add j) = some u) :
  (loadVar T a).run P w = .ok (packV ti.agg cs) w := by
 simp only [loadVar, Sem.run_bind, TI.run_isAgg h hn, Result.andThen_ok]
 cases hagg : ti.agg with
 | true =>
  simp only [if_true, Sem.run_bind, TI.run_size h hn, Result.andThen_ok, packV, cond_true]
  rw [← hl, run_loadCells_list w a cs hc]
  rfl
 | false =>
  have h1 : ti.size = 1 := by cases ti <;> first | rfl | cases hagg
  rw [h1] at hl
  match cs, hl with
  | [c], _ =>
   have h0 := hc 0 c rfl
   have ha : a.add 0 = a := by unfold Addr.add; simp
   rw [ha] at h0
   simp [packV, h0]
end
section
variable {ι : Nat → Value} {sites : List (Nat × Site)} {w : World} {av : Nat → Prop}
def LfsOk (ι : Nat → Value) (sites : List (Nat × Site)) (w : World) (av : Nat → Prop) (ls : List Lf) (vs : List Value) : Prop :=
 vs.length = ls.length ∧ ∀ j (h : j < ls.length) (h' : j < vs.length), LfOk ι sites w av (ls[j]) (vs[j])
theorem LfsOk.nil : LfsOk ι sites w av [] [] := ⟨rfl, fun j h => by simp at h⟩
theorem LfsOk.cons {l : Lf} {ls : List Lf} {v : Value} {vs : List Value} (h : LfOk ι sites w av l v) (hs : LfsOk ι sites w av ls vs) : LfsOk ι sites w av (l :: ls) (v :: vs) :=
 ⟨by simp [hs.1], fun j h1 h2 => by
  cases j with
  | zero => exact h
  | succ j => exact hs.2 j (by simpa using h1) (by simpa using h2)⟩
theorem LfsOk.inv {l : Lf} {ls : List Lf} {vs : List Value} (h : LfsOk ι sites w av (l :: ls) vs) : ∃ v vs', vs = v :: vs' ∧ LfOk ι sites w av l v ∧ LfsOk ι sites w av ls vs' := by
 obtain ⟨h1, h2⟩ := h
 match vs, h1 with
 | v :: vs', h1 =>
  exact ⟨v, vs', rfl, h2 0 (by simp) (by simp), by simpa using h1, fun j g1 g2 => h2 (j + 1) (by simpa using g1) (by simpa using g2)⟩
theorem LfsOk.inv_nil {vs : List Value} (h : LfsOk ι sites w av [] vs) : vs = [] := List.eq_nil_of_length_eq_zero h.1
theorem LfsOk.drop {ls : List Lf} {vs : List Value} (n : Nat) (h : LfsOk ι sites w av ls vs) : LfsOk ι sites w av (ls.drop n) (vs.drop n) :=
 ⟨by simp [h.1], fun j h1 h2 => by simp only [List.getElem_drop]; exact h.2 _ (by simp at h1; omega) (by simp at h2; omega)⟩
theorem LfsOk.take {ls : List Lf} {vs : List Value} (n : Nat) (h : LfsOk ι sites w av ls vs) : LfsOk ι sites w av (ls.take n) (vs.take n) :=
 ⟨by simp [h.1], fun j h1 h2 => by simp only [List.getElem_take]; exact h.2 _ (by simp at h1; omega) (by simp at h2; omega)⟩
theorem LfsOk.append {ls ls' : List Lf} {vs vs' : List Value} (h : LfsOk ι sites w av ls vs) (h' : LfsOk ι sites w av ls' vs') : LfsOk ι sites w av (ls ++ ls') (vs ++ vs') := by
 induction ls generalizing vs with
 | nil => rw [h.inv_nil]; exact h'
 | cons l ls ih =>
  obtain ⟨v, vs1, rfl, h1, h2⟩ := h.inv
  exact .cons h1 (ih h2)
theorem LfsOk.splice {ls ls' : List Lf} {vs vs' : List Value} (off : Nat) (h : LfsOk ι sites w av ls vs) (h' : LfsOk ι sites w av ls' vs') : LfsOk ι sites w av (Jk.splice ls off ls') (Jk.splice vs off vs') := by
 unfold Jk.splice
 rw [h'.1]
 exact ((h.take off).append h').append (h.drop _)
theorem LfOk.oneCell {l : Lf} {u : Value} (h : LfOk ι sites w av l u) (hst : l.storable = true) : u.oneCell' = true := by
 cases l with
 | d x => exact Rd.oneCell h
 | nil t => rw [show u = _ from h]; rfl
 | own σ s => exact h.1
 | ptr σ s off => obtain ⟨b, rfl, _⟩ := h; rfl
 | rptr c o => cases hst
 | optr _ _ _ _ _ => cases hst
 | clo g caps => obtain ⟨vs, rfl, _⟩ := h; rfl
 | cst x => rw [show u = x from h]; cases x <;> first | rfl | cases hst
 | fresh t xs => cases hst
 | slf => cases hst
 | any => cases hst
theorem LfsOk.oneCell {ls : List Lf} {vs : List Value} (h : LfsOk ι sites w av ls vs) (hst : jjz ls = true) : ∀ u ∈ vs, u.oneCell' = true := by
 induction ls generalizing vs with
 | nil => rw [h.inv_nil]; intro u hu; simp at hu
 | cons l ls ih =>
  obtain ⟨v, vs', rfl, h1, h2⟩ := h.inv
  simp only [jjz, Bool.and_eq_true] at hst
  intro u hu
  rcases List.mem_cons.1 hu with rfl | hu
  ·exact h1.oneCell hst.1
  ·exact ih h2 hst.2 u hu
theorem AVOk.cells {a : AV} {v : Value} (h : AVOk ι sites w av a v) (hst : jjz a.cells = true) : LfsOk ι sites w av a.cells v.cells.toList := by
 cases a with
 | lf l =>
  have h1 : v.oneCell' = true := LfOk.oneCell h (by simpa [AV.cells, jjz] using hst)
  have : v.cells = #[v] := by cases v <;> first | rfl | cases h1
  rw [this]
  exact .cons h .nil
 | agg ls =>
  obtain ⟨vs, rfl, h1, h2⟩ := h
  exact ⟨h1, h2⟩
theorem cut_ok {agg : Bool} {off n : Nat} {ls : List Lf} {vs : List Value} {v : SV} (hc : cut agg off n ls = some v) (h1 : agg = false → n = 1) (h : LfsOk ι sites w av ls vs) :
  off + n ≤ vs.length ∧ SVOk ι sites w av v (packV agg ((vs.drop off).take n)) := by
 unfold cut at hc
 cases agg with
 | true =>
  simp only [cond_true] at hc
  cases hb : Nat.ble (off + n) ls.length with
  | false => simp [hb] at hc
  | true =>
   simp only [hb, cond_true, Option.some.injEq] at hc
   subst hc
   have hle : off + n ≤ ls.length := Nat.le_of_ble_eq_true hb
   have := (h.drop off).take n
   exact ⟨by rw [h.1]; exact hle, _, rfl, this.1, this.2⟩
 | false =>
  simp only [cond_false] at hc
  have hn := h1 rfl
  subst hn
  cases hd : ls.drop off with
  | nil => simp [hd] at hc
  | cons l r =>
   simp only [hd, Option.some.injEq] at hc
   subst hc
   have hdr := h.drop off
   rw [hd] at hdr
   obtain ⟨u, us, hu, hl, _⟩ := hdr.inv
   have hlen : off < ls.length := by
    rcases Nat.lt_or_ge off ls.length with h | h
    ·exact h
    ·rw [List.drop_eq_nil_of_le h] at hd; cases hd
   refine ⟨by rw [h.1]; omega, ?_⟩
   rw [hu]
   exact hl
theorem jqM {ds : List D} {vs : List Value} (hl : vs.length = ds.length) (h : ∀ j (h : j < ds.length) (h' : j < vs.length), Rd w av (ds[j]) (vs[j])) : LfsOk ι sites w av (asD ds) vs :=
 ⟨by simp [asD, hl], fun j h1 h2 => by simp only [asD, List.getElem_map]; exact h j (by simpa [asD] using h1) h2⟩
end
theorem jqD (b o j : Nat) : (⟨b, o, none⟩ : Addr).add j = ⟨b, o + j, none⟩ := by
 unfold Addr.add; split <;> simp_all
def CellsAt (w : World) (b o : Nat) (cs : List Value) : Prop := ∀ j u, cs[j]? = some u → w.cell? ⟨b, o + j, none⟩ = some u
theorem CellsAt.drop {w : World} {b o : Nat} {cs : List Value} (h : CellsAt w b o cs) (m : Nat) : CellsAt w b (o + m) (cs.drop m) := by
 intro j u hu
 rw [List.getElem?_drop] at hu
 have := h _ _ hu
 rwa [Nat.add_assoc]
theorem CellsAt.take {w : World} {b o : Nat} {cs : List Value} (h : CellsAt w b o cs) (m : Nat) : CellsAt w b o (cs.take m) := by
 intro j u hu
 rw [List.getElem?_take] at hu
 split at hu
 ·exact h _ _ hu
 ·cases hu
theorem CellsAt.row {w : World} {b : Nat} {cur : List Value} {T : TypeId} {fr : Nat × Nat} (h : w.heap[b]? = some (.cells cur.toArray T fr)) : CellsAt w b 0 cur := by
 intro j u hu
 rw [Nat.zero_add, cell_of_row w b j _ T fr h]
 simpa using hu
theorem jxM (t : Ty) (xs : List (den t)) (k : Nat) (x : den t) (hx : xs[k]? = some x) : ((jjM t xs).drop (k * esz t)).take (esz t) = enc t x := by
 apply List.ext_getElem?
 intro j
 rw [List.getElem?_take, List.getElem?_drop]
 split
 ·rename_i hj
  exact flat_get t xs k j x hx hj
 ·rename_i hj
  rw [List.getElem?_eq_none (by rw [jjS]; omega)]
section
variable {P : Program} {C : CtxC} {w0 : World} {fb : List Nat} {X : Nat → Prop} {ι : Nat → Value} {st : St} {tm : Array Value} {w : World}
theorem jjE {σ s : Nat} {cells : List Lf} (h : jq4 st σ s = some cells) : jjB st.sites σ = some (.box s cells) := by
 unfold jq4 St.site at h
 split at h
 ·rename_i s' cells' hl
  cases hb : s'.beq s with
  | false => simp [hb] at h
  | true =>
   simp only [hb, cond_true, Option.some.injEq] at h
   have := Nat.eq_of_beq_eq_true hb
   subst this h; exact hl
 ·cases h
theorem jjY {σ s : Nat} {t : Ty} {xs : List (den t)} (h : jxC st σ s = some ⟨t, xs⟩) : jjB st.sites σ = some (.row s t xs) ∨ jjB st.sites σ = some (.froz s t xs) := by
 unfold jxC St.site at h
 split at h
 ·rename_i s' t' xs' hl
  cases hb : s'.beq s with
  | false => simp [hb] at h
  | true =>
   simp only [hb, cond_true, Option.some.injEq] at h
   have := Nat.eq_of_beq_eq_true hb
   subst this
   cases h
   exact .inl hl
 ·rename_i s' t' xs' hl
  cases hb : s'.beq s with
  | false => simp [hb] at h
  | true =>
   simp only [hb, cond_true, Option.some.injEq] at h
   have := Nat.eq_of_beq_eq_true hb
   subst this
   cases h
   exact .inr hl
 ·cases h
theorem Ref.at {sites : List (Nat × Site)} {σ s : Nat} {p : Prop} {site : Site} (h : Ref sites σ s p) (hl : jjB sites σ = some site) (hs : site.stamp = s) : p := by
 obtain ⟨site', h1, _, h3⟩ := h
 rw [hl] at h1
 cases h1
 exact h3 hs
theorem Ref.mk {sites : List (Nat × Site)} {σ s : Nat} {p : Prop} {site : Site} (hl : jjB sites σ = some site) (hs : site.stamp = s) (hp : p) : Ref sites σ s p :=
 ⟨site, hl, by omega, fun _ => hp⟩
theorem Sim.box (S : Sim w0 fb X ι st tm w) {σ s off : Nat} {cells : List Lf} (h : jjB st.sites σ = some (.box s cells)) {v : Value} (hv : LfOk ι st.sites w (jjh X ι st.sites) (.ptr σ s off) v) :
  ∃ b T cur, ι σ = .pointer (some ⟨b, 0, none⟩) ∧ v = .pointer (some ⟨b, off, none⟩) ∧ w.heap[b]? = some (.cells (List.toArray cur) T (0, 0)) ∧ (∀ u ∈ cur, u.oneCell' = true) ∧ LfsOk ι st.sites w (jjh X ι st.sites) cells cur := by
 obtain ⟨b, T, cur, h1, h2, h3, h4, _, h5⟩ := S.sites σ _ h
 obtain ⟨b', g2, g3⟩ := hv
 have g1 := Ref.at g3 h rfl
 rw [h1] at g1
 cases g1
 exact ⟨b, T, cur, h1, g2, h2, h4, h3, h5⟩
theorem Sim.row (S : Sim w0 fb X ι st tm w) {σ s : Nat} {t : Ty} {xs : List (den t)} (h : jxC st σ s = some ⟨t, xs⟩) :
  ∃ cs : List Value, LfsOk ι st.sites w (jjh X ι st.sites) (asD (jjM t xs)) cs ∧
   ((ι σ = .slice none 0 0 ∧ xs = []) ∨ ∃ b c, ι σ = .slice (some ⟨b, 0, none⟩) xs.length c ∧ CellsAt w b 0 cs ∧ xs.length ≤ c) := by
 rcases jjY h with h | h
 ·obtain ⟨e, cs, h1, h2⟩ := S.sites σ _ h
  have hl : cs.length = (jjM t xs).length := by rw [jjp]; exact h1.1
  refine ⟨cs, jqM hl h2, ?_⟩
  rcases h1.2 with ⟨hn, h0⟩ | ⟨g, cap, cur, fz, hv, _, hg, hnc, _, _, htk⟩
  ·exact .inl ⟨hn, List.eq_nil_of_length_eq_zero h0⟩
  ·refine .inr ⟨_, _, hv, fun j u hu => ?_, hnc⟩
   rw [Nat.zero_add, cell_of_row w g j cur e fz hg]
   rw [← htk, List.getElem?_take] at hu
   split at hu
   ·simpa using hu
   ·cases hu
 ·obtain ⟨h1, hh⟩ : Rd w (jjh X ι st.sites) (.sl t xs) (ι σ) ∧ Head (ι σ) := S.sites σ _ h
  generalize hv : ι σ = v at h1 hh
  cases h1 with
  | nil t => exact ⟨[], ⟨rfl, fun j h => by simp [asD, jjM] at h⟩, .inl ⟨rfl, rfl⟩⟩
  | sl t xs a cap cs n hn hcap hb hl hc hr =>
   subst hn
   rcases hh with hh | ⟨b, n, c, hh⟩
   ·cases hh
   ·cases hh
    exact ⟨cs, jqM hl hr, .inr ⟨b, cap, rfl, fun j u hu => by have := hc j u hu; rwa [jqD] at this, hcap⟩⟩
def GtOk (g : Nat) (t : Ty) (xs : List (den t)) : Prop := g ∈ gBs ∧ ∀ w (av : Nat → Prop), gOk w → ∃ T fz, ∃ cs : List Value, w.heap[g]? = some (.cells cs.toArray T fz) ∧ cs.length = (jjM t xs).length ∧ ∀ j (h : j < (jjM t xs).length) (h' : j < cs.length), Rd w av ((jjM t xs)[j]) (cs[j])
structure CtxOk (P : Program) (C : Ctx) : Prop where
 tt : ∀ T, (C.tt T).ok P T
 gt : ∀ g t xs, C.gt g = some ⟨t, xs⟩ → GtOk g t xs
theorem known_ne {ti : TI} (h : ti.known = true) : ti ≠ .none := by rintro rfl; cases h
theorem agg_size {ti : TI} (h : ti.agg = false) : ti.size = 1 := by cases ti <;> first | rfl | cases h
theorem cut_some {agg : Bool} {off n : Nat} {ls : List Lf} (h : off + n ≤ ls.length) (h1 : agg = false → n = 1) : cut agg off n ls ≠ none := by
 unfold cut
 cases agg with
 | true =>
  have : Nat.ble (off + n) ls.length = true := Nat.ble_eq_true_of_le h
  simp [this]
 | false =>
  have := h1 rfl
  simp only [cond_false]
  cases hd : ls.drop off with
  | nil => have := congrArg List.length hd; simp at this; omega
  | cons l r => simp
theorem load_ok (S : Sim w0 fb X ι st tm w) {C : Ctx} (H : CtxOk P C) {o : Oper} {T : TypeId} {x : Operand} (ho : o.op = .load T x) (hd : jjJ st o.dst = true) (hk : (C.tt T).known = true) :
  Holds (loadV (C.tt T).agg (C.tt T).size st (ev C st T x)) (jjA P w0 fb X st tm w o) := by
 have hn := known_ne hk
 have hev := jqe S C T x
 have fin : ∀ {b p : Nat} {ls : List Lf} {vs : List Value} {off : Nat} {v : SV}, Act.eval ⟨tm, []⟩ x = .pointer (some ⟨b, p + off, none⟩) → CellsAt w b p vs → LfsOk ι st.sites w (jjh X ι st.sites) ls vs →
   cut (C.tt T).agg off (C.tt T).size ls = some v → jjA P w0 fb X st tm w o v [] := by
  intro b p ls vs off v hx hc hl hcut
  obtain ⟨hle, hsv⟩ := cut_ok hcut agg_size hl
  refine jjm S hd (vv := packV (C.tt T).agg ((vs.drop off).take (C.tt T).size)) ?_ hsv
  have hrun := jqf (P := P) (w := w) (H.tt T) hn ⟨b, p + off, none⟩ ((vs.drop off).take (C.tt T).size) (by simp; omega) (fun j u hu => by rw [jqD]; exact (hc.drop off).take _ j u hu)
  unfold execOp
  simp only [ho, Instr.loadAt, Instr.sureAddr, hx, Sem.run_bind, Sem.run_pure, Result.andThen_ok, hrun]
 unfold loadV
 split
 ·rename_i σ s off heq
  rw [heq] at hev
  split
  ·rename_i cells hb
   split
   ·rename_i v hcut
    obtain ⟨b, T', cur, _, hv, hg, _, hl⟩ := S.box (jjE hb) hev
    exact Holds.ok (fin (p := 0) (by rw [Nat.zero_add]; exact hv) (CellsAt.row hg) hl hcut)
   ·exact .fail
  ·exact .fail
 ·rename_i cells off heq
  rw [heq] at hev
  split
  ·rename_i v hcut
   obtain ⟨b, p, hv, _, _, cs, hl, hc, hr⟩ := hev
   exact Holds.ok (fin hv hc (jqM hl hr) hcut)
  ·exact .fail
 ·rename_i σ s u k off heq
  rw [heq] at hev
  split
  ·rename_i t xs hrow
   split
   ·rename_i htu
    obtain ⟨rfl, hle⟩ := htu
    refine Holds.opt fun y hy => ?_
    have hy' : xs[k]? = some y := hy
    obtain ⟨cs, hl, hcell⟩ := S.row hrow
    have hst : ∃ site, jjB st.sites σ = some site ∧ site.stamp = s := by
     rcases jjY hrow with h | h <;> exact ⟨_, h, rfl⟩
    obtain ⟨site, hsl, hss⟩ := hst
    obtain ⟨b, hv, hev2⟩ := hev
    obtain ⟨n, c, hι⟩ := Ref.at hev2 hsl hss
    cases hcut : cut (C.tt T).agg off (C.tt T).size (asD (enc t y)) with
    | none => exact absurd hcut (cut_some (by simpa [asD, jjS] using hle) agg_size)
    | some v =>
     rcases hcell with ⟨hnil, _⟩ | ⟨b', c', hι', hcs, _⟩
     ·rw [hι] at hnil; cases hnil
     ·rw [hι] at hι'
      cases hι'
      have e1 : asD (enc t y) = ((asD (jjM t xs)).drop (k * esz t)).take (esz t) := by
       rw [← jxM t xs k y hy']; simp [asD, List.map_drop, List.map_take]
      rw [e1] at hcut
      refine fin (p := k * esz t) hv ?_ ((hl.drop (k * esz t)).take (esz t)) hcut
      have := (hcs.drop (k * esz t)).take (esz t)
      rwa [Nat.zero_add] at this
   ·exact .fail
  ·exact .fail
 ·exact .fail
end
section
variable {P : Program} {w0 : World} {fb : List Nat} {X : Nat → Prop} {ι : Nat → Value} {st : St} {tm : Array Value} {w : World}
theorem Sim.live_lt (S : Sim w0 fb X ι st tm w) {σ b : Nat} (hl : jjs st.sites σ) (hb : blk (ι σ) = some b) : b < w.heap.size := by
 obtain ⟨site, h1, h2⟩ := hl
 have := S.sites σ site h1
 cases site with
 | box s cells =>
  obtain ⟨b', T, cur, g1, g2, _⟩ := this
  rw [g1] at hb
  cases hb
  exact (Array.getElem?_eq_some_iff.1 g2).1
 | row s t xs =>
  obtain ⟨e, cs, g1, _⟩ := this
  rcases g1.2 with ⟨hn, _⟩ | ⟨g, cap, cur, fz, hv, _, hg, _⟩
  ·rw [hn] at hb; cases hb
  ·rw [hv] at hb
   cases hb
   exact (Array.getElem?_eq_some_iff.1 hg).1
 | map s t es =>
  obtain ⟨b', g1, g2⟩ := this
  rw [g1] at hb
  cases hb
  exact g2.lt
 | froz => cases h2
 | dead => cases h2
theorem lfs_sv {ι ι' : Nat → Value} {sites sites' : List (Nat × Site)} {w w' : World} {av av' : Nat → Prop} (go : ∀ {a : SV} {v : Value}, SVOk ι sites w av a v → SVOk ι' sites' w' av' a v) {ls : List Lf} {vs : List Value}
  (h : LfsOk ι sites w av ls vs) : LfsOk ι' sites' w' av' ls vs := by
 obtain ⟨vs', h1, h2, h3⟩ := go (a := .av (.agg ls)) (v := .agg vs.toArray) ⟨vs, rfl, h.1, h.2⟩
 have : vs = vs' := by simpa using h1
 subst this
 exact ⟨h2, h3⟩
theorem rd_sv {ι ι' : Nat → Value} {sites sites' : List (Nat × Site)} {w w' : World} {av av' : Nat → Prop} (go : ∀ {a : SV} {v : Value}, SVOk ι sites w av a v → SVOk ι' sites' w' av' a v) {d : D} {v : Value}
  (h : Rd w av d v) : Rd w' av' d v := go (a := one d) (v := v) h
theorem isLive_upd {sites : List (Nat × Site)} {σ : Nat} {site site' : Site} (hl : jjB sites σ = some site) (h : site'.live = site.live) (τ : Nat) : jjs (upd sites σ site') τ ↔ jjs sites τ := by
 unfold jjs
 rw [jjl]
 by_cases e : σ = τ
 ·subst e
  simp only [if_true, hl, Option.some.injEq]
  constructor
  ·rintro ⟨s, rfl, h2⟩; exact ⟨site, rfl, h ▸ h2⟩
  ·rintro ⟨s, rfl, h2⟩; exact ⟨site', rfl, h ▸ h2⟩
 ·simp only [e, if_false]
theorem Sim.write (S : Sim w0 fb X ι st tm w) {σ b : Nat} {site site' : Site} {cur cur' : Array Value} {T : TypeId} {fr : Nat × Nat} (hl : jjB st.sites σ = some site) (hlive : site.live = true) (hlive' : site'.live = true) (hs : site'.stamp = site.stamp)
  (hι : blk (ι σ) = some b) (hg : w.heap[b]? = some (.cells cur T fr))
  (hok : ∀ {sites' : List (Nat × Site)} {w' : World}, sites' = upd st.sites σ site' → w' = w.setRow b cur' → w'.heap[b]? = some (.cells cur' T fr) →
   (∀ {a v}, SVOk ι st.sites w (jjh X ι st.sites) a v → SVOk ι sites' w' (jjh X ι sites') a v) → SiteOk ι sites' w' (jjh X ι sites') σ site') :
  Sim w0 fb X ι { st with sites := upd st.sites σ site' } tm (w.setRow b cur') := by
 have hlv : jjs st.sites σ := ⟨site, hl, hlive⟩
 have hiff : ∀ τ, jjs (upd st.sites σ site') τ ↔ jjs st.sites τ := isLive_upd hl (hlive'.trans hlive.symm)
 have hav : ∀ b', jjh X ι (upd st.sites σ site') b' ↔ jjh X ι st.sites b' := by
  intro b'; unfold jjh; simp only [hiff]
 have hne : ∀ b', ¬ jjh X ι st.sites b' → b' ≠ b := by
  rintro b' h rfl
  exact h (.inr ⟨σ, hlv, hι⟩)
 refine S.turn (fun τ s hτ => ?_) (fun b' h _ => setRow_other w b b' _ (hne b' h)) (fun b' h _ => by rw [hav]; exact h) (fun go τ s hτ => ?_) (fun τ ρ b' h1 h2 => S.excl τ ρ b' ((hiff τ).1 h1) ((hiff ρ).1 h2))
  (fun τ b' h => S.mine τ b' ((hiff τ).1 h)) (fun τ b' h hb => by rw [setRow_size]; exact S.live_lt ((hiff τ).1 h) hb) ?_ (by rw [setRow_size]; exact Nat.le_refl _)
 ·rw [jjl]
  by_cases e : σ = τ
  ·subst e
   rw [hl] at hτ; cases hτ
   exact ⟨site', by simp, by omega, fun _ => rfl⟩
  ·exact ⟨s, by simp [e, hτ], Nat.le_refl _, fun _ => rfl⟩
 ·rw [jjl] at hτ
  by_cases e : σ = τ
  ·subst e
   simp only [if_true, Option.some.injEq] at hτ
   subst hτ
   exact .inr (hok rfl rfl (setRow_heap w b cur cur' T fr hg) go)
  ·simp only [e, if_false] at hτ
   refine .inl ⟨hτ, rfl, fun hlv' b' hb' => setRow_other w b b' _ ?_⟩
   rintro rfl
   exact e (S.excl σ τ _ hlv ⟨s, hτ, hlv'⟩ hι hb')
 ·have F := S.frame
  refine ⟨F.os, F.tape, F.output, by rw [setRow_size]; exact F.size, fun b' h1 h2 => ?_⟩
  rw [setRow_other w b b' _ ?_]
  ·exact F.block b' h1 h2
  ·rintro rfl
   rcases (S.mine σ _ hlv hι).2 with h | h
   ·exact h2 h
   ·omega
theorem Sim.freeze (S : Sim w0 fb X ι st tm w) {σ s : Nat} {t : Ty} {xs : List (den t)} (hl : jjB st.sites σ = some (.row s t xs)) :
  Sim w0 fb X ι { st with sites := upd st.sites σ (.froz s t xs) } tm w := by
 have hlv : jjs st.sites σ := ⟨_, hl, rfl⟩
 have hsub : ∀ τ, jjs (upd st.sites σ (.froz s t xs)) τ → jjs st.sites τ ∧ τ ≠ σ := by
  rintro τ ⟨site, h1, h2⟩
  rw [jjl] at h1
  by_cases e : σ = τ
  ·subst e; simp at h1; subst h1; cases h2
  ·simp only [e, if_false] at h1
   exact ⟨⟨site, h1, h2⟩, fun h => e h.symm⟩
 have hav : ∀ b', jjh X ι (upd st.sites σ (.froz s t xs)) b' → jjh X ι st.sites b' := by
  rintro b' (h | ⟨τ, h1, h2⟩)
  ·exact .inl h
  ·exact .inr ⟨τ, (hsub τ h1).1, h2⟩
 refine S.turn (fun τ site hτ => ?_) (fun _ _ _ => rfl) (fun b' h _ h' => h (hav b' h')) (fun go τ site hτ => ?_) (fun τ ρ b' h1 h2 => S.excl τ ρ b' (hsub τ h1).1 (hsub ρ h2).1)
  (fun τ b' h => S.mine τ b' (hsub τ h).1) (fun τ b' h hb => S.live_lt (hsub τ h).1 hb) S.frame (Nat.le_refl _)
 ·rw [jjl]
  by_cases e : σ = τ
  ·subst e
   rw [hl] at hτ; cases hτ
   exact ⟨.froz s t xs, by simp, Nat.le_refl _, fun _ => rfl⟩
  ·exact ⟨site, by simp [e, hτ], Nat.le_refl _, fun _ => rfl⟩
 ·rw [jjl] at hτ
  by_cases e : σ = τ
  ·subst e
   simp only [if_true, Option.some.injEq] at hτ
   subst hτ
   refine .inr ?_
   show Rd _ _ (.sl t xs) (ι σ) ∧ Head (ι σ)
   obtain ⟨e', cs, h1, h2⟩ := S.sites σ _ hl
   rcases h1.2 with ⟨hn, h0⟩ | ⟨g, cap, cur, fz, hv, _, hg, hnc, _, _, htk⟩
   ·have : xs = [] := List.eq_nil_of_length_eq_zero h0
    subst this
    rw [hn]; exact ⟨.nil t, .inl rfl⟩
   ·rw [hv]
    refine ⟨?_, .inr ⟨_, _, _, rfl⟩⟩
    have hlen : cs.length = (jjM t xs).length := by rw [jjp]; exact h1.1
    refine .sl t xs _ cap cs xs.length rfl hnc (fun _ => ?_) hlen (fun j u hu => ?_) (fun j g1 g2 => rd_sv go (h2 j g1 g2))
    ·rintro (hx | ⟨τ, g1, g2⟩)
     ·exact (S.mine σ g hlv (by rw [hv]; rfl)).1 hx
     ·obtain ⟨g3, g4⟩ := hsub τ g1
      exact g4 (S.excl τ σ g g3 hlv g2 (by rw [hv]; rfl))
    ·rw [jqD, Nat.zero_add, cell_of_row w g j cur e' fz hg]
     rw [← htk, List.getElem?_take] at hu
     split at hu
     ·simpa using hu
     ·cases hu
  ·simp only [e, if_false] at hτ
   exact .inl ⟨hτ, rfl, fun _ _ _ => rfl⟩
theorem upd_same {α : Type} (l : List (Nat × α)) (n : Nat) (v : α) (h : jjB l n = some v) : upd l n v = l := by
 induction l with
 | nil => simp [jjB] at h
 | cons p l ih =>
  obtain ⟨k, u⟩ := p
  simp only [jjB] at h
  simp only [upd]
  cases hb : k.beq n with
  | true => simp only [hb, cond_true, Option.some.injEq] at h; subst h; simp
  | false => simp only [hb, cond_false] at h; simp [ih h]
def Freezes (sites : List (Nat × Site)) (us : List (Nat × Site)) : Prop :=
 ∀ σ site, (σ, site) ∈ us → ∃ s t, ∃ xs : List (den t), site = .froz s t xs ∧ (jjB sites σ = some (.row s t xs) ∨ jjB sites σ = some (.froz s t xs))
theorem Freezes.nil {sites : List (Nat × Site)} : Freezes sites [] := fun _ _ h => by simp at h
theorem Freezes.append {sites us vs : List (Nat × Site)} (h : Freezes sites us) (h' : Freezes sites vs) : Freezes sites (us ++ vs) := by
 intro σ site hm
 rcases List.mem_append.1 hm with hm | hm
 ·exact h σ site hm
 ·exact h' σ site hm
theorem Freezes.step {sites us : List (Nat × Site)} {σ : Nat} {site : Site} (h : Freezes sites ((σ, site) :: us)) : Freezes (upd sites σ site) us := by
 obtain ⟨s, t, xs, rfl, hl⟩ := h σ site (by simp)
 intro τ site' hm
 obtain ⟨s', t', xs', rfl, hl'⟩ := h τ site' (by simp [hm])
 refine ⟨s', t', xs', rfl, ?_⟩
 rw [jjl]
 by_cases e : σ = τ
 ·subst e
  simp only [if_true]
  right
  rcases hl with hl | hl <;> rcases hl' with hl' | hl' <;> rw [hl] at hl' <;> cases hl' <;> rfl
 ·simp only [e, if_false]; exact hl'
theorem Sim.freezes {us : List (Nat × Site)} : ∀ {st : St}, Sim w0 fb X ι st tm w → Freezes st.sites us → Sim w0 fb X ι { st with sites := jjN st.sites us } tm w := by
 induction us with
 | nil => intro st S _; exact S
 | cons p us ih =>
  obtain ⟨σ, site⟩ := p
  intro st S h
  have h' := h.step
  obtain ⟨s, t, xs, rfl, hl⟩ := h σ site (by simp)
  simp only [jjN]
  rcases hl with hl | hl
  ·exact ih (S.freeze hl) h'
  ·rw [upd_same _ _ _ hl] at h' ⊢
   exact ih S h'
theorem jjW {us : List (Nat × Site)} : ∀ {sites : List (Nat × Site)}, Freezes sites us → ∀ σ, (jjB (jjN sites us) σ = jjB sites σ) ∨ (∃ s t, ∃ xs : List (den t), (jjB sites σ = some (.row s t xs) ∨ jjB sites σ = some (.froz s t xs)) ∧ jjB (jjN sites us) σ = some (.froz s t xs)) := by
 induction us with
 | nil => intro sites _ σ; exact .inl rfl
 | cons p us ih =>
  obtain ⟨τ, site⟩ := p
  intro sites h σ
  obtain ⟨s, t, xs, rfl, hl⟩ := h τ site (by simp)
  simp only [jjN]
  have hc := jjl sites τ σ (.froz s t xs)
  rcases ih h.step σ with h1 | ⟨s', t', xs', h1, h2⟩
  ·by_cases e : τ = σ
   ·subst e
    simp only [if_true] at hc
    exact .inr ⟨s, t, xs, hl, h1.trans hc⟩
   ·simp only [e, if_false] at hc
    exact .inl (h1.trans hc)
  ·by_cases e : τ = σ
   ·subst e
    simp only [if_true] at hc
    rw [hc] at h1
    rcases h1 with h1 | h1
    ·cases h1
    ·cases h1; exact .inr ⟨s, t, xs, hl, h2⟩
   ·simp only [e, if_false] at hc
    rw [hc] at h1
    exact .inr ⟨s', t', xs', h1, h2⟩
theorem jq3 {us : List (Nat × Site)} : ∀ {sites : List (Nat × Site)}, Freezes sites us → ∀ {σ s : Nat} {t : Ty} {xs : List (den t)}, (σ, Site.froz s t xs) ∈ us → jjB (jjN sites us) σ = some (.froz s t xs) := by
 intro sites h σ s t xs hm
 obtain ⟨s0, t0, xs0, he, hl⟩ := h σ _ hm
 cases he
 rcases jjW h σ with h1 | ⟨s', t', xs', h1, h2⟩
 ·-- named, and so turned
  induction us generalizing sites with
  | nil => simp at hm
  | cons p us ih =>
   obtain ⟨τ, site⟩ := p
   simp only [jjN] at h1 ⊢
   rcases List.mem_cons.1 hm with hm | hm
   ·cases hm
    rcases jjW h.step σ with h2 | ⟨s', t', xs', h2, h3⟩
    ·rw [h2, jjl]; simp
    ·rw [jjl] at h2; simp at h2; obtain ⟨rfl, rfl, h2⟩ := h2; rw [h3]; cases h2; rfl
   ·have hc := jjl sites τ σ site
    by_cases e : τ = σ
    ·subst e
     obtain ⟨s1, t1, xs1, rfl, hl1⟩ := h τ site (by simp)
     have : Site.froz s1 t1 xs1 = Site.froz s t xs := by
      rcases hl with hl | hl <;> rcases hl1 with hl1 | hl1 <;> rw [hl] at hl1 <;> cases hl1 <;> rfl
     cases this
     simp only [if_true] at hc
     rcases jjW h.step τ with h2 | ⟨s', t', xs', h2, h3⟩
     ·rw [h2, hc]
     ·rw [hc] at h2; rcases h2 with h2 | h2
      ·cases h2
      ·cases h2; exact h3
    ·simp only [e, if_false] at hc
     refine ih h.step hm (by rw [hc]; exact hl) ?_
     rw [h1, hc]
 ·rcases hl with hl | hl <;> rcases h1 with h1 | h1 <;> rw [hl] at h1 <;> cases h1 <;> exact h2
end
section
variable {P : Program} {w0 : World} {fb : List Nat} {X : Nat → Prop} {ι : Nat → Value} {st : St} {tm : Array Value} {w : World}
structure Fz (w0 : World) (fb : List Nat) (X : Nat → Prop) (ι : Nat → Value) (st : St) (tm : Array Value) (w : World) (vs : List (Nat × Site)) : Prop where
 old : Sim w0 fb X ι st tm w
 fz : Freezes st.sites vs
theorem Fz.new {vs : List (Nat × Site)} (F : Fz w0 fb X ι st tm w vs) : Sim w0 fb X ι { st with sites := jjN st.sites vs } tm w := F.old.freezes F.fz
theorem Fz.go {vs : List (Nat × Site)} (F : Fz w0 fb X ι st tm w vs) {a : SV} {v : Value} (h : SVOk ι st.sites w (jjh X ι st.sites) a v) : SVOk ι (jjN st.sites vs) w (jjh X ι (jjN st.sites vs)) a v := by
 have hsub : ∀ τ, jjs (jjN st.sites vs) τ → jjs st.sites τ := by
  rintro τ ⟨site, h1, h2⟩
  rcases jjW F.fz τ with h | ⟨s, t, xs, _, h⟩
  ·exact ⟨site, h ▸ h1, h2⟩
  ·rw [h] at h1; cases h1; cases h2
 refine h.goes ⟨fun σ site hσ => ?_, fun _ _ _ => rfl, fun b hb _ hb' => hb ?_⟩ (Nat.le_refl _) ?_
 ·rcases jjW F.fz σ with h | ⟨s, t, xs, h1, h2⟩
  ·exact ⟨site, h.trans hσ, Nat.le_refl _, fun _ => rfl⟩
  ·refine ⟨_, h2, ?_, fun _ => rfl⟩
   rw [hσ] at h1
   rcases h1 with h1 | h1 <;> cases h1 <;> exact Nat.le_refl _
 ·rcases hb' with h | ⟨τ, h1, h2⟩
  ·exact .inl h
  ·exact .inr ⟨τ, hsub τ h1, h2⟩
 ·rintro b (h | ⟨τ, h1, h2⟩)
  ·exact F.old.old b h
  ·exact F.old.live_lt (hsub τ h1) h2
theorem frzU_fz {σ s : Nat} {t : Ty} {xs : List (den t)} (hr : jxC st σ s = some ⟨t, xs⟩) : Freezes st.sites (frzU st σ s t xs) := by
 unfold frzU
 split
 ·exact .nil
 ·intro τ site hm
  simp only [List.mem_singleton, Prod.mk.injEq] at hm
  obtain ⟨rfl, rfl⟩ := hm
  exact ⟨s, t, xs, rfl, jjY hr⟩
theorem frzU_upd {σ s : Nat} {t : Ty} {xs : List (den t)} (hr : jxC st σ s = some ⟨t, xs⟩) : jjN st.sites (frzU st σ s t xs) = jjN st.sites [(σ, .froz s t xs)] := by
 unfold frzU
 split
 ·rename_i s0 t0 xs0 h0
  have h0 : jjB st.sites σ = some (.froz s0 t0 xs0) := h0
  simp only [jjN]
  rcases jjY hr with h | h
  ·rw [h0] at h; cases h
  ·exact (upd_same _ _ _ h).symm
 ·rfl
theorem froz_kept {sites us : List (Nat × Site)} (h : Freezes sites us) {σ s : Nat} {t : Ty} {xs : List (den t)} (hl : jjB sites σ = some (.froz s t xs)) : jjB (jjN sites us) σ = some (.froz s t xs) := by
 rcases jjW h σ with h1 | ⟨s', t', xs', h1, h2⟩
 ·rw [h1]; exact hl
 ·rw [hl] at h1
  rcases h1 with h1 | h1
  ·cases h1
  ·cases h1; exact h2
theorem dat_fz {l : Lf} {d : D} {us : List (Nat × Site)} (h : dat st l = some (d, us)) : Freezes st.sites us := by
 unfold dat at h
 split at h
 ·cases h; exact .nil
 ·cases h; exact .nil
 ·rename_i σ s
  split at h
  ·rename_i t xs hr
   cases h
   exact frzU_fz hr
  ·cases h
 ·cases h; exact .nil
 ·cases h
theorem dat_ok {l : Lf} {d : D} {us vs : List (Nat × Site)} {v : Value} (h : dat st l = some (d, us)) (hv : LfOk ι st.sites w (jjh X ι st.sites) l v)
  (F : Fz w0 fb X ι st tm w vs) (hsub : ∀ p, p ∈ us → p ∈ vs) : Rd w (jjh X ι (jjN st.sites vs)) d v := by
 unfold dat at h
 split at h
 ·cases h; exact rd_sv F.go hv
 ·cases h; rw [show v = _ from hv]; exact .nil _
 ·rename_i σ s
  split at h
  ·rename_i t xs hr
   cases h
   have hl : jjB (jjN st.sites vs) σ = some (.froz s t xs) := by
    unfold frzU at hsub
    split at hsub
    ·rename_i s0 t0 xs0 h0
     have h0 : jjB st.sites σ = some (.froz s0 t0 xs0) := h0
     rcases jjY hr with h | h
     ·rw [h0] at h; cases h
     ·exact froz_kept F.fz h
    ·exact jq3 F.fz (hsub _ (List.mem_singleton.2 rfl))
   have := F.new.sites σ _ hl
   have hv' : v = ι σ := by
    rcases jjY hr with h1 | h1 <;> exact Ref.at hv.2 h1 rfl
   rw [hv']; exact this.1
  ·cases h
 ·rename_i g
  cases h
  obtain ⟨ls, rfl, hl, _⟩ := hv
  have : ls = [] := List.eq_nil_of_length_eq_zero (by simpa using hl)
  subst this
  exact .fn g [] [] (fun _ => []) _ rfl rfl (fun b hb => by simp at hb) (fun b hb => by simp at hb) (fun i hi => by simp at hi) (fun i hi => by simp at hi) (fun i hi => by simp at hi)
 ·cases h
theorem dats_fz : ∀ {ls : List Lf} {ds : List D} {us : List (Nat × Site)}, dats st ls = some (ds, us) → Freezes st.sites us := by
 intro ls
 induction ls with
 | nil => intro ds us h; simp only [dats] at h; cases h; exact .nil
 | cons l ls ih =>
  intro ds us h
  simp only [dats] at h
  split at h
  ·rename_i d u1 ds' u2 h1 h2
   cases h
   exact (dat_fz h1).append (ih h2)
  ·cases h
def RdsOk (w : World) (av : Nat → Prop) (ds : List D) (vs : List Value) : Prop := vs.length = ds.length ∧ ∀ j (h : j < ds.length) (h' : j < vs.length), Rd w av (ds[j]) (vs[j])
theorem dats_ok : ∀ {ls : List Lf} {ds : List D} {us vs : List (Nat × Site)} {cs : List Value}, dats st ls = some (ds, us) → LfsOk ι st.sites w (jjh X ι st.sites) ls cs →
  Fz w0 fb X ι st tm w vs → (∀ p, p ∈ us → p ∈ vs) → RdsOk w (jjh X ι (jjN st.sites vs)) ds cs := by
 intro ls
 induction ls with
 | nil => intro ds us vs cs h hl _ _; simp only [dats] at h; cases h; rw [hl.inv_nil]; exact ⟨rfl, fun j h => by simp at h⟩
 | cons l ls ih =>
  intro ds us vs cs h hl F hsub
  simp only [dats] at h
  split at h
  ·rename_i d u1 ds' u2 h1 h2
   cases h
   obtain ⟨c, cs', rfl, hc, hcs⟩ := hl.inv
   have r1 := dat_ok h1 hc F (fun p hp => hsub p (List.mem_append.2 (.inl hp)))
   obtain ⟨r2, r3⟩ := ih h2 hcs F (fun p hp => hsub p (List.mem_append.2 (.inr hp)))
   refine ⟨by simp [r2], fun j g1 g2 => ?_⟩
   cases j with
   | zero => exact r1
   | succ j => exact r3 j (by simpa using g1) (by simpa using g2)
  ·cases h
theorem FzOk.run {P : Program} {u : Bool} (g o : Nat) (t : TypeId) (fz : Nat × Nat) : ∀ (vs : List Value) (i : Nat) (cur : Array Value) (w : World), w.heap[g]? = some (.cells cur t fz) → FzOk u t cur fz → o + i + vs.length ≤ cur.size → (∀ v ∈ vs, v.oneCell' = true) →
  (storeCells ⟨g, o, none⟩ vs i).run P w = .ok () (w.setRow g (cur.toList.take (o + i) ++ vs ++ cur.toList.drop (o + i + vs.length)).toArray)
 | [], i, cur, w, hg, _, _, _ => by
  simp only [storeCells, List.append_nil, List.length_nil, Nat.add_zero, List.take_append_drop, Array.toArray_toList]
  rw [setRow_self w g cur t fz hg]
  rfl
 | v :: rest, i, cur, w, hg, hz, hl, h1 => by
  have hi : o + i < cur.size := by simp at hl; omega
  have hadd : (⟨g, o, none⟩ : Addr).add i = ⟨g, o + i, none⟩ := by unfold Addr.add; split <;> simp_all
  have hcell : w.cell? ⟨g, o + i, none⟩ = some cur[o + i] := by simp [World.cell?, hg, hi]
  have hfro : w.frozen? ⟨g, o + i, none⟩ = false := by
   rcases hz.2 with rfl | ⟨_, hz⟩
   ·simp [World.frozen?, hg]
   ·simp only [World.frozen?, hg]
    have : ¬ fz.1 ≤ o + i := by omega
    simp [this]
  have hst : (store ((⟨g, o, none⟩ : Addr).add i) v).run P w = .ok () (w.setRow g (cur.setIfInBounds (o + i) v)) := by
   rw [hadd, run_store P w _ v _ (h1 v (by simp)), hcell]
   simp [hfro, setCell_eq_setRow w g (o + i) cur t fz v hg]
  have ih := FzOk.run (P := P) (u := u) g o t fz rest (i + 1) (cur.setIfInBounds (o + i) v) (w.setRow g (cur.setIfInBounds (o + i) v)) (setRow_heap w g cur _ t _ hg)
   ⟨hz.1, hz.2.imp id fun h => ⟨h.1, by simpa using h.2⟩⟩ (by simp at hl ⊢; omega) (fun x hx => h1 x (by simp [hx]))
  simp only [storeCells, Sem.run_bind, hst, Result.andThen_ok, ih, setRow_setRow]
  congr 3
  have e := list_seg_step cur.toList (o + i) v rest (by simp at hl ⊢; omega)
  simpa [Array.toList_setIfInBounds, Nat.add_assoc] using e
theorem jzs {u : Bool} {fz : Nat × Nat} {T : TypeId} {ti : TI} (h : ti.ok P T) (hn : ti ≠ .none) {b off : Nat} {vv : Value} {cur : List Value} {T' : TypeId} (hg : w.heap[b]? = some (.cells cur.toArray T' fz)) (hz : FzOk u T' cur.toArray fz)
  (hsz : vv.cells.toList.length = ti.size) (hle : off + vv.cells.toList.length ≤ cur.length) (h1 : ∀ u ∈ vv.cells.toList, u.oneCell' = true) :
  (storeVar T ⟨b, off, none⟩ vv).run P w = .ok () (w.setRow b (splice cur off vv.cells.toList).toArray) := by
 have hs : vv.cells.size = ti.size := by simpa using hsz
 have := FzOk.run (P := P) b off T' fz vv.cells.toList 0 cur.toArray w hg hz (by simpa using hle) h1
 simp only [storeVar, Sem.run_bind, TI.run_size h hn, Result.andThen_ok, hs, ne_eq, not_true_eq_false, if_false]
 rw [this]
 simp [splice]
variable {o : Oper}
theorem jzP {ι' : Nat → Value} {w' : World} {us : List (Nat × Site)} (S : Sim w0 fb X ι' { st with sites := jjN st.sites us } tm w') (hd : jjJ st o.dst = true)
  (h : (execOp (Act.eval ⟨tm, []⟩) o).run P w = .ok .skip w') : jjA P w0 fb X st tm w o (lfv (.cst undef)) us :=
 fun _ _ hK => wp_skp h (hK _ _ _ (Sim.app S hd rfl))
theorem jj1 {ι' : Nat → Value} {w' : World} {us : List (Nat × Site)} {v : SV} {vv : Value} (S : Sim w0 fb X ι' { st with sites := jjN st.sites us } tm w') (hd : jjJ st o.dst = true)
  (h : (execOp (Act.eval ⟨tm, []⟩) o).run P w = .ok (.value vv) w') (hv : SVOk ι' (jjN st.sites us) w' (jjh X ι' (jjN st.sites us)) v vv) : jjA P w0 fb X st tm w o v us :=
 fun _ _ hK => wp_val h (hK _ _ _ (Sim.app S hd hv))
theorem jqv {α : Type} (a : List α) (off : Nat) (b : List α) (h : off + b.length ≤ a.length) : (splice a off b).length = a.length := by
 unfold splice
 simp only [List.length_append, List.length_take, List.length_drop]
 omega
theorem splice_take {α : Type} (a : List α) (off n : Nat) (b : List α) (h : off + b.length ≤ n) (hn : n ≤ a.length) : (splice a off b).take n = splice (a.take n) off b := by
 unfold splice
 apply List.ext_getElem?
 intro j
 simp only [List.getElem?_take, List.getElem?_append, List.length_append, List.length_take, List.getElem?_drop]
 have m1 : min off a.length = off := by omega
 have m2 : min off (min n a.length) = off := by omega
 simp only [m1, m2]
 by_cases c1 : j < off
 ·have c2 : j < n := by omega
  have c3 : j < off + b.length := by omega
  simp [c1, c2, c3]
 ·by_cases c3 : j < off + b.length
  ·have c2 : j < n := by omega
   simp [c1, c2, c3]
  ·have e : off + b.length + (j - (off + b.length)) = j := by omega
   simp [c1, c3, e]
theorem slf_splice {cells ls : List Lf} {T : TypeId} {cur vs : List Value} {b off : Nat} (h : SlfOk cells T cur b) (hl : vs.length = ls.length) (hns : jjz ls = true) : SlfOk (splice cells off ls) T (splice cur off vs) b := by
 intro hh
 unfold splice at hh ⊢
 cases off with
 | zero =>
  cases ls with
  | nil =>
   cases vs with
   | nil => simpa using h (by simpa using hh)
   | cons => cases hl
  | cons l ls =>
   simp only [List.take_zero, List.nil_append, List.cons_append, List.head?_cons, Option.some.injEq] at hh
   subst hh
   cases hns
 | succ n =>
  cases cells with
  | nil =>
   cases ls with
   | nil => simp at hh
   | cons l ls =>
    simp only [List.take_nil, List.nil_append, List.cons_append, List.head?_cons, Option.some.injEq] at hh
    subst hh
    cases hns
  | cons c cells =>
   simp only [List.take_succ_cons, List.cons_append, List.head?_cons, Option.some.injEq] at hh
   subst hh
   have := h rfl
   cases cur with
   | nil => simp at this
   | cons v cur => simpa using this
theorem Sim.storeBox (S : Sim w0 fb X ι st tm w) {σ s off : Nat} {cells ls : List Lf} {v : Value} {vs : List Value} (hb : jjB st.sites σ = some (.box s cells)) (hv : LfOk ι st.sites w (jjh X ι st.sites) (.ptr σ s off) v)
  (hl : LfsOk ι st.sites w (jjh X ι st.sites) ls vs) (hle : off + ls.length ≤ cells.length) (h1 : ∀ u ∈ vs, u.oneCell' = true) (hns : jjz ls = true) :
  ∃ b T cur, v = .pointer (some ⟨b, off, none⟩) ∧ w.heap[b]? = some (.cells (List.toArray cur) T (0, 0)) ∧ off + vs.length ≤ cur.length ∧
   Sim w0 fb X ι { st with sites := upd st.sites σ (.box s (splice cells off ls)) } tm (w.setRow b (splice cur off vs).toArray) := by
 obtain ⟨b, T, cur, hι, hvv, hg, hcur, hlf⟩ := S.box hb hv
 have hle' : off + vs.length ≤ cur.length := by rw [hl.1, hlf.1]; exact hle
 refine ⟨b, T, cur, hvv, hg, hle', ?_⟩
 have hsl : SlfOk cells T cur b := by
  obtain ⟨b2, T2, cur2, k1, k2, _, _, k3, _⟩ := S.sites σ _ hb
  rw [hι] at k1
  cases k1
  rw [hg] at k2
  cases k2
  exact k3
 refine S.write hb rfl rfl rfl (by rw [hι]; rfl) hg (fun hs hw hg' go => ?_)
 have hlf' := lfs_sv go (hlf.splice off hl)
 refine ⟨b, T, _, hι, hg', hlf'.1, fun u hu => ?_, slf_splice hsl hl.1 hns, hlf'.2⟩
 unfold splice at hu
 simp only [List.mem_append] at hu
 rcases hu with (hu | hu) | hu
 ·exact hcur u (List.mem_of_mem_take hu)
 ·exact h1 u hu
 ·exact hcur u (List.mem_of_mem_drop hu)
theorem jqy {ι : Nat → Value} {sites : List (Nat × Site)} {w : World} {av : Nat → Prop} {ds : List D} {vs : List Value} (h : LfsOk ι sites w av (asD ds) vs) : RdsOk w av ds vs :=
 ⟨by simpa [asD] using h.1, fun j g1 g2 => by
  have := h.2 j (by simpa [asD] using g1) g2
  simp only [asD, List.getElem_map] at this
  exact this⟩
theorem rds_flat_set {w : World} {av : Nat → Prop} {t : Ty} {xs : List (den t)} {k : Nat} {x' : den t} {cs ns : List Value} (hk : k < xs.length) (h : RdsOk w av (jjM t xs) cs) (h' : RdsOk w av (enc t x') ns) :
  RdsOk w av (jjM t (xs.set k x')) (splice cs (k * esz t) ns) := by
 have e : jjM t (xs.set k x') = splice (jjM t xs) (k * esz t) (enc t x') := by
  rw [flat_set, if_pos hk]
  unfold splice
  rw [jjS, Nat.add_mul, Nat.one_mul]
 rw [e]
 have a := jqM (ι := fun _ => undef) (sites := []) h.1 h.2
 have b := jqM (ι := fun _ => undef) (sites := []) h'.1 h'.2
 have c := a.splice (k * esz t) b
 have e2 : splice (asD (jjM t xs)) (k * esz t) (asD (enc t x')) = asD (splice (jjM t xs) (k * esz t) (enc t x')) := by
  simp [splice, asD, List.map_append, List.map_take, List.map_drop]
 rw [e2] at c
 exact jqy c
theorem Sim.storeRow (S : Sim w0 fb X ι st tm w) {σ s k off : Nat} {t : Ty} {xs : List (den t)} {x x' : den t} {v : Value} {ds : List D} {vs : List Value} (hb : jjB st.sites σ = some (.row s t xs))
  (hv : LfOk ι st.sites w (jjh X ι st.sites) (.optr σ s t k off) v) (hx : xs[k]? = some x) (hx' : enc t x' = splice (enc t x) off ds)
  (hl : RdsOk w (jjh X ι st.sites) ds vs) (hle : off + ds.length ≤ esz t) (h1 : ∀ u ∈ vs, u.oneCell' = true) :
  ∃ b T cur fz, v = .pointer (some ⟨b, k * esz t + off, none⟩) ∧ w.heap[b]? = some (.cells (List.toArray cur) T fz) ∧ FzOk t.isB T cur.toArray fz ∧ k * esz t + off + vs.length ≤ cur.length ∧
   Sim w0 fb X ι { st with sites := upd st.sites σ (.row s t (xs.set k x')) } tm (w.setRow b (splice cur (k * esz t + off) vs).toArray) := by
 obtain ⟨b, hvv, hv2⟩ := hv
 obtain ⟨n, c, hι⟩ := Ref.at hv2 hb rfl
 obtain ⟨e, cs, hown, hrd⟩ := S.sites σ _ hb
 have hk : k < xs.length := by
  rcases Nat.lt_or_ge k xs.length with h | h
  ·exact h
  ·rw [List.getElem?_eq_none h] at hx; cases hx
 obtain ⟨hol, h⟩ := hown
 rcases h with ⟨hn, _⟩ | ⟨g, cap, cur, fz, hg1, hg0, hg, hnc, hcm, hcs, htk⟩
 ·rw [hι] at hn; cases hn
 ·rw [hι] at hg1
  cases hg1
  have hk1 : (k + 1) * esz t ≤ xs.length * esz t := Nat.mul_le_mul_right _ hk
  have hk2 : xs.length * esz t ≤ c * esz t := Nat.mul_le_mul_right _ hnc
  rw [Nat.add_mul, Nat.one_mul] at hk1
  have hvl : vs.length = ds.length := hl.1
  have hcur : cur.toList.length = c * esz t := by simpa using hcs
  have hle' : k * esz t + off + vs.length ≤ cur.toList.length := by omega
  refine ⟨b, e, cur.toList, fz, hvv, by simpa using hg, by simpa using hg0, hle', ?_⟩
  refine S.write hb rfl rfl rfl (by rw [hι]; rfl) hg (fun hs hw hg' go => ?_)
  have hcsl : cs.length = xs.length * esz t := hol
  refine ⟨e, splice cs (k * esz t + off) vs, ⟨?_, .inr ⟨b, c, _, fz, ?_, ?_, hg', ?_, hcm, ?_, ?_⟩⟩, ?_⟩
  ·rw [jqv _ _ _ (by omega), List.length_set]; exact hol
  ·rw [hι, List.length_set]
  ·refine ⟨hg0.1, ?_⟩
   rcases hg0.2 with h | ⟨h, h'⟩
   ·exact .inl h
   ·refine .inr ⟨h, ?_⟩
    rw [List.size_toArray, jqv _ _ _ hle']
    simpa using h'
  ·rw [List.length_set]; exact hnc
  ·rw [List.size_toArray, jqv _ _ _ hle']; exact hcur
  ·rw [← htk, List.length_set, List.toList_toArray]
   exact splice_take _ _ _ _ (by omega) (by rw [hcur]; omega)
  ·have r0 : RdsOk w (jjh X ι st.sites) (jjM t xs) cs := ⟨by rw [jjp]; exact hol, hrd⟩
   have hsl := jxM t xs k x hx
   have r1 : RdsOk w (jjh X ι st.sites) (enc t x) ((cs.drop (k * esz t)).take (esz t)) := by
    have a := jqM (ι := fun _ => undef) (sites := []) r0.1 r0.2
    have b' := (a.drop (k * esz t)).take (esz t)
    have e2 : ((asD (jjM t xs)).drop (k * esz t)).take (esz t) = asD (enc t x) := by
     rw [← hsl]; simp [asD, List.map_drop, List.map_take]
    rw [e2] at b'
    exact jqy b'
   have r2 : RdsOk w (jjh X ι st.sites) (enc t x') (splice ((cs.drop (k * esz t)).take (esz t)) off vs) := by
    rw [hx']
    have a := jqM (ι := fun _ => undef) (sites := []) r1.1 r1.2
    have b' := jqM (ι := fun _ => undef) (sites := []) hl.1 hl.2
    have c' := a.splice off b'
    have e2 : splice (asD (enc t x)) off (asD ds) = asD (splice (enc t x) off ds) := by
     simp [splice, asD, List.map_append, List.map_take, List.map_drop]
    rw [e2] at c'
    exact jqy c'
   have r3 := rds_flat_set hk r0 r2
   have e3 : splice cs (k * esz t) (splice ((cs.drop (k * esz t)).take (esz t)) off vs) = splice cs (k * esz t + off) vs := by
    unfold splice
    apply List.ext_getElem?
    intro j
    simp only [List.getElem?_append, List.length_append, List.length_take, List.length_drop, List.getElem?_take, List.getElem?_drop]
    have m1 : min (k * esz t) cs.length = k * esz t := by omega
    have m2 : min (k * esz t + off) cs.length = k * esz t + off := by omega
    have m3 : min (esz t) (cs.length - k * esz t) = esz t := by omega
    have m4 : min off (esz t) = off := by omega
    simp only [m1, m2, m3, m4]
    by_cases c1 : j < k * esz t
    ·have c2 : j < k * esz t + off := by omega
     have c3 : j < k * esz t + off + vs.length := by omega
     have c4 : j < k * esz t + (off + vs.length + (esz t - (off + vs.length))) := by omega
     simp [c1, c2, c3, c4]
    ·by_cases c2 : j < k * esz t + off
     ·have d1 : j - k * esz t < off := by omega
      have d2 : j - k * esz t < off + vs.length := by omega
      have d3 : j - k * esz t < esz t := by omega
      have c3 : j < k * esz t + off + vs.length := by omega
      have c4 : j < k * esz t + (off + vs.length + (esz t - (off + vs.length))) := by omega
      have e5 : k * esz t + (j - k * esz t) = j := by omega
      simp [c1, c2, c3, c4, d1, d2, d3, e5]
     ·by_cases c3 : j < k * esz t + off + vs.length
      ·have d1 : ¬ j - k * esz t < off := by omega
       have d2 : j - k * esz t < off + vs.length := by omega
       have c4 : j < k * esz t + (off + vs.length + (esz t - (off + vs.length))) := by omega
       have e5 : j - k * esz t - off = j - (k * esz t + off) := by omega
       simp [c1, c2, c3, c4, d1, d2, e5]
      ·by_cases c4 : j < k * esz t + (off + vs.length + (esz t - (off + vs.length)))
       ·have d2 : ¬ j - k * esz t < off + vs.length := by omega
        have d1 : ¬ j - k * esz t < off := by omega
        have d5 : off + vs.length + (j - k * esz t - (off + vs.length)) < esz t := by omega
        have e5 : k * esz t + (off + vs.length + (j - k * esz t - (off + vs.length))) = k * esz t + off + vs.length + (j - (k * esz t + off + vs.length)) := by omega
        simp [c1, c2, c3, c4, d1, d2, d5, e5]
       ·have e5 : k * esz t + (off + vs.length + (esz t - (off + vs.length))) + (j - (k * esz t + (off + vs.length + (esz t - (off + vs.length))))) = k * esz t + off + vs.length + (j - (k * esz t + off + vs.length)) := by omega
        simp [c1, c2, c3, c4, e5]
   rw [e3] at r3
   exact fun j g1 g2 => rd_sv go (r3.2 j g1 g2)
end
section
variable {P : Program} {w0 : World} {fb : List Nat} {X : Nat → Prop} {ι : Nat → Value} {st : St} {tm : Array Value} {w : World}
theorem jj6 {σ : Nat} {site : Site} (h : jjB st.sites σ = some site) : site.stamp < jjd st σ := by
 unfold jjd St.site
 rw [h]
 exact Nat.lt_succ_self _
theorem Sim.make (S : Sim w0 fb X ι st tm w) {σ : Nat} {site' : Site} {nv : Value} {w' : World}
  (hw : ∀ b, b < w.heap.size → w'.heap[b]? = w.heap[b]?) (hos : w'.os = w.os) (htape : w'.tape = w.tape) (hout : w'.output = w.output) (hsize : w.heap.size ≤ w'.heap.size)
  (hstamp : ∀ site, jjB st.sites σ = some site → site.stamp < site'.stamp) (hblk : ∀ b, blk nv = some b → w.heap.size ≤ b ∧ b < w'.heap.size)
  (hok : ∀ {sites' : List (Nat × Site)} {ι' : Nat → Value}, sites' = upd st.sites σ site' → ι' σ = nv → (∀ {a v}, SVOk ι st.sites w (jjh X ι st.sites) a v → SVOk ι' sites' w' (jjh X ι' sites') a v) →
   (∀ b, w.heap.size ≤ b → blk nv ≠ some b → ¬ jjh X ι' sites' b) → (site'.live = false → ∀ b, blk nv = some b → ¬ jjh X ι' sites' b) → SiteOk ι' sites' w' (jjh X ι' sites') σ site') :
  Sim w0 fb X (fun τ => if τ = σ then nv else ι τ) { st with sites := upd st.sites σ site' } tm w' := by
 have hlv : ∀ τ, jjs (upd st.sites σ site') τ → (τ = σ ∧ site'.live = true) ∨ (τ ≠ σ ∧ jjs st.sites τ) := by
  rintro τ ⟨site, h1, h2⟩
  rw [jjl] at h1
  by_cases e : σ = τ
  ·subst e; simp at h1; subst h1; exact .inl ⟨rfl, h2⟩
  ·simp only [e, if_false] at h1
   exact .inr ⟨fun h => e h.symm, site, h1, h2⟩
 have hav : ∀ b, jjh X (fun τ => if τ = σ then nv else ι τ) (upd st.sites σ site') b → jjh X ι st.sites b ∨ (blk nv = some b ∧ site'.live = true) := by
  rintro b (h | ⟨τ, h1, h2⟩)
  ·exact .inl (.inl h)
  ·rcases hlv τ h1 with ⟨rfl, h3⟩ | ⟨h3, h4⟩
   ·simp at h2; exact .inr ⟨h2, h3⟩
   ·simp only [h3, if_false] at h2; exact .inl (.inr ⟨τ, h4, h2⟩)
 have hlt : ∀ b, jjh X ι st.sites b → b < w.heap.size := by
  rintro b (h | ⟨τ, h1, h2⟩)
  ·exact S.old b h
  ·exact S.live_lt h1 h2
 refine S.turn (fun τ site hτ => ?_) (fun b _ hb => hw b hb) (fun b h hb h' => ?_) (fun go τ site hτ => ?_) (fun τ ρ b h1 h2 g1 g2 => ?_) (fun τ b h1 g1 => ?_) (fun τ b h1 g1 => ?_) ?_ hsize
 ·rw [jjl]
  by_cases e : σ = τ
  ·subst e
   exact ⟨site', by simp, Nat.le_of_lt (hstamp site hτ), fun h => by have := hstamp site hτ; omega⟩
  ·have e' : ¬ τ = σ := fun h => e h.symm
   exact ⟨site, by simp [e, hτ], Nat.le_refl _, fun _ => by simp [e']⟩
 ·rcases hav b h' with h' | ⟨h', _⟩
  ·exact h h'
  ·have := (hblk b h').1; omega
 ·rw [jjl] at hτ
  by_cases e : σ = τ
  ·subst e
   simp only [if_true, Option.some.injEq] at hτ
   subst hτ
   refine .inr (hok rfl (by simp) go (fun b hb hne h' => ?_) (fun hl b hb h' => ?_))
   ·rcases hav b h' with h' | ⟨h', _⟩
    ·have := hlt b h'; omega
    ·exact hne h'
   ·rcases hav b h' with h' | ⟨_, h'⟩
    ·have := hlt b h'; have := (hblk b hb).1; omega
    ·rw [hl] at h'; cases h'
  ·have e' : ¬ τ = σ := fun h => e h.symm
   simp only [e, if_false] at hτ
   exact .inl ⟨hτ, by simp [e'], fun hl b hb => hw b (S.live_lt ⟨site, hτ, hl⟩ hb)⟩
 ·rcases hlv τ h1 with ⟨rfl, _⟩ | ⟨n1, l1⟩ <;> rcases hlv ρ h2 with ⟨rfl, _⟩ | ⟨n2, l2⟩
  ·rfl
  ·simp only [if_true] at g1
   simp only [n2, if_false] at g2
   have := S.live_lt l2 g2; have := (hblk b g1).1; omega
  ·simp only [if_true] at g2
   simp only [n1, if_false] at g1
   have := S.live_lt l1 g1; have := (hblk b g2).1; omega
  ·simp only [n1, if_false] at g1
   simp only [n2, if_false] at g2
   exact S.excl τ ρ b l1 l2 g1 g2
 ·rcases hlv τ h1 with ⟨rfl, _⟩ | ⟨n1, l1⟩
  ·simp only [if_true] at g1
   have hb := (hblk b g1).1
   exact ⟨fun hx => by have := S.old b hx; have := S.frame.size; omega, .inr (Nat.le_trans S.frame.size hb)⟩
  ·simp only [n1, if_false] at g1
   exact S.mine τ b l1 g1
 ·rcases hlv τ h1 with ⟨rfl, _⟩ | ⟨n1, l1⟩
  ·simp only [if_true] at g1; exact (hblk b g1).2
  ·simp only [n1, if_false] at g1
   exact Nat.lt_of_lt_of_le (S.live_lt l1 g1) hsize
 ·have F := S.frame
  exact ⟨hos.trans F.os, htape.trans F.tape, hout.trans F.output, Nat.le_trans F.size hsize, fun b h1 h2 => (hw b (Nat.lt_of_lt_of_le h1 F.size)).trans (F.block b h1 h2)⟩
theorem Sim.append (S : Sim w0 fb X ι st tm w) {σ dst s : Nat} {t : Ty} {xs r : List (den t)} (hl : jjB st.sites σ = some (.row s t xs)) {nv : Value} {w' : World}
  (hg : w.grownBy w' (ι σ).ownBlock) (hblk : ∀ b, blk nv = some b → b < w'.heap.size ∧ (blk (ι σ) = some b ∨ w.heap.size ≤ b))
  (hok : ∀ {sites' : List (Nat × Site)} {ι' : Nat → Value}, ι' dst = nv → (∀ {a v}, SVOk ι st.sites w (jjh X ι st.sites) a v → SVOk ι' sites' w' (jjh X ι' sites') a v) →
   SiteOk ι' sites' w' (jjh X ι' sites') dst (.row (jjd (st.setSite σ (.dead s)) dst) t r)) :
  Sim w0 fb X (fun τ => if τ = dst then nv else ι τ) { st with sites := jjN st.sites [(σ, .dead s), (dst, .row (jjd (st.setSite σ (.dead s)) dst) t r)] } tm w' := by
 have hσ : jjs st.sites σ := ⟨_, hl, rfl⟩
 have hlook : ∀ τ, jjB (jjN st.sites [(σ, .dead s), (dst, .row (jjd (st.setSite σ (.dead s)) dst) t r)]) τ =
   if dst = τ then some (.row (jjd (st.setSite σ (.dead s)) dst) t r) else if σ = τ then some (.dead s) else jjB st.sites τ := by
  intro τ; simp only [jjN, jjl]
 have hstamp : ∀ site, jjB st.sites dst = some site → site.stamp < jjd (st.setSite σ (.dead s)) dst := by
  intro site h
  unfold jjd
  rw [St.site_setSite]
  by_cases e : σ = dst
  ·subst e; rw [hl] at h; cases h; simp [Site.stamp]
  ·simp only [e, if_false, St.site, h]; exact Nat.lt_succ_self _
 have hlv : ∀ τ, jjs (jjN st.sites [(σ, .dead s), (dst, .row (jjd (st.setSite σ (.dead s)) dst) t r)]) τ → τ = dst ∨ (τ ≠ dst ∧ τ ≠ σ ∧ jjs st.sites τ) := by
  rintro τ ⟨site, h1, h2⟩
  rw [hlook] at h1
  by_cases e : dst = τ
  ·exact .inl e.symm
  ·simp only [e, if_false] at h1
   by_cases e2 : σ = τ
   ·simp only [e2, if_true, Option.some.injEq] at h1; subst h1; cases h2
   ·simp only [e2, if_false] at h1
    exact .inr ⟨fun h => e h.symm, fun h => e2 h.symm, site, h1, h2⟩
 have hob : ∀ b, blk (ι σ) = some b → (ι σ).ownBlock = some b := by
  intro b hb
  obtain ⟨e, cs, g1, _⟩ := S.sites σ _ hl
  rcases g1.2 with ⟨hn, _⟩ | ⟨g, cap, cur, fz, hv, _⟩
  ·rw [hn] at hb; cases hb
  ·rw [hv] at hb ⊢; exact hb
 have hob' : ∀ b, (ι σ).ownBlock = some b → blk (ι σ) = some b := by
  intro b hb
  cases hv : ι σ <;> rw [hv] at hb <;> first | cases hb | skip
  rename_i a n c
  cases a <;> first | exact hb | cases hb
 have hkeep : ∀ b, b < w.heap.size → blk (ι σ) ≠ some b → w'.heap[b]? = w.heap[b]? := fun b hb hne => hg.block b hb (fun e => hne (hob' b e.symm))
 refine S.turn (fun τ site hτ => ?_) (fun b h hb => hkeep b hb (fun e => h (.inr ⟨σ, hσ, e⟩))) (fun b h hb h' => ?_) (fun go τ site hτ => ?_) (fun τ ρ b h1 h2 g1 g2 => ?_) (fun τ b h1 g1 => ?_) (fun τ b h1 g1 => ?_) ?_ hg.size
 ·rw [hlook]
  by_cases e : dst = τ
  ·subst e
   refine ⟨.row (jjd (st.setSite σ (.dead s)) dst) t r, by simp, ?_, fun h => ?_⟩
   ·exact Nat.le_of_lt (hstamp site hτ)
   ·have := hstamp site hτ; simp only [Site.stamp] at h this; omega
  ·have e' : ¬ τ = dst := fun h => e h.symm
   by_cases e2 : σ = τ
   ·subst e2
    rw [hl] at hτ; cases hτ
    exact ⟨.dead s, by simp [e], Nat.le_refl _, fun _ => by simp [e']⟩
   ·exact ⟨site, by simp [e, e2, hτ], Nat.le_refl _, fun _ => by simp [e']⟩
 ·rcases h' with h' | ⟨τ, h1, h2⟩
  ·exact h (.inl h')
  ·rcases hlv τ h1 with rfl | ⟨n1, _, l1⟩
   ·simp only [if_true] at h2
    rcases (hblk b h2).2 with h3 | h3
    ·exact h (.inr ⟨σ, hσ, h3⟩)
    ·omega
   ·simp only [n1, if_false] at h2
    exact h (.inr ⟨τ, l1, h2⟩)
 ·rw [hlook] at hτ
  by_cases e : dst = τ
  ·subst e
   simp only [if_true, Option.some.injEq] at hτ
   subst hτ
   exact .inr (hok (by simp) go)
  ·have e' : ¬ τ = dst := fun h => e h.symm
   simp only [e, if_false] at hτ
   by_cases e2 : σ = τ
   ·simp only [e2, if_true, Option.some.injEq] at hτ
    subst hτ
    exact .inr trivial
   ·simp only [e2, if_false] at hτ
    refine .inl ⟨hτ, by simp [e'], fun hl' b hb => ?_⟩
    have lτ : jjs st.sites τ := ⟨site, hτ, hl'⟩
    exact hkeep b (S.live_lt lτ hb) (fun h => e2 (S.excl σ τ b hσ lτ h hb))
 ·have key : ∀ τ b, τ ≠ dst → τ ≠ σ → jjs st.sites τ → blk (ι τ) = some b → blk nv ≠ some b := by
   intro τ b n1 n2 l1 hb hn
   rcases (hblk b hn).2 with h3 | h3
   ·exact n2 (S.excl τ σ b l1 hσ hb h3)
   ·have := S.live_lt l1 hb; omega
  rcases hlv τ h1 with rfl | ⟨n1, m1, l1⟩ <;> rcases hlv ρ h2 with rfl | ⟨n2, m2, l2⟩
  ·rfl
  ·simp only [if_true] at g1
   simp only [n2, if_false] at g2
   exact absurd g1 (key ρ b n2 m2 l2 g2)
  ·simp only [if_true] at g2
   simp only [n1, if_false] at g1
   exact absurd g2 (key τ b n1 m1 l1 g1)
  ·simp only [n1, if_false] at g1
   simp only [n2, if_false] at g2
   exact S.excl τ ρ b l1 l2 g1 g2
 ·rcases hlv τ h1 with rfl | ⟨n1, _, l1⟩
  ·simp only [if_true] at g1
   rcases (hblk b g1).2 with h3 | h3
   ·exact S.mine σ b hσ h3
   ·exact ⟨fun hx => by have := S.old b hx; have := S.frame.size; omega, .inr (Nat.le_trans S.frame.size h3)⟩
  ·simp only [n1, if_false] at g1
   exact S.mine τ b l1 g1
 ·rcases hlv τ h1 with rfl | ⟨n1, _, l1⟩
  ·simp only [if_true] at g1; exact (hblk b g1).1
  ·simp only [n1, if_false] at g1
   exact Nat.lt_of_lt_of_le (S.live_lt l1 g1) hg.size
 ·have F := S.frame
  refine ⟨hg.os.trans F.os, hg.tape.trans F.tape, hg.output.trans F.output, Nat.le_trans F.size hg.size, fun b h1 h2 => ?_⟩
  rw [hkeep b (Nat.lt_of_lt_of_le h1 F.size) (fun e => ?_)]
  ·exact F.block b h1 h2
  ·rcases (S.mine σ b hσ e).2 with h | h
   ·exact h2 h
   ·omega
end
def Src (w : World) (size : Nat) (x : Value) (m : Nat) (news : List Value) : Prop :=
 news.length = m * size ∧ (∀ u ∈ news, u.oneCell' = true) ∧ ((x = .slice none 0 0 ∧ m = 0) ∨ (∃ a c, x = .slice (some a) m c ∧ ∀ j u, news[j]? = some u → w.cell? (a.add j) = some u) ∨ ∃ s : ByteArray, x = .string s ∧ m = s.size ∧ size = 1 ∧ news = s.data.toList.map fun b => Value.int .u8 b.toNat)
theorem Src.run {P : Program} {w w2 : World} {size m : Nat} {x : Value} {news : List Value} (h : Src w size x m news) (hw : w2.heap = w.heap) : (Builtin.firstCells size m x).run P w2 = .ok news.toArray w2 := by
 obtain ⟨h1, _, h2⟩ := h
 rcases h2 with ⟨rfl, rfl⟩ | ⟨a, c, rfl, h3⟩ | ⟨s, rfl, rfl, rfl, rfl⟩
 ·have : news = [] := List.eq_nil_of_length_eq_zero (by simpa using h1)
  subst this
  exact run_firstCells_none w2 size 0 0 0
 ·refine run_firstCells_some w2 size m a m c news h1 (fun j u hu => ?_)
  have := h3 j u hu
  unfold World.cell? at this ⊢
  rw [hw]; exact this
 ·have e : s.extract 0 s.size = s := by simp
  show Result.ok ((s.extract 0 s.size).data.map fun b => Value.int .u8 b.toNat) w2 = _
  rw [e]
  congr 1
  apply Array.ext'
  simp
theorem Src.len {P : Program} {w w2 : World} {size m : Nat} {x : Value} {news : List Value} (h : Src w size x m news) : (Builtin.lenOf x).run P w2 = .ok m w2 := by
 obtain ⟨_, _, h2⟩ := h
 rcases h2 with ⟨rfl, rfl⟩ | ⟨a, c, rfl, _⟩ | ⟨s, rfl, rfl, _⟩ <;> rfl
theorem jxn {P : Program} {u : Bool} (w : World) (T tx ty e : TypeId) (hU : u = true → e = gU8) (i : TypeInfo) (z : Value) (size bytes : Nat) (ht : P.underlying T = some (.slice e)) (htx : (∃ ex, P.underlying tx = some (.slice ex)) ∨ P.underlying tx = some .string) (hi : P.info? e = some i)
  (hz : i.zero = some z) (hsize : i.size = size) (hby : i.bytes = bytes) (hzs : z.cells.size = size) (hsz : 0 < size)
  (v : Value) (n : Nat) (xs : List Value) (hown : ∃ e', rowAt w u e' size v n xs) (x : Value) (m : Nat) (news : List Value) (hsrc : Src w size x m news)
  (h63 : n + m ≤ maxLen) (hbytes : (n + m) * bytes ≤ 140737488355328) :
  ∃ v' w', (Builtin.append_ #[T, tx] ty #[v, x]).run P w = .ok v' w' ∧ (∃ e', rowAt w' u e' size v' (n + m) (xs ++ news)) ∧ w.grownBy w' v.ownBlock ∧
   ∀ b, blk v' = some b → b < w'.heap.size ∧ (blk v = some b ∨ w.heap.size ≤ b) := by
 subst hsize hby
 obtain ⟨e', hl0, hown⟩ := hown
 have hsmall : n + m ≤ 9223372036854775807 := by simp only [maxLen] at h63; omega
 have hlen : (xs ++ news).length = (n + m) * i.size := by rw [List.length_append, hl0, hsrc.1, Nat.add_mul]
 have grown : ∀ (old : Nat), old < n + m → ∀ (row : Option Nat),
   rowAt (w.drew.alloc (.cells (xs.toArray ++ news.toArray ++ Builtin.zeroCells z.cells (grownCap w (n + m) old e - (n + m))) e)) u e i.size
    (.slice (some ⟨w.heap.size, 0, none⟩) (n + m) (grownCap w (n + m) old e)) (n + m) (xs ++ news) ∧
   w.grownBy (w.drew.alloc (.cells (xs.toArray ++ news.toArray ++ Builtin.zeroCells z.cells (grownCap w (n + m) old e - (n + m))) e)) row := by
  intro old ho row
  have hge := grownCap_ge w (n + m) old e
  have hcm : grownCap w (n + m) old e ≤ maxLen := grownCap_le_maxLen w (n + m) old e h63
  refine ⟨⟨hlen, .inr ⟨w.heap.size, _, _, (0, 0), rfl, ⟨hU, .inl rfl⟩, heap_alloc_new w.drew _, hge, hcm, ?_, ?_⟩⟩, ⟨rfl, rfl, rfl, by simp, fun k hk _ => RowKit.Below.heap_alloc w.drew _ k hk⟩⟩
  ·simp only [Array.size_append, List.size_toArray, size_zeroCells, hzs, hl0, hsrc.1, ← Nat.add_mul]
   congr 1
   omega
  ·simp only [Array.toList_append, List.append_assoc]
   rw [← List.append_assoc, ← hlen]
   exact List.take_left
 have newblk : ∀ {c : Nat} {o : Obj} {v : Value} b, blk (.slice (some ⟨w.heap.size, 0, none⟩) (n + m) c) = some b → b < (w.drew.alloc o).heap.size ∧ (blk v = some b ∨ w.heap.size ≤ b) := by
  intro c o v b hb
  cases hb
  exact ⟨by simp, .inr (Nat.le_refl _)⟩
 rcases hown with ⟨rfl, rfl⟩ | ⟨g, cap, cur, fz, rfl, hfz, hg, hnc, hcm, hcs, htake⟩
 ·have hx : xs = [] := List.eq_nil_of_length_eq_zero (by simpa using hl0)
  subst hx
  by_cases hm : m = 0
  ·subst hm
   have hn : news = [] := List.eq_nil_of_length_eq_zero (by simpa using hsrc.1)
   subst hn
   refine ⟨.slice none 0 0, w, ?_, ⟨e, rowAt_nil w u e i.size⟩, ⟨rfl, rfl, rfl, Nat.le_refl _, fun _ _ _ => rfl⟩, fun b hb => by cases hb⟩
   rcases htx with ⟨ex, htx⟩ | htx <;> simp [Builtin.append_, run_underlying ht, run_underlying htx, sizeOf, typeInfo, hi, hsrc.len, hsrc.run (w2 := w) rfl]
  ·have hgr := grown 0 (by omega) (Value.ownBlock (.slice none 0 0))
   refine ⟨_, _, ?_, ⟨e, hgr.1⟩, hgr.2, newblk⟩
   have h63' : ¬ (9223372036854775807 < (m : Int)) := by omega
   have hb := hbytes
   simp only [Nat.zero_add] at hb
   have h48' : ¬ (281474976710656 < Builtin.nextslicecap m 0 * i.bytes) := by rw [nextslicecap_zero (by omega)]; omega
   rcases htx with ⟨ex, htx⟩ | htx <;> simp [Builtin.append_, run_underlying ht, run_underlying htx, sizeOf, typeInfo, zeroValue, hi, hz, hsrc.len, hm, h63', h48', Question.forced, run_firstCells_none, hsrc.run (w2 := w.drew) rfl, newRow, grownCap]
 ·by_cases hroom : n + m ≤ cap
  ·have hfit : n * i.size + news.length ≤ cur.size := by rw [hsrc.1, hcs, ← Nat.add_mul]; exact Nat.mul_le_mul_right _ hroom
   have hst := FzOk.run (P := P) g (n * i.size) e' fz news 0 cur w hg hfz (by simpa using hfit) hsrc.2.1
   simp only [Nat.add_zero] at hst
   refine ⟨.slice (some ⟨g, 0, none⟩) (n + m) cap, w.setRow g (cur.toList.take (n * i.size) ++ news ++ cur.toList.drop (n * i.size + news.length)).toArray, ?_,
    ⟨e', hlen, .inr ⟨g, cap, _, fz, rfl, ⟨hfz.1, hfz.2.imp id (fun h => ⟨h.1, ?_⟩)⟩, setRow_heap w g cur _ e' _ hg, hroom, hcm, ?_, ?_⟩⟩, ⟨rfl, rfl, rfl, by simp, fun k _ hk => setRow_other w g k _ (fun e => hk (by simp [Value.ownBlock, e]))⟩, fun b hb => ?_⟩
   ·rcases htx with ⟨ex, htx⟩ | htx <;> simp [Builtin.append_, run_underlying ht, run_underlying htx, sizeOf, typeInfo, hi, hsrc.len, hroom, hsrc.run (w2 := w) rfl, Addr.add_lit, hst]
   ·have := h.2
    simp only [List.size_toArray, List.length_append, List.length_take, List.length_drop, Array.length_toList]
    omega
   ·simp only [List.size_toArray, List.length_append, List.length_take, List.length_drop, Array.length_toList]
    omega
   ·rw [htake, ← hlen]
    exact List.take_left
   ·cases hb
    exact ⟨by rw [setRow_size]; exact (Array.getElem?_eq_some_iff.1 hg).1, .inl rfl⟩
  ·have hgr := grown cap (by omega) (Value.ownBlock (.slice (some ⟨g, 0, none⟩) n cap))
   refine ⟨_, _, ?_, ⟨e, hgr.1⟩, hgr.2, newblk⟩
   have holds : ∀ j u, xs[j]? = some u → w.drew.cell? ((⟨g, 0, none⟩ : Addr).add j) = some u := by
    intro j u hu
    rw [jqD, Nat.zero_add, World.cell?_drew, cell_of_row w g j cur e' fz hg]
    rw [← htake, List.getElem?_take] at hu
    split at hu
    ·simpa using hu
    ·cases hu
   have h63' : ¬ (9223372036854775807 < ((n : Int) + (m : Int))) := by omega
   have hfit := growslice_fits (need := n + m) (old := cap) (bytes := i.bytes) (by omega) hbytes
   have h48' : ¬ (281474976710656 < Builtin.nextslicecap (n + m) cap * i.bytes) := by omega
   have hfo := run_firstCells_some (P := P) w.drew i.size n ⟨g, 0, none⟩ n cap xs hl0 holds
   rcases htx with ⟨ex, htx⟩ | htx <;> simp [Builtin.append_, run_underlying ht, run_underlying htx, sizeOf, typeInfo, zeroValue, hi, hz, hsrc.len, hroom, h63', h48', Question.forced, hsrc.run (w2 := w.drew) rfl, hfo, newRow, grownCap]
   all_goals
    congr 2
    apply Array.ext'
    simp [List.append_assoc]
section
variable {P : Program} {w0 : World} {fb : List Nat} {X : Nat → Prop} {ι : Nat → Value} {st : St} {tm : Array Value} {w : World} {o : Oper}
theorem srcOf_ok (S : Sim w0 fb X ι st tm w) {x : SV} {v : Value} {t : Ty} {ys : List (den t)} (hx : SVOk ι st.sites w (jjh X ι st.sites) x v) (h : srcOf st x = some (.sl t ys)) :
  ∃ news, Src w (esz t) v ys.length news ∧ RdsOk w (jjh X ι st.sites) (jjM t ys) news := by
 have one : ∀ {news : List Value}, LfsOk ι st.sites w (jjh X ι st.sites) (asD (jjM t ys)) news → (∀ u ∈ news, u.oneCell' = true) := by
  intro news h
  refine h.oneCell ?_
  unfold asD
  generalize jjM t ys = l
  induction l with
  | nil => rfl
  | cons d l ih => simpa [jjz, Lf.storable] using ih
 unfold srcOf at h
 split at h
 ·rename_i t' xs'
  cases h
  have hx : Rd w (jjh X ι st.sites) (.sl t ys) v := hx
  cases hx with
  | nil t => exact ⟨[], ⟨by simp, fun u hu => by simp at hu, .inl ⟨rfl, rfl⟩⟩, rfl, fun j h => by simp [jjM] at h⟩
  | sl t xs a cap cs n hn hcap hb hl hc hr =>
   subst hn
   have hlf := jqM (ι := ι) (sites := st.sites) hl hr
   exact ⟨cs, ⟨by rw [hl, jjp], one hlf, .inr (.inl ⟨a, cap, rfl, hc⟩)⟩, hl, hr⟩
 ·cases h
 ·rename_i t'
  cases h
  rw [show v = _ from hx]
  exact ⟨[], ⟨by simp, fun u hu => by simp at hu, .inl ⟨rfl, rfl⟩⟩, rfl, fun j h => by simp [jjM] at h⟩
 ·rename_i σ s
  split at h
  ·rename_i t' xs' hr
   cases h
   obtain ⟨cs, hl, hc⟩ := S.row hr
   have hv : v = ι σ := by
    rcases jjY hr with h1 | h1 <;> exact Ref.at hx.2 h1 rfl
   have hr' := jqy hl
   refine ⟨cs, ⟨by rw [hr'.1, jjp], one hl, ?_⟩, hr'⟩
   rw [hv]
   rcases hc with ⟨h1, h2⟩ | ⟨b, c, h1, h2, _⟩
   ·subst h2; exact .inl ⟨h1, rfl⟩
   ·exact .inr (.inl ⟨⟨b, 0, none⟩, c, h1, fun j u hu => by rw [jqD]; exact h2 j u hu⟩)
  ·cases h
 ·cases h
theorem appendW_ok (S : Sim w0 fb X ι st tm w) {C : Ctx} (H : CtxOk P C) {T U : TypeId} {s x : Operand} {e : TypeId} {t : Ty} {bytes : Nat} {dst : Nat} (hT : C.tt T = .slice e t bytes) (hundU : (∃ ex, P.underlying U = some (.slice ex)) ∨ P.underlying U = some .string)
  (ho : o.op = .call { callee := .builtin .append, args := #[s, x], argTypes := #[T, U] }) (hdst : o.dst = some dst) (hd : jjJ st o.dst = true) {ys : List (den t)} {news : List Value} (hsrc : Src w (esz t) (Act.eval ⟨tm, []⟩ x) ys.length news)
  (hrd : RdsOk w (jjh X ι st.sites) (jjM t ys) news) : Holds (jJo bytes t dst st (ev C st T s) ys) (jjA P w0 fb X st tm w o) := by
 have hTo := H.tt T
 rw [hT] at hTo
 obtain ⟨⟨hund, _⟩, z, hinfo, hzs, hU⟩ := hTo
 obtain ⟨i, hi, hi2⟩ : ∃ i, P.info? e = some i ∧ (i.size, i.bytes, i.zero) = (esz t, bytes, some z) := by
  cases hq : P.info? e with
  | none => simp [hq] at hinfo
  | some i => exact ⟨i, rfl, by simpa [hq] using hinfo⟩
 simp only [Prod.mk.injEq] at hi2
 obtain ⟨hi2, hi3, hi4⟩ := hi2
 have hevs := jqe S C T s
 have runs : ∀ {v' : Value} {w' : World}, (Builtin.append_ #[T, U] o.type #[Act.eval ⟨tm, []⟩ s, Act.eval ⟨tm, []⟩ x]).run P w = .ok v' w' →
   (execOp (Act.eval ⟨tm, []⟩) o).run P w = .ok (.value v') w' := by
  intro v' w' h
  unfold execOp
  simp only [ho, resolve, invoke, builtin, Sem.run_bind, Sem.run_pure, Result.andThen_ok, List.map_toArray, List.map_cons, List.map_nil, h]
 have one : ∀ {u : Bool} {e' : TypeId} {v' : Value} {n m : Nat} {l : List Value} {w' : World}, rowAt w' u e' n v' m l → v'.oneCell' = true := by
  intro u e' v' n m l w' h
  rcases h.2 with ⟨rfl, _⟩ | ⟨g, cap, cur, fz, rfl, _⟩ <;> rfl
 unfold jJo
 split
 ·-- a nil slice
  rename_i t2 heq
  rw [heq] at hevs
  have hnil : Act.eval ⟨tm, []⟩ s = .slice none 0 0 := hevs
  refine Holds.optU fun r hr => ?_
  have hr' : apd bytes [] ys = some r := hr
  unfold apd at hr'
  split at hr'
  ·rename_i hb
   cases hr'
   simp only [List.length_nil, Nat.zero_add, room] at hb
   obtain ⟨v', w', h1, ⟨e', h2⟩, h3, h4⟩ := jxn (P := P) (u := t.isB) w T U o.type e hU i z (esz t) bytes hund hundU hi hi4 hi2 hi3 hzs (jxr _) (.slice none 0 0) 0 [] ⟨e, rowAt_nil w _ e _⟩ _ _ news hsrc
    (by rw [Nat.zero_add]; exact hb.2) (by rw [Nat.zero_add]; exact hb.1)
   rw [Nat.zero_add, List.nil_append] at h2
   have S' := S.make (σ := dst) (site' := .row (jjd st dst) t ([] ++ ys)) (nv := v') (w' := w') (fun b hb => h3.block b hb (by simp [Value.ownBlock])) h3.os h3.tape h3.output h3.size
    (fun site hs => jj6 hs) (fun b hb => by
     obtain ⟨g1, g2⟩ := h4 b hb
     rcases g2 with g2 | g2
     ·cases g2
     ·exact ⟨g2, g1⟩) (fun hs hι go _ _ => by
     refine ⟨e', news, by rw [hι]; simpa using h2, ?_⟩
     intro j g1 g2
     have g1' : j < (jjM t ys).length := by simpa using g1
     simpa using rd_sv go (hrd.2 j g1' g2))
   refine jj1 (us := [(dst, .row (jjd st dst) t ([] ++ ys))]) S' hd (runs (by rw [hnil]; exact h1)) ?_
   refine ⟨one h2, Ref.mk (site := .row (jjd st dst) t ([] ++ ys)) ?_ rfl (by simp)⟩
   simp only [jjN, jjl]; simp
  ·cases hr'
 ·-- a row of one's own
  rename_i σ s2 heq
  rw [heq] at hevs
  split
  ·rename_i s3 t2 xs hsite
   have hsite' : jjB st.sites σ = some (.row s3 t2 xs) := hsite
   cases hbq : s3.beq s2 with
   | false => simp only [cond_false]; exact .fail
   | true =>
    have hss := Nat.eq_of_beq_eq_true hbq
    subst hss
    simp only [cond_true]
    split
    ·rename_i htt
     subst htt
     refine Holds.optU fun r hr => ?_
     have hr' : apd bytes xs ys = some r := hr
     unfold apd at hr'
     split at hr'
     ·rename_i hb
      cases hr'
      simp only [room] at hb
      have hv : Act.eval ⟨tm, []⟩ s = ι σ := Ref.at hevs.2 hsite' rfl
      obtain ⟨e0, cs, hown, hcs⟩ := S.sites σ _ hsite'
      obtain ⟨v', w', h1, ⟨e', h2⟩, h3, h4⟩ := jxn (P := P) w T U o.type e hU i z (esz t2) bytes hund hundU hi hi4 hi2 hi3 hzs (jxr _) (ι σ) xs.length cs ⟨e0, hown⟩ _ _ news hsrc hb.2 hb.1
      have S' := S.append (dst := dst) (r := xs ++ ys) hsite' (nv := v') (w' := w') h3 h4 (fun hι go => by
       refine ⟨e', cs ++ news, by rw [hι, List.length_append]; exact h2, ?_⟩
       have hxs : RdsOk w (jjh X ι st.sites) (jjM t2 xs) cs := ⟨by rw [jjp]; exact hown.1, hcs⟩
       have hall := jqy ((jqM (ι := ι) (sites := st.sites) hxs.1 hxs.2).append (jqM (ι := ι) (sites := st.sites) hrd.1 hrd.2) |> fun h => by
        rw [show asD (jjM t2 xs) ++ asD (jjM t2 ys) = asD (jjM t2 (xs ++ ys)) from by simp [asD, jqY]] at h
        exact h)
       intro j g1 g2
       exact rd_sv go (hall.2 j g1 g2))
      refine jj1 (us := [(σ, .dead s3), (dst, .row (jjd (st.setSite σ (.dead s3)) dst) t2 (xs ++ ys))]) S' hd (runs (by rw [hv]; exact h1)) ?_
      refine ⟨one h2, Ref.mk (site := .row (jjd (st.setSite σ (.dead s3)) dst) t2 (xs ++ ys)) ?_ rfl (by simp)⟩
      simp only [jjN, jjl]; simp
     ·cases hr'
    ·exact .fail
  ·exact .fail
 ·exact .fail
theorem append_ok (S : Sim w0 fb X ι st tm w) {C : Ctx} (H : CtxOk P C) {T U : TypeId} {s x : Operand} {e ex : TypeId} {t u : Ty} {bytes b2 : Nat} {dst : Nat} (hT : C.tt T = .slice e t bytes) (hU : C.tt U = .slice ex u b2)
  (ho : o.op = .call { callee := .builtin .append, args := #[s, x], argTypes := #[T, U] }) (hdst : o.dst = some dst) (hd : jjJ st o.dst = true) :
  Holds (appendV bytes t dst st (ev C st T s) (ev C st U x)) (jjA P w0 fb X st tm w o) := by
 have hUo := H.tt U
 rw [hU] at hUo
 unfold appendV
 split
 ·exact .fail
 ·rename_i d hd'
  split
  ·rename_i t' ys
   split
   ·rename_i htt
    subst htt
    obtain ⟨news, hsrc, hrd⟩ := srcOf_ok S (jqe S C U x) hd'
    exact appendW_ok S H hT (.inl ⟨_, hUo.1.1⟩) ho hdst hd hsrc hrd
   ·exact .fail
  ·exact .fail
theorem appendS_ok (S : Sim w0 fb X ι st tm w) {C : Ctx} (H : CtxOk P C) {T U : TypeId} {s x : Operand} {e : TypeId} {t : Ty} {bytes : Nat} {dst : Nat} (hT : C.tt T = .slice e t bytes) (hU : C.tt U = .str)
  (ho : o.op = .call { callee := .builtin .append, args := #[s, x], argTypes := #[T, U] }) (hdst : o.dst = some dst) (hd : jjJ st o.dst = true) :
  Holds (appendS bytes t dst st (ev C st T s) (ev C st U x)) (jjA P w0 fb X st tm w o) := by
 have hUo := H.tt U
 rw [hU] at hUo
 have hev := jqe S C U x
 unfold appendS
 split
 ·rename_i y hx
  rw [hx] at hev
  split
  ·rename_i htt
   subst htt
   have hev : Rd w (jjh X ι st.sites) (.str y) (Act.eval ⟨tm, []⟩ x) := hev
   generalize hv : Act.eval ⟨tm, []⟩ x = v at hev
   cases hev with
   | str _ b hb =>
    subst hb
    refine appendW_ok S H hT (.inr hUo.1) ho hdst hd (news := b.data.toList.map fun b => Value.int .u8 b.toNat) ?_ ?_
    ·rw [hv]
     refine ⟨by simp [jjo, esz], fun u hu => ?_, .inr (.inr ⟨b, rfl, ?_, rfl, rfl⟩)⟩
     ·obtain ⟨c, _, rfl⟩ := List.mem_map.1 hu; rfl
     ·simp only [jjo, List.length_map, Array.length_toList]; rfl
    ·have e1 : jjM .u8 (jjo b.data.toList) = (b.data.toList.map fun b => D.int .u8 b.toNat) := by
      unfold jjM jjo
      rw [List.flatMap_map]
      generalize b.data.toList = l
      induction l with
      | nil => rfl
      | cons a l ih => simp only [List.flatMap_cons, List.map_cons, ih]; rfl
     rw [e1]
     refine ⟨by simp, fun j g1 g2 => ?_⟩
     simp only [List.getElem_map]
     exact .int _ _
  ·exact .fail
 ·exact .fail
end
theorem foldl_set : ∀ (vs : List Value) (off k : Nat) (arr : Array Value), off + k + vs.length ≤ arr.size →
  (vs.zipIdx k).foldl (fun cs (x : Value × Nat) => cs.setIfInBounds (off + x.2) x.1) arr = (splice arr.toList (off + k) vs).toArray := by
 intro vs
 induction vs with
 | nil => intro off k arr h; simp [splice]
 | cons v vs ih =>
  intro off k arr h
  simp only [List.zipIdx_cons, List.foldl_cons]
  rw [ih off (k + 1) _ (by simp at h ⊢; omega)]
  congr 1
  simp only [List.length_cons] at h
  unfold splice
  rw [Array.toList_setIfInBounds]
  apply List.ext_getElem?
  intro j
  simp only [List.getElem?_append, List.length_append, List.length_take, List.length_set, List.getElem?_take, List.getElem?_drop, List.getElem?_set, List.length_cons, Array.length_toList]
  have m1 : min (off + k) arr.size = off + k := by omega
  have m2 : min (off + (k + 1)) arr.size = off + (k + 1) := by omega
  simp only [m1, m2]
  by_cases c1 : j < off + k
  ·have c2 : j < off + (k + 1) := by omega
   have c3 : j < off + (k + 1) + vs.length := by omega
   have c4 : j < off + k + (vs.length + 1) := by omega
   have c5 : ¬ off + k = j := by omega
   simp [c1, c2, c3, c4, c5]
  ·by_cases c0 : j = off + k
   ·subst c0
    have c2 : off + k < off + (k + 1) := by omega
    have c3 : off + k < off + (k + 1) + vs.length := by omega
    have c4 : off + k < off + k + (vs.length + 1) := by omega
    have c5 : off + k < arr.size := by omega
    simp [c2, c3, c4, c5]
   ·by_cases c4 : j < off + k + (vs.length + 1)
    ·have c2 : ¬ j < off + (k + 1) := by omega
     have c3 : j < off + (k + 1) + vs.length := by omega
     have e : j - (off + k) = (j - (off + (k + 1))) + 1 := by omega
     simp [c1, c2, c3, c4, e]
    ·have c3 : ¬ j < off + (k + 1) + vs.length := by omega
     have c5 : ¬ off + k = off + (k + 1) + vs.length + (j - (off + (k + 1) + vs.length)) := by omega
     have e : off + (k + 1) + vs.length + (j - (off + (k + 1) + vs.length)) = off + k + (vs.length + 1) + (j - (off + k + (vs.length + 1))) := by omega
     simp [c3, c4, c5, e]
     try (intro h5; exfalso; omega)
theorem foldl_cells (v : Value) (off : Nat) (arr : Array Value) (h : off + v.cells.size ≤ arr.size) :
  v.cells.zipIdx.foldl (fun cs (x : Value × Nat) => cs.setIfInBounds (off + x.2) x.1) arr = (splice arr.toList off v.cells.toList).toArray := by
 rw [← Array.foldl_toList, Array.toList_zipIdx]
 exact foldl_set v.cells.toList off 0 arr (by simpa using h)
theorem fill_order (s : Nat) : ∀ (vs : List (Nat × Value)) (n : Nat) (cells : Array Value), (∀ j (h : j < vs.length), (vs[j]).1 = n + j) → (∀ p, p ∈ vs → p.2.cells.size = s) → (n + vs.length) * s ≤ cells.size →
  Instr.fill (fun i => some (i * s, s)) cells vs = some (splice cells.toList (n * s) (vs.flatMap fun p => p.2.cells.toList)).toArray := by
 intro vs
 induction vs with
 | nil => intro n cells _ _ _; simp [Instr.fill, splice]
 | cons p vs ih =>
  obtain ⟨i, v⟩ := p
  intro n cells hi hs hle
  have h0 : i = n := hi 0 (Nat.zero_lt_succ _)
  subst h0
  have hv : v.cells.size = s := hs (i, v) (by simp)
  have hle' : i * s + s ≤ cells.size := by
   have : (i + 1) * s ≤ (i + (vs.length + 1)) * s := Nat.mul_le_mul_right _ (by omega)
   simp only [List.length_cons] at hle
   rw [Nat.add_mul, Nat.one_mul] at this
   omega
  simp only [Instr.fill, hv]
  rw [if_neg (by simp; omega)]
  have hfold := foldl_cells v (i * s) cells (by omega)
  rw [hfold]
  have hlen : v.cells.toList.length = s := by simpa using hv
  have hspl : (splice cells.toList (i * s) v.cells.toList).length = cells.toList.length := jqv _ _ _ (by simp; omega)
  rw [ih (i + 1) _ (fun j h => by have := hi (j + 1) (by simpa using h); simp at this; omega) (fun p hp => hs p (by simp [hp])) (by
   simp only [List.length_cons] at hle
   simp only [List.size_toArray, hspl, Array.length_toList]
   have e : i + 1 + vs.length = i + (vs.length + 1) := by omega
   rw [e]; exact hle)]
  congr 2
  simp only [List.flatMap_cons, List.toList_toArray]
  have hfl : (vs.flatMap fun p => p.2.cells.toList).length = vs.length * s := by
   clear ih hi hle
   induction vs with
   | nil => simp
   | cons q vs ih2 =>
    have : q.2.cells.toList.length = s := by simpa using hs q (by simp)
    rw [List.flatMap_cons, List.length_append, this, ih2 (fun p hp => hs p (by rcases List.mem_cons.1 hp with h | h <;> simp [h])), List.length_cons, Nat.add_mul]; omega
  have hle2 : (i + (vs.length + 1)) * s ≤ cells.size := by simpa using hle
  rw [Nat.add_mul, Nat.add_mul] at hle2
  unfold splice
  apply List.ext_getElem?
  intro j
  have e1 : (i + 1) * s = i * s + s := by rw [Nat.add_mul, Nat.one_mul]
  simp only [List.getElem?_append, List.length_append, List.length_take, List.getElem?_take, List.getElem?_drop, List.length_drop, Array.length_toList, hlen, hfl, e1]
  have m1 : min (i * s) cells.size = i * s := by omega
  have m2 : min (i * s + s) (i * s + s + (cells.size - (i * s + s))) = i * s + s := by omega
  simp only [m1, m2]
  by_cases c1 : j < i * s
  ·have c2 : j < i * s + s := by omega
   have c3 : j < i * s + s + vs.length * s := by omega
   have c4 : j < i * s + (s + vs.length * s) := by omega
   simp [c1, c2, c3, c4]
  ·by_cases c2 : j < i * s + s
   ·have c3 : j < i * s + s + vs.length * s := by omega
    have c4 : j < i * s + (s + vs.length * s) := by omega
    have c5 : j - i * s < s := by omega
    simp [c1, c2, c3, c4, c5]
   ·by_cases c3 : j < i * s + s + vs.length * s
    ·have c4 : j < i * s + (s + vs.length * s) := by omega
     have c5 : ¬ j - i * s < s := by omega
     have e : j - i * s - s = j - (i * s + s) := by omega
     simp [c1, c2, c3, c4, c5, e]
    ·have c4 : ¬ j < i * s + (s + vs.length * s) := by omega
     have c5 : ¬ i * s + s + vs.length * s + (j - (i * s + s + vs.length * s)) < i * s := by omega
     have c6 : ¬ i * s + s + vs.length * s + (j - (i * s + s + vs.length * s)) < i * s + s := by omega
     have e : i * s + s + (i * s + s + vs.length * s + (j - (i * s + s + vs.length * s)) - (i * s + s)) = i * s + (s + vs.length * s) + (j - (i * s + (s + vs.length * s))) := by omega
     simp [c3, c4, c5, c6, e]
theorem inOrder_at : ∀ (l : List (Nat × Operand)) (n : Nat), inOrder n l = true → ∀ j (h : j < l.length), (l[j]).1 = n + j := by
 intro l
 induction l with
 | nil => intro n _ j h; simp at h
 | cons p l ih =>
  obtain ⟨i, x⟩ := p
  intro n h j hj
  simp only [inOrder, Bool.and_eq_true] at h
  cases j with
  | zero => simpa using Nat.eq_of_beq_eq_true h.1
  | succ j => have := ih (n + 1) h.2 j (by simpa using hj); simp; omega
section
variable {P : Program} {w0 : World} {fb : List Nat} {X : Nat → Prop} {ι : Nat → Value} {st : St} {tm : Array Value} {w : World} {o : Oper}
theorem storable_head {ls : List Lf} (h : jjz ls = true) : ls.head? ≠ some .slf := by
 intro hh
 cases ls with
 | nil => cases hh
 | cons l r =>
  simp only [List.head?_cons, Option.some.injEq] at hh
  subst hh
  cases h
theorem Sim.makeBox (S : Sim w0 fb X ι st tm w) {σ : Nat} {cells : List Lf} {vs : List Value} {T : TypeId} (hl : LfsOk ι st.sites w (jjh X ι st.sites) cells vs) (h1 : ∀ u ∈ vs, u.oneCell' = true) (hns : SlfOk cells T vs w.heap.size) :
  Sim w0 fb X (fun τ => if τ = σ then .pointer (some ⟨w.heap.size, 0, none⟩) else ι τ) { st with sites := upd st.sites σ (.box (jjd st σ) cells) } tm (w.alloc (.cells vs.toArray T (0, 0))) :=
 S.make (fun b hb => RowKit.Below.heap_alloc w _ b hb) rfl rfl rfl (by simp) (fun site hs => jj6 hs) (fun b hb => by cases hb; exact ⟨Nat.le_refl _, by simp⟩)
  (fun hs hι go _ _ => ⟨w.heap.size, T, vs, hι, heap_alloc_new w _, hl.1, h1, hns, fun j g1 g2 => (lfs_sv go hl).2 j g1 g2⟩)
theorem selfL_ok {ι : Nat → Value} {sites : List (Nat × Site)} {av : Nat → Prop} {cells : List Lf} {T : TypeId} {cur : List Value} {b : Nat} (hT : T = gBT) (h : LfsOk ι sites w av cells cur) (hs : cells.head? ≠ some .slf) : LfsOk ι sites w av (selfL cells) cur ∧ SlfOk (selfL cells) T cur b := by
 unfold selfL
 split
 ·obtain ⟨v, vs, rfl, h1, h2⟩ := h.inv
  exact ⟨.cons (show LfOk ι sites w av .slf v from trivial) h2, fun _ => ⟨hT, .inl (by rw [show v = _ from h1]; rfl)⟩⟩
 ·exact ⟨h, fun h' => absurd h' hs⟩
theorem alloc_ok (S : Sim w0 fb X ι st tm w) {C : Ctx} (H : CtxOk P C) {elem : TypeId} {z : List Lf} {σ : Nat} (ho : o.op = .alloc elem) (hdst : o.dst = some σ) (hz : (C.tt elem).zero = some z) (hd : jjJ st o.dst = true) :
  jjA P w0 fb X st tm w o (lfv (.ptr σ (jjd st σ) 0)) [(σ, .box (jjd st σ) (bif elem.beq gBT then selfL z else z))] := by
 obtain ⟨v, hv, hzv⟩ := TI.run_zero (w := w) (H.tt elem) hz
 obtain ⟨h1, h2, h3⟩ := jxj hzv
 have hns : z.head? ≠ some .slf := by
  intro hh
  cases z with
  | nil => cases hh
  | cons l r =>
   simp only [List.head?_cons, Option.some.injEq] at hh
   subst hh
   simp [jqE, jJc] at hzv
 have hrun : (execOp (Act.eval ⟨tm, []⟩) o).run P w = .ok (.value (.pointer (some ⟨w.heap.size, 0, none⟩))) (w.alloc (.cells v.cells.toList.toArray elem (0, 0))) := by
  unfold execOp
  simp [ho, Instr.alloc, hv, newVar, newRow]
 have key : ∀ cells, LfsOk ι st.sites w (jjh X ι st.sites) cells v.cells.toList → SlfOk cells elem v.cells.toList w.heap.size →
   jjA P w0 fb X st tm w o (lfv (.ptr σ (jjd st σ) 0)) [(σ, .box (jjd st σ) cells)] := by
  intro cells hl hs
  have S' := S.makeBox (σ := σ) (T := elem) hl h2 hs
  refine jj1 (us := [(σ, .box (jjd st σ) cells)]) S' hd (vv := .pointer (some ⟨w.heap.size, 0, none⟩)) hrun ?_
  refine ⟨_, rfl, Ref.mk (site := .box (jjd st σ) cells) ?_ rfl (by simp)⟩
  simp only [jjN, jjl]; simp
 cases hT : elem.beq gBT with
 | false => exact key z ⟨h1, h3 _ _ _ _⟩ fun h => absurd h hns
 | true =>
  obtain ⟨k1, k2⟩ := selfL_ok (b := w.heap.size) (Nat.eq_of_beq_eq_true hT) (⟨h1, h3 ι st.sites w (jjh X ι st.sites)⟩ : LfsOk ι st.sites w (jjh X ι st.sites) z v.cells.toList) hns
  exact key _ k1 k2
theorem box_ok (S : Sim w0 fb X ι st tm w) {elem : TypeId} {x : Operand} {a : AV} {σ : Nat} (ho : o.op = .box elem x) (hdst : o.dst = some σ) (ha : AVOk ι st.sites w (jjh X ι st.sites) a (Act.eval ⟨tm, []⟩ x))
  (hst : jjz a.cells = true) (hd : jjJ st o.dst = true) : jjA P w0 fb X st tm w o (lfv (.ptr σ (jjd st σ) 0)) [(σ, .box (jjd st σ) a.cells)] := by
 have hl := ha.cells hst
 have S' := S.makeBox (σ := σ) (T := elem) hl (hl.oneCell hst) (fun h => absurd h (storable_head hst))
 refine jj1 (us := [(σ, .box (jjd st σ) a.cells)]) S' hd (vv := .pointer (some ⟨w.heap.size, 0, none⟩)) ?_ ?_
 ·unfold execOp
  simp [ho, Instr.box, newVar, newRow]
 ·refine ⟨_, rfl, Ref.mk (site := .box (jjd st σ) a.cells) ?_ rfl (by simp)⟩
  simp only [jjN, jjl]; simp
theorem Sim.makeRow (S : Sim w0 fb X ι st tm w) {σ : Nat} {t : Ty} {xs : List (den t)} {cs rest : List Value} {T : TypeId} {cap : Nat} (hl : RdsOk w (jjh X ι st.sites) (jjM t xs) cs) (hcap : cs.length + rest.length = cap * esz t) (hm : cap ≤ maxLen) (hU : t.isB = true → T = gU8) :
  Sim w0 fb X (fun τ => if τ = σ then .slice (some ⟨w.heap.size, 0, none⟩) xs.length cap else ι τ) { st with sites := upd st.sites σ (.row (jjd st σ) t xs) } tm (w.alloc (.cells (cs ++ rest).toArray T (0, 0))) := by
 have hcl : cs.length = xs.length * esz t := by rw [hl.1, jjp]
 have hle : xs.length ≤ cap := by
  have : xs.length * esz t ≤ cap * esz t := by omega
  exact Nat.le_of_mul_le_mul_right this (jxr t)
 refine S.make (fun b hb => RowKit.Below.heap_alloc w _ b hb) rfl rfl rfl (by simp) (fun site hs => jj6 hs) (fun b hb => by cases hb; exact ⟨Nat.le_refl _, by simp⟩)
  (fun hs hι go _ _ => ⟨T, cs, ⟨hcl, .inr ⟨w.heap.size, cap, _, (0, 0), hι, ⟨hU, .inl rfl⟩, heap_alloc_new w _, hle, hm, ?_, ?_⟩⟩, fun j g1 g2 => rd_sv go (hl.2 j g1 g2)⟩)
 ·simp [hcap]
 ·rw [← hcl]; simp
theorem decs_ok : ∀ {as : List AV} {t : Ty} {xs : List (den t)} {us vs : List (Nat × Site)} {ws : List Value}, decs t st as = some (xs, us) → ws.length = as.length →
  (∀ j (h : j < as.length) (h' : j < ws.length), AVOk ι st.sites w (jjh X ι st.sites) (as[j]) (ws[j])) → Fz w0 fb X ι st tm w vs → (∀ p, p ∈ us → p ∈ vs) →
  xs.length = as.length ∧ RdsOk w (jjh X ι (jjN st.sites vs)) (jjM t xs) (ws.flatMap fun v => v.cells.toList) ∧ ∀ v, v ∈ ws → v.cells.size = esz t := by
 intro as
 induction as with
 | nil =>
  intro t xs us vs ws h hl _ _ _
  simp only [decs] at h
  cases h
  have : ws = [] := List.eq_nil_of_length_eq_zero hl
  subst this
  exact ⟨rfl, ⟨rfl, fun j h => by simp [jjM] at h⟩, fun v hv => by simp at hv⟩
 | cons a as ih =>
  intro t xs us vs ws h hl hok F hsub
  match ws, hl with
  | v :: ws, hl =>
  simp only [decs] at h
  split at h
  ·rename_i ds u1 hdat
   split at h
   ·rename_i x xs' u2 hdec hrest
    cases h
    have hav := hok 0 (by simp) (by simp)
    simp only [List.getElem_cons_zero] at hav
    have hst : jjz a.cells = true := by
     clear hrest ih hok hav hl hdec
     generalize a.cells = ls at hdat
     induction ls generalizing ds u1 with
     | nil => rfl
     | cons l ls ih =>
      simp only [dats] at hdat
      split at hdat
      ·rename_i d ua ds' ub h1 h2
       simp only [jjz, Bool.and_eq_true]
       refine ⟨?_, ih _ _ (fun p hp => hsub p (by cases hdat; rcases List.mem_append.1 hp with h | h <;> simp [h])) h2⟩
       unfold dat at h1
       split at h1 <;> first | rfl | cases h1
      ·cases hdat
    have hl1 := hav.cells hst
    have hr1 := dats_ok hdat hl1 F (fun p hp => hsub p (List.mem_append.2 (.inl hp)))
    obtain ⟨g1, g2, g3⟩ := ih hrest (by simpa using hl) (fun j h1 h2 => hok (j + 1) (by simpa using h1) (by simpa using h2)) F (fun p hp => hsub p (List.mem_append.2 (.inr hp)))
    have henc := dec_enc _ _ _ hdec
    refine ⟨by simp [g1], ?_, fun u hu => ?_⟩
    ·simp only [jjM, List.flatMap_cons]
     rw [henc]
     have := jqy ((jqM (ι := ι) (sites := st.sites) hr1.1 hr1.2).append (jqM (ι := ι) (sites := st.sites) g2.1 g2.2) |> fun h => by
      rw [show asD ds ++ asD (jjM t xs') = asD (ds ++ jjM t xs') from by simp [asD]] at h
      exact h)
     exact this
    ·rcases List.mem_cons.1 hu with rfl | hu
     ·have : u.cells.toList.length = ds.length := hr1.1
      rw [← henc, jjS] at this
      simpa using this
     ·exact g3 u hu
   ·cases h
  ·cases h
theorem decs_fz : ∀ {as : List AV} {t : Ty} {xs : List (den t)} {us : List (Nat × Site)}, decs t st as = some (xs, us) → Freezes st.sites us := by
 intro as
 induction as with
 | nil => intro t xs us h; simp only [decs] at h; cases h; exact .nil
 | cons a as ih =>
  intro t xs us h
  simp only [decs] at h
  split at h
  ·rename_i ds u1 hdat
   split at h
   ·rename_i x xs' u2 hdec hrest
    cases h
    exact (dats_fz hdat).append (ih hrest)
   ·cases h
  ·cases h
theorem newStamp_freezes {us : List (Nat × Site)} (h : Freezes st.sites us) (σ : Nat) : jjd { st with sites := jjN st.sites us } σ = jjd st σ := by
 unfold jjd St.site
 simp only
 rcases jjW h σ with h1 | ⟨s, t, xs, h1, h2⟩
 ·rw [h1]
 ·rw [h2]
  rcases h1 with h1 | h1 <;> rw [h1] <;> rfl
end
section
variable {P : Program} {w0 : World} {fb : List Nat} {X : Nat → Prop} {ι : Nat → Value} {st : St} {tm : Array Value} {w : World} {o : Oper}
theorem jxt {v : SV} {a : AV} (h : avOf v = some a) : v = .av a := by
 cases v with
 | av b => cases h; rfl
 | tup _ => cases h
theorem avsOf_some : ∀ {vs : List SV} {as : List AV}, avsOf vs = some as → vs.length = as.length ∧ ∀ j (h : j < vs.length) (h' : j < as.length), vs[j] = .av (as[j]) := by
 intro vs
 induction vs with
 | nil => intro as h; simp only [avsOf] at h; cases h; exact ⟨rfl, fun j h => by simp at h⟩
 | cons v vs ih =>
  intro as h
  simp only [avsOf] at h
  split at h
  ·rename_i a as' h1 h2
   cases h
   obtain ⟨g1, g2⟩ := ih h2
   refine ⟨by simp [g1], fun j k1 k2 => ?_⟩
   cases j with
   | zero => exact jxt h1
   | succ j => exact g2 j (by simpa using k1) (by simpa using k2)
  ·cases h
theorem jzS {C : Ctx} (H : CtxOk P C) {T e : TypeId} {t : Ty} {bytes : Nat} (hT : C.tt T = .slice e t bytes) :
  P.underlying T = some (.slice e) ∧ ∃ i z, P.info? e = some i ∧ i.size = esz t ∧ i.bytes = bytes ∧ i.zero = some z ∧ z.cells.size = esz t ∧ (t.isB = true → e = gU8) := by
 have hTo := H.tt T
 rw [hT] at hTo
 obtain ⟨⟨hund, _⟩, z, hinfo, hzs⟩ := hTo
 refine ⟨hund, ?_⟩
 cases hq : P.info? e with
 | none => simp [hq] at hinfo
 | some i =>
  simp only [hq, Option.map_some, Option.some.injEq, Prod.mk.injEq] at hinfo
  exact ⟨i, z, rfl, hinfo.1, hinfo.2.1, hinfo.2.2, hzs⟩
theorem buildSlice_ok (S : Sim w0 fb X ι st tm w) {C : Ctx} (H : CtxOk P C) {T e : TypeId} {t : Ty} {bytes len σ : Nat} {parts : Array (Nat × Operand)} (hT : C.tt T = .slice e t bytes) (ho : o.op = .buildSlice T len parts)
  (hdst : o.dst = some σ) (hd : jjJ st o.dst = true) (hlen : parts.toList.length = len) (hord : inOrder 0 parts.toList = true) (hsmall : len * esz t ≤ 1000) {as : List AV} {xs : List (den t)} {us : List (Nat × Site)}
  (has : avsOf (parts.toList.map fun p => ev C st e p.2) = some as) (hdec : decs t st as = some (xs, us)) :
  jjA P w0 fb X st tm w o (lfv (.own σ (jjd st σ))) (us ++ [(σ, .row (jjd st σ) t xs)]) := by
 obtain ⟨hund, i, z, hi, hisz, hib, hiz, hzs, hU⟩ := jzS H hT
 have hfz := decs_fz hdec
 have F : Fz w0 fb X ι st tm w us := ⟨S, hfz⟩
 obtain ⟨hal, hat⟩ := avsOf_some has
 let ws : List Value := parts.toList.map fun p => Act.eval ⟨tm, []⟩ p.2
 have hwl : ws.length = as.length := by rw [← hal]; simp [ws]
 have hwok : ∀ j (h : j < as.length) (h' : j < ws.length), AVOk ι st.sites w (jjh X ι st.sites) (as[j]) (ws[j]) := by
  intro j h1 h2
  have hj : j < (parts.toList.map fun p => ev C st e p.2).length := by rw [hal]; exact h1
  have := hat j hj h1
  simp only [List.getElem_map] at this
  have hev := jqe S C e (parts.toList[j]'(by simpa using hj)).2
  rw [this] at hev
  have h3 : SVOk ι st.sites w (jjh X ι st.sites) (.av (as[j])) (ws[j]) := by simpa [ws] using hev
  exact h3
 obtain ⟨hxl, hrd, hcs⟩ := decs_ok hdec hwl hwok F (fun p hp => hp)
 have hlast : xs.length = len := by rw [hxl, ← hwl]; simpa [ws] using hlen
 have hparts : (parts.map fun (x : Nat × Operand) => (x.1, Act.eval ⟨tm, []⟩ x.2)).toList = parts.toList.map fun p => (p.1, Act.eval ⟨tm, []⟩ p.2) := by simp
 have hflat : ((parts.toList.map fun p => (p.1, Act.eval ⟨tm, []⟩ p.2)).flatMap fun p : Nat × Value => p.2.cells.toList) = ws.flatMap fun v => v.cells.toList := by
  simp [ws, List.flatMap_map]
 have hcl : (ws.flatMap fun v => v.cells.toList).length = len * esz t := by rw [hrd.1, jjp, hlast]
 have hm : len ≤ maxLen := by
  have : len * 1 ≤ len * esz t := Nat.mul_le_mul_left _ (jxr t)
  unfold maxLen; omega
 have S' := F.new.makeRow (σ := σ) (xs := xs) (cs := ws.flatMap fun v => v.cells.toList) (rest := []) (T := e) (cap := len) (by exact hrd) (by simp [hcl]) hm hU
 rw [newStamp_freezes hfz, hlast, List.append_nil] at S'
 have hsites : jjN st.sites (us ++ [(σ, .row (jjd st σ) t xs)]) = upd (jjN st.sites us) σ (.row (jjd st σ) t xs) := by rw [jj0]; rfl
 have hrun : (Instr.buildSlice T len (parts.map fun (x : Nat × Operand) => (x.1, Act.eval ⟨tm, []⟩ x.2))).run P w =
   .ok (.slice (some ⟨w.heap.size, 0, none⟩) len len) (w.alloc (.cells (ws.flatMap fun v => v.cells.toList).toArray e)) := by
  by_cases h0 : len * i.size = 0
  ·have hl0 : len = 0 := by
    rcases Nat.mul_eq_zero.1 h0 with h | h
    ·exact h
    ·have := jxr t; omega
   subst hl0
   have hp0 : parts.toList = [] := List.eq_nil_of_length_eq_zero hlen
   have hw0 : ws = [] := by simp [ws, hp0]
   have hpe : parts = #[] := by simpa using hp0
   rw [hw0]
   have hr0 : ∀ f : Nat → Value, Array.map f (Array.range 0) = #[] := fun f => by apply Array.ext'; simp
   simp [Instr.buildSlice, run_underlying hund, sizeOf, typeInfo, hi, hpe, Instr.fill, newRow, hr0]
  ·refine run_buildSlice w T e len _ _ i z hund hi hiz (by rw [hisz]; omega) h0 ?_
   rw [hparts]
   have hzlen : (((Array.range (len * i.size)).map fun x => z.cells[x % z.cells.size]!)).size = len * i.size := by simp
   have := fill_order (esz t) (parts.toList.map fun p => (p.1, Act.eval ⟨tm, []⟩ p.2)) 0 ((Array.range (len * i.size)).map fun x => z.cells[x % z.cells.size]!)
    (fun j h => by have := inOrder_at _ 0 hord j (by simpa using h); simpa using this)
    (fun p hp => by
     obtain ⟨q, hq, rfl⟩ := List.mem_map.1 hp
     exact hcs _ (List.mem_map.2 ⟨q, hq, rfl⟩))
    (by rw [hzlen, hisz]; simp [hlen])
   rw [hisz] at this ⊢
   rw [this, hflat]
   congr 2
   unfold splice
   rw [Nat.zero_mul, List.take_zero, List.nil_append, Nat.zero_add, hcl, List.drop_eq_nil_of_le (by simp), List.append_nil]
 refine jj1 (us := us ++ [(σ, .row (jjd st σ) t xs)]) (by rw [hsites]; exact S') hd (vv := .slice (some ⟨w.heap.size, 0, none⟩) len len) ?_ ?_
 ·unfold execOp
  simp only [ho, Sem.run_bind]
  have hrun' := hrun
  simp only [hrun', Result.andThen_ok, Sem.run_pure]
 ·rw [hsites]
  refine ⟨rfl, Ref.mk (site := .row (jjd st σ) t xs) ?_ rfl (by simp)⟩
  simp only [jjl]; simp
theorem rds_replicate {w : World} {av : Nat → Prop} {t : Ty} {z : den t} {zs : List Value} (h : RdsOk w av (enc t z) zs) (n : Nat) : RdsOk w av (jjM t (List.replicate n z)) ((List.replicate n zs).flatten) := by
 induction n with
 | zero => exact ⟨rfl, fun j h => by simp [jjM] at h⟩
 | succ n ih =>
  have := jqy ((jqM (ι := fun _ => undef) (sites := []) h.1 h.2).append (jqM (ι := fun _ => undef) (sites := []) ih.1 ih.2) |> fun h => by
   rw [show asD (enc t z) ++ asD (jjM t (List.replicate n z)) = asD (enc t z ++ jjM t (List.replicate n z)) from by simp [asD]] at h
   exact h)
  simpa [List.replicate_succ, jjM, List.flatMap_cons] using this
theorem range_mod (z : Array Value) (n : Nat) (hz : 0 < z.size) : ((Array.range (n * z.size)).map fun x => z[x % z.size]!).toList = (List.replicate n z.toList).flatten := by
 induction n with
 | zero => simp
 | succ n ih =>
  rw [List.replicate_succ', List.flatten_append]
  rw [← ih]
  apply List.ext_getElem?
  intro j
  have e : (n + 1) * z.size = n * z.size + z.size := by rw [Nat.add_mul, Nat.one_mul]
  simp only [Array.toList_map, Array.toList_range, List.getElem?_map, List.getElem?_append, List.length_map, List.length_range, List.flatten_cons, List.flatten_nil, List.append_nil, e]
  by_cases h1 : j < n * z.size
  ·rw [List.getElem?_range (by omega)]; simp [h1]
  ·by_cases h2 : j < n * z.size + z.size
   ·rw [List.getElem?_range h2]
    have h3 : j - n * z.size < z.size := by omega
    have h4 : j % z.size = j - n * z.size := by
     have : j = z.size * n + (j - n * z.size) := by rw [Nat.mul_comm]; omega
     conv => lhs; rw [this]
     rw [Nat.mul_add_mod, Nat.mod_eq_of_lt h3]
    simp [h1, h4, h3]
   ·rw [List.getElem?_eq_none (by simp; omega)]
    have h3 : ¬ j - n * z.size < z.size := by omega
    simp [h1, h3]
theorem zeroVal_dat {l : Lf} {v : Value} {d : D} {us : List (Nat × Site)} (h : jJc l = some v) (k : dat st l = some (d, us)) : us = [] := by
 cases l with
 | d x => simp [dat] at k; exact k.2
 | nil t => simp [dat] at k; exact k.2
 | own σ s => simp [jJc] at h
 | clo g caps => simp [jJc] at h
 | _ => simp [dat] at k
theorem makeSlice_ok (S : Sim w0 fb X ι st tm w) {C : Ctx} (H : CtxOk P C) {T e : TypeId} {t : Ty} {bytes σ : Nat} {l c : Operand} {kn km : IntKind} {n m : Int} {z : List Lf} {ds : List D} {us : List (Nat × Site)} {z' : den t} (hT : C.tt T = .slice e t bytes) (ho : o.op = .makeSlice T l c)
  (hdst : o.dst = some σ) (hd : jjJ st o.dst = true) (hl : ev C st 0 l = .av (.lf (.d (.int kn n)))) (hc : ev C st 0 c = .av (.lf (.d (.int km m)))) (hz : (C.tt e).zero = some z) (hds : dats st z = some (ds, us)) (hdec : dec t ds = some z') :
  ∀ r, mk0 bytes n m z' = some r → jjA P w0 fb X st tm w o (lfv (.own σ (jjd st σ))) [(σ, .row (jjd st σ) t r)] := by
 intro r hr
 obtain ⟨hund, i, zv, hi, hisz, hib, hiz, hzs, hU⟩ := jzS H hT
 obtain ⟨v, hv, hzv⟩ := TI.run_zero (w := w) (H.tt e) hz
 have hvz : v = zv := by
  simp [zeroValue, typeInfo, hi, hiz] at hv
  exact hv.symm
 subst hvz
 obtain ⟨h1, h2, h3⟩ := jxj hzv
 have hus : us = [] := by
  clear hdec hz h3 h2 h1
  have key : ∀ {ls : List Lf} {vs : List Value} {ds : List D} {us : List (Nat × Site)}, jqE ls = some vs → dats st ls = some (ds, us) → us = [] := by
   intro ls
   induction ls with
   | nil => intro vs ds us _ h; simp only [dats] at h; cases h; rfl
   | cons l ls ih =>
    intro vs ds us h1 h2
    simp only [jqE] at h1
    split at h1
    ·rename_i v vs' g1 g2
     simp only [dats] at h2
     split at h2
     ·rename_i d ua ds' ub k1 k2
      cases h2
      rw [ih g2 k2, List.append_nil]
      exact zeroVal_dat g1 k1
     ·cases h2
    ·cases h1
  exact key hzv hds
 subst hus
 have F : Fz w0 fb X ι st tm w [] := ⟨S, .nil⟩
 have hrz : RdsOk w (jjh X ι st.sites) ds v.cells.toList := dats_ok hds ⟨h1, h3 _ _ _ _⟩ F (fun p hp => hp)
 rw [← dec_enc _ _ _ hdec] at hrz
 unfold mk0 at hr
 split at hr
 ·rename_i hb
  obtain ⟨b1, b2, b3, b4⟩ := hb
  cases hr
  have e1 : Act.eval ⟨tm, []⟩ l = .int kn n := by
   have := jqe S C 0 l; rw [hl] at this
   have this : Rd _ _ (.int kn n) _ := this
   generalize Act.eval ⟨tm, []⟩ l = u at this
   cases this; rfl
  have e2 : Act.eval ⟨tm, []⟩ c = .int km m := by
   have := jqe S C 0 c; rw [hc] at this
   have this : Rd _ _ (.int km m) _ := this
   generalize Act.eval ⟨tm, []⟩ c = u at this
   cases this; rfl
  have hrep := rds_replicate hrz n.toNat
  have hlen : ((List.replicate n.toNat v.cells.toList).flatten).length = n.toNat * esz t := by
   rw [hrep.1, jjp, List.length_replicate]
  have hsplit : (List.replicate m.toNat v.cells.toList).flatten = (List.replicate n.toNat v.cells.toList).flatten ++ (List.replicate (m.toNat - n.toNat) v.cells.toList).flatten := by
   rw [← List.flatten_append, List.replicate_append_replicate]; congr 2; omega
  have hcap : ((List.replicate n.toNat v.cells.toList).flatten).length + ((List.replicate (m.toNat - n.toNat) v.cells.toList).flatten).length = m.toNat * esz t := by
   rw [← List.length_append, ← hsplit]
   simp [hzs]
  have hmax : m.toNat ≤ maxLen := by omega
  have S' := S.makeRow (σ := σ) (T := e) hrep hcap hmax hU
  rw [List.length_replicate, ← hsplit] at S'
  refine jj1 (us := [(σ, .row (jjd st σ) t (List.replicate n.toNat z'))]) S' hd (vv := .slice (some ⟨w.heap.size, 0, none⟩) n.toNat m.toNat) ?_ ?_
  ·unfold maxLen at b4
   have w1 : IntKind.i64.wrap n = n := IntWalk.i64_in n (by omega)
   have w2 : IntKind.i64.wrap m = m := IntWalk.i64_in m (by omega)
   have hnot : (decide (m < 0) || decide (((i.bytes : Nat) : Int) * m > 2 ^ 48)) = false := by
    unfold room at b3
    rw [hib]
    have : (bytes : Int) * m ≤ 140737488355328 := by rw [Int.mul_comm]; exact b3
    simp; omega
   have hcells : ((Array.range (m.toNat * i.size)).map fun x => v.cells[x % v.cells.size]!) = ((List.replicate m.toNat v.cells.toList).flatten).toArray := by
    rw [← range_mod v.cells m.toNat (by rw [hzs]; exact jxr t), hzs, hisz]
   unfold execOp
   simp only [ho, e1, e2, Sem.run_bind]
   have hrun : (Instr.makeSlice T (.int kn n) (.int km m)).run P w = .ok (.slice (some ⟨w.heap.size, 0, none⟩) n.toNat m.toNat) (w.alloc (.cells ((List.replicate m.toNat v.cells.toList).flatten).toArray e)) := by
    have hn0 : ¬ n < 0 := by omega
    have hnm : ¬ n > m := by omega
    unfold Instr.makeSlice
    simp only [Sem.run_bind, run_underlying hund, Result.andThen_ok, asInt, asIntOf, Sem.run_pure, jjy hi, w1, w2, hnot, Bool.false_eq_true, hn0, hnm, decide_false, Bool.or_false, Bool.or_self, if_false,
     run_askRoom, sizeOf]
    by_cases hz0 : m.toNat * i.size = 0
    ·have hm0 : m.toNat = 0 := by
      rcases Nat.mul_eq_zero.1 hz0 with h | h
      ·exact h
      ·have := jxr t; omega
     have hr0 : ∀ f : Nat → Value, Array.map f (Array.range 0) = #[] := fun f => by apply Array.ext'; simp
     simp [hm0, newRow, hr0]
    ·simp [hz0, hiz, zeroValue, jjy hi, newRow, hcells]
   simp only [hrun, Result.andThen_ok, Sem.run_pure]
  ·refine ⟨rfl, Ref.mk (site := .row (jjd st σ) t (List.replicate n.toNat z')) ?_ rfl (by simp)⟩
   simp only [jjN, jjl]; simp
 ·cases hr
end
theorem mapM_look {α β : Type} (g : α → Option β) : ∀ {l : List α} {r : List β}, l.mapM g = some r → ∀ {i : Nat} {y : β}, r[i]? = some y → ∃ x, l[i]? = some x ∧ g x = some y := by
 intro l
 induction l with
 | nil => intro r h i y hy; simp at h; subst h; simp at hy
 | cons x l ih =>
  intro r h i y hy
  simp only [List.mapM_cons, Option.bind_eq_bind, Option.pure_def] at h
  cases hx : g x with
  | none => simp [hx] at h
  | some z =>
   cases hl : l.mapM g with
   | none => simp [hx, hl] at h
   | some r' =>
    simp only [hx, hl, Option.bind_some, Option.some.injEq] at h
    subst h
    cases i with
    | zero => simp at hy; subst hy; exact ⟨x, by simp, hx⟩
    | succ i => simp at hy; simpa using ih hl hy
section
variable {P : Program} {w0 : World} {fb : List Nat} {X : Nat → Prop} {ι : Nat → Value} {st : St} {tm : Array Value} {w : World} {o : Oper}
theorem jxa {k : IntKind} {n : Int} {v : Value} {av : Nat → Prop} (h : Rd w av (.int k n) v) : v = .int k n := by cases h; rfl
theorem jqI {b : Bool} {v : Value} {av : Nat → Prop} (h : Rd w av (.bool b) v) : v = .bool b := by cases h; rfl
theorem jqO {s : Str} {v : Value} {av : Nat → Prop} (h : Rd w av (.str s) v) : ∃ b : ByteArray, v = .string b ∧ b.data.toList = s := by
 cases h with
 | str l s h => exact ⟨s, rfl, h⟩
theorem ev_int (S : Sim w0 fb X ι st tm w) {C : Ctx} {T : TypeId} {x : Operand} {k : IntKind} {n : Int} (h : ev C st T x = .av (.lf (.d (.int k n)))) : Act.eval ⟨tm, []⟩ x = .int k n := by
 have := jqe S C T x; rw [h] at this; exact jxa this
theorem ev_bool (S : Sim w0 fb X ι st tm w) {C : Ctx} {T : TypeId} {x : Operand} {b : Bool} (h : ev C st T x = .av (.lf (.d (.bool b)))) : Act.eval ⟨tm, []⟩ x = .bool b := by
 have := jqe S C T x; rw [h] at this; exact jqI this
theorem ev_str (S : Sim w0 fb X ι st tm w) {C : Ctx} {T : TypeId} {x : Operand} {s : Str} (h : ev C st T x = .av (.lf (.d (.str s)))) : ∃ b : ByteArray, Act.eval ⟨tm, []⟩ x = .string b ∧ b.data.toList = s := by
 have := jqe S C T x; rw [h] at this; exact jqO this
theorem struct_info {C : Ctx} (H : CtxOk P C) {T : TypeId} {fs : List (Nat × Nat)} {n : Nat} {z : List Lf} {eq : Bool} (hT : C.tt T = .struct fs n z eq) : (TI.struct fs n z eq).ok P T := by
 have := H.tt T; rwa [hT] at this
theorem fieldAddr_ok (S : Sim w0 fb X ι st tm w) {C : Ctx} (H : CtxOk P C) {T : TypeId} {x : Operand} {f off sz : Nat} {fs : List (Nat × Nat)} {n : Nat} {z : List Lf} {eq : Bool} (hT : C.tt T = .struct fs n z eq) (ho : o.op = .fieldAddr T x f)
  (hd : jjJ st o.dst = true) (hf : fs[f]? = some (off, sz)) : Holds (fieldAddrV off (ev C st 0 x)) (jjA P w0 fb X st tm w o) := by
 obtain ⟨fields, hund, ⟨hmap, hnz⟩, _⟩ := struct_info H hT
 obtain ⟨fl, h1, h2⟩ := mapM_look _ hmap hf
 have h1' : fields[f]? = some fl := by simpa using h1
 cases hi : P.info? fl.type with
 | none => simp [hi] at h2
 | some i =>
  simp only [hi, Option.map_some, Option.some.injEq, Prod.mk.injEq] at h2
  have hsz : i.size ≠ 0 := by rw [h2.2]; exact hnz (off, sz) (List.mem_of_getElem? hf)
  have hev := jqe S C 0 x
  have run : ∀ {b p : Nat}, Act.eval ⟨tm, []⟩ x = .pointer (some ⟨b, p, none⟩) → (execOp (Act.eval ⟨tm, []⟩) o).run P w = .ok (.value (.pointer (some ⟨b, p + off, none⟩))) w := by
   intro b p hx
   unfold execOp
   simp only [ho, hx, Instr.fieldAt, Instr.sureAddr, Sem.run_bind, run_underlying hund, Result.andThen_ok, h1', Sem.run_pure, fieldPlace, sizeOf, jjy hi, hsz, if_false, h2.1, jqD]
  unfold fieldAddrV
  split
  ·rename_i σ s p heq
   rw [heq] at hev
   obtain ⟨b, k1, k2⟩ := hev
   exact Holds.ok (jjm S hd (run k1) ⟨b, rfl, k2⟩)
  ·rename_i cells p heq
   rw [heq] at hev
   obtain ⟨b, q, k1, k2⟩ := hev
   refine Holds.ok (jjm S hd (run k1) ⟨b, q, by rw [Nat.add_assoc], k2⟩)
  ·rename_i σ s t k p heq
   rw [heq] at hev
   obtain ⟨b, k1, k2⟩ := hev
   exact Holds.ok (jjm S hd (run k1) ⟨b, by rw [Nat.add_assoc], k2⟩)
  ·exact .fail
end
section
variable {P : Program} {w0 : World} {fb : List Nat} {X : Nat → Prop} {ι : Nat → Value} {st : St} {tm : Array Value} {w : World} {o : Oper}
theorem store_ok (S : Sim w0 fb X ι st tm w) {C : Ctx} (H : CtxOk P C) {T : TypeId} {a x : Operand} {v : AV} (ho : o.op = .store T a x) (hd : jjJ st o.dst = true) (hk : (C.tt T).known = true) (hv : avOf (ev C st T x) = some v) :
  Holds (storeV (C.tt T).size st (ev C st T a) v) (jjA P w0 fb X st tm w o) := by
 have hn := known_ne hk
 have hea := jqe S C T a
 have hex := jqe S C T x
 rw [jxt hv] at hex
 have hex : AVOk ι st.sites w (jjh X ι st.sites) v (Act.eval ⟨tm, []⟩ x) := hex
 have run : ∀ {b p : Nat} {cur : List Value} {T' : TypeId} {u : Bool} {fz : Nat × Nat}, Act.eval ⟨tm, []⟩ a = .pointer (some ⟨b, p, none⟩) → w.heap[b]? = some (.cells cur.toArray T' fz) → FzOk u T' cur.toArray fz → (Act.eval ⟨tm, []⟩ x).cells.toList.length = (C.tt T).size →
   p + (Act.eval ⟨tm, []⟩ x).cells.toList.length ≤ cur.length → (∀ u ∈ (Act.eval ⟨tm, []⟩ x).cells.toList, u.oneCell' = true) →
   (execOp (Act.eval ⟨tm, []⟩) o).run P w = .ok .skip (w.setRow b (splice cur p (Act.eval ⟨tm, []⟩ x).cells.toList).toArray) := by
  intro b p cur T' u fz h1 h2 hz h3 h4 h5
  unfold execOp
  simp only [ho, h1, Instr.storeAt, Instr.sureAddr, Sem.run_bind, Sem.run_pure, Result.andThen_ok, jzs (H.tt T) hn h2 hz h3 h4 h5]
 unfold storeV
 cases hlen : v.cells.length.beq (C.tt T).size with
 | false => simp only [cond_false]; exact .fail
 | true =>
  have hlen' := Nat.eq_of_beq_eq_true hlen
  simp only [cond_true]
  split
  ·rename_i σ s off heq
   rw [heq] at hea
   split
   ·rename_i cells hb
    cases hc : (Nat.ble (off + (C.tt T).size) cells.length && jjz v.cells) with
    | false => simp only [cond_false]; exact .fail
    | true =>
     simp only [cond_true]
     simp only [Bool.and_eq_true] at hc
     have hle := Nat.le_of_ble_eq_true hc.1
     have hl := hex.cells hc.2
     obtain ⟨b, T', cur, h1, h2, h3, S'⟩ := S.storeBox (jjE hb) hea hl (by rw [hlen']; exact hle) (hl.oneCell hc.2) hc.2
     exact Holds.okU (jzP (us := [(σ, .box s (splice cells off v.cells))]) S' hd (run (u := false) h1 h2 ⟨(fun h => by cases h), .inl rfl⟩ (by rw [hl.1]; exact hlen') h3 (hl.oneCell hc.2)))
   ·exact .fail
  ·rename_i σ s u k off heq
   rw [heq] at hea
   split
   ·rename_i s' t xs hsite
    have hsite' : jjB st.sites σ = some (.row s' t xs) := hsite
    cases hc : (s'.beq s && Nat.ble (off + (C.tt T).size) (esz t) && decide (t = u)) with
    | false => simp only [cond_false]; exact .fail
    | true =>
     simp only [cond_true]
     simp only [Bool.and_eq_true, decide_eq_true_eq] at hc
     obtain ⟨⟨hc1, hc2⟩, rfl⟩ := hc
     have := Nat.eq_of_beq_eq_true hc1
     subst this
     have hle := Nat.le_of_ble_eq_true hc2
     split
     ·rename_i ds us hds
      cases hnm : (jjB us σ).isNone with
      | false => simp only [cond_false]; exact .fail
      | true =>
       simp only [cond_true]
       refine Holds.optU fun x' hx' => ?_
       have hx'' : ((xs[k]?).bind fun x => dec t (splice (enc t x) off ds)) = some x' := hx'
       cases hxk : xs[k]? with
       | none => rw [hxk] at hx''; cases hx''
       | some xe =>
        rw [hxk] at hx''
        have hdec : dec t (splice (enc t xe) off ds) = some x' := hx''
        have hfz := dats_fz hds
        have F : Fz w0 fb X ι st tm w us := ⟨S, hfz⟩
        have hst : jjz v.cells = true := by
         clear hlen hlen' hx' hx'' hdec hnm hfz F
         revert hds
         generalize v.cells = ls
         intro hds
         induction ls generalizing ds us with
         | nil => rfl
         | cons l ls ih =>
          simp only [dats] at hds
          split at hds
          ·rename_i d ua ds' ub h1 h2
           simp only [jjz, Bool.and_eq_true]
           refine ⟨?_, ih _ _ h2⟩
           unfold dat at h1
           split at h1 <;> first | rfl | cases h1
          ·cases hds
        have hl := hex.cells hst
        have hr := dats_ok hds hl F (fun p hp => hp)
        have hdl : ds.length = (C.tt T).size := by
         have := hr.1; rw [hl.1] at this; omega
        have hnot : jjB (jjN st.sites us) σ = some (.row s' t xs) := by
         rcases jjW hfz σ with h | ⟨s2, t2, xs2, h, h'⟩
         ·rw [h]; exact hsite'
         ·exfalso
          have : ∀ (us : List (Nat × Site)) (sites : List (Nat × Site)), jjB us σ = none → jjB (jjN sites us) σ = jjB sites σ := by
           intro us
           induction us with
           | nil => intro sites _; rfl
           | cons p us ih =>
            obtain ⟨τ, site⟩ := p
            intro sites hnone
            simp only [jjB] at hnone
            cases hb : τ.beq σ with
            | true => simp [hb] at hnone
            | false =>
             simp only [hb, cond_false] at hnone
             simp only [jjN]
             rw [ih _ hnone, jjl, if_neg]
             rintro rfl
             simp at hb
          have h3 := this us st.sites (by simpa using hnm)
          rw [h', hsite'] at h3
          cases h3
        have hea' := F.go (a := .av (.lf (.optr σ s' t k off))) hea
        obtain ⟨b, T', cur, fz, h1, h2, hz, h3, S'⟩ := F.new.storeRow hnot hea' hxk (dec_enc _ _ _ hdec) hr (by rw [hdl]; exact hle) (hl.oneCell hst)
        refine jzP (ι' := ι) (us := us ++ [(σ, .row s' t (xs.set k x'))]) ?_ hd (run h1 h2 hz (by rw [hl.1]; exact hlen') h3 (hl.oneCell hst))
        rw [jj0]; exact S'
     ·exact .fail
   ·exact .fail
  ·exact .fail
theorem indexAddr_ok (S : Sim w0 fb X ι st tm w) {C : Ctx} (H : CtxOk P C) {T e : TypeId} {t : Ty} {bytes : Nat} {x i : Operand} {k : IntKind} {n : Int} (hT : C.tt T = .slice e t bytes) (hi : ev C st 0 i = .av (.lf (.d (.int k n)))) (ho : o.op = .indexAddr T x i)
  (hd : jjJ st o.dst = true) :
  Holds (jxf t st (ev C st T x) n) (jjA P w0 fb X st tm w o) := by
 obtain ⟨hund, inf, z, hinf, hisz, hib, hiz, hzs, _⟩ := jzS H hT
 have hevi := ev_int S hi
 have hev := jqe S C T x
 have run : ∀ {a : Addr} {len cap : Nat}, Act.eval ⟨tm, []⟩ x = .slice (some a) len cap → 0 ≤ n → n < len → (execOp (Act.eval ⟨tm, []⟩) o).run P w = .ok (.value (.pointer (some (a.add (n.toNat * esz t))))) w := by
  intro a len cap hx h0 h1
  unfold execOp
  simp [ho, hx, hevi, Instr.indexAt, asIntOf, run_underlying hund, h0, h1, sizeOf, jjy hinf, hisz]
 unfold jxf
 split
 ·rename_i u xs heq
  split
  case isFalse => exact .fail
  rename_i htu
  subst htu
  rw [heq] at hev
  have hev : Rd w (jjh X ι st.sites) (.sl u xs) (Act.eval ⟨tm, []⟩ x) := hev
  refine Holds.opt fun y hy => ?_
  have hy' : ix xs n = some y := hy
  unfold ix at hy'
  split at hy'
  ·rename_i h0
   have hlt : n.toNat < xs.length := by
    rcases Nat.lt_or_ge n.toNat xs.length with h | h
    ·exact h
    ·rw [List.getElem?_eq_none h] at hy'; cases hy'
   generalize hx : Act.eval ⟨tm, []⟩ x = v at hev
   cases hev with
   | nil => simp at hlt
   | sl _ _ a cap cs m hm hcap hb hl hc hr =>
    subst hm
    have hne : xs ≠ [] := by rintro rfl; simp at hlt
    have hrow : RdsOk w (jjh X ι st.sites) (jjM u xs) cs := ⟨hl, hr⟩
    have hsp : a.spot = none := by
     have hpos : 0 < cs.length := by rw [hl, jjp]; exact Nat.mul_pos (List.length_pos_iff.mpr hne) (jxr u)
     have h1 := hc 0 cs[0] (List.getElem?_eq_getElem hpos)
     have h2 : a.add 0 = a := by unfold Addr.add; simp
     rw [h2] at h1
     unfold World.cell? at h1
     split at h1
     ·cases hs : a.spot with
      | none => rfl
      | some _ => simp [hs] at h1
     ·cases h1
    obtain ⟨ab, ao, asp⟩ := a
    simp only at hsp
    subst hsp
    have hcs : CellsAt w ab ao cs := fun j v hv => by have := hc j v hv; rwa [jqD] at this
    refine jjm S hd (run hx h0 (by omega)) ?_
    rw [jqD]
    have hsl := jxM u xs n.toNat y hy'
    have hpart := (hcs.drop (n.toNat * esz u)).take (esz u)
    have hlf := ((jqM (ι := ι) (sites := st.sites) hl hr).drop (n.toNat * esz u)).take (esz u)
    have e2 : ((asD (jjM u xs)).drop (n.toNat * esz u)).take (esz u) = asD (enc u y) := by
     rw [← hsl]; simp [asD, List.map_drop, List.map_take]
    rw [e2] at hlf
    have hrd := jqy hlf
    have hlt2 : ab < w.heap.size := by
     have hpos : 0 < cs.length := by rw [hl, jjp]; exact Nat.mul_pos (List.length_pos_iff.mpr hne) (jxr u)
     exact World.block_lt_of_cell? w _ (hcs 0 cs[0] (List.getElem?_eq_getElem hpos))
    exact ⟨ab, ao + n.toNat * esz u, by rw [Nat.add_zero], hb hne, hlt2, _, hrd.1, hpart, hrd.2⟩
  ·cases hy'
 ·rename_i σ s heq
  rw [heq] at hev
  split
  ·rename_i u xs hrow
   split
   case isFalse => exact .fail
   rename_i htu
   subst htu
   refine Holds.opt fun y hy => ?_
   have hy' : inb xs.length n = some y := hy
   unfold inb at hy'
   split at hy'
   ·rename_i hb
    cases hy'
    obtain ⟨cs, hl, hcell⟩ := S.row hrow
    have hst : ∃ site, jjB st.sites σ = some site ∧ site.stamp = s := by
     rcases jjY hrow with h | h <;> exact ⟨_, h, rfl⟩
    obtain ⟨site, hsl, hss⟩ := hst
    have hv : Act.eval ⟨tm, []⟩ x = ι σ := Ref.at hev.2 hsl hss
    rcases hcell with ⟨hn, hx0⟩ | ⟨b, c, hι, hcc, _⟩
    ·subst hx0; simp at hb; omega
    ·refine jjm S hd (run (by rw [hv]; exact hι) hb.1 hb.2) ?_
     rw [jqD, Nat.zero_add]
     exact ⟨b, by rw [Nat.add_zero], Ref.mk hsl hss ⟨_, _, hι⟩⟩
   ·cases hy'
  ·exact .fail
 ·exact .fail
end
section
variable {P : Program} {w0 : World} {fb : List Nat} {X : Nat → Prop} {ι : Nat → Value} {st : St} {tm : Array Value} {w : World} {o : Oper}
theorem bound_ok (S : Sim w0 fb X ι st tm w) {C : Ctx} {lo : Option Operand} {dflt l : Int} (h : jzJ dflt (lo.map (ev C st 0)) = some l) :
  (lo = none ∧ l = dflt) ∨ ∃ x k, lo = some x ∧ Act.eval ⟨tm, []⟩ x = .int k l := by
 cases lo with
 | none => simp only [Option.map_none, jzJ, Option.some.injEq] at h; exact .inl ⟨rfl, h.symm⟩
 | some x =>
  simp only [Option.map_some] at h
  generalize hx : ev C st 0 x = v at h
  unfold jzJ at h
  split at h
  ·rename_i heq; cases heq
  ·rename_i k n heq
   cases h
   cases heq
   exact .inr ⟨x, k, rfl, ev_int S hx⟩
  ·cases h
theorem jqC (t : Ty) (xs : List (den t)) (n : Nat) : jjM t (xs.take n) = (jjM t xs).take (n * esz t) := by
 rcases Nat.lt_or_ge xs.length n with h | h
 ·rw [List.take_of_length_le (Nat.le_of_lt h), List.take_of_length_le (by rw [jjp]; exact Nat.mul_le_mul_right _ (Nat.le_of_lt h))]
 ·have := jqY t (xs.take n) (xs.drop n)
  rw [List.take_append_drop] at this
  rw [this, List.take_left' (by rw [jjp, List.length_take, Nat.min_eq_left h])]
theorem flat_drop (t : Ty) (xs : List (den t)) (n : Nat) : jjM t (xs.drop n) = (jjM t xs).drop (n * esz t) := by
 rcases Nat.lt_or_ge xs.length n with h | h
 ·rw [List.drop_eq_nil_of_le (Nat.le_of_lt h), List.drop_eq_nil_of_le (by rw [jjp]; exact Nat.mul_le_mul_right _ (Nat.le_of_lt h))]
  rfl
 ·have := jqY t (xs.take n) (xs.drop n)
  rw [List.take_append_drop] at this
  rw [this, List.drop_left' (by rw [jjp, List.length_take, Nat.min_eq_left h])]
theorem run_bounds {P : Program} {w : World} (isSlice : Bool) (len cap : Nat) (lo hi : Option Value) (l h : Int) (hlo : (lo = none ∧ l = 0) ∨ ∃ k, lo = some (.int k l)) (hhi : (hi = none ∧ h = len) ∨ ∃ k, hi = some (.int k h))
  (h0 : 0 ≤ l) (h1 : l ≤ h) (h2 : h ≤ len) (hc : len ≤ cap) : (Instr.sliceBounds isSlice len cap lo hi none).run P w = .ok (l.toNat, h.toNat, cap) w := by
 have hh : 0 ≤ h := by omega
 have hhc : h ≤ cap := by omega
 have hth : ((h.toNat : Nat) : Int) = h := Int.toNat_of_nonneg hh
 rcases hlo with ⟨rfl, rfl⟩ | ⟨k, rfl⟩ <;> rcases hhi with ⟨rfl, rfl⟩ | ⟨k', rfl⟩
 ·simp [Instr.sliceBounds]
 ·simp [Instr.sliceBounds, Instr.sliceBound, asIntOf, hh, hhc]
 ·simp [Instr.sliceBounds, Instr.sliceBound, asIntOf, h0, h1]
 ·simp [Instr.sliceBounds, Instr.sliceBound, asIntOf, hh, hhc, h0, hth, h1]
theorem sub_data (s : ByteArray) (l h : Nat) (h2 : h ≤ s.size) : (s.extract l h).data.toList = (s.data.toList.take h).drop l := by
 rw [ByteArray.data_extract, Array.toList_extract]
 simp [List.extract_eq_take_drop, List.drop_take]
theorem rd_sub {w : World} {av : Nat → Prop} {t : Ty} {xs : List (den t)} {b o : Nat} {cs : List Value} (hb : xs ≠ [] → ¬ av b) (hr : RdsOk w av (jjM t xs) cs) (hc : CellsAt w b o cs) (l h : Nat) (h1 : l ≤ h) (h2 : h ≤ xs.length) (a : Addr) (c' : Nat) (hc' : h - l ≤ c')
  (ha : a = ⟨b, o + l * esz t, none⟩ ∨ l = h) (hab : a.block = b) : Rd w av (.sl t ((xs.take h).drop l)) (.slice (some a) (h - l) c') := by
 have hlen : ((xs.take h).drop l).length = h - l := by simp; omega
 by_cases hlh : l = h
 ·subst hlh
  have : (xs.take l).drop l = [] := List.eq_nil_of_length_eq_zero (by rw [hlen]; omega)
  rw [this]
  exact .sl t [] a c' [] _ (by simp) hc' (fun hx => absurd rfl hx) rfl (fun j u hu => by simp at hu) (fun j h => by simp [jjM] at h)
 ·rcases ha with ha | ha
  ·subst ha
   have hf : jjM t ((xs.take h).drop l) = ((jjM t xs).take (h * esz t)).drop (l * esz t) := by
    rw [flat_drop, jqC]
   have hlf := ((jqM (ι := fun _ => undef) (sites := []) hr.1 hr.2).take (h * esz t)).drop (l * esz t)
   have e2 : ((asD (jjM t xs)).take (h * esz t)).drop (l * esz t) = asD (jjM t ((xs.take h).drop l)) := by
    rw [hf]; simp [asD, List.map_drop, List.map_take]
   rw [e2] at hlf
   have hr' := jqy hlf
   refine .sl t _ _ c' _ _ hlen.symm hc' (fun hx => hb ?_) hr'.1 (fun j u hu => ?_) hr'.2
   ·rintro rfl; simp at hx
   ·rw [jqD]; exact ((hc.take (h * esz t)).drop (l * esz t)) j u hu
  ·exact absurd ha hlh
theorem rd_part {w : World} {av : Nat → Prop} {t : Ty} {xs : List (den t)} {a : Addr} {cs : List Value} (hb : xs ≠ [] → ¬ av a.block) (hr : RdsOk w av (jjM t xs) cs) (hc : ∀ j u, cs[j]? = some u → w.cell? (a.add j) = some u)
  (l h cap : Nat) (h1 : l ≤ h) (h2 : h ≤ xs.length) (hcap : xs.length ≤ cap) :
  Rd w av (.sl t ((xs.take h).drop l)) (.slice (if cap = l then some a else (some a).map (·.add (l * esz t))) (h - l) (cap - l)) := by
 by_cases hx : xs = []
 ·subst hx
  have : h = 0 := by simpa using h2
  subst this
  have hl0 : l = 0 := by omega
  subst hl0
  have : ((if cap = 0 then some a else (some a).map (·.add (0 * esz t))) : Option Addr) = some a := by
   split
   ·rfl
   ·simp [Addr.add]
  rw [this]
  exact .sl t [] a (cap - 0) [] 0 rfl (by omega) (fun hx => absurd rfl hx) rfl (fun j u hu => by simp at hu) (fun j h => by simp [jjM] at h)
 ·have hsp : a.spot = none := by
   have hpos : 0 < cs.length := by rw [hr.1, jjp]; exact Nat.mul_pos (List.length_pos_iff.mpr hx) (jxr t)
   have h1 := hc 0 cs[0] (List.getElem?_eq_getElem hpos)
   have h2 : a.add 0 = a := by unfold Addr.add; simp
   rw [h2] at h1
   unfold World.cell? at h1
   split at h1
   ·cases hs : a.spot with
    | none => rfl
    | some _ => simp [hs] at h1
   ·cases h1
  obtain ⟨ab, ao, asp⟩ := a
  simp only at hsp
  subst hsp
  have hcs : CellsAt w ab ao cs := fun j v hv => by have := hc j v hv; rwa [jqD] at this
  split
  ·rename_i e
   exact rd_sub hb hr hcs l h h1 h2 _ _ (by omega) (.inr (by omega)) rfl
  ·simp only [Option.map_some, jqD]
   exact rd_sub hb hr hcs l h h1 h2 _ _ (by omega) (.inl rfl) rfl
theorem stepOk_us {v : SV} {us us' : List (Nat × Site)} (e : jjN st.sites us = jjN st.sites us') (h : jjA P w0 fb X st tm w o v us) : jjA P w0 fb X st tm w o v us' := by
 have : st.app o.dst v us' = st.app o.dst v us := by cases o.dst <;> simp only [St.app, St.upds_eq, e]
 intro K Q hK
 rw [this] at hK
 exact h K Q hK
theorem slice_ok (S : Sim w0 fb X ι st tm w) {C : Ctx} (H : CtxOk P C) {T : TypeId} {x : Operand} {lo hi : Option Operand} (ho : o.op = .slice T x lo hi none) (hd : jjJ st o.dst = true) :
  Holds (sliceV (C.tt T) st (ev C st T x) (lo.map (ev C st 0)) (hi.map (ev C st 0))) (jjA P w0 fb X st tm w o) := by
 have hev := jqe S C T x
 have hopt : ∀ {lo : Option Operand} {dflt l : Int}, jzJ dflt (lo.map (ev C st 0)) = some l → (lo.map (Act.eval ⟨tm, []⟩) = none ∧ l = dflt) ∨ ∃ k, lo.map (Act.eval ⟨tm, []⟩) = some (.int k l) := by
  intro lo dflt l h
  rcases bound_ok S h with ⟨rfl, h'⟩ | ⟨x, k, rfl, h'⟩
  ·exact .inl ⟨rfl, h'⟩
  ·exact .inr ⟨k, by simp [h']⟩
 have runs : ∀ {vv : Value}, (Instr.sliceAt T (Act.eval ⟨tm, []⟩ x) (lo.map (Act.eval ⟨tm, []⟩)) (hi.map (Act.eval ⟨tm, []⟩)) none).run P w = .ok vv w → (execOp (Act.eval ⟨tm, []⟩) o).run P w = .ok (.value vv) w := by
  intro vv h
  unfold execOp
  simp only [ho, Option.map_none, Sem.run_bind, h, Result.andThen_ok, Sem.run_pure]
 have runSl : ∀ {e : TypeId} {t : Ty} {bytes : Nat} {a : Option Addr} {len cap : Nat} {l h : Int}, C.tt T = .slice e t bytes → Act.eval ⟨tm, []⟩ x = .slice a len cap → jzJ 0 (lo.map (ev C st 0)) = some l → jzJ len (hi.map (ev C st 0)) = some h →
   0 ≤ l → l ≤ h → h ≤ len → len ≤ cap → (execOp (Act.eval ⟨tm, []⟩) o).run P w = .ok (.value (.slice (if cap = l.toNat then a else a.map (·.add (l.toNat * esz t))) (h.toNat - l.toNat) (cap - l.toNat))) w := by
  intro e t bytes a len cap l h hT hx hlo hhi h0 h1 h2 hc
  obtain ⟨hund, inf, z, hinf, hisz, _⟩ := jzS H hT
  refine runs ?_
  have hb := run_bounds (P := P) (w := w) true len cap (lo.map (Act.eval ⟨tm, []⟩)) (hi.map (Act.eval ⟨tm, []⟩)) l h (hopt hlo) (hopt hhi) h0 h1 h2 hc
  simp only [Instr.sliceAt, Instr.slice, Sem.run_bind, run_underlying hund, Result.andThen_ok, hx, hb, sizeOf, jjy hinf, hisz, Sem.run_pure]
 unfold sliceV
 split
 ·rename_i s heq
  rw [heq] at hev
  obtain ⟨b, hx, hs⟩ := jqO hev
  split
  ·rename_i l h hT hlo hhi
   have hTo := H.tt T
   rw [hT] at hTo
   refine Holds.opt fun r hr => ?_
   have hr' : jq5 s l h = some r := hr
   unfold jq5 at hr'
   split at hr'
   ·rename_i hb
    obtain ⟨h0, h1, h2⟩ := hb
    cases hr'
    have hsz : s.length = b.size := by rw [← hs]; rfl
    rw [hsz] at h2 hhi
    refine jjm S hd (vv := .string (b.extract l.toNat h.toNat)) (runs ?_) (.str _ _ ?_)
    ·have hb := run_bounds (P := P) (w := w) false b.size b.size (lo.map (Act.eval ⟨tm, []⟩)) (hi.map (Act.eval ⟨tm, []⟩)) l h (hopt hlo) (hopt hhi) h0 h1 h2 (Nat.le_refl _)
     simp [Instr.sliceAt, Instr.slice, run_underlying hTo.1, hx, hb]
    ·rw [sub_data b _ _ (by omega), hs]
   ·cases hr'
  ·exact .fail
 ·rename_i t xs heq
  rw [heq] at hev
  have hev : Rd w (jjh X ι st.sites) (.sl t xs) (Act.eval ⟨tm, []⟩ x) := hev
  split
  ·rename_i e u bytes l h hT hlo hhi
   split
   case isFalse => exact .fail
   rename_i htu
   subst htu
   refine Holds.opt fun r hr => ?_
   have hr' : jq5 xs l h = some r := hr
   unfold jq5 at hr'
   split at hr'
   ·rename_i hb
    obtain ⟨h0, h1, h2⟩ := hb
    cases hr'
    generalize hx : Act.eval ⟨tm, []⟩ x = v at hev
    cases hev with
    | nil =>
     have hh : h = 0 := by simp at h2; omega
     have hl : l = 0 := by omega
     subst hh hl
     refine jjm S hd (runSl hT hx hlo hhi h0 h1 h2 (Nat.le_refl _)) ?_
     simp only [List.take_nil, List.drop_nil]
     exact Rd.nil t
    | sl _ _ a cap cs m hm hcap hb hl hc hr =>
     subst hm
     refine jjm S hd (runSl hT hx hlo hhi h0 h1 h2 hcap) ?_
     exact rd_part hb ⟨hl, hr⟩ hc l.toNat h.toNat cap (by omega) (by omega) hcap
   ·cases hr'
  ·exact .fail
 ·rename_i t heq
  rw [heq] at hev
  have hx : Act.eval ⟨tm, []⟩ x = .slice none 0 0 := hev
  split
  ·rename_i e u bytes l h hT hlo hhi
   refine Holds.opt fun r hr => ?_
   have hr' : jq5 ([] : List (den t)) l h = some r := hr
   unfold jq5 at hr'
   split at hr'
   ·rename_i hb
    obtain ⟨h0, h1, h2⟩ := hb
    cases hr'
    have hh : h = 0 := by simp at h2; omega
    have hl : l = 0 := by omega
    subst hh hl
    refine jjm S hd (runSl hT hx hlo hhi h0 h1 h2 (Nat.le_refl _)) ?_
    simp only [List.take_nil, List.drop_nil]
    exact Rd.nil t
   ·cases hr'
  ·exact .fail
 ·rename_i σ s heq
  rw [heq] at hev
  split
  ·rename_i t xs hrow
   split
   ·rename_i e u bytes l h hT hlo hhi
    split
    case isFalse => exact .fail
    rename_i htu
    subst htu
    refine Holds.optU fun r hr => ?_
    have hr' : jq5 xs l h = some r := hr
    unfold jq5 at hr'
    split at hr'
    ·rename_i hb
     obtain ⟨h0, h1, h2⟩ := hb
     cases hr'
     refine stepOk_us (us := [(σ, .froz s t xs)]) (frzU_upd hrow).symm ?_
     have hfz : Freezes st.sites [(σ, .froz s t xs)] := by
      intro τ site hm
      simp only [List.mem_singleton, Prod.mk.injEq] at hm
      obtain ⟨rfl, rfl⟩ := hm
      exact ⟨s, t, xs, rfl, jjY hrow⟩
     have F : Fz w0 fb X ι st tm w [(σ, .froz s t xs)] := ⟨S, hfz⟩
     have hlk := jq3 hfz (List.mem_singleton.2 rfl)
     obtain ⟨hrd, hhead⟩ := F.new.sites σ _ hlk
     have hv : Act.eval ⟨tm, []⟩ x = ι σ := by
      rcases jjY hrow with h1 | h1 <;> exact Ref.at hev.2 h1 rfl
     generalize hx : ι σ = v at hrd hhead
     rw [hx] at hv
     cases hrd with
     | nil =>
      have hh : h = 0 := by simp at h2; omega
      have hl : l = 0 := by omega
      subst hh hl
      refine jj1 (us := [(σ, .froz s t [])]) F.new hd (runSl hT hv hlo hhi h0 h1 h2 (Nat.le_refl _)) ?_
      simp only [List.take_nil, List.drop_nil]
      exact Rd.nil t
     | sl _ _ a cap cs m hm hcap hb hl hc hr =>
      subst hm
      refine jj1 (us := [(σ, .froz s t xs)]) F.new hd (runSl hT hv hlo hhi h0 h1 h2 hcap) ?_
      exact rd_part hb ⟨hl, hr⟩ hc l.toNat h.toNat cap (by omega) (by omega) hcap
    ·cases hr'
   ·exact .fail
  ·exact .fail
 ·exact .fail
end
section
variable {P : Program} {w0 : World} {fb : List Nat} {X : Nat → Prop} {ι : Nat → Value} {st : St} {tm : Array Value} {w : World} {o : Oper}
theorem own_val {av : Nat → Prop} {σ s : Nat} {t : Ty} {xs : List (den t)} {v : Value} (h : SVOk ι st.sites w av (lfv (.own σ s)) v) (hr : jxC st σ s = some ⟨t, xs⟩) : v = ι σ := by
 rcases jjY hr with h1 | h1 <;> exact Ref.at h.2 h1 rfl
theorem map_val (S : Sim w0 fb X ι st tm w) {l : Lf} {v : Value} {t : Ty} {es : List (Str × den t)} (h : LfOk ι st.sites w (jjh X ι st.sites) l v) (hm : mapOf st l = some ⟨t, es⟩) :
  (v = .map none ∧ es = []) ∨ ∃ b, v = .map (some b) ∧ MapAt w b t es := by
 unfold mapOf at hm
 split at hm
 ·cases hm
  have h : Rd w (jjh X ι st.sites) (.map t es) v := h
  cases h with
  | mapn => exact .inl ⟨rfl, rfl⟩
  | map _ _ b hb hm => exact .inr ⟨b, rfl, hm⟩
 ·rename_i σ s
  split at hm
  ·rename_i s' u es' hl
   cases hb : s'.beq s with
   | false => rw [hb] at hm; cases hm
   | true =>
    rw [hb] at hm
    have hs := Nat.eq_of_beq_eq_true hb
    subst hs
    cases hm
    have hl : jjB st.sites σ = some (.map s' _ es) := hl
    have hv : v = ι σ := Ref.at h.2 hl rfl
    obtain ⟨b, h1, h2⟩ := S.sites σ _ hl
    exact .inr ⟨b, hv.trans h1, h2⟩
  ·cases hm
 ·cases hm
theorem MapAt.size {b : Nat} {t : Ty} {es : List (Str × den t)} {arr : Array MapEntry} (h : jJa arr = mapEs t es) : arr.size = es.length := by
 have := congrArg List.length h
 simpa [jJa, mapEs] using this
theorem len_ok (S : Sim w0 fb X ι st tm w) {C : Ctx} (H : CtxOk P C) {T : TypeId} {x : Operand} (ho : o.op = .call { callee := .builtin .len, args := #[x], argTypes := #[T] }) (hd : jjJ st o.dst = true) :
  Holds (lenV (C.tt T) st (ev C st T x)) (jjA P w0 fb X st tm w o) := by
 have hev := jqe S C T x
 have hTo := H.tt T
 have run : ∀ {vv : Value}, (Builtin.len_ #[T] o.type #[Act.eval ⟨tm, []⟩ x]).run P w = .ok vv w → (execOp (Act.eval ⟨tm, []⟩) o).run P w = .ok (.value vv) w := by
  intro vv h
  unfold execOp
  simp only [ho, resolve, invoke, builtin, Sem.run_bind, Sem.run_pure, Result.andThen_ok, List.map_toArray, List.map_cons, List.map_nil, h]
 unfold lenV
 split
 ·rename_i s hT heq
  rw [heq] at hev
  rw [hT] at hTo
  obtain ⟨b, hx, hs⟩ := jqO hev
  refine Holds.ok (jjm S hd (run (vv := .int .i64 s.length) ?_) (.int _ _))
  have : s.length = b.size := by rw [← hs]; rfl
  simp [Builtin.len_, hx, run_underlying hTo.1, goInt, this]
 ·rename_i e t b u xs hT heq
  rw [heq] at hev
  rw [hT] at hTo
  have hev : Rd w (jjh X ι st.sites) (.sl u xs) (Act.eval ⟨tm, []⟩ x) := hev
  refine Holds.ok (jjm S hd (run (vv := .int .i64 xs.length) ?_) (.int _ _))
  generalize Act.eval ⟨tm, []⟩ x = v at hev
  cases hev with
  | nil => simp [Builtin.len_, run_underlying hTo.1.1, goInt]
  | sl _ _ a cap cs n hn hcap hb hl hc hr => simp [Builtin.len_, run_underlying hTo.1.1, goInt, hn]
 ·rename_i e t b u hT heq
  rw [heq] at hev
  rw [hT] at hTo
  have hx : Act.eval ⟨tm, []⟩ x = .slice none 0 0 := hev
  exact Holds.ok (jjm S hd (run (vv := .int .i64 0) (by simp [Builtin.len_, hx, run_underlying hTo.1.1, goInt])) (.int _ _))
 ·rename_i e t b σ s hT heq
  rw [heq] at hev
  rw [hT] at hTo
  split
  ·rename_i u xs hrow
   have hv := own_val hev hrow
   refine Holds.ok (jjm S hd (run (vv := .int .i64 xs.length) ?_) (.int _ _))
   obtain ⟨cs, _, hc⟩ := S.row hrow
   rcases hc with ⟨h1, h2⟩ | ⟨b', c, h1, _⟩
   ·subst h2; simp [Builtin.len_, hv, h1, run_underlying hTo.1.1, goInt]
   ·simp [Builtin.len_, hv, h1, run_underlying hTo.1.1, goInt]
  ·exact .fail
 ·rename_i kt et u l hT heq
  rw [heq] at hev
  rw [hT] at hTo
  split
  ·rename_i u' es hm
   refine Holds.ok (jjm S hd (run (vv := .int .i64 es.length) ?_) (.int _ _))
   rcases map_val S hev hm with ⟨h1, rfl⟩ | ⟨b, h1, arr, c, h2, h3⟩
   ·simp [Builtin.len_, h1, run_underlying hTo.1.1, goInt]
   ·have hsz := MapAt.size (b := b) h3
    simp [Builtin.len_, h1, run_underlying hTo.1.1, goInt, MapKept.run_getObj_map h2, hsz, Result.andThen]
  ·exact .fail
 ·exact .fail
theorem index_ok (S : Sim w0 fb X ι st tm w) {C : Ctx} (H : CtxOk P C) {T : TypeId} {x i : Operand} {s : Str} {k : IntKind} {n : Int} (ho : o.op = .index T x i) (hd : jjJ st o.dst = true) (hT : C.tt T = .str)
  (hx : ev C st T x = .av (.lf (.d (.str s)))) (hi : ev C st 0 i = .av (.lf (.d (.int k n)))) : Holds (.opt (ix s n) fun b => one (.int .u8 b.toNat)) (jjA P w0 fb X st tm w o) := by
 have hTo := H.tt T
 rw [hT] at hTo
 obtain ⟨b, hb, hs⟩ := ev_str S hx
 have hn := ev_int S hi
 refine Holds.opt fun y hy => ?_
 have hy' : ix s n = some y := hy
 unfold ix at hy'
 split at hy'
 ·rename_i h0
  refine jjm S hd (vv := .int .u8 y.toNat) ?_ (.int _ _)
  have hget : b[n.toNat]? = some y := by
   have : n.toNat < s.length := by
    rcases Nat.lt_or_ge n.toNat s.length with h | h
    ·exact h
    ·rw [List.getElem?_eq_none h] at hy'; cases hy'
   rw [← hs] at hy' this
   have hsz : n.toNat < b.size := this
   rw [getElem?_pos b n.toNat hsz]
   rw [List.getElem?_eq_getElem this] at hy'
   have h3 : b.data[n.toNat] = y := by simpa using hy'
   rw [← h3]; rfl
  unfold execOp
  simp [ho, hb, hn, Instr.index, asIntOf, run_underlying hTo.1, h0, hget]
 ·cases hy'
theorem bytes_beq (x y : ByteArray) : (x == y) = (x.data.toList == y.data.toList) := by
 obtain ⟨a⟩ := x
 obtain ⟨b⟩ := y
 have h : ((⟨a⟩ : ByteArray) == ⟨b⟩) = (a == b) := rfl
 rw [h, Bool.eq_iff_iff]
 simp
theorem fitZ_val : ∀ {z ls : List Lf} {vs : List Value}, fitZ z ls = true → LfsOk ι st.sites w (jjh X ι st.sites) ls vs → fitV z vs = true := by
 intro z
 induction z with
 | nil =>
  intro ls vs h h1
  cases ls with
  | nil => rw [h1.inv_nil]; rfl
  | cons l ls => cases h
 | cons c z ih =>
  intro ls vs h h1
  unfold fitZ at h
  split at h
  ·rename_i hz; cases hz
  ·rename_i heq
   cases heq
   obtain ⟨v, vs', rfl, a1, a2⟩ := h1.inv
   rw [jxa a1]; exact ih h a2
  ·rename_i heq
   cases heq
   obtain ⟨v, vs', rfl, a1, a2⟩ := h1.inv
   rw [jqI a1]; exact ih h a2
  ·rename_i heq
   cases heq
   obtain ⟨v, vs', rfl, a1, a2⟩ := h1.inv
   obtain ⟨x, rfl, hx⟩ := jqO a1; exact ih h a2
  ·cases h
theorem cellsEq_val : ∀ {ls ms : List Lf} {vs us : List Value} {b : Bool}, cellsEq ls ms = some b → LfsOk ι st.sites w (jjh X ι st.sites) ls vs → LfsOk ι st.sites w (jjh X ι st.sites) ms us → jqh vs us = some b := by
 have leaf : ∀ {d e : D} {v u : Value} {b : Bool} {av : Nat → Prop}, leafEq d e = some b → Rd w av d v → Rd w av e u → jx1 v u = some b := by
  intro d e v u b av h h1 h2
  unfold leafEq at h
  split at h
  ·rw [jxa h1, jxa h2]; exact h
  ·rw [jqI h1, jqI h2]; exact h
  ·obtain ⟨x, rfl, hx⟩ := jqO h1
   obtain ⟨y, rfl, hy⟩ := jqO h2
   subst hx hy
   cases h
   show some (x == y) = some (x.data.toList == y.data.toList)
   rw [bytes_beq]
  ·cases h
 intro ls
 induction ls with
 | nil => intro ms vs us b h _ _; cases ms <;> simp [cellsEq] at h
 | cons l ls ih =>
  intro ms vs us b h h1 h2
  obtain ⟨v, vs', rfl, a1, a2⟩ := h1.inv
  unfold cellsEq at h
  split at h
  ·rename_i d e heq
   cases heq
   obtain ⟨u, us', rfl, b1, b2⟩ := h2.inv
   rw [a2.inv_nil, b2.inv_nil]
   exact leaf h a1 b1
  ·rename_i d ds e es hne heq
   cases heq
   obtain ⟨u, us', rfl, b1, b2⟩ := h2.inv
   split at h
   ·rename_i x y hx hy
    cases h
    have e1 := leaf hx a1 b1
    have e2 := ih hy a2 b2
    match vs', us', e2 with
    | [], [], e2 => simp [jqh] at e2
    | [], _ :: _, e2 => simp [jqh] at e2
    | _ :: _, [], e2 => simp [jqh] at e2
    | v2 :: vs2, u2 :: us2, e2 => rw [jqh, e1, e2]; simp
   ·cases h
  ·cases h
theorem jz6 {T : TypeId} (h : P.underlying T = some .bool) (a b : Bool) : (Op.equal T (.bool a) (.bool b)).run P w = .ok (a == b) w := by
 have e : Op.maxDepth = 9999 + 1 := rfl
 unfold Op.equal
 rw [e]
 unfold Op.equalIn
 simp only [Sem.run_bind, run_underlying h, Result.andThen_ok, Sem.run_pure]
theorem run_eql_bool {T : TypeId} (h : P.underlying T = some .bool) (a b : Bool) : (binOp .eql T (.bool a) (.bool b)).run P w = .ok (.bool (a == b)) w := by
 show ((do pure (.bool (← Op.equal T (.bool a) (.bool b)))) : Sem Value).run P w = _
 simp only [Sem.run_bind, jz6 h, Result.andThen_ok, Sem.run_pure]
theorem run_neq_bool {T : TypeId} (h : P.underlying T = some .bool) (a b : Bool) : (binOp .neq T (.bool a) (.bool b)).run P w = .ok (.bool (!(a == b))) w := by
 show ((do pure (.bool (!(← Op.equal T (.bool a) (.bool b))))) : Sem Value).run P w = _
 simp only [Sem.run_bind, jz6 h, Result.andThen_ok, Sem.run_pure]
theorem binV_ok (S : Sim w0 fb X ι st tm w) {C : Ctx} (H : CtxOk P C) {op : BinOp} {T yT : TypeId} {x y : Operand} (ho : o.op = .binOp op T x y yT) (hd : jjJ st o.dst = true) :
  Holds (binV op (C.tt T) (ev C st T x) (ev C st T y)) (jjA P w0 fb X st tm w o) := by
 have hx := jqe S C T x
 have hy := jqe S C T y
 have hTo := H.tt T
 have run : ∀ {vv : Value}, (eqGuard op T x y (Act.eval ⟨tm, []⟩ x) (Act.eval ⟨tm, []⟩ y)).run P w = .ok () w → (binOp op T (Act.eval ⟨tm, []⟩ x) (Act.eval ⟨tm, []⟩ y)).run P w = .ok vv w →
   (execOp (Act.eval ⟨tm, []⟩) o).run P w = .ok (.value vv) w := by
  intro vv h1 h2
  unfold execOp
  simp only [ho, Sem.run_bind, h1, h2, Result.andThen_ok, Sem.run_pure]
 have plain : ∀ {r : StepR}, (eqGuard op T x y (Act.eval ⟨tm, []⟩ x) (Act.eval ⟨tm, []⟩ y)).run P w = .ok () w → Holds r (Plain P w (binOp op T (Act.eval ⟨tm, []⟩ x) (Act.eval ⟨tm, []⟩ y))) → Holds r (jjA P w0 fb X st tm w o) := by
  intro r h1 h2 z hz hc
  obtain ⟨vv, d, g1, g2, g3, g4⟩ := h2 z hz hc
  rw [g2, g3]
  exact jjm S hd (run h1 g1) (g4 _)
 unfold binV
 split
 ·rename_i k a k' b hxe hye
  rw [hxe] at hx; rw [hye] at hy
  refine plain (by rw [jxa hx, jxa hy]; exact run_eqGuard_int _ _ _ _ _ _ _ _) ?_
  rw [jxa hx, jxa hy]
  unfold intOp2
  split
  ·refine Holds.opt fun n hn => ?_
   have hn' : shlI k a b = some n := hn
   unfold shlI at hn'
   split at hn'
   ·cases hn'
   ·rename_i hb
    cases hn'
    exact .mk (by simp [binOp, Op.shift, hb]) fun av => .int _ _
  ·refine Holds.opt fun n hn => ?_
   have hn' : shrI k a b = some n := hn
   unfold shrI at hn'
   split at hn'
   ·cases hn'
   ·rename_i hb
    cases hn'
    exact .mk (by simp [binOp, Op.shift, hb]) fun av => .int _ _
  ·rename_i h1 h2
   split
   ·rename_i hk
    subst hk
    exact run_intOp _ T k a b h1 h2
   ·exact .fail
 ·rename_i s t hxe hye
  rw [hxe] at hx; rw [hye] at hy
  obtain ⟨a, ha, hs⟩ := jqO hx
  obtain ⟨b, hb, ht⟩ := jqO hy
  subst hs ht
  refine plain (by rw [ha, hb]; exact run_eqGuard_string _ _ _ _ _ _) ?_
  rw [ha, hb]
  exact run_strOp op T a b
 ·rename_i a b hxe hye
  rw [hxe] at hx; rw [hye] at hy
  unfold boolOp
  split
  ·rename_i hT
   rw [hT] at hTo
   split
   ·refine plain (by rw [jqI hx, jqI hy]; exact jzb _ _ _ _ _ _) (Holds.ok ?_)
    rw [jqI hx, jqI hy]
    exact .mk (run_eql_bool hTo.1 _ _) fun av => .bool _
   ·refine plain (by rw [jqI hx, jqI hy]; exact jzb _ _ _ _ _ _) (Holds.ok ?_)
    rw [jqI hx, jqI hy]
    exact .mk (run_neq_bool hTo.1 _ _) fun av => .bool _
   ·exact .fail
  ·exact .fail
 ·rename_i xs ys hxe hye
  rw [hxe] at hx; rw [hye] at hy
  unfold aggOp
  split
  ·rename_i fs n z hT
   rw [hT] at hTo
   cases hl : xs.length.beq n && fitZ z xs with
   | false => exact .fail
   | true =>
    simp only [cond_true]
    simp only [Bool.and_eq_true] at hl
    have hl' := Nat.eq_of_beq_eq_true hl.1
    split
    ·rename_i b hb
     obtain ⟨vs, hv, hv1, hv2⟩ := hx
     obtain ⟨us, hu, hu1, hu2⟩ := hy
     have hce := cellsEq_val hb ⟨hv1, hv2⟩ ⟨hu1, hu2⟩
     obtain ⟨fields, hund, _, ⟨zv, hz, _, _⟩, heq⟩ := hTo
     obtain ⟨hg, hlaw⟩ := heq rfl
     have := hlaw vs us b w hce (fitZ_val hl.2 ⟨hv1, hv2⟩)
     split
     ·refine plain ?_ (Holds.ok ?_)
      ·rw [hv, hu]; simp [eqGuard, hg]
      ·rw [hv, hu]
       refine .mk (vv := .bool b) ?_ fun av => .bool _
       show ((do pure (.bool (← Op.equal T (.agg vs.toArray) (.agg us.toArray)))) : Sem Value).run P w = _
       simp only [Sem.run_bind, this, Result.andThen_ok, Sem.run_pure]
     ·refine plain ?_ (Holds.ok ?_)
      ·rw [hv, hu]; simp [eqGuard, hg]
      ·rw [hv, hu]
       refine .mk (vv := .bool (!b)) ?_ fun av => .bool _
       show ((do pure (.bool (!(← Op.equal T (.agg vs.toArray) (.agg us.toArray))))) : Sem Value).run P w = _
       simp only [Sem.run_bind, this, Result.andThen_ok, Sem.run_pure]
     ·exact .fail
    ·exact .fail
  ·exact .fail
 ·exact .fail
end
section
variable {P : Program} {w0 : World} {fb : List Nat} {X : Nat → Prop} {ι : Nat → Value} {st : St} {tm : Array Value} {w : World} {o : Oper}
theorem flat_u8 (xs : List Int) : jjM .u8 xs = xs.map (D.int .u8) := by
 unfold jjM
 induction xs with
 | nil => rfl
 | cons x xs ih => simp only [List.flatMap_cons, List.map_cons, ih]; rfl
theorem rds_u8 {w : World} {av : Nat → Prop} {xs : List Int} {cs : List Value} (h : RdsOk w av (jjM .u8 xs) cs) : cs = xs.map (Value.int .u8) := by
 obtain ⟨h1, h2⟩ := h
 rw [flat_u8] at h1
 apply List.ext_getElem
 ·rw [h1]; simp
 ·intro j g1 g2
  have g3 : j < xs.length := by simpa using g2
  have := h2 j (by rw [flat_u8]; simpa using g3) g1
  have e : (jjM .u8 xs)[j]'(by rw [flat_u8]; simpa using g3) = D.int .u8 xs[j] := by simp [flat_u8]
  rw [e] at this
  rw [jxa this]; simp
theorem run_bytes_of {src dst e : TypeId} {a : Addr} {len cap : Nat} {xs : List Int} (hs : P.underlying src = some (.slice e)) (he : P.underlying e = some (.int .u8)) (hd : P.underlying dst = some .string)
  (hlen : xs.length = len) (hc : ∀ j u, (xs.map (Value.int .u8))[j]? = some u → w.cell? (a.add j) = some u) :
  ∃ b : ByteArray, (convert src dst (.slice (some a) len cap)).run P w = .ok (.string b) w ∧ b.data.toList = jqF xs := by
 have hl : (loadCells a len).run P w = .ok (xs.map (Value.int .u8)).toArray w := by
  have := run_loadCells_list (P := P) w a (xs.map (Value.int .u8)) hc
  simpa [hlen] using this
 rw [run_convert_bytes_string w src dst e _ len cap hs he hd, run_bytesToString w a len cap xs hl, foldl_push_bytes]
 exact ⟨_, rfl, by simp [jqF]⟩
theorem jzY {ti : TI} (h : jz9 ti = true) : ti = .int .u8 := by
 unfold jz9 at h; split at h
 ·rfl
 ·cases h
theorem bytes_len (s : Str) : (jjo s).length = s.length := by simp [jjo]
theorem convV_ok (S : Sim w0 fb X ι st tm w) {C : Ctx} (H : CtxOk P C) {src dst : TypeId} {x : Operand} {σ : Nat} (ho : o.op = .convert src dst x) (hdst : o.dst = some σ) (hd : jjJ st o.dst = true) :
  Holds (convV C src dst σ st (ev C st src x)) (jjA P w0 fb X st tm w o) := by
 have hev := jqe S C src x
 have hs := H.tt src
 have ht := H.tt dst
 have run : ∀ {vv : Value} {w' : World}, (convert src dst (Act.eval ⟨tm, []⟩ x)).run P w = .ok vv w' → (execOp (Act.eval ⟨tm, []⟩) o).run P w = .ok (.value vv) w' := by
  intro vv w' h
  unfold execOp
  simp only [ho, Sem.run_bind, h, Result.andThen_ok, Sem.run_pure]
 have und : ∀ {ti : TI}, ti.ok P src → ti ≠ .none → ∃ d, P.underlying src = some d := by
  intro ti h hn
  cases ti with
  | none => exact absurd rfl hn
  | int k => exact ⟨_, h.1⟩
  | bool => exact ⟨_, h.1⟩
  | str => exact ⟨_, h.1⟩
  | ptr => obtain ⟨_, h⟩ := h; exact ⟨_, h.1⟩
  | func => obtain ⟨_, _, _, h⟩ := h; exact ⟨_, h.1⟩
  | slice e t b => exact ⟨_, h.1.1⟩
  | map k e t => exact ⟨_, h.1.1⟩
  | struct fs n z eq => obtain ⟨f, h, _⟩ := h; exact ⟨_, h⟩
  | arr e t n => exact ⟨_, h.1⟩
 unfold convV
 split
 ·exact .fail
 ·rename_i k k' n hk hx hn
  rw [hx] at hev
  rw [hk] at ht
  obtain ⟨d, hd'⟩ := und hs (by rintro h; exact absurd h (by simpa using hn))
  refine Holds.ok (jjm S hd (run (vv := .int k (k.wrap n)) ?_) (.int _ _))
  rw [jxa hev]
  simp [convert, run_underlying hd', run_underlying ht.1, Conv.intToInt]
 ·rename_i s hk hx hn
  rw [hx] at hev
  rw [hk] at ht
  obtain ⟨b, hb, hbs⟩ := jqO hev
  obtain ⟨d, hd'⟩ := und hs (by rintro h; exact absurd h (by simpa using hn))
  refine Holds.ok (jjm S hd (run (vv := .string b) ?_) (.str _ _ hbs))
  rw [hb]
  simp [convert, run_underlying hd', run_underlying ht.1]
 ·rename_i e b xs hsrc hdst' hx
  cases hby : jz9 (C.tt e) with
  | false => exact .fail
  | true =>
   rw [hx] at hev
   rw [hdst'] at ht
   rw [hsrc] at hs
   have he := H.tt e
   rw [jzY hby] at he
   have hev : Rd w (jjh X ι st.sites) (.sl .u8 xs) (Act.eval ⟨tm, []⟩ x) := hev
   have : ∃ b : ByteArray, (convert src dst (Act.eval ⟨tm, []⟩ x)).run P w = .ok (.string b) w ∧ b.data.toList = jqF xs := by
    generalize Act.eval ⟨tm, []⟩ x = v at hev
    cases hev with
    | nil => exact ⟨_, run_convert_bytes_nil w src e hs.1.1 he.1 _ _ dst ht.1, rfl⟩
    | sl _ _ a cap cs n hn hcap hb hl hc hr =>
     have := rds_u8 (xs := xs) ⟨hl, hr⟩
     subst this
     exact run_bytes_of hs.1.1 he.1 ht.1 hn.symm hc
   obtain ⟨b, h1, h2⟩ := this
   exact Holds.ok (jjm S hd (run h1) (.str _ _ h2))
 ·rename_i e b u hsrc hdst' hx
  cases hby : jz9 (C.tt e) with
  | false => exact .fail
  | true =>
   rw [hx] at hev
   rw [hdst'] at ht
   rw [hsrc] at hs
   have he := H.tt e
   rw [jzY hby] at he
   have hev : Act.eval ⟨tm, []⟩ x = .slice none 0 0 := hev
   refine Holds.ok (jjm S hd (run (vv := .string ByteArray.empty) ?_) (.str _ _ rfl))
   rw [hev]
   exact run_convert_bytes_nil w src e hs.1.1 he.1 _ _ dst ht.1
 ·rename_i e b τ s hsrc hdst' hx
  split
  ·rename_i xs hrow
   cases hby : jz9 (C.tt e) with
   | false => exact .fail
   | true =>
    rw [hx] at hev
    rw [hdst'] at ht
    rw [hsrc] at hs
    have he := H.tt e
    rw [jzY hby] at he
    have hv := own_val hev hrow
    have : ∃ b : ByteArray, (convert src dst (Act.eval ⟨tm, []⟩ x)).run P w = .ok (.string b) w ∧ b.data.toList = jqF xs := by
     rw [hv]
     obtain ⟨cs, h1, hc⟩ := S.row hrow
     rcases hc with ⟨h2, h3⟩ | ⟨b', c, h2, h3, h4⟩
     ·subst h3
      rw [h2]
      exact ⟨_, run_convert_bytes_nil w src e hs.1.1 he.1 _ _ dst ht.1, rfl⟩
     ·have := rds_u8 (xs := xs) (jqy h1)
      subst this
      rw [h2]
      exact run_bytes_of hs.1.1 he.1 ht.1 rfl (fun j u hu => by rw [jqD]; exact h3 j u hu)
    obtain ⟨b, h1, h2⟩ := this
    exact Holds.ok (jjm S hd (run h1) (.str _ _ h2))
  ·exact .fail
 ·rename_i e b s hsrc hdst' hx
  cases hby : jz9 (C.tt e) with
  | false => exact .fail
  | true =>
   rw [hx] at hev
   rw [hdst'] at ht
   rw [hsrc] at hs
   have he := H.tt e
   rw [jzY hby] at he
   obtain ⟨ba, hb, hbs⟩ := jqO hev
   have hrun : (convert src dst (Act.eval ⟨tm, []⟩ x)).run P w = .ok (.slice (some ⟨w.heap.size, 0, none⟩) ba.size (grownCap w ba.size 0 e)) (Go.Lib.bytesWorld w e ba) := by
    rw [hb]; exact Go.Lib.run_convert_string_bytes w src dst e ba hs.1 ht.1.1 he.1
   have hcap : ba.size ≤ grownCap w ba.size 0 e := grownCap_ge w ba.size 0 e
   refine Holds.optU fun r hr => ?_
   have hmax : ba.size ≤ maxLen := by
    have hr : (if s.length ≤ maxLen then some () else none) = some r := hr
    split at hr
    ·rename_i h; rw [← hbs] at h; simpa using h
    ·cases hr
   have hsz : (Go.Lib.bytesCells w e ba).size = grownCap w ba.size 0 e := by
    simp only [Go.Lib.bytesCells, Array.size_append, Array.size_map, Array.size_replicate]
    have : ba.data.size = ba.size := rfl
    omega
   have hlen : ba.size = (jjo s).length := by rw [bytes_len, ← hbs]; rfl
   have hS : Sim w0 fb X (fun τ => if τ = σ then .slice (some ⟨w.heap.size, 0, none⟩) ba.size (grownCap w ba.size 0 e) else ι τ) { st with sites := upd st.sites σ (.row (jjd st σ) .u8 (jjo s)) } tm (Go.Lib.bytesWorld w e ba) := by
    refine S.make (fun b hb => Go.Lib.bytesWorld_at_old w e ba b hb) rfl rfl rfl (by rw [Go.Lib.bytesWorld_size]; omega) (fun site hs => jj6 hs)
     (fun b hb => by cases hb; exact ⟨Nat.le_refl _, by rw [Go.Lib.bytesWorld_size]; exact Nat.lt_succ_self _⟩) ?_
    intro sites' ι' hs' hι' go hfresh hdead
    refine ⟨e, ba.data.toList.map fun b => Value.int .u8 b.toNat, ⟨?_, .inr ⟨_, _, Go.Lib.bytesCells w e ba, _, hι'.trans (by rw [hlen]), ⟨(fun h => by obtain ⟨_, z, _, _, hU⟩ := ht; exact hU h), .inr ⟨rfl, Nat.le_refl _⟩⟩, Go.Lib.bytesWorld_at_new w e ba, by rw [← hlen]; exact hcap, grownCap_le_maxLen w ba.size 0 e hmax, ?_, ?_⟩⟩, fun j g1 g2 => ?_⟩
    ·rw [List.length_map, ← hlen]; exact (Nat.mul_one _).symm
    ·rw [hsz]; exact (Nat.mul_one _).symm
    ·have h1 : (jjo s).length * esz .u8 = (ba.data.toList.map fun b => Value.int .u8 b.toNat).length := by rw [List.length_map, ← hlen]; exact Nat.mul_one _
     rw [h1]
     simp only [Go.Lib.bytesCells, Array.toList_append, Array.toList_map]
     exact List.take_left
    ·subst hbs
     simp only [flat_u8, jjo, List.getElem_map]
     exact .int _ _
   refine jj1 (us := [(σ, .row (jjd st σ) .u8 (jjo s))]) hS hd (run hrun) ?_
   refine ⟨rfl, Ref.mk (site := .row (jjd st σ) .u8 (jjo s)) ?_ rfl (by simp)⟩
   simp only [jjN, jjl]; simp
 ·exact .fail
end
section
variable {P : Program} {w0 : World} {fb : List Nat} {X : Nat → Prop} {ι : Nat → Value} {st : St} {tm : Array Value} {w : World} {o : Oper}
theorem move_ok (S : Sim w0 fb X ι st tm w) {C : Ctx} {x : Operand} (ho : o.op = .move x ∨ o.op = .assign x) (hd : jjJ st o.dst = true) (T : TypeId) : jjA P w0 fb X st tm w o (ev C st T x) [] := by
 refine jjm S hd (vv := Act.eval ⟨tm, []⟩ x) ?_ (jqe S C T x)
 unfold execOp
 rcases ho with h | h <;> simp only [h, Sem.run_pure]
theorem pick_ok (S : Sim w0 fb X ι st tm w) {C : Ctx} {c a b : Operand} {t : Bool} {T : TypeId} (ho : o.op = .pick c a b) (hd : jjJ st o.dst = true) (hc : ev C st T c = .av (.lf (.d (.bool t)))) :
  jjA P w0 fb X st tm w o (ev C st T (if t then a else b)) [] := by
 refine jjm S hd (vv := Act.eval ⟨tm, []⟩ (if t then a else b)) ?_ (jqe S C T _)
 unfold execOp
 have := ev_bool S hc
 cases t <;> simp [ho, this, asBool]
theorem unOp_not_ok (S : Sim w0 fb X ι st tm w) {C : Ctx} {x : Operand} {t : Bool} {T U : TypeId} (ho : o.op = .unOp .not U x) (hd : jjJ st o.dst = true) (hc : ev C st T x = .av (.lf (.d (.bool t)))) :
  jjA P w0 fb X st tm w o (one (.bool (!t))) [] := by
 refine jjm S hd (vv := .bool (!t)) ?_ (.bool _)
 unfold execOp
 simp [ho, ev_bool S hc, Op.unary]
theorem unOp_neg_ok (S : Sim w0 fb X ι st tm w) {C : Ctx} {x : Operand} {k : IntKind} {n : Int} {T U : TypeId} (ho : o.op = .unOp .neg U x) (hd : jjJ st o.dst = true) (hc : ev C st T x = .av (.lf (.d (.int k n)))) :
  jjA P w0 fb X st tm w o (one (.int k (k.wrap (0 - n)))) [] := by
 refine jjm S hd (vv := .int k (k.wrap (0 - n))) ?_ (.int _ _)
 unfold execOp
 simp [ho, ev_int S hc, Op.unary, Op.intArith]
theorem jJh (S : Sim w0 fb X ι st tm w) {C : Ctx} {x : Operand} {v : SV} {T : TypeId} (ho : o.op = .nilCheck x) (hd : jjJ st o.dst = true) (hc : ev C st T x = v)
  (hv : ∀ vv, SVOk ι st.sites w (jjh X ι st.sites) v vv → ∃ a, vv = .pointer (some a)) : jjA P w0 fb X st tm w o v [] := by
 have := jqe S C T x
 rw [hc] at this
 obtain ⟨a, ha⟩ := hv _ this
 refine jjm S hd (vv := Act.eval ⟨tm, []⟩ x) ?_ this
 unfold execOp
 simp [ho, ha]
theorem extract_ok (S : Sim w0 fb X ι st tm w) {C : Ctx} {x : Operand} {i : Nat} {as : List AV} {a : AV} {T : TypeId} (ho : o.op = .extract x i) (hd : jjJ st o.dst = true) (hc : ev C st T x = .tup as) (ha : as[i]? = some a) :
  jjA P w0 fb X st tm w o (.av a) [] := by
 have hev := jqe S C T x
 rw [hc] at hev
 obtain ⟨vs, h1, h2, h3⟩ := hev
 obtain ⟨hi, hia⟩ := List.getElem?_eq_some_iff.1 ha
 have hi' : i < vs.length := by omega
 refine jjm S hd (vv := vs[i]) ?_ (by rw [← hia]; exact h3 i hi hi')
 unfold execOp
 simp [ho, h1, Instr.extract, hi']
theorem maxmin_ok (S : Sim w0 fb X ι st tm w) {C : Ctx} {x y : Operand} {k k' : IntKind} {a b : Int} {T : TypeId} {isMax : Bool} {Ts : Array TypeId} (ho : o.op = .call { callee := .builtin (if isMax then .max else .min), args := #[x, y], argTypes := Ts }) (hd : jjJ st o.dst = true)
  (hx : ev C st T x = .av (.lf (.d (.int k a)))) (hy : ev C st T y = .av (.lf (.d (.int k' b)))) : jjA P w0 fb X st tm w o (one (.int k (if isMax then maxI a b else minI a b))) [] := by
 refine jjm S hd (vv := .int k (if isMax then maxI a b else minI a b)) ?_ (.int _ _)
 unfold execOp
 cases isMax <;> simp [ho, resolve, invoke, builtin, ev_int S hx, ev_int S hy, Builtin.max_, Builtin.min_, Builtin.max2, Builtin.min2, maxI, minI]
theorem cloOf_ok (S : Sim w0 fb X ι st tm w) {C : Ctx} : ∀ {xs : List Operand} {caps : List (Nat × Nat)}, step.cloOf C st xs = some caps → xs.length = caps.length ∧
  ∀ i (h : i < caps.length) (h' : i < xs.length), Ref st.sites (caps[i]).1 (caps[i]).2 (Act.eval ⟨tm, []⟩ (xs[i]) = ι (caps[i]).1) := by
 intro xs
 induction xs with
 | nil => intro caps h; simp only [step.cloOf] at h; cases h; exact ⟨rfl, fun i h => by simp at h⟩
 | cons x xs ih =>
  intro caps h
  simp only [step.cloOf] at h
  split at h
  ·rename_i σ s l hx hl
   cases h
   obtain ⟨h1, h2⟩ := ih hl
   refine ⟨by simp [h1], fun i g1 g2 => ?_⟩
   cases i with
   | zero =>
    have := jqe S C 0 x
    rw [hx] at this
    obtain ⟨b, hb, site, r1, r2, r3⟩ := this
    exact ⟨site, r1, r2, fun e => by simp only [List.getElem_cons_zero]; rw [hb, r3 e]⟩
   | succ i => simpa using h2 i (by simpa using g1) (by simpa using g2)
  ·cases h
theorem makeFunc_ok (S : Sim w0 fb X ι st tm w) {C : Ctx} {g : FuncId} {first captured : Array Operand} {caps : List (Nat × Nat)} (ho : o.op = .makeFunc (.func g) first captured) (hd : jjJ st o.dst = true) (hf : first.toList.isEmpty = true)
  (hc : step.cloOf C st captured.toList = some caps) : jjA P w0 fb X st tm w o (lfv (.clo g caps)) [] := by
 obtain ⟨h1, h2⟩ := cloOf_ok S hc
 refine jjm S hd (vv := .func (.func g) #[] (captured.toList.map (Act.eval ⟨tm, []⟩)).toArray) ?_ ⟨captured.toList.map (Act.eval ⟨tm, []⟩), rfl, by simpa using h1, fun i g1 g2 => ?_⟩
 ·have : first = #[] := by simpa using hf
  unfold execOp
  simp only [ho, Instr.makeFunc, Sem.run_bind, Sem.run_pure, Result.andThen_ok, this]
  simp
  apply Array.ext'; simp
 ·have := h2 i g1 (by simpa using g2)
  simpa using this
theorem buildV_ok (S : Sim w0 fb X ι st tm w) {C : Ctx} {fs : List (Nat × Nat)} : ∀ (parts : List (Nat × Operand)) (z : List Lf) (cells : Array Value), LfsOk ι st.sites w (jjh X ι st.sites) z cells.toList →
  Holds (step.buildV C st fs z parts) (fun v us => us = [] ∧ ∃ cells', Instr.fill (fs.toArray[·]?) cells (parts.map fun p => (p.1, Act.eval ⟨tm, []⟩ p.2)) = some cells' ∧ SVOk ι st.sites w (jjh X ι st.sites) v (.agg cells')) := by
 intro parts
 induction parts with
 | nil => intro z cells h; exact Holds.ok ⟨rfl, cells, rfl, cells.toList, by simp, h.1, h.2⟩
 | cons p parts ih =>
  obtain ⟨i, x⟩ := p
  intro z cells h
  simp only [step.buildV]
  split
  ·rename_i off n a hf ha
   cases hb : (a.cells.length.beq n && jjz a.cells && Nat.ble (off + n) z.length) with
   | false => exact .fail
   | true =>
    simp only [cond_true]
    simp only [Bool.and_eq_true] at hb
    obtain ⟨⟨b1, b2⟩, b3⟩ := hb
    have b1 := Nat.eq_of_beq_eq_true b1
    have b3 := Nat.le_of_ble_eq_true b3
    have hev := jqe S C 0 x
    rw [jxt ha] at hev
    have hcells := AVOk.cells (hev : AVOk ι st.sites w _ a _) b2
    have hsz : (Act.eval ⟨tm, []⟩ x).cells.size = n := by rw [← b1, ← hcells.1]; simp
    have hle : off + (Act.eval ⟨tm, []⟩ x).cells.size ≤ cells.size := by
     have := h.1
     simp at this
     omega
    have := ih (Jk.splice z off a.cells) (Jk.splice cells.toList off (Act.eval ⟨tm, []⟩ x).cells.toList).toArray (by simpa using LfsOk.splice off h hcells)
    intro y hy hc
    obtain ⟨g1, cells', g2, g3⟩ := this y hy hc
    refine ⟨g1, cells', ?_, g3⟩
    simp only [List.map_cons, Instr.fill]
    have hf' : fs.toArray[i]? = some (off, n) := by simpa using hf
    simp only [hf']
    have c1 : ¬ ((Act.eval ⟨tm, []⟩ x).cells.size ≠ n ∨ off + (Act.eval ⟨tm, []⟩ x).cells.size > cells.size) := by omega
    have c2 : (decide ((Act.eval ⟨tm, []⟩ x).cells.size ≠ n) || decide (off + (Act.eval ⟨tm, []⟩ x).cells.size > cells.size)) = false := by
     simp; omega
    have hle' : off + n ≤ cells.size := by omega
    rw [foldl_cells _ _ _ hle]
    simp only [Bool.decide_or, hsz] at *
    simpa [c2, hle'] using g2
  ·exact .fail
theorem build_ok (S : Sim w0 fb X ι st tm w) {C : Ctx} (H : CtxOk P C) {T : TypeId} {parts : Array (Nat × Operand)} {fs : List (Nat × Nat)} {n : Nat} {z : List Lf} {eq : Bool} (hT : C.tt T = .struct fs n z eq) (ho : o.op = .build T parts)
  (hd : jjJ st o.dst = true) : Holds (step.buildV C st fs z parts.toList) (jjA P w0 fb X st tm w o) := by
 have hTo := H.tt T
 rw [hT] at hTo
 obtain ⟨fields, hund, ⟨hf, _⟩, ⟨zv, hz, hzz, hzl⟩, _⟩ := hTo
 obtain ⟨k1, k2, k3⟩ := jxj hzz
 intro y hy hc
 obtain ⟨g1, cells', g2, g3⟩ := buildV_ok S parts.toList z zv ⟨k1, fun j h h' => k3 _ _ _ _ j h h'⟩ y hy hc
 rw [g1]
 refine jjm S hd (vv := .agg cells') ?_ g3
 cases hi : P.info? T with
 | none => simp [hi] at hz
 | some it =>
  simp only [hi, Option.map_some, Option.some.injEq, Prod.mk.injEq] at hz
  have hb : P.built T (parts.toList.map fun p => (p.1, Act.eval ⟨tm, []⟩ p.2)) = some cells' := by
   unfold Program.built
   simp only [hi, hund, hz.2, hf]
   exact g2
  have hb' : P.built T (parts.map fun p => (p.1, Act.eval ⟨tm, []⟩ p.2)).toList = some cells' := by simpa using hb
  unfold execOp
  simp only [ho, Sem.run_bind, run_build w T _ cells' hb', Result.andThen_ok, Sem.run_pure]
end
def jz4 (w : World) (b : Nat) (o : Obj) : World := { w with heap := w.heap.setIfInBounds b o }
theorem strV_of {b : ByteArray} {l : Str} (h : b.data.toList = l) : Value.string b = strV l := by
 subst h; rfl
def mapAt {α : Type} : List (Str × α) → Str → Nat → Option (Nat × α)
 | [], _, _ => none
 | (k, v) :: r, n, i => bif k == n then some (i, v) else mapAt r n (i + 1)
theorem mapAt_get {α : Type} (n : Str) : ∀ (es : List (Str × α)) (i : Nat), (mapAt es n i).map (·.2) = jxJ es n := by
 intro es
 induction es with
 | nil => intro i; rfl
 | cons p es ih =>
  intro i
  simp only [mapAt, jxJ]
  cases p.1 == n with
  | true => rfl
  | false => exact ih (i + 1)
theorem mapPut_none {α : Type} (n : Str) (v : α) : ∀ (es : List (Str × α)) (i : Nat), mapAt es n i = none → mapPut es n v = es ++ [(n, v)] := by
 intro es
 induction es with
 | nil => intro i _; rfl
 | cons p es ih =>
  intro i h
  simp only [mapAt] at h
  simp only [mapPut]
  cases hp : (p.1 == n) with
  | true => rw [hp] at h; cases h
  | false => rw [hp] at h; simp only [cond_false, ih (i + 1) h, List.cons_append]
theorem mapAt_some {α : Type} (n : Str) (v : α) : ∀ (es : List (Str × α)) (i j : Nat) (v0 : α), mapAt es n i = some (j, v0) → i ≤ j ∧ (∃ p, es[j - i]? = some p ∧ p.1 = n) ∧ mapPut es n v = es.modify (j - i) fun p => (p.1, v) := by
 intro es
 induction es with
 | nil => intro i j v0 h; cases h
 | cons p es ih =>
  intro i j v0 h
  simp only [mapAt] at h
  simp only [mapPut]
  cases hp : (p.1 == n) with
  | true =>
   rw [hp] at h
   cases h
   refine ⟨Nat.le_refl _, ⟨p, by simp, eq_of_beq hp⟩, ?_⟩
   simp
  | false =>
   rw [hp] at h
   obtain ⟨h1, ⟨q, h2, h3⟩, h4⟩ := ih (i + 1) j v0 h
   have e : j - i = (j - (i + 1)) + 1 := by omega
   refine ⟨by omega, ⟨q, by rw [e]; simpa using h2, h3⟩, ?_⟩
   rw [e, cond_false, h4, List.modify_succ_cons]
theorem findNow_get {t : Ty} (n : Str) : ∀ (es : List (Str × den t)) (ms : List MapEntry) (i : Nat), ms.map (fun e => (e.key, e.val)) = mapEs t es →
  Instr.findNow .string (strV n) ms i = some ((mapAt es n i).map fun p => (p.1, mv t p.2))
 | [], ms, i, h => by
  have : ms = [] := by simpa [mapEs] using h
  subst this; rfl
 | (k, v) :: es, [], i, h => by simp [mapEs] at h
 | (k, v) :: es, m :: ms, i, h => by
  simp only [mapEs, List.map_cons, List.cons.injEq, Prod.mk.injEq] at h
  obtain ⟨⟨h1, h2⟩, h3⟩ := h
  have ih := findNow_get n es ms (i + 1) h3
  have hs : Instr.sameNow .string (strV n) m.key = some (k == n) := by
   rw [h1]
   show some ((⟨n.toArray⟩ : ByteArray) == ⟨k.toArray⟩) = _
   rw [bytes_beq]
   congr 1
   rw [Bool.eq_iff_iff]
   simp only [beq_iff_eq]
   exact eq_comm
  unfold Instr.findNow mapAt
  rw [hs]
  cases k == n with
  | true => simp only [cond_true, Option.map_some, h2]
  | false => simp only [cond_false]; exact ih
section
variable {P : Program} {w : World} {kt et T : TypeId} {t : Ty}
theorem run_check' {kt : TypeId} (hk : P.underlying kt = some .string) (c : Bool) (s : Str) (n : Nat) : (Instr.checkKey c (n + 1) kt (strV s)).run P w = .ok () w := by
 simp [Instr.checkKey, run_underlying hk, strV, Result.andThen]
theorem jzt {kt : TypeId} (hk : P.underlying kt = some .string) (c : Bool) (s : Str) : (Instr.checkKey c 10000 kt (strV s)).run P w = .ok () w := run_check' hk c s 9999
theorem run_find {kt : TypeId} (hk : P.underlying kt = some .string) {es : List (Str × den t)} {arr : Array MapEntry} (h : jJa arr = mapEs t es) (n : Str) :
  (Instr.findKey kt (strV n) arr.toList).run P w = .ok ((mapAt es n 0).map fun p => (p.1, mv t p.2)) w := by
 simp [Instr.findKey, run_underlying hk, findNow_get n es arr.toList 0 h, Result.andThen]
theorem run_stays (s : Str) : (Instr.keyThatStays (strV s) (strV s)).run P w = .ok (strV s) w := by
 have : Instr.sameBits 10000 (strV s) (strV s) = true := by
  show ((⟨s.toArray⟩ : ByteArray) == ⟨s.toArray⟩) = true
  rw [bytes_beq]; simp
 simp [Instr.keyThatStays, this]
theorem mv_of {t : Ty} {d : D} {x : den t} {v : Value} {av : Nat → Prop} (h : valD t d = some x) (hr : Rd w av d v) : v = mv t x := by
 unfold valD at h
 split at h
 ·cases h; cases hr; rfl
 ·cases h; cases hr; rfl
 ·cases h
theorem run_update (hT : P.underlying T = some (.map kt et)) (hk : P.underlying kt = some .string) {b : Nat} {arr : Array MapEntry} {clock : Nat} {es : List (Str × den t)} (hb : w.heap[b]? = some (.map arr clock)) (he : jJa arr = mapEs t es) (n : Str) (x : den t) :
  ∃ arr' clock', (Instr.mapUpdate T (.map (some b)) (strV n) (mv t x)).run P w = .ok () (jz4 w b (.map arr' clock')) ∧ jJa arr' = mapEs t (mapPut es n x) := by
 cases hm : mapAt es n 0 with
 | none =>
  refine ⟨arr.push ⟨strV n, mv t x, clock⟩, clock + 1, ?_, ?_⟩
  ·have hf := run_find (w := w) hk he n
   rw [hm] at hf
   simp [Instr.mapUpdate, run_underlying hT, MapKept.run_getObj_map hb, jzt hk, hf, MapKept.run_setObj_map _ hb, Result.andThen, jz4]
  ·rw [mapPut_none n x es 0 hm]
   unfold jJa mapEs at he ⊢
   simp [he]
 | some p =>
  obtain ⟨j, v0⟩ := p
  obtain ⟨_, ⟨q, h2, h3⟩, h4⟩ := mapAt_some n x es 0 j v0 hm
  rw [Nat.sub_zero] at h2 h4
  have hlen : arr.size = es.length := MapAt.size (b := b) he
  have hj : j < arr.size := by rw [hlen]; exact (List.getElem?_eq_some_iff.1 h2).1
  have hkey : ((arr[j]?).map (·.key)).getD (strV n) = strV n := by
   have h5 := congrArg (fun l => l[j]?) he
   simp only [jJa, mapEs, List.getElem?_map, h2, Option.map_some, Array.getElem?_toList] at h5
   cases ha : arr[j]? with
   | none => rfl
   | some e =>
    rw [ha] at h5
    simp only [Option.map_some, Option.some.injEq, Prod.mk.injEq] at h5
    simp [h5.1, h3]
  refine ⟨arr.modify j fun e => { e with key := strV n, val := mv t x }, clock, ?_, ?_⟩
  ·have hf := run_find (w := w) hk he n
   rw [hm] at hf
   simp [Instr.mapUpdate, run_underlying hT, MapKept.run_getObj_map hb, jzt hk, hf, MapKept.run_setObj_map _ hb, Result.andThen, jz4, hkey, run_stays]
  ·rw [h4]
   unfold jJa mapEs at he ⊢
   apply List.ext_getElem?
   intro i
   have h5 := congrArg (fun l => l[i]?) he
   simp only [List.getElem?_map, Array.getElem?_toList] at h5
   simp only [List.getElem?_map, Array.getElem?_toList, Array.getElem?_modify, List.getElem?_modify]
   by_cases hij : j = i
   ·subst hij
    simp only [if_true, h2, Option.map_some, ← h3]
    cases ha : arr[j]? with
    | none => rw [ha, h2] at h5; cases h5
    | some e => rfl
   ·simp only [hij, if_false]
    cases ha : arr[i]? <;> cases hb' : es[i]? <;> rw [ha, hb'] at h5 <;> simp_all
end
section
variable {P : Program} {w0 : World} {fb : List Nat} {X : Nat → Prop} {ι : Nat → Value} {st : St} {tm : Array Value} {w : World} {o : Oper}
theorem heap_block (w : World) (b b' : Nat) (o : Obj) (h : b' ≠ b) : (jz4 w b o).heap[b']? = w.heap[b']? := by
 simp only [jz4, Array.getElem?_setIfInBounds]
 rw [if_neg (fun e => h e.symm)]
theorem heap_block_same (w : World) (b : Nat) (o o' : Obj) (h : w.heap[b]? = some o') : (jz4 w b o).heap[b]? = some o := by
 have := (Array.getElem?_eq_some_iff.1 h).1
 simp [jz4, Array.getElem?_setIfInBounds, this]
theorem Sim.putMap (S : Sim w0 fb X ι st tm w) {σ s b : Nat} {t : Ty} {es es' : List (Str × den t)} {o : Obj} {arr' : Array MapEntry} {clock' : Nat} (hl : jjB st.sites σ = some (.map s t es)) (hι : ι σ = .map (some b)) (hg : w.heap[b]? = some o)
  (he : jJa arr' = mapEs t es') : Sim w0 fb X ι { st with sites := upd st.sites σ (.map s t es') } tm (jz4 w b (.map arr' clock')) := by
 have hbk : blk (ι σ) = some b := by rw [hι]; rfl
 have hlv : jjs st.sites σ := ⟨_, hl, rfl⟩
 have hiff : ∀ τ, jjs (upd st.sites σ (.map s t es')) τ ↔ jjs st.sites τ := isLive_upd hl rfl
 have hav : ∀ b', jjh X ι (upd st.sites σ (.map s t es')) b' ↔ jjh X ι st.sites b' := by
  intro b'; unfold jjh; simp only [hiff]
 have hne : ∀ b', ¬ jjh X ι st.sites b' → b' ≠ b := by
  rintro b' h rfl
  exact h (.inr ⟨σ, hlv, hbk⟩)
 have hsz : (jz4 w b (.map arr' clock')).heap.size = w.heap.size := by simp [jz4]
 refine S.turn (fun τ s' hτ => ?_) (fun b' h _ => heap_block w b b' _ (hne b' h)) (fun b' h _ => by rw [hav]; exact h) (fun go τ s' hτ => ?_) (fun τ ρ b' h1 h2 => S.excl τ ρ b' ((hiff τ).1 h1) ((hiff ρ).1 h2))
  (fun τ b' h => S.mine τ b' ((hiff τ).1 h)) (fun τ b' h hb => by rw [hsz]; exact S.live_lt ((hiff τ).1 h) hb) ?_ (by rw [hsz]; exact Nat.le_refl _)
 ·rw [jjl]
  by_cases e : σ = τ
  ·subst e
   rw [hl] at hτ; cases hτ
   exact ⟨.map s t es', by simp, Nat.le_refl _, fun _ => rfl⟩
  ·exact ⟨s', by simp [e, hτ], Nat.le_refl _, fun _ => rfl⟩
 ·rw [jjl] at hτ
  by_cases e : σ = τ
  ·subst e
   simp only [if_true, Option.some.injEq] at hτ
   subst hτ
   exact .inr ⟨b, hι, arr', clock', heap_block_same w b _ _ hg, he⟩
  ·simp only [e, if_false] at hτ
   refine .inl ⟨hτ, rfl, fun hlv' b' hb' => heap_block w b b' _ ?_⟩
   rintro rfl
   exact e (S.excl σ τ _ hlv ⟨s', hτ, hlv'⟩ hbk hb')
 ·have F := S.frame
  refine ⟨F.os, F.tape, F.output, by rw [hsz]; exact F.size, fun b' h1 h2 => ?_⟩
  rw [heap_block w b b' _ ?_]
  ·exact F.block b' h1 h2
  ·rintro rfl
   rcases (S.mine σ _ hlv hbk).2 with h | h
   ·exact h2 h
   ·omega
theorem Sim.makeMap (S : Sim w0 fb X ι st tm w) {σ : Nat} {t : Ty} :
  Sim w0 fb X (fun τ => if τ = σ then .map (some w.heap.size) else ι τ) { st with sites := upd st.sites σ (.map (jjd st σ) t []) } tm (w.alloc (.map #[] 0)) :=
 S.make (fun b hb => RowKit.Below.heap_alloc w _ b hb) rfl rfl rfl (by simp) (fun site hs => jj6 hs) (fun b hb => by cases hb; exact ⟨Nat.le_refl _, by simp⟩)
  (fun hs hι go _ _ => ⟨w.heap.size, hι, #[], 0, heap_alloc_new w _, rfl⟩)
end
section
variable {P : Program} {w0 : World} {fb : List Nat} {X : Nat → Prop} {ι : Nat → Value} {st : St} {tm : Array Value} {w : World} {o : Oper}
theorem makeMap_ok (S : Sim w0 fb X ι st tm w) {T : TypeId} {kt et : TypeId} {t : Ty} {r : Option Operand} {σ : Nat} (ho : o.op = .makeMap T r) (hdst : o.dst = some σ) (hd : jjJ st o.dst = true) (hT : P.underlying T = some (.map kt et))
  (hr : ∀ x, r = some x → ∃ k n, Act.eval ⟨tm, []⟩ x = .int k n) : jjA P w0 fb X st tm w o (lfv (.own σ (jjd st σ))) [(σ, .map (jjd st σ) t [])] := by
 have S' := S.makeMap (σ := σ) (t := t)
 refine jj1 (us := [(σ, .map (jjd st σ) t [])]) S' hd (vv := .map (some w.heap.size)) ?_ ?_
 ·unfold execOp
  cases r with
  | none => simp [ho, Instr.makeMap]
  | some x =>
   obtain ⟨k, n, hx⟩ := hr x rfl
   simp [ho, Instr.makeMap, hx, run_underlying hT, asInt, asIntOf, Result.andThen]
 ·refine ⟨rfl, Ref.mk (site := .map (jjd st σ) t []) ?_ rfl (by simp)⟩
  simp only [jjN, jjl]; simp
theorem mapSet_ok (S : Sim w0 fb X ι st tm w) {C : Ctx} (H : CtxOk P C) {T : TypeId} {m k x : Operand} (ho : o.op = .mapUpdate T m k x ∨ o.op = .insert T m k x) (hd : jjJ st o.dst = true) :
  Holds (mapStep.mapSet C st T m k x) (jjA P w0 fb X st tm w o) := by
 have hTo := H.tt T
 unfold mapStep.mapSet
 split
 ·rename_i kt et t σ s n d hT hm hk hx
  rw [hT] at hTo
  split
  ·rename_i s' u es hl
   cases hb : (s'.beq s && decide (u = t)) with
   | false => exact .fail
   | true =>
    simp only [cond_true]
    simp only [Bool.and_eq_true, decide_eq_true_eq] at hb
    have hs := Nat.eq_of_beq_eq_true hb.1
    subst hs
    split
    ·rename_i v hv
     refine Holds.okU ?_
     have em := jqe S C T m
     rw [hm] at em
     have ek := jqe S C 0 k
     rw [hk] at ek
     have ex := jqe S C 0 x
     rw [hx] at ex
     have hl : jjB st.sites σ = some (.map s' u es) := hl
     have hmv : Act.eval ⟨tm, []⟩ m = ι σ := Ref.at em.2 hl rfl
     obtain ⟨b, h1, arr, clock, h2, h3⟩ := S.sites σ _ hl
     obtain ⟨bs, hks, hkl⟩ := jqO (s := n) ek
     have hkv : Act.eval ⟨tm, []⟩ k = strV n := by rw [hks]; exact strV_of hkl
     have hxv : Act.eval ⟨tm, []⟩ x = mv u v := mv_of hv (av := jjh X ι st.sites) ex
     obtain ⟨arr', clock', r1, r2⟩ := run_update (T := T) hTo.1.1 hTo.2.1 h2 h3 n v
     have S' := S.putMap hl h1 h2 (clock' := clock') r2
     refine jzP (us := [(σ, .map s' u (mapPut es n v))]) S' hd ?_
     unfold execOp
     rcases ho with ho | ho
     ·simp only [ho, hmv, h1, hkv, hxv, Sem.run_bind, r1, Result.andThen_ok, Sem.run_pure]
     ·simp only [ho, hmv, h1, hkv, hxv, Sem.run_bind, r1, Result.andThen_ok, Sem.run_pure]
    ·exact .fail
  ·exact .fail
 ·exact .fail
theorem lookup_ok (S : Sim w0 fb X ι st tm w) {C : Ctx} (H : CtxOk P C) {T kt et : TypeId} {t : Ty} {m k : Operand} {c : Bool} {l : Lf} {n : Str} {es : List (Str × den t)} {d : D} (ho : o.op = .lookup T m k c) (hd : jjJ st o.dst = true)
  (hT : C.tt T = .map kt et t) (hm : ev C st T m = .av (.lf l)) (hk : ev C st 0 k = .av (.lf (.d (.str n)))) (hes : mapOf st l = some ⟨t, es⟩) (hdv : asVal t (jxJ es n) = some d) :
  jjA P w0 fb X st tm w o (bif c then .tup [.lf (.d d), .lf (.d (.bool (jxJ es n).isSome))] else one d) [] := by
 have hTo := H.tt T
 rw [hT] at hTo
 have em := jqe S C T m
 rw [hm] at em
 have ek := jqe S C 0 k
 rw [hk] at ek
 obtain ⟨bs, hks, hkl⟩ := jqO (s := n) ek
 have hkv : Act.eval ⟨tm, []⟩ k = strV n := by rw [hks]; exact strV_of hkl
 have hz : ∀ o' : Option (den t), asVal t o' = some d → (∀ x, o' = some x → ∀ av, Rd w av d (mv t x)) ∧ (o' = none → ∃ z, (zeroValue et).run P w = .ok z w ∧ ∀ av, Rd w av d z) := by
  intro o' h
  have he := hTo.2.2
  have key : ∀ {de : TypeDesc} {z : Value}, Scal P et de z → (zeroValue et).run P w = .ok z w := by
   intro de z h
   obtain ⟨_, _, _, h⟩ := h
   cases hi : P.info? et with
   | none => simp [hi] at h
   | some i =>
    simp only [hi, Option.map_some, Option.some.injEq, Prod.mk.injEq] at h
    simp [zeroValue, jjy hi, h.2]
  cases t <;> first | (exact he.elim) | skip
  ·simp only [asVal, Option.some.injEq] at h
   subst h
   refine ⟨fun x hx av => by subst hx; exact .int _ _, fun hn => ?_⟩
   subst hn
   exact ⟨_, key he, fun av => .int _ _⟩
  ·simp only [asVal, Option.some.injEq] at h
   subst h
   refine ⟨fun x hx av => by subst hx; exact .bool _, fun hn => ?_⟩
   subst hn
   exact ⟨_, key he, fun av => .bool _⟩
 obtain ⟨hz1, hz2⟩ := hz _ hdv
 have main : ∃ v, (Instr.lookup T (Act.eval ⟨tm, []⟩ m) (Act.eval ⟨tm, []⟩ k) c).run P w = .ok (if c then .tuple #[v, .bool (jxJ es n).isSome] else v) w ∧ ∀ av, Rd w av d v := by
  rw [hkv]
  rcases map_val S em hes with ⟨h1, rfl⟩ | ⟨b, h1, arr, clock, h2, h3⟩
  ·obtain ⟨z, z1, z2⟩ := hz2 rfl
   refine ⟨z, ?_, z2⟩
   have hf := run_find (w := w) (t := t) hTo.2.1 (es := []) (arr := #[]) rfl n
   have hf' : (Instr.findKey kt (strV n) []).run P w = .ok none w := hf
   simp [Instr.lookup, run_underlying hTo.1.1, h1, jzt hTo.2.1, hf', z1, jxJ, Result.andThen]
  ·have hf := run_find (w := w) hTo.2.1 h3 n
   have hg := mapAt_get n es 0
   cases ha : mapAt es n 0 with
   | none =>
    rw [ha] at hf hg
    have hg : jxJ es n = none := hg.symm
    obtain ⟨z, z1, z2⟩ := hz2 hg
    refine ⟨z, ?_, z2⟩
    simp [Instr.lookup, run_underlying hTo.1.1, h1, MapKept.run_getObj_map h2, jzt hTo.2.1, hf, z1, hg, Result.andThen]
   | some p =>
    rw [ha] at hf hg
    have hg : jxJ es n = some p.2 := hg.symm
    refine ⟨mv t p.2, ?_, hz1 p.2 hg⟩
    simp [Instr.lookup, run_underlying hTo.1.1, h1, MapKept.run_getObj_map h2, jzt hTo.2.1, hf, hg, Result.andThen]
 obtain ⟨v, r1, r2⟩ := main
 refine jjm S hd (vv := if c then .tuple #[v, .bool (jxJ es n).isSome] else v) ?_ ?_
 ·unfold execOp
  simp only [ho, Sem.run_bind, r1, Result.andThen_ok, Sem.run_pure]
 ·cases c with
  | true =>
   refine ⟨[v, .bool (jxJ es n).isSome], rfl, rfl, fun j g1 g2 => ?_⟩
   match j, g1 with
   | 0, _ => exact r2 _
   | 1, _ => exact Rd.bool _
  | false => exact r2 _
theorem mapStep_ok (S : Sim w0 fb X ι st tm w) {C : Ctx} (H : CtxOk P C) (hd : jjJ st o.dst = true) : Holds (mapStep C st o) (jjA P w0 fb X st tm w o) := by
 unfold mapStep
 split
 ·rename_i t r ho
  split
  ·rename_i σ kt et ty hdst hT
   have hTo := H.tt t
   rw [hT] at hTo
   split
   ·exact Holds.okU (makeMap_ok S ho hdst hd hTo.1.1 (fun x h => by cases h))
   ·rename_i x
    split
    ·rename_i k n hx
     refine Holds.okU (makeMap_ok S ho hdst hd hTo.1.1 (fun y h => ?_))
     cases h
     have ex := jqe S C 0 x
     rw [hx] at ex
     exact ⟨k, n, jxa ex⟩
    ·exact .fail
  ·exact .fail
 ·rename_i t m k x ho
  exact mapSet_ok S H (.inl ho) hd
 ·rename_i t m k x ho
  exact mapSet_ok S H (.inr ho) hd
 ·rename_i t m k c ho
  split
  ·rename_i kt et ty l n hT hm hk
   split
   ·rename_i u es hes
    cases hu : decide (u = ty) with
    | false => exact .fail
    | true =>
     have hu := of_decide_eq_true hu
     subst hu
     simp only [cond_true]
     split
     ·rename_i d hdv
      exact Holds.ok (lookup_ok S H ho hd hT hm hk hes hdv)
     ·exact .fail
   ·exact .fail
  ·exact .fail
 ·exact .fail
end
end Go.Jk
