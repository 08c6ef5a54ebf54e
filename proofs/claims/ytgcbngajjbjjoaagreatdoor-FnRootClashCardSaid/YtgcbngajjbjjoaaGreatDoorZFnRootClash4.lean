/- It is proved that files of installed packages are protected (FnRootClash). (part 5 of 7: JkBF94v0, JkBF95, JkBPuH, JkBF145, JkBFH146, JkBF91, JkBF49, JkBF50, JkBPuI, JkBF228, JkBF207, JkBF172, JkBF130, JkBF174, JkBF131, JkBF71, JkBF142, JkBF154, JkBPuJ, JkBF125, JkBF101, JkBF149v0, JkBF19) Conditions: none beyond the statement. -/
import Derived.Test.YtgcbngajjbjjoaaGreatDoorZFnRootClash3
import Derived.Tactics
import Derived.Deep.RegionLaw
import Derived.Shelf.Abstract
import Derived.Test.YtgcbngajjbjjoaaGreatDoorProg
import Derived.KernelRfl
set_option linter.unusedSimpArgs false
set_option maxRecDepth 100000
set_option linter.unusedVariables false
namespace Go.Proofs
open Go.Jk
noncomputable def c94v0 : Ctx := { tt := tt, fs := fun n => match n with | 58 => some S58 | _ => none }
theorem k94v0 (h : ∀ T, (tt T).ok Tryz.prog T) (h58 : jja Tryz.prog 58 S58) : CtxGood Tryz.prog c94v0 := ⟨⟨h⟩, fun g S hg => (by
 simp only [c94v0] at hg
 split at hg
 ·cases hg; exact h58
 ·cases hg), jjq, fun _ _ h => (by cases h), fun _ h => (by cases h)⟩
noncomputable def b94v0 : Code := jjh Tryz.f94
@[reducible] noncomputable def s94v0_26 : Shape := ⟨[(1, .lf (.fn 58 [])), (7, .lf (.d (.sl .pack))), (8, .lf (.d (.int .i64))), (9, .lf (.d (.int .i64)))], [], 18⟩
@[reducible] noncomputable def jJE : List OSh := [(.ret, ⟨[(4, .lf (.d (.bool)))], [], 18⟩), (.exit 0, ⟨[], [], 18⟩)]
noncomputable def g94v0_26 (y : s94v0_26.Y) : Option (Sum s94v0_26.Y (YS jJE)) :=
 bif (decide (y.1.2.2.2.1 < y.1.2.2.1)) then
(ix y.1.2.1 y.1.2.2.2.1).bind fun x1682 =>
(f58 (((x1682.name, (x1682.version, (x1682.needs, (x1682.tree, ())))), ()), ())).bind fun r1684 =>
 bif (!r1684.1.1) then
 some (.inr (.inl ((false, ()), ())))
else
 some (.inl (((), (y.1.2.1, (y.1.2.2.1, ((IntKind.i64.wrap (y.1.2.2.2.1 + (1 : Int))), ())))), ()))
else
 some (.inr (.inr ((), ())))
theorem r94v0_26 : ∀ y, g94v0_26 y = jjz (jjd c94v0 []) (jjl (jjc b94v0 1 26)) 26 s94v0_26 jJE y := fun y => by kernel_rfl
noncomputable def l94v0_26 : s94v0_26.Y → Option (YS jJE) := jjD g94v0_26
theorem q94v0_26 (H : CtxGood Tryz.prog c94v0) : jjn Tryz.prog (jjc b94v0 1 26) (jjb s94v0_26 jJE l94v0_26) :=
 jjt (fr := []) H (by kernel_rfl) (by kernel_rfl) jje (fun y => jji r94v0_26 y)
@[reducible] noncomputable def i94v0 : Shape := ⟨[(0, .lf (.d (.sl .pack))), (1, .lf (.fn 58 []))], [], 18⟩
@[reducible] noncomputable def o94v0 : Shape := ⟨[(4, .lf (.d (.bool)))], [], 18⟩
noncomputable def f94v0 (a : i94v0.Y) : Option o94v0.Y :=
(l94v0_26 (((), (a.1.1, ((a.1.1.length : Int), ((0 : Int), ())))), ())).bind fun r1688 =>
(match r1688 with
| .inl r1689 =>
 some ((r1689.1.1, ()), ())
| .inr r1690 =>
 some ((true, ()), ()))
theorem e94v0 : ∀ a, f94v0 a = jjp (jjd c94v0 [(26, jjb s94v0_26 jJE l94v0_26)]) b94v0 i94v0 o94v0 a := fun a => by kernel_rfl
noncomputable def S94v0 : jjG := jjf tt 18 i94v0 o94v0 [.tmp 4] [] f94v0
theorem z94v0 (h : ∀ T, (tt T).ok Tryz.prog T) (h58 : jja Tryz.prog 58 S58) : jja Tryz.prog 94 S94v0 :=
 have H := k94v0 h h58
 jjj (fn := Tryz.f94) (fr := [(26, jjb s94v0_26 jJE l94v0_26)]) H (by kernel_rfl) (by kernel_rfl) (by kernel_rfl) (by kernel_rfl) (by kernel_rfl) ⟨q94v0_26 H, trivial⟩ (by kernel_rfl) (fun y => ⟨_, _, rfl, rfl, rfl⟩) e94v0
noncomputable def c95 : Ctx := { tt := tt, fs := fun n => match n with | _ => none }
theorem k95 (h : ∀ T, (tt T).ok Tryz.prog T) : CtxGood Tryz.prog c95 := ⟨⟨h⟩, fun g S hg => (by cases hg), jjq, fun _ _ h => (by cases h), fun _ h => (by cases h)⟩
noncomputable def b95 : Code := jjh Tryz.f95
@[reducible] noncomputable def s95_26 : Shape := ⟨[(0, .lf (.d (.sl .pack))), (3, .lf (.d (.int .i64)))], [], 22⟩
@[reducible] noncomputable def t95_26 : List OSh := [(.ret, ⟨[(2, .lf (.d (.bool)))], [], 22⟩), (.exit 0, ⟨[], [], 22⟩)]
noncomputable def g95_26 (y : s95_26.Y) : Option (Sum s95_26.Y (YS t95_26)) :=
 bif (decide (y.1.2.1 < (y.1.1.length : Int))) then
(ix y.1.1 (IntKind.i64.wrap (y.1.2.1 - (1 : Int)))).bind fun x1698 =>
(ix y.1.1 y.1.2.1).bind fun x1699 =>
 bif (!(Op.bytesLess x1698.name x1699.name)) then
 some (.inr (.inl ((false, ()), ())))
else
 some (.inl ((y.1.1, ((IntKind.i64.wrap (y.1.2.1 + (1 : Int))), ())), ()))
else
 some (.inr (.inr ((), ())))
theorem r95_26 : ∀ y, g95_26 y = jjz (jjd c95 []) (jjl (jjc b95 1 26)) 26 s95_26 t95_26 y := fun y => by kernel_rfl
noncomputable def l95_26 : s95_26.Y → Option (YS t95_26) := jjD g95_26
theorem q95_26 (H : CtxGood Tryz.prog c95) : jjn Tryz.prog (jjc b95 1 26) (jjb s95_26 t95_26 l95_26) :=
 jjt (fr := []) H (by kernel_rfl) (by kernel_rfl) jje (fun y => jji r95_26 y)
@[reducible] noncomputable def i95 : Shape := ⟨[(0, .lf (.d (.sl .pack)))], [], 22⟩
@[reducible] noncomputable def o95 : Shape := ⟨[(2, .lf (.d (.bool)))], [], 22⟩
noncomputable def f95 (a : i95.Y) : Option o95.Y :=
(l95_26 ((a.1.1, ((1 : Int), ())), ())).bind fun r1703 =>
(match r1703 with
| .inl r1704 =>
 some ((r1704.1.1, ()), ())
| .inr r1705 =>
 some ((true, ()), ()))
theorem e95 : ∀ a, f95 a = jjp (jjd c95 [(26, jjb s95_26 t95_26 l95_26)]) b95 i95 o95 a := fun a => by kernel_rfl
noncomputable def S95 : jjG := jjf tt 22 i95 o95 [.tmp 2] [] f95
theorem z95 (h : ∀ T, (tt T).ok Tryz.prog T) : jja Tryz.prog 95 S95 :=
 have H := k95 h
 jjj (fn := Tryz.f95) (fr := [(26, jjb s95_26 t95_26 l95_26)]) H (by kernel_rfl) (by kernel_rfl) (by kernel_rfl) (by kernel_rfl) (by kernel_rfl) ⟨q95_26 H, trivial⟩ (by kernel_rfl) (fun y => ⟨_, _, rfl, rfl, rfl⟩) e95
abbrev BdP (p : Pack) : Prop := Bd p.name.length ∧ Bd p.version.length ∧ BdNs p.needs ∧ BdEs p.tree
abbrev BdPs (ps : List Pack) : Prop := Bd ps.length ∧ ∀ p, p ∈ ps → BdP p
def jxM (p : Pack) : Bool := jzO p.name && jj8 p.version && needsOk p.name p.needs && jjP p.tree
theorem v_PackOk (a) (hb : BdP ⟨a.1.1.1, a.1.1.2.1, a.1.1.2.2.1, a.1.1.2.2.2.1⟩) : f100 a = some ((jxM ⟨a.1.1.1, a.1.1.2.1, a.1.1.2.2.1, a.1.1.2.2.2.1⟩, ()), ()) := by
 obtain ⟨⟨⟨n, v, ns, t, u⟩, u'⟩, u''⟩ := a
 obtain ⟨h1, h2, h3, h4⟩ := hb
 have h1 : n.length ≤ 2097152 := h1
 have e1 := v_l3Pack ((n, ()), ()) (show n.length ≤ 1099511627776 by omega)
 have e2 := v_VersionOk ((v, ()), ()) h2
 have e3 := v_l7Needs ((n, (ns, ())), ()) h3 h1
 have e4 := v_TreeOk ((t, ()), ()) h4
 simp only [f100, e1, e2, e3, e4, Option.bind_some, jxM]
 cases jzO n <;> cases jj8 v <;> cases needsOk n ns <;> rfl
theorem v_iPackOk (a) (hb : BdP ⟨a.1.1.1, a.1.1.2.1, a.1.1.2.2.1, a.1.1.2.2.2.1⟩) : f58 a = some ((jxM ⟨a.1.1.1, a.1.1.2.1, a.1.1.2.2.1, a.1.1.2.2.2.1⟩, ()), ()) := by
 obtain ⟨⟨⟨n, v, ns, t, u⟩, u'⟩, u''⟩ := a
 obtain ⟨h1, h2, h3, h4⟩ := hb
 have h1 : n.length ≤ 2097152 := h1
 have e1 := v_packNameOk ((n, ()), ()) (show n.length ≤ 1099511627776 by omega)
 have e2 := jz0 ((v, ()), ()) h2
 have e3 := v_allNeed ((ns, ((), ())), ()) h3
 have e4 := v_iTreeOk ((t, ()), ()) h4
 have e5 := v_namesTwice ((ns, ((), (([n] : List Str), ()))), ()) h3 (Nat.le_refl _)
 have h6 : decide ((ns.length : Int) > 6) = !decide (ns.length ≤ 6) := by by_cases h : ns.length ≤ 6 <;> simp only [h, decide_true, decide_false, Bool.not_true, Bool.not_false, decide_eq_true_eq, decide_eq_false_iff_not] <;> omega
 have hd : dupA [] (n :: ns.map (·.name)) = dupA [n] (ns.map (·.name)) := by simp [dupA]
 simp only [f58, g58_12, e1, e2, Option.bind_some, jxM, needsOk, hd, h6, Bool.not_not]
 cases jzO n with
 | false => rfl
 | true =>
  cases jj8 v with
  | false => rfl
  | true =>
   cases decide (ns.length ≤ 6) with
   | false => simp only [cond_true, Bool.not_false, Option.bind_some, Bool.and_false, Bool.false_and]
   | true =>
    simp only [cond_true, Bool.not_true, cond_false, Option.bind_some, e3, e5, e4, Bool.true_and, Bool.and_true]
    cases List.all ns jqU <;> cases dupA [n] (ns.map (·.name)) <;> rfl
theorem v_allPack (a) (hs : BdPs a.1.1) : f94v0 a = some ((a.1.1.all jxM, ()), ()) := by
 obtain ⟨⟨ps, u⟩, u'⟩ := a
 obtain ⟨hl, hn⟩ := hs
 have hl : ps.length ≤ 2097152 := hl
 have key : l94v0_26 (((), (ps, ((ps.length : Int), ((0 : Int), ())))), ()) = some (bif jqu (fun _ n => jxM n) 0 ps then .inr ((), ()) else .inl ((false, ()), ())) := by
  refine jjN g94v0_26 ps (fun i => (((), (ps, ((ps.length : Int), ((i : Int), ())))), ())) _ _ _ (fun i x hx => ?_) ?_
  ·have hi := jjy hx
   have hw : Sm i := by unfold Sm; omega
   have hb := hn x (List.mem_of_getElem? hx)
   simp only [g94v0_26, jjB hi, cond_true, jju, hx, Option.bind_some]
   rw [v_iPackOk _ hb]
   simp only [Option.bind_some, jjk hw]
   cases jxM x <;> rfl
  ·simp only [g94v0_26, jjC, cond_false]
 rw [jjZ] at key
 simp only [f94v0, key, Option.bind_some]
 cases List.all ps jxM <;> rfl
def lessP (ps : List Pack) (i : Nat) (x : Pack) : Bool := match ps[i]? with
 | some q => Op.bytesLess q.name x.name
 | none => false
def ascP (ps : List Pack) : Bool := jqu (lessP ps) 0 ps.tail
theorem v_packsAscend (a) (hs : Bd a.1.1.length) : f95 a = some ((ascP a.1.1, ()), ()) := by
 obtain ⟨⟨ps, u⟩, u'⟩ := a
 have hs : ps.length ≤ 2097152 := hs
 have key : l95_26 ((ps, ((1 : Int), ())), ()) = some (bif jqu (lessP ps) 0 ps.tail then .inr ((), ()) else .inl ((false, ()), ())) := by
  refine jjN g95_26 ps.tail (fun i => ((ps, (((i + 1 : Nat) : Int), ())), ())) _ _ _ (fun i x hx => ?_) ?_
  ·have hx' : ps[i + 1]? = some x := by rw [List.getElem?_tail] at hx; exact hx
   have hi := jjy hx'
   have hw : Sm (i + 1) := by unfold Sm; omega
   obtain ⟨q, hq⟩ : ∃ q, ps[i]? = some q := ⟨ps[i], List.getElem?_eq_getElem (by omega)⟩
   simp only [g95_26, jjB hi, cond_true, jzX (i := i) (by unfold Sm; omega), jju, hq, hx', Option.bind_some, jjk hw, lessP]
   cases Op.bytesLess q.name x.name <;> rfl
  ·have : decide (((ps.tail.length + 1 : Nat) : Int) < (ps.length : Int)) = false := by
    simp only [decide_eq_false_iff_not, List.length_tail]; omega
   simp only [g95_26, this, cond_false]
 simp only [f95, key, Option.bind_some, ascP]
 cases jqu (lessP ps) 0 ps.tail <;> rfl
def eqE (a b : Entry) : Bool := a.path == b.path && (a.kind == b.kind && (a.mode == b.mode && a.text == b.text))
def conf (e q : Entry) : Bool := e.kind != 1 || !eqE e q
theorem eqE_comm (a b : Entry) : eqE a b = eqE b a := by
 unfold eqE
 have h1 : (a.path == b.path) = (b.path == a.path) := BEq.comm
 have h2 : (a.kind == b.kind) = (b.kind == a.kind) := BEq.comm
 have h3 : (a.mode == b.mode) = (b.mode == a.mode) := BEq.comm
 have h4 : (a.text == b.text) = (b.text == a.text) := BEq.comm
 rw [h1, h2, h3, h4]
theorem conf_eq (e q : Entry) : conf e q = (q.kind != 1 || !eqE e q) := by
 unfold conf
 cases h : eqE e q with
 | false => simp
 | true =>
  unfold eqE at h
  simp only [Bool.and_eq_true] at h
  rw [show e.kind = q.kind from eq_of_beq h.2.1]
def jJn (t : List Entry) (k : Nat) (e : Entry) : List Entry := t.take k ++ [e] ++ t.drop k
def jq8 (out : List Entry) : List Entry → Option (List Entry)
 | [] => some out
 | e :: r => match out[jj1 out e.path]? with
  | some q => bif q.path == e.path then (bif conf e q then none else jq8 out r) else jq8 (jJn out (jj1 out e.path) e) r
  | none => jq8 (jJn out (jj1 out e.path) e) r
theorem insAt_len (t : List Entry) (k : Nat) (e : Entry) (h : k ≤ t.length) : (jJn t k e).length = t.length + 1 := by
 unfold jJn
 simp only [List.length_append, List.length_take, List.length_cons, List.length_nil, List.length_drop]; omega
theorem insAt_mem {t : List Entry} {k : Nat} {e x : Entry} (h : x ∈ jJn t k e) : x = e ∨ x ∈ t := by
 unfold jJn at h
 rcases List.mem_append.1 h with h | h
 ·rcases List.mem_append.1 h with h | h
  ·exact .inr (List.mem_of_mem_take h)
  ·exact .inl (by simpa using h)
 ·exact .inr (List.mem_of_mem_drop h)
def jxC (out : List Entry) (e : Entry) : Option (List Entry) := match out[jj1 out e.path]? with
 | some q => bif q.path == e.path then (bif conf e q then none else some out) else some (jJn out (jj1 out e.path) e)
 | none => some (jJn out (jj1 out e.path) e)
theorem jqH (out : List Entry) (e : Entry) (r : List Entry) : jq8 out (e :: r) = (jxC out e).bind fun o => jq8 o r := by
 unfold jxC
 rw [jq8]
 cases out[jj1 out e.path]? with
 | none => rfl
 | some q =>
  simp only
  cases (q.path == e.path) with
  | false => rfl
  | true => cases conf e q <;> rfl
theorem stepJ_len {out o : List Entry} {e : Entry} (h : jxC out e = some o) : o.length ≤ out.length + 1 := by
 unfold jxC at h
 split at h
 ·rename_i q hq
  cases hp : (q.path == e.path) with
  | true =>
   rw [hp] at h
   cases hc : conf e q with
   | true => rw [hc] at h; cases h
   | false => rw [hc] at h; cases h; omega
  | false => rw [hp] at h; cases h; rw [insAt_len _ _ _ (jQb _ _)]; omega
 ·cases h; rw [insAt_len _ _ _ (jQb _ _)]; omega
theorem stepJ_mem {out o : List Entry} {e x : Entry} (h : jxC out e = some o) (hx : x ∈ o) : x = e ∨ x ∈ out := by
 unfold jxC at h
 split at h
 ·rename_i q hq
  cases hp : (q.path == e.path) with
  | true =>
   rw [hp] at h
   cases hc : conf e q with
   | true => rw [hc] at h; cases h
   | false => rw [hc] at h; cases h; exact .inr hx
  | false => rw [hp] at h; cases h; exact insAt_mem hx
 ·cases h; exact insAt_mem hx
theorem asc_ins {t : List Entry} {e : Entry} (ha : Asc t) (hn : jxm t e.path = false) : Asc (jJn t (jj1 t e.path) e) := by
 have hlow : ∀ a, a ∈ t.take (jj1 t e.path) → Op.bytesLess a.path e.path = true := by
  intro a h
  obtain ⟨k, hk⟩ := List.mem_iff_getElem?.1 h
  have hkp : k < jj1 t e.path := by have := jjy hk; rw [List.length_take] at this; omega
  have hk' : t[k]? = some a := by rw [List.getElem?_take, if_pos hkp] at hk; exact hk
  rw [jqq ha k a hk']; simpa using hkp
 have hhigh : ∀ a, a ∈ t.drop (jj1 t e.path) → Op.bytesLess e.path a.path = true := by
  intro a h
  obtain ⟨k, hk⟩ := List.mem_iff_getElem?.1 h
  rw [List.getElem?_drop] at hk
  have h1 := jqq (p := e.path) ha _ a hk
  have h2 : Op.bytesLess a.path e.path = false := by rw [h1]; simp
  refine bl_tri _ _ h2 ?_
  cases hq : (a.path == e.path) with
  | false => rfl
  | true =>
   exfalso
   cases k with
   | zero =>
    unfold jxm at hn
    rw [Nat.add_zero] at hk
    rw [hk] at hn
    simp only [hq] at hn
    cases hn
   | succ k =>
    have hlt := jjy hk
    obtain ⟨q, hq0⟩ : ∃ q, t[jj1 t e.path]? = some q := ⟨_, List.getElem?_eq_getElem (by omega)⟩
    have h3 := List.pairwise_iff_getElem.1 ha (jj1 t e.path) (jj1 t e.path + (k + 1)) (jjy hq0) hlt (by omega)
    rw [(List.getElem?_eq_some_iff.1 hq0).2, (List.getElem?_eq_some_iff.1 hk).2] at h3
    have h4 := jqq (p := e.path) ha _ q hq0
    rw [← eq_of_beq hq, h3] at h4
    simp at h4
 unfold Asc jJn
 refine List.pairwise_append.2 ⟨List.pairwise_append.2 ⟨ha.take _, by simp, ?_⟩, List.Pairwise.sublist (List.drop_sublist _ _) ha, ?_⟩
 ·intro a h b hb
  have hb : b = e := by simpa using hb
  subst hb
  exact hlow a h
 ·intro a h b hb
  rcases List.mem_append.1 h with h | h
  ·exact jJY _ _ _ (hlow a h) (hhigh b hb)
  ·have h : a = e := by simpa using h
   subst h
   exact hhigh b hb
theorem stepJ_asc {out o : List Entry} {e : Entry} (ha : Asc out) (h : jxC out e = some o) : Asc o := by
 unfold jxC at h
 have hno : ∀ {b : Bool}, jxm out e.path = b → b = false → Asc (jJn out (jj1 out e.path) e) := fun h1 h2 => asc_ins ha (h1.trans h2)
 split at h
 ·rename_i q hq
  cases hp : (q.path == e.path) with
  | true =>
   rw [hp] at h
   cases hc : conf e q with
   | true => rw [hc] at h; cases h
   | false => rw [hc] at h; cases h; exact ha
  | false => rw [hp] at h; cases h; exact hno (by unfold jxm; rw [hq]) hp
 ·rename_i hq; cases h; exact hno (by unfold jxm; rw [hq]) rfl
theorem v_l2Join (a) (ha : BdEs a.1.1) (hb : BdEs a.1.2.1) (hl : a.1.1.length + a.1.2.1.length ≤ 2097152) : f92 a =
  some (match jq8 a.1.1 a.1.2.1 with | some out => (((), (jjP out, ())), (out, ())) | none => (((), (false, ())), (([] : List Entry), ()))) := by
 obtain ⟨⟨xs, ys, u⟩, u'⟩ := a
 have hl : xs.length + ys.length ≤ 2097152 := hl
 have hc : f147 ((xs, ()), ()) = some (((), ()), (xs, ())) := by
  simp only [f147]
  rw [jqd (by decide) (by unfold Sm; simp only [List.length_nil]; omega)]
  rfl
 have key : l92_58 ((ys, ((), ((0 : Int), ()))), (xs, ())) = _ := jq3 g92_58 ys (fun i (out : List Entry) => ((ys, ((), ((i : Int), ()))), (out, ())))
  (fun i e out => some (match jxC out e with | some o => .inl o | none => .inr ((.inl (((), (false, ())), (([] : List Entry), ()))) : YS jz1))) (fun out => ((.inr (((), ()), (out, ()))) : YS jz1))
  (fun i out => out.length ≤ xs.length + i ∧ ∀ e, e ∈ out → BdE e) xs ⟨Nat.le_refl _, ha.2⟩ (fun i x out hx hI => ?_) (fun out _ => ?_)
 ·have fold : ∀ (r : List Entry) (k : Nat) (out : List Entry), jqC (fun i e out => some (match jxC out e with | some o => .inl o | none => .inr ((.inl (((), (false, ())), (([] : List Entry), ()))) : YS jz1))) (fun out => ((.inr (((), ()), (out, ()))) : YS jz1)) k r out =
    some (match jq8 out r with | some o => .inr (((), ()), (o, ())) | none => .inl (((), (false, ())), (([] : List Entry), ()))) := by
   intro r
   induction r with
   | nil => intro k out; rfl
   | cons e r ih =>
    intro k out
    rw [jqH]
    simp only [jqC]
    cases jxC out e with
    | none => rfl
    | some o => simp only [Option.bind_some]; exact ih _ _
  have mem : ∀ (r : List Entry) (out o : List Entry), (∀ e, e ∈ r → BdE e) → (∀ e, e ∈ out → BdE e) → jq8 out r = some o → o.length ≤ out.length + r.length ∧ ∀ e, e ∈ o → BdE e := by
   intro r
   induction r with
   | nil => intro out o _ h2 h; cases h; exact ⟨Nat.le_refl _, h2⟩
   | cons e r ih =>
    intro out o h1 h2 h
    rw [jqH] at h
    obtain ⟨o1, h3, h4⟩ := Option.bind_eq_some_iff.1 h
    have h5 := ih o1 o (fun x hx => h1 x (List.mem_cons_of_mem _ hx)) (fun x hx => by
     rcases stepJ_mem h3 hx with rfl | h
     ·exact h1 x List.mem_cons_self
     ·exact h2 x h) h4
    have h6 := stepJ_len h3
    exact ⟨by simp only [List.length_cons]; omega, h5.2⟩
  rw [fold] at key
  simp only [f92, hc, Option.bind_some, key]
  cases hj : jq8 xs ys with
  | none => rfl
  | some o =>
   have hm := mem ys xs o hb.2 ha.2 hj
   simp only [Option.bind_some]
   rw [v_TreeOk _ ⟨show o.length ≤ 2097152 by omega, hm.2⟩]
   rfl
 ·have hi := jjy hx
  have hw : Sm i := by unfold Sm; omega
  refine ⟨?_, fun s' h' => ?_⟩
  ·have hat := v_l2At ((out, (x.path, ())), ()) (show out.length ≤ 2097152 by omega)
   have hpl := jQb out x.path
   simp only [g92_58, jjB hi, cond_true, jju, hx, Option.bind_some, hat, jJP, jxm, jxC]
   have grow : ((jqM out 0 (jj1 out x.path : Int)).bind fun x527 => (apd 48 ([] : List Entry) x527).bind fun x528 => (apd 48 x528 ([x] : List Entry)).bind fun x530 => (jqM out (jj1 out x.path : Int) (out.length : Int)).bind fun x531 => (apd 48 x530 x531).bind fun x532 =>
     (some (.inl ((ys, ((), ((IntKind.i64.wrap ((i : Int) + (1 : Int))), ()))), (x532, ()))) : Option (Sum s92_58.Y (YS jz1)))) = some (.inl ((ys, ((), (((i + 1 : Nat) : Int), ()))), (jJn out (jj1 out x.path) x, ()))) := by
    have hlen : (out.take (jj1 out x.path)).length ≤ out.length := by rw [List.length_take]; omega
    have hlen2 : (out.drop (jj1 out x.path)).length ≤ out.length := by rw [List.length_drop]; omega
    rw [jzq hpl, Option.bind_some, jqd (by decide) (by unfold Sm; simp only [List.length_nil]; omega), Option.bind_some, jqd (by decide) (by unfold Sm; simp only [List.length_nil, List.length_cons, List.nil_append]; omega), Option.bind_some, jxB hpl, Option.bind_some,
     jqd (by decide) (by unfold Sm; simp only [List.length_append, List.length_nil, List.length_cons, List.nil_append]; omega), Option.bind_some, jjk hw]
    rfl
   cases hq : out[jj1 out x.path]? with
   | none => simp only [cond_false, Option.bind_some, Bool.not_false, cond_true, jju, hx]; exact grow
   | some q =>
    have hin := jzy (jjy hq)
    simp only
    cases hp : (q.path == x.path) with
    | false => simp only [cond_false, Option.bind_some, Bool.not_false, cond_true, jju, hx]; exact grow
    | true =>
     have hce : ((x.path == q.path) && ((x.kind == q.kind) && ((x.mode == q.mode) && (x.text == q.text)))) = eqE x q := rfl
     rw [conf_eq]
     simp only [cond_true, hin, hq, Option.bind_some, jju, hx, hce]
     cases hk : (q.kind != 1) with
     | true => rfl
     | false =>
      simp only [cond_false, Option.bind_some, Bool.false_or]
      cases eqE x q with
      | false => rfl
      | true => simp only [Bool.not_true, cond_false, Option.bind_some, jjk hw]; rfl
  ·simp only [Option.some.injEq] at h'
   cases hs : jxC out x with
   | none => rw [hs] at h'; cases h'
   | some o =>
    rw [hs] at h'
    cases h'
    have h6 := stepJ_len hs
    refine ⟨by omega, fun e he => ?_⟩
    rcases stepJ_mem hs he with rfl | h
    ·exact hb.2 e (List.mem_of_getElem? hx)
    ·exact hI.2 e h
 ·simp only [g92_58, jjC, cond_false]
noncomputable def c145 : Ctx := { tt := tt, fs := fun n => match n with | _ => none }
theorem k145 (h : ∀ T, (tt T).ok Tryz.prog T) : CtxGood Tryz.prog c145 := ⟨⟨h⟩, fun g S hg => (by cases hg), jjq, fun _ _ h => (by cases h), fun _ h => (by cases h)⟩
noncomputable def b145 : Code := jjh Tryz.f145
@[reducible] noncomputable def i145 : Shape := ⟨[(0, .lf (.d (.sl .entry)))], [], 8⟩
@[reducible] noncomputable def o145 : Shape := ⟨[(2, .lf (.own 3000128))], [(3000128, .row .entry, .slot 2 0)], 8⟩
noncomputable def f145 (a : i145.Y) : Option o145.Y :=
 jxj (t := .entry) a.1.1 (some (((), ()), (([] : List Entry), ()))) ((apd 48 ([] : List Entry) a.1.1).bind fun x1840 =>
 some (((), ()), (x1840, ())))
theorem e145 : ∀ a, f145 a = jjp (jjd c145 []) b145 i145 o145 a := fun a => by kernel_rfl
noncomputable def S145 : jjG := jjf tt 8 i145 o145 [.tmp 2] [] f145
theorem z145 (h : ∀ T, (tt T).ok Tryz.prog T) : jja Tryz.prog 145 S145 :=
 have H := k145 h
 jjj (fn := Tryz.f145) (fr := []) H (by kernel_rfl) (by kernel_rfl) (by kernel_rfl) (by kernel_rfl) (by kernel_rfl) jje (by kernel_rfl) (fun y => ⟨_, _, rfl, rfl, rfl⟩) e145
theorem ins_shift (g n c i vb m vc : Nat) (cur vcur : Array Value) (te ve : TypeId) (w : World) (hi : i < n) (hm : 0 < m) (hroom : n + m ≤ c) (hc63 : c ≤ 9223372036854775807) (hne : vb ≠ g)
  (hg : w.heap[g]? = some (.cells cur te (0, 0))) (hv : w.heap[vb]? = some (.cells vcur ve (0, 0))) (hcs : cur.size = c * 4) (hvs : m * 4 ≤ vcur.size)
  (h1c : ∀ v ∈ cur.toList.take (n * 4), v.oneCell' = true) (h1v : ∀ v ∈ vcur.toList.take (m * 4), v.oneCell' = true) :
  Calls Tryz.prog 146 #[.slice (some ⟨g, 0, none⟩) n c, .int .i64 i, .slice (some ⟨vb, 0, none⟩) m vc] w fun e w' =>
   e = .returned (.slice (some ⟨g, 0, none⟩) (n + m) c) ∧ w' = w.drew.setRow g (splice (splice cur.toList ((i + m) * 4) ((cur.toList.take (n * 4)).drop (i * 4))) (i * 4) (vcur.toList.take (m * 4))).toArray := by
 have t33 : Tryz.prog.underlying 27 = some (.slice 32) := by kernel_rfl
 have hsz : (Tryz.prog.info? 32).map (·.size) = some 4 := by kernel_rfl
 have hz1 : ¬ ((m : Int) = 0) := by omega
 have hz2 : ¬ ((i : Int) = (n : Int)) := by omega
 have hov : ∀ off lb cb, (callFunc 186 #[.slice (some ⟨vb, 0, none⟩) m vc, .slice (some ⟨g, off, none⟩) lb cb]).run Tryz.prog w = .ok (.value (.bool false)) w := fun off lb cb => by
  rw [run_callFunc_extern Tryz.func186 (by kernel_rfl) (by kernel_rfl) (by kernel_rfl) (e := Extern.SlicesOverlaps.overlaps #[27, 27] #[4]) (by kernel_rfl),
   Lib.run_overlaps_apart w 27 4 32 t33 4 (fun w => by kernel_rfl) ⟨vb, 0, none⟩ ⟨g, off, none⟩ m vc lb cb hne ve te vcur.size cur.size (by simp [World.shape?, hv]) (by simp [World.shape?, hg]) (by omega) (by simp [World.frozen?, hv]) (by simp [World.frozen?, hv])]
  rfl
 have hdl : ((cur.toList.take (n * 4)).drop (i * 4)).length = (n - i) * 4 := by simp only [List.length_drop, List.length_take, Array.length_toList, hcs]; rw [Nat.min_eq_left (by omega), Nat.sub_mul]
 have hcl : ∀ j v, (cur.toList.take (n * 4))[j]? = some v → w.cell? ⟨g, j, none⟩ = some v := fun j v h => by
  rw [List.getElem?_take] at h
  split at h
  ·simpa [World.cell?, hg] using h
  ·cases h
 have hcv : ∀ j v, (vcur.toList.take (m * 4))[j]? = some v → w.cell? ⟨vb, j, none⟩ = some v := fun j v h => by
  rw [List.getElem?_take] at h
  split at h
  ·simpa [World.cell?, hv] using h
  ·cases h
 have hcp1 : ∀ ty dc sc, (Builtin.copy_ #[27, 27] ty #[.slice (some ⟨g, (i + m) * 4, none⟩) (n + m - (i + m)) dc, .slice (some ⟨g, i * 4, none⟩) (n + m - i) sc]).run Tryz.prog w.drew =
   .ok (goInt (Nat.min (n + m - i) (n + m - (i + m)))) (w.drew.setRow g (splice cur.toList ((i + m) * 4) ((cur.toList.take (n * 4)).drop (i * 4))).toArray) := fun ty dc sc =>
  jqF w.drew _ _ ty 32 4 g ((i + m) * 4) (n + m - (i + m)) dc ⟨g, i * 4, none⟩ (n + m - i) sc cur te _ t33 hsz hg (by rw [hdl]; simp only [Nat.min_def]; split <;> omega)
   (fun j v hj => by rw [Addr.add_lit]; exact hcl (i * 4 + j) v (by rwa [List.getElem?_drop] at hj)) (by rw [hdl, hcs]; omega) (fun v hv => h1c v (List.mem_of_mem_drop hv))
 obtain ⟨cur1, hcur1⟩ : ∃ cur1, cur1 = (splice cur.toList ((i + m) * 4) ((cur.toList.take (n * 4)).drop (i * 4))).toArray := ⟨_, rfl⟩
 rw [← hcur1] at hcp1
 have hc1s : cur1.size = c * 4 := by rw [hcur1]; simp only [splice, List.size_toArray, List.length_append, List.length_drop, List.length_take, Array.length_toList, hcs]; omega
 have hcp2 : ∀ (W : World), W.heap = (w.drew.setRow g cur1).heap → ∀ ty dc, (Builtin.copy_ #[27, 27] ty #[.slice (some ⟨g, i * 4, none⟩) (n + m - i) dc, .slice (some ⟨vb, 0, none⟩) m vc]).run Tryz.prog W =
   .ok (goInt (Nat.min m (n + m - i))) (W.setRow g (splice cur1.toList (i * 4) (vcur.toList.take (m * 4))).toArray) := fun W hW ty dc =>
  jqF W _ _ ty 32 4 g (i * 4) (n + m - i) dc ⟨vb, 0, none⟩ m vc cur1 te _ t33 hsz (by rw [hW]; exact setRow_heap w.drew g cur cur1 te (0, 0) hg)
   (by simp only [List.length_take, Array.length_toList, Nat.min_def]; split <;> split <;> omega)
   (fun j v hj => by
    have := hcv j v hj
    rw [Addr.add_lit, Nat.zero_add]
    unfold World.cell? at this ⊢
    rw [hW, show (w.drew.setRow g cur1).heap[vb]? = w.heap[vb]? from setRow_other w.drew g vb cur1 hne]; exact this) (by simp only [List.length_take, Array.length_toList]; omega) h1v
 have hE : w.drew.setRow g (splice (splice cur.toList ((i + m) * 4) ((cur.toList.take (n * 4)).drop (i * 4))) (i * 4) (vcur.toList.take (m * 4))).toArray = (w.drew.setRow g cur1).setRow g (splice cur1.toList (i * 4) (vcur.toList.take (m * 4))).toArray := by
  rw [setRow_setRow, hcur1]
 rw [hE]
 clear hE hcur1
 have hw1 : IntKind.i64.wrap ((i : Int) + (m : Int)) = (i : Int) + (m : Int) := by rw [IntKind.wrap_i64]; omega
 have hb1 : (0 : Int) ≤ (i : Int) + (m : Int) := by omega
 have hin : i ≤ n := by omega
 have htn : ((i : Int) + (m : Int)).toNat = i + m := by omega
 have hb2 : ¬ (c = i + m) := by omega
 have hb3 : (i : Int) ≤ (n : Int) + (m : Int) := by omega
 have hb4 : ¬ (c = i) := by omega
 go_enter Tryz.func146, Tryz.ntmps146
 go_wp2_with (simp only [hov])
 go_region_law (refine jzr rfl _ _ 27 27 rfl (.slice (some ⟨g, (i + m) * 4, none⟩) (n + m - (i + m)) (c - (i + m))) (.slice (some ⟨g, i * 4, none⟩) (n + m - i) (c - i)) (by simp [Act.eval, Act.put]) (by simp [Act.eval, Act.put]) (hcp1 _ _ _) ?_)
 go_wp2_with (at_builtin; refine jxi _ rfl _ _ 27 27 rfl _ _ rfl rfl (hcp2 _ rfl _ _) ?_)
 go_ret
 exact ⟨rfl, rfl⟩
theorem ins_none0 (xa : Option Addr) (vc : Nat) (w : World) :
  Calls Tryz.prog 146 #[.slice none 0 0, .int .i64 0, .slice xa 0 vc] w fun e w' => e = .returned (.slice none 0 0) ∧ w' = w := by
 go_enter Tryz.func146, Tryz.ntmps146
 go_wp2
 go_ret
 exact ⟨rfl, rfl⟩
theorem ins_none1 (g n c i : Nat) (xa : Option Addr) (vc : Nat) (w : World) (hi : i ≤ n) (hnc : n ≤ c) (hc63 : c ≤ 9223372036854775807) :
  Calls Tryz.prog 146 #[.slice (some ⟨g, 0, none⟩) n c, .int .i64 i, .slice xa 0 vc] w fun e w' => e = .returned (.slice (some ⟨g, 0, none⟩) n c) ∧ w' = w := by
 go_enter Tryz.func146, Tryz.ntmps146
 go_wp2
 all_goals (go_ret; exact ⟨rfl, rfl⟩)
theorem ins_end0 (xa : Option Addr) (m vc : Nat) (w : World) (hm : 0 < m) (v' : Value) (W : World) (hr : ∀ ty, (Builtin.append_ #[27, 27] ty #[.slice none 0 0, .slice xa m vc]).run Tryz.prog w = .ok v' W) :
  Calls Tryz.prog 146 #[.slice none 0 0, .int .i64 0, .slice xa m vc] w fun e w' => e = .returned v' ∧ w' = W := by
 have hz1 : ¬ ((m : Int) = 0) := by omega
 go_enter Tryz.func146, Tryz.ntmps146
 go_wp2_with (at_builtin; refine jqg _ rfl _ _ 27 27 rfl _ _ rfl rfl (hr _) ?_)
 go_ret
 exact ⟨rfl, rfl⟩
theorem ins_end1 (g n c : Nat) (xa : Option Addr) (m vc : Nat) (w : World) (hnc : n ≤ c) (hc63 : c ≤ 9223372036854775807) (hm : 0 < m) (v' : Value) (W : World) (hr : ∀ ty, (Builtin.append_ #[27, 27] ty #[.slice (some ⟨g, 0, none⟩) n c, .slice xa m vc]).run Tryz.prog w = .ok v' W) :
  Calls Tryz.prog 146 #[.slice (some ⟨g, 0, none⟩) n c, .int .i64 n, .slice xa m vc] w fun e w' => e = .returned v' ∧ w' = W := by
 have hz1 : ¬ ((m : Int) = 0) := by omega
 go_enter Tryz.func146, Tryz.ntmps146
 go_wp2_with (at_builtin; refine jqg _ rfl _ _ 27 27 rfl _ _ rfl rfl (hr _) ?_)
 all_goals (go_ret; exact ⟨rfl, rfl⟩)
theorem ins_grow (g n c i vb m vc : Nat) (cur vcur : Array Value) (te ve : TypeId) (w : World) (hi : i < n) (hm : 0 < m) (hnc : n ≤ c) (hroom : c < n + m) (hc63 : c ≤ 9223372036854775807) (hbig : (n + m) * 48 ≤ 140737488355328)
  (hg : w.heap[g]? = some (.cells cur te (0, 0))) (hv : w.heap[vb]? = some (.cells vcur ve (0, 0))) (hcs : cur.size = c * 4) (hvs : m * 4 ≤ vcur.size)
  (h1c : ∀ v ∈ cur.toList.take (n * 4), v.oneCell' = true) (h1v : ∀ v ∈ vcur.toList.take (m * 4), v.oneCell' = true) :
  ∃ G ROW, ∃ W : World, G ≤ maxLen ∧ n + m ≤ G ∧ ROW.size = G * 4 ∧ ROW.toList.take (i * 4) = cur.toList.take (i * 4) ∧ W.os = w.os ∧ W.tape = w.tape ∧ W.output = w.output ∧ W.heap = w.heap.push (.cells ROW 32 (0, 0)) ∧
  Calls Tryz.prog 146 #[.slice (some ⟨g, 0, none⟩) n c, .int .i64 i, .slice (some ⟨vb, 0, none⟩) m vc] w fun e w' =>
   e = .returned (.slice (some ⟨w.heap.size, 0, none⟩) (n + m) G) ∧ w'.os = w.os ∧ w'.tape = w.tape ∧ w'.output = w.output ∧
    w'.heap = (W.setRow w.heap.size (splice (splice ROW.toList (i * 4) (vcur.toList.take (m * 4))) ((i + m) * 4) ((cur.toList.take (n * 4)).drop (i * 4))).toArray).heap := by
 have t33 : Tryz.prog.underlying 27 = some (.slice 32) := by kernel_rfl
 have t3 : Tryz.prog.underlying 3 = some (.int .i64) := by kernel_rfl
 have hsz : (Tryz.prog.info? 32).map (·.size) = some 4 := by kernel_rfl
 have hinfo : (Tryz.prog.info? 32).map (fun i => (i.zero.map (·.cells.size), i.size, i.bytes)) = some (some 4, 4, 48) := by kernel_rfl
 obtain ⟨i0, hi0, hzz⟩ := Option.map_eq_some_iff.1 hinfo
 simp only [Prod.mk.injEq] at hzz
 obtain ⟨hz0, hzs, hzb⟩ := hzz
 obtain ⟨z, hz, hzc⟩ := Option.map_eq_some_iff.1 hz0
 have hz1 : ¬ ((m : Int) = 0) := by omega
 have hz2 : ¬ ((i : Int) = (n : Int)) := by omega
 have hz3 : (c : Int) < (n : Int) + (m : Int) := by omega
 have hgw : g < w.heap.size := (Array.getElem?_eq_some_iff.1 hg).1
 have hvw : vb < w.heap.size := (Array.getElem?_eq_some_iff.1 hv).1
 have hkk : (n : Int) + (m : Int) - (i : Int) = ((n + m - i : Nat) : Int) := by omega
 have hik : i + (n + m - i) = n + m := by omega
 have hdl : ((cur.toList.take (n * 4)).drop (i * 4)).length = (n - i) * 4 := by simp only [List.length_drop, List.length_take, Array.length_toList, hcs]; rw [Nat.min_eq_left (by omega), Nat.sub_mul]
 have hcl : ∀ j v, (cur.toList.take (n * 4))[j]? = some v → w.cell? ⟨g, j, none⟩ = some v := fun j v h => by
  rw [List.getElem?_take] at h
  split at h
  ·simpa [World.cell?, hg] using h
  ·cases h
 have hcv : ∀ j v, (vcur.toList.take (m * 4))[j]? = some v → w.cell? ⟨vb, j, none⟩ = some v := fun j v h => by
  rw [List.getElem?_take] at h
  split at h
  ·simpa [World.cell?, hv] using h
  ·cases h
 have hold : (Builtin.firstCells i0.size i (.slice (some ⟨g, 0, none⟩) i c)).run Tryz.prog w.drew = .ok (cur.toList.take (i * 4)).toArray w.drew := by
  rw [hzs]
  exact run_firstCells_some w.drew 4 i ⟨g, 0, none⟩ i c (cur.toList.take (i * 4)) (by simp only [List.length_take, Array.length_toList, hcs]; omega) (fun j v hj => by
   rw [Addr.add_lit, Nat.zero_add]
   refine hcl j v ?_
   rw [List.getElem?_take] at hj ⊢
   split at hj
   ·rw [if_pos (by omega)]; exact hj
   ·cases hj)
 have hrz : ∀ ty, (Builtin.append_ #[27, 3] ty #[.slice (some ⟨g, 0, none⟩) i c, .int .i64 ((n : Int) + (m : Int) - (i : Int))]).run Tryz.prog w =
   .ok (.slice (some ⟨w.heap.size, 0, none⟩) (n + m) (grownCap w (n + m) c 32)) (w.drew.alloc (.cells ((cur.toList.take (i * 4)).toArray ++ Builtin.zeroCells z.cells (n + m - i) ++ Builtin.zeroCells z.cells (grownCap w (n + m) c 32 - (n + m))) 32)) := fun ty => by
  have h := Lib.run_append_grow_zeros w 27 3 ty 32 i0 z .i64 .i64 t33 t3 hi0 hz (some ⟨g, 0, none⟩) i c (cur.toList.take (i * 4)) hold (n + m - i) (by omega) (by omega) (by omega) (by omega) (by rw [hzb]; omega) (by rw [hzb, hik]; exact growslice_fits hroom hbig)
  rw [hik] at h
  rw [hkk]
  exact h
 obtain ⟨G, hG⟩ : ∃ G, G = grownCap w (n + m) c 32 := ⟨_, rfl⟩
 obtain ⟨ROW, hROW⟩ : ∃ ROW : Array Value, ROW = (cur.toList.take (i * 4)).toArray ++ Builtin.zeroCells z.cells (n + m - i) ++ Builtin.zeroCells z.cells (G - (n + m)) := ⟨_, rfl⟩
 rw [← hG] at hrz
 rw [← hROW] at hrz
 have hGn : n + m ≤ G := by rw [hG]; exact grownCap_ge w _ _ _
 have hGm : G ≤ maxLen := by rw [hG]; exact grownCap_le_maxLen w (n + m) c 32 (by unfold maxLen; omega)
 have hG63 : G ≤ 9223372036854775807 := by unfold maxLen at hGm; omega
 have hRl : ROW.size = G * 4 := by
  rw [hROW]
  simp only [Array.size_append, List.size_toArray, size_zeroCells, hzc, List.length_take, Array.length_toList, hcs]
  omega
 have hRt : ROW.toList.take (i * 4) = cur.toList.take (i * 4) := by
  rw [hROW]
  simp only [Array.toList_append, List.append_assoc]
  have : i * 4 = (cur.toList.take (i * 4)).length := by simp only [List.length_take, Array.length_toList, hcs]; omega
  exact List.take_left' this.symm
 refine ⟨G, ROW, w.drew.alloc (.cells ROW 32), hGm, hGn, hRl, hRt, rfl, rfl, rfl, rfl, ?_⟩
 obtain ⟨W1, hW1⟩ : ∃ W1, W1 = w.drew.alloc (.cells ROW 32) := ⟨_, rfl⟩
 rw [← hW1] at hrz ⊢
 have hNew : W1.heap[w.heap.size]? = some (.cells ROW 32 (0, 0)) := by rw [hW1]; exact heap_alloc_new w.drew _
 have hOld : ∀ b, b < w.heap.size → W1.heap[b]? = w.heap[b]? := fun b hb => by rw [hW1]; exact RowKit.Below.heap_alloc w.drew _ b hb
 have hos : W1.os = w.os ∧ W1.tape = w.tape ∧ W1.output = w.output := by rw [hW1]; exact ⟨rfl, rfl, rfl⟩
 have hgN : g ≠ w.heap.size := by omega
 have hvN : vb ≠ w.heap.size := by omega
 have hcpA : ∀ (W : World), W.heap = W1.heap → ∀ ty dc, (Builtin.copy_ #[27, 27] ty #[.slice (some ⟨w.heap.size, i * 4, none⟩) (n + m - i) dc, .slice (some ⟨vb, 0, none⟩) m vc]).run Tryz.prog W =
   .ok (goInt (Nat.min m (n + m - i))) (W.setRow w.heap.size (splice ROW.toList (i * 4) (vcur.toList.take (m * 4))).toArray) := fun W hW ty dc =>
  jqF W _ _ ty 32 4 w.heap.size (i * 4) (n + m - i) dc ⟨vb, 0, none⟩ m vc ROW 32 _ t33 hsz (by rw [hW]; exact hNew)
   (by simp only [List.length_take, Array.length_toList, Nat.min_def]; split <;> split <;> omega)
   (fun j v hj => by
    have := hcv j v hj
    rw [Addr.add_lit, Nat.zero_add]
    unfold World.cell? at this ⊢
    rw [hW, show W1.heap[vb]? = w.heap[vb]? from hOld vb hvw]; exact this) (by simp only [List.length_take, Array.length_toList]; omega) h1v
 obtain ⟨R2, hR2⟩ : ∃ R2, R2 = (splice ROW.toList (i * 4) (vcur.toList.take (m * 4))).toArray := ⟨_, rfl⟩
 have hE : W1.setRow w.heap.size (splice (splice ROW.toList (i * 4) (vcur.toList.take (m * 4))) ((i + m) * 4) ((cur.toList.take (n * 4)).drop (i * 4))).toArray =
   (W1.setRow w.heap.size R2).setRow w.heap.size (splice R2.toList ((i + m) * 4) ((cur.toList.take (n * 4)).drop (i * 4))).toArray := by rw [setRow_setRow, hR2]
 rw [hE]
 have hR2s : R2.size = G * 4 := by rw [hR2]; simp only [splice, List.size_toArray, List.length_append, List.length_drop, List.length_take, Array.length_toList, hRl]; omega
 rw [← hR2] at hcpA
 clear hE hR2
 have hcpB : ∀ (W : World), W.heap = (W1.setRow w.heap.size R2).heap → ∀ ty dc sc, (Builtin.copy_ #[27, 27] ty #[.slice (some ⟨w.heap.size, (i + m) * 4, none⟩) (n + m - (i + m)) dc, .slice (some ⟨g, i * 4, none⟩) (n - i) sc]).run Tryz.prog W =
   .ok (goInt (Nat.min (n - i) (n + m - (i + m)))) (W.setRow w.heap.size (splice R2.toList ((i + m) * 4) ((cur.toList.take (n * 4)).drop (i * 4))).toArray) := fun W hW ty dc sc =>
  jqF W _ _ ty 32 4 w.heap.size ((i + m) * 4) (n + m - (i + m)) dc ⟨g, i * 4, none⟩ (n - i) sc R2 32 _ t33 hsz (by rw [hW]; exact setRow_heap W1 w.heap.size ROW R2 32 (0, 0) hNew)
   (by rw [hdl]; simp only [Nat.min_def]; split <;> omega)
   (fun j v hj => by
    have := hcl (i * 4 + j) v (by rwa [List.getElem?_drop] at hj)
    rw [Addr.add_lit]
    unfold World.cell? at this ⊢
    rw [hW, show (W1.setRow w.heap.size R2).heap[g]? = w.heap[g]? from (setRow_other W1 w.heap.size g R2 hgN).trans (hOld g hgw)]; exact this) (by rw [hdl, hR2s]; omega) (fun v hv => h1c v (List.mem_of_mem_drop hv))
 have hGi : ¬ (G = i) := by omega
 have hGim : ¬ (G = i + m) := by omega
 have hci : ¬ (c = i) := by omega
 have hw1 : IntKind.i64.wrap ((i : Int) + (m : Int)) = (i : Int) + (m : Int) := by rw [IntKind.wrap_i64]; omega
 have hb1 : (0 : Int) ≤ (i : Int) + (m : Int) := by omega
 have hin : i ≤ n := by omega
 have htn : ((i : Int) + (m : Int)).toNat = i + m := by omega
 have hb3 : (i : Int) ≤ (n : Int) := by omega
 clear hkk hik hold hROW hG hRl hW1
 go_enter Tryz.func146, Tryz.ntmps146
 go_wp2_with (first
  | (at_builtin; refine jqg _ rfl _ _ 27 3 rfl _ _ rfl rfl (hrz _) ?_)
  | (at_builtin; refine jxi _ rfl _ _ 27 27 rfl _ _ rfl rfl (hcpA _ rfl _ _) ?_))
 go_region_law (refine jzr rfl _ _ 27 27 rfl (.slice (some ⟨w.heap.size, (i + m) * 4, none⟩) (n + m - (i + m)) (G - (i + m))) (.slice (some ⟨g, i * 4, none⟩) (n - i) (c - i)) (by simp [Act.eval, Act.put]) (by simp [Act.eval, Act.put]) (hcpB (W1.setRow w.heap.size R2).drew rfl 3 (G - (i + m)) (c - i)) ?_)
 go_wp2
 go_ret
 exact ⟨rfl, hos.1, hos.2.1, hos.2.2, rfl⟩
noncomputable def SH146 : jjG := insSumm .entry 48
theorem zH146 (h : ∀ T, (tt T).ok Tryz.prog T) : jja Tryz.prog 146 SH146 := insert_ok (t := .entry) (bt := 48) rfl (by decide) (T := 27) (e := 32) ⟨ins_none0, ins_none1, ins_end0, ins_end1, ins_shift, ins_grow⟩ (fun vs w => enters_of Tryz.func146 (by kernel_rfl) rfl _ _) (by kernel_rfl) (by kernel_rfl)
noncomputable def c91 : Ctx := { tt := tt, fs := fun n => match n with | 22 => some S22 | 53 => some S53 | 145 => some S145 | 146 => some SH146 | _ => none, gv := fun n => match n with | 146 => true | _ => false }
theorem k91 (h : ∀ T, (tt T).ok Tryz.prog T) (h22 : jja Tryz.prog 22 S22) (h53 : jja Tryz.prog 53 S53) (h145 : jja Tryz.prog 145 S145) (hH146 : jja Tryz.prog 146 SH146) : CtxGood Tryz.prog c91 := ⟨⟨h⟩, fun g S hg => (by
 simp only [c91] at hg
 split at hg
 ·cases hg; exact h22
 ·cases hg; exact h53
 ·cases hg; exact h145
 ·cases hg; exact hH146
 ·cases hg), jjq, fun _ _ h => (by cases h), fun _ h => (by cases h)⟩
noncomputable def b91 : Code := jjh Tryz.f91
@[reducible] noncomputable def s91_12 : Shape := ⟨[(0, .lf (.d (.sl .entry))), (1, .lf (.d (.sl .entry)))], [], 59⟩
@[reducible] noncomputable def t91_12 : List OSh := [(.norm, ⟨[(0, .lf (.d (.sl .entry))), (1, .lf (.d (.sl .entry))), (18, .lf (.d (.bool)))], [], 59⟩)]
noncomputable def g91_12 (y : s91_12.Y) : Option (YS t91_12) :=
(f22 ((y.1.1, ()), ())).bind fun r1835 =>
 bif (!(!r1835.1.1)) then
(f22 ((y.1.2.1, ()), ())).bind fun r1836 =>
 some (((y.1.1, (y.1.2.1, ((!r1836.1.1), ()))), ()))
else
 some (((y.1.1, (y.1.2.1, (true, ()))), ()))
theorem r91_12 : ∀ y, g91_12 y = jjM (jjd c91 []) (jjc b91 1 12) 12 s91_12 t91_12 y := fun y => by kernel_rfl
theorem q91_12 (H : CtxGood Tryz.prog c91) : jjn Tryz.prog (jjc b91 1 12) (jjb s91_12 t91_12 g91_12) :=
 jjv (fr := []) H (by kernel_rfl) jje r91_12
@[reducible] noncomputable def s91_250678 : Shape := ⟨[(6, .lf (.own 3000384)), (8, .lf (.ptr 8 0)), (9, .lf (.d (.int .i64))), (21, .lf (.d (.sl .entry))), (22, .lf (.d (.int .i64))), (23, .lf (.d (.int .i64)))], [(3000384, .row .entry, .slot 6 0), (8, .box [.d (.str), .d (.int .i64), .d (.int .i64), .d (.str)], .same)], 59⟩
@[reducible] noncomputable def jxY : List OSh := [(.norm, ⟨[(6, .lf (.own 3000384)), (21, .lf (.d (.sl .entry))), (22, .lf (.d (.int .i64))), (23, .lf (.d (.int .i64))), (42, .lf (.d (.bool))), (43, .lf (.ptr 8 1)), (44, .lf (.d (.int .i64))), (45, .lf (.d (.bool))), (46, .lf (.d (.bool))), (53, .lf (.d (.bool)))], [(3000384, .row .entry, .slot 6 0), (8, .box [.d (.str), .d (.int .i64), .d (.int .i64), .d (.str)], .same)], 59⟩)]
noncomputable def jxv (y : s91_250678.Y) : Option (YS jxY) :=
 bif (y.2.2.1.2.1 != (1 : Int)) then
 some ((((), (y.1.2.2.2.1, (y.1.2.2.2.2.1, (y.1.2.2.2.2.2.1, (true, ((), (y.2.2.1.2.1, ((y.2.2.1.2.1 != (1 : Int)), (true, (true, ())))))))))), (y.2.1, ((y.2.2.1.1, (y.2.2.1.2.1, (y.2.2.1.2.2.1, (y.2.2.1.2.2.2.1, ())))), ()))))
else
(inb y.2.1.length y.1.2.2.1).bind fun x1861 =>
(y.2.1[x1861]?).bind fun x1862 =>
 some ((((), (y.1.2.2.2.1, (y.1.2.2.2.2.1, (y.1.2.2.2.2.2.1, ((!((x1862.path == y.2.2.1.1) && ((x1862.kind == y.2.2.1.2.1) && ((x1862.mode == y.2.2.1.2.2.1) && (x1862.text == y.2.2.1.2.2.2.1))))), ((), (y.2.2.1.2.1, ((y.2.2.1.2.1 != (1 : Int)), (false, ((!((x1862.path == y.2.2.1.1) && ((x1862.kind == y.2.2.1.2.1) && ((x1862.mode == y.2.2.1.2.2.1) && (x1862.text == y.2.2.1.2.2.2.1))))), ())))))))))), (y.2.1, ((y.2.2.1.1, (y.2.2.1.2.1, (y.2.2.1.2.2.1, (y.2.2.1.2.2.2.1, ())))), ()))))
theorem r91_250678 : ∀ y, jxv y = jjM (jjd c91 []) (jjc (jjl (jjc b91 1 122)) 244 250678) 250678 s91_250678 jxY y := fun y => by kernel_rfl
theorem q91_250678 (H : CtxGood Tryz.prog c91) : jjn Tryz.prog (jjc (jjl (jjc b91 1 122)) 244 250678) (jjb s91_250678 jxY jxv) :=
 jjv (fr := []) H (by kernel_rfl) jje r91_250678
@[reducible] noncomputable def s91_122 : Shape := ⟨[(6, .lf (.own 3000384)), (21, .lf (.d (.sl .entry))), (22, .lf (.d (.int .i64))), (23, .lf (.d (.int .i64)))], [(3000384, .row .entry, .slot 6 0)], 59⟩
@[reducible] noncomputable def jxT : List OSh := [(.ret, ⟨[(4, .lf (.own 3000256)), (5, .lf (.d (.bool)))], [(3000256, .row .entry, .slot 4 0)], 59⟩), (.exit 0, ⟨[(6, .lf (.own 3000384))], [(3000384, .row .entry, .slot 6 0)], 59⟩)]
noncomputable def g91_122 (y : s91_122.Y) : Option (Sum s91_122.Y (YS jxT)) :=
 bif (decide (y.1.2.2.2.1 < y.1.2.2.1)) then
(ix y.1.2.1 y.1.2.2.2.1).bind fun x1865 =>
(f53 ((y.2.1, (x1865.path, ())), ())).bind fun r1867 =>
 bif (!r1867.1.2.1) then
(insL 48 y.2.1 r1867.1.1 ([x1865] : List Entry)).bind fun r1868 =>
 some (.inl (((), (y.1.2.1, (y.1.2.2.1, ((IntKind.i64.wrap (y.1.2.2.2.1 + (1 : Int))), ())))), (r1868, ())))
else
(jxv (((), ((), (r1867.1.1, (y.1.2.1, (y.1.2.2.1, (y.1.2.2.2.1, ())))))), (y.2.1, ((x1865.path, (x1865.kind, (x1865.mode, (x1865.text, ())))), ())))).bind fun r1869 =>
 bif r1869.1.2.2.2.2.1 then
 some (.inr (.inl (((), (false, ())), (([] : List Entry), ()))))
else
 some (.inl (((), (r1869.1.2.1, (r1869.1.2.2.1, ((IntKind.i64.wrap (r1869.1.2.2.2.1 + (1 : Int))), ())))), (r1869.2.1, ())))
else
 some (.inr (.inr (((), ()), (y.2.1, ()))))
theorem r91_122 : ∀ y, g91_122 y = jjz (jjd c91 [(250678, jjb s91_250678 jxY jxv)]) (jjl (jjc b91 1 122)) 122 s91_122 jxT y := fun y => by kernel_rfl
noncomputable def l91_122 : s91_122.Y → Option (YS jxT) := jjD g91_122
theorem q91_122 (H : CtxGood Tryz.prog c91) : jjn Tryz.prog (jjc b91 1 122) (jjb s91_122 jxT l91_122) :=
 jjt (fr := [(250678, jjb s91_250678 jxY jxv)]) H (by kernel_rfl) (by kernel_rfl) ⟨q91_250678 H, trivial⟩ (fun y => jji r91_122 y)
@[reducible] noncomputable def i91 : Shape := ⟨[(0, .lf (.d (.sl .entry))), (1, .lf (.d (.sl .entry)))], [], 59⟩
@[reducible] noncomputable def o91 : Shape := ⟨[(4, .lf (.own 3000256)), (5, .lf (.d (.bool)))], [(3000256, .row .entry, .slot 4 0)], 59⟩
noncomputable def f91 (a : i91.Y) : Option o91.Y :=
(g91_12 ((a.1.1, (a.1.2.1, ())), ())).bind fun r1844 =>
 bif r1844.1.2.2.1 then
 some (((), (false, ())), (([] : List Entry), ()))
else
(f145 ((r1844.1.1, ()), ())).bind fun r1846 =>
(l91_122 (((), (r1844.1.2.1, ((r1844.1.2.1.length : Int), ((0 : Int), ())))), (r1846.2.1, ()))).bind fun r1873 =>
(match r1873 with
| .inl r1874 =>
 some (((), (r1874.1.2.1, ())), (r1874.2.1, ()))
| .inr r1875 =>
(f22 ((r1875.2.1, ()), ())).bind fun r1879 =>
 bif (!r1879.1.1) then
 some (((), (false, ())), (([] : List Entry), ()))
else
 some (((), (true, ())), (r1875.2.1, ())))
theorem e91 : ∀ a, f91 a = jjp (jjd c91 [(12, jjb s91_12 t91_12 g91_12), (122, jjb s91_122 jxT l91_122)]) b91 i91 o91 a := fun a => by kernel_rfl
noncomputable def S91 : jjG := jjf tt 59 i91 o91 [.tmp 4, .tmp 5] [] f91
theorem z91 (h : ∀ T, (tt T).ok Tryz.prog T) (h22 : jja Tryz.prog 22 S22) (h53 : jja Tryz.prog 53 S53) (h145 : jja Tryz.prog 145 S145) (hH146 : jja Tryz.prog 146 SH146) : jja Tryz.prog 91 S91 :=
 have H := k91 h h22 h53 h145 hH146
 jjj (fn := Tryz.f91) (fr := [(12, jjb s91_12 t91_12 g91_12), (122, jjb s91_122 jxT l91_122)]) H (by kernel_rfl) (by kernel_rfl) (by kernel_rfl) (by kernel_rfl) (by kernel_rfl) ⟨q91_12 H, q91_122 H, trivial⟩ (by kernel_rfl) (fun y => ⟨_, _, rfl, rfl, rfl⟩) e91
noncomputable def c49 : Ctx := { tt := tt, fs := fun n => match n with | 91 => some S91 | _ => none }
theorem k49 (h : ∀ T, (tt T).ok Tryz.prog T) (h91 : jja Tryz.prog 91 S91) : CtxGood Tryz.prog c49 := ⟨⟨h⟩, fun g S hg => (by
 simp only [c49] at hg
 split at hg
 ·cases hg; exact h91
 ·cases hg), jjq, fun _ _ h => (by cases h), fun _ h => (by cases h)⟩
noncomputable def b49 : Code := jjh Tryz.f49
@[reducible] noncomputable def s49_58 : Shape := ⟨[(4, .lf (.own 3000256)), (9, .lf (.d (.sl .pack))), (10, .lf (.d (.int .i64))), (11, .lf (.d (.int .i64)))], [(3000256, .row .entry, .slot 4 0)], 27⟩
@[reducible] noncomputable def jJ4 : List OSh := [(.ret, ⟨[(2, .lf (.own 3000128)), (3, .lf (.d (.bool)))], [(3000128, .row .entry, .slot 2 0)], 27⟩), (.exit 0, ⟨[(4, .lf (.own 3000256))], [(3000256, .row .entry, .slot 4 0)], 27⟩)]
noncomputable def g49_58 (y : s49_58.Y) : Option (Sum s49_58.Y (YS jJ4)) :=
 bif (decide (y.1.2.2.2.1 < y.1.2.2.1)) then
(ix y.1.2.1 y.1.2.2.2.1).bind fun x1883 =>
(f91 ((y.2.1, (x1883.tree, ())), ())).bind fun r1885 =>
 bif (!r1885.1.2.1) then
 some (.inr (.inl (((), (false, ())), (([] : List Entry), ()))))
else
 some (.inl (((), (y.1.2.1, (y.1.2.2.1, ((IntKind.i64.wrap (y.1.2.2.2.1 + (1 : Int))), ())))), (r1885.2.1, ())))
else
 some (.inr (.inr (((), ()), (y.2.1, ()))))
theorem r49_58 : ∀ y, g49_58 y = jjz (jjd c49 []) (jjl (jjc b49 1 58)) 58 s49_58 jJ4 y := fun y => by kernel_rfl
noncomputable def l49_58 : s49_58.Y → Option (YS jJ4) := jjD g49_58
theorem q49_58 (H : CtxGood Tryz.prog c49) : jjn Tryz.prog (jjc b49 1 58) (jjb s49_58 jJ4 l49_58) :=
 jjt (fr := []) H (by kernel_rfl) (by kernel_rfl) jje (fun y => jji r49_58 y)
@[reducible] noncomputable def i49 : Shape := ⟨[(0, .lf (.d (.sl .pack)))], [], 27⟩
@[reducible] noncomputable def o49 : Shape := ⟨[(2, .lf (.own 3000128)), (3, .lf (.d (.bool)))], [(3000128, .row .entry, .slot 2 0)], 27⟩
noncomputable def f49 (a : i49.Y) : Option o49.Y :=
(l49_58 (((), (a.1.1, ((a.1.1.length : Int), ((0 : Int), ())))), (([] : List Entry), ()))).bind fun r1895 =>
(match r1895 with
| .inl r1896 =>
 some (((), (r1896.1.2.1, ())), (r1896.2.1, ()))
| .inr r1897 =>
 some (((), (true, ())), (r1897.2.1, ())))
theorem e49 : ∀ a, f49 a = jjp (jjd c49 [(58, jjb s49_58 jJ4 l49_58)]) b49 i49 o49 a := fun a => by kernel_rfl
noncomputable def S49 : jjG := jjf tt 27 i49 o49 [.tmp 2, .tmp 3] [] f49
theorem z49 (h : ∀ T, (tt T).ok Tryz.prog T) (h91 : jja Tryz.prog 91 S91) : jja Tryz.prog 49 S49 :=
 have H := k49 h h91
 jjj (fn := Tryz.f49) (fr := [(58, jjb s49_58 jJ4 l49_58)]) H (by kernel_rfl) (by kernel_rfl) (by kernel_rfl) (by kernel_rfl) (by kernel_rfl) ⟨q49_58 H, trivial⟩ (by kernel_rfl) (fun y => ⟨_, _, rfl, rfl, rfl⟩) e49
noncomputable def c50 : Ctx := { tt := tt, fs := fun n => match n with | 92 => some S92 | _ => none }
theorem k50 (h : ∀ T, (tt T).ok Tryz.prog T) (h92 : jja Tryz.prog 92 S92) : CtxGood Tryz.prog c50 := ⟨⟨h⟩, fun g S hg => (by
 simp only [c50] at hg
 split at hg
 ·cases hg; exact h92
 ·cases hg), jjq, fun _ _ h => (by cases h), fun _ h => (by cases h)⟩
noncomputable def b50 : Code := jjh Tryz.f50
@[reducible] noncomputable def s50_58 : Shape := ⟨[(0, .lf (.d (.sl .pack))), (4, .lf (.own 3000256)), (5, .lf (.d (.int .i64)))], [(3000256, .row .entry, .slot 4 0)], 30⟩
@[reducible] noncomputable def jJ3 : List OSh := [(.ret, ⟨[(2, .lf (.own 3000128)), (3, .lf (.d (.bool)))], [(3000128, .row .entry, .slot 2 0)], 30⟩), (.exit 0, ⟨[(4, .lf (.own 3000256))], [(3000256, .row .entry, .slot 4 0)], 30⟩)]
noncomputable def g50_58 (y : s50_58.Y) : Option (Sum s50_58.Y (YS jJ3)) :=
 bif (decide (y.1.2.2.1 < (y.1.1.length : Int))) then
(ix y.1.1 y.1.2.2.1).bind fun x1032 =>
(f92 ((y.2.1, (x1032.tree, ())), ())).bind fun r1033 =>
 bif (!r1033.1.2.1) then
 some (.inr (.inl (((), (false, ())), (([] : List Entry), ()))))
else
 some (.inl ((y.1.1, ((), ((IntKind.i64.wrap (y.1.2.2.1 + (1 : Int))), ()))), (r1033.2.1, ())))
else
 some (.inr (.inr (((), ()), (y.2.1, ()))))
theorem r50_58 : ∀ y, g50_58 y = jjz (jjd c50 []) (jjl (jjc b50 1 58)) 58 s50_58 jJ3 y := fun y => by kernel_rfl
noncomputable def l50_58 : s50_58.Y → Option (YS jJ3) := jjD g50_58
theorem q50_58 (H : CtxGood Tryz.prog c50) : jjn Tryz.prog (jjc b50 1 58) (jjb s50_58 jJ3 l50_58) :=
 jjt (fr := []) H (by kernel_rfl) (by kernel_rfl) jje (fun y => jji r50_58 y)
@[reducible] noncomputable def i50 : Shape := ⟨[(0, .lf (.d (.sl .pack)))], [], 30⟩
@[reducible] noncomputable def o50 : Shape := ⟨[(2, .lf (.own 3000128)), (3, .lf (.d (.bool)))], [(3000128, .row .entry, .slot 2 0)], 30⟩
noncomputable def f50 (a : i50.Y) : Option o50.Y :=
(l50_58 ((a.1.1, ((), ((0 : Int), ()))), (([] : List Entry), ()))).bind fun r1043 =>
(match r1043 with
| .inl r1044 =>
 some (((), (r1044.1.2.1, ())), (r1044.2.1, ()))
| .inr r1045 =>
 some (((), (true, ())), (r1045.2.1, ())))
theorem e50 : ∀ a, f50 a = jjp (jjd c50 [(58, jjb s50_58 jJ3 l50_58)]) b50 i50 o50 a := fun a => by kernel_rfl
noncomputable def S50 : jjG := jjf tt 30 i50 o50 [.tmp 2, .tmp 3] [] f50
theorem z50 (h : ∀ T, (tt T).ok Tryz.prog T) (h92 : jja Tryz.prog 92 S92) : jja Tryz.prog 50 S50 :=
 have H := k50 h h92
 jjj (fn := Tryz.f50) (fr := [(58, jjb s50_58 jJ3 l50_58)]) H (by kernel_rfl) (by kernel_rfl) (by kernel_rfl) (by kernel_rfl) (by kernel_rfl) ⟨q50_58 H, trivial⟩ (by kernel_rfl) (fun y => ⟨_, _, rfl, rfl, rfl⟩) e50
theorem joinL_mem : ∀ (r : List Entry) (out o : List Entry), (∀ e, e ∈ r → BdE e) → (∀ e, e ∈ out → BdE e) → jq8 out r = some o → o.length ≤ out.length + r.length ∧ ∀ e, e ∈ o → BdE e := by
 intro r
 induction r with
 | nil => intro out o _ h2 h; cases h; exact ⟨Nat.le_refl _, h2⟩
 | cons e r ih =>
  intro out o h1 h2 h
  rw [jqH] at h
  obtain ⟨o1, h3, h4⟩ := Option.bind_eq_some_iff.1 h
  have h5 := ih o1 o (fun x hx => h1 x (List.mem_cons_of_mem _ hx)) (fun x hx => by
   rcases stepJ_mem h3 hx with rfl | h
   ·exact h1 x List.mem_cons_self
   ·exact h2 x h) h4
  have h6 := stepJ_len h3
  exact ⟨by simp only [List.length_cons]; omega, h5.2⟩
theorem jj5 {t : List Entry} (h : jjP t = true) : Asc t := by
 unfold jjP at h
 simp only [Bool.and_eq_true] at h
 exact asc_of h.1.1
theorem jxq {t : List Entry} (h : jjP t = true) : t.length ≤ 16 := by
 unfold jjP at h
 simp only [Bool.and_eq_true, decide_eq_true_eq] at h
 exact h.2
theorem v_CloneE (a) (hs : Bd a.1.1.length) : f145 a = some (((), ()), (a.1.1, ())) := by
 obtain ⟨⟨xs, u⟩, u'⟩ := a
 have hs : xs.length ≤ 2097152 := hs
 have h2 : (apd 48 ([] : List Entry) xs).bind (fun x => some (((), ()), (x, ()))) = (some (((), ()), (xs, ())) : Option o145.Y) := by
  rw [jqd (by decide) (by unfold Sm; simp only [List.length_nil]; omega)]; rfl
 simp only [f145]
 rw [h2]
 unfold jxj
 split
 ·rfl
 ·rename_i h
  exact absurd (fun he : xs = [] => by subst he; rfl) h
theorem v_TreeJoin (a) (ha : BdEs a.1.1) (hb : BdEs a.1.2.1) (h1 : jjP a.1.1 = true) (h2 : jjP a.1.2.1 = true) : f91 a =
  some (match jq8 a.1.1 a.1.2.1 with | some out => (bif jjP out then (((), (true, ())), (out, ())) else (((), (false, ())), (([] : List Entry), ()))) | none => (((), (false, ())), (([] : List Entry), ()))) := by
 obtain ⟨⟨xs, ys, u⟩, u'⟩ := a
 have h1 : jjP xs = true := h1
 have h2 : jjP ys = true := h2
 have hx16 := jxq h1
 have hy16 := jxq h2
 have e1 := v_iTreeOk ((xs, ()), ()) ha
 have e2 := v_iTreeOk ((ys, ()), ()) hb
 have e3 := v_CloneE ((xs, ()), ()) (show xs.length ≤ 2097152 by omega)
 have key : l91_122 (((), (ys, ((ys.length : Int), ((0 : Int), ())))), (xs, ())) = _ := jq3 g91_122 ys (fun i (out : List Entry) => (((), (ys, ((ys.length : Int), ((i : Int), ())))), (out, ())))
  (fun i e out => some (match jxC out e with | some o => .inl o | none => .inr ((.inl (((), (false, ())), (([] : List Entry), ()))) : YS jxT))) (fun out => ((.inr (((), ()), (out, ()))) : YS jxT))
  (fun i out => out.length ≤ xs.length + i ∧ Asc out) xs ⟨Nat.le_refl _, jj5 h1⟩ (fun i x out hx hI => ?_) (fun out _ => ?_)
 ·have fold : ∀ (r : List Entry) (k : Nat) (out : List Entry), jqC (fun i e out => some (match jxC out e with | some o => .inl o | none => .inr ((.inl (((), (false, ())), (([] : List Entry), ()))) : YS jxT))) (fun out => ((.inr (((), ()), (out, ()))) : YS jxT)) k r out =
    some (match jq8 out r with | some o => .inr (((), ()), (o, ())) | none => .inl (((), (false, ())), (([] : List Entry), ()))) := by
   intro r
   induction r with
   | nil => intro k out; rfl
   | cons e r ih =>
    intro k out
    rw [jqH]
    simp only [jqC]
    cases jxC out e with
    | none => rfl
    | some o => simp only [Option.bind_some]; exact ih _ _
  rw [fold] at key
  simp only [f91, g91_12, e1, e2, h1, h2, e3, Bool.not_true, Bool.not_false, cond_true, cond_false, Option.bind_some, key]
  cases hj : jq8 xs ys with
  | none => rfl
  | some o =>
   have hm := joinL_mem ys xs o hb.2 ha.2 hj
   simp only [Option.bind_some]
   rw [v_iTreeOk _ ⟨show o.length ≤ 2097152 by omega, hm.2⟩]
   simp only [Option.bind_some]
   cases jjP o <;> rfl
 ·have hi := jjy hx
  have hw : Sm i := by unfold Sm; omega
  refine ⟨?_, fun s' h' => ?_⟩
  ·have hat := v_findEntry ((out, (x.path, ())), ()) (show out.length ≤ 2097152 by omega) hI.2
   have hpl := jQb out x.path
   simp only [g91_122, jjB hi, cond_true, jju, hx, Option.bind_some, hat, jxm, jxC]
   have grow : insL 48 out (jj1 out x.path : Int) [x] = some (jJn out (jj1 out x.path) x) := by
    unfold insL
    rw [if_pos ⟨by omega, by omega, by unfold room; simp only [List.length_cons, List.length_nil]; omega, by unfold maxLen; simp only [List.length_cons, List.length_nil]; omega⟩, Int.toNat_natCast]
    rfl
   cases hq : out[jj1 out x.path]? with
   | none => simp only [Bool.not_false, cond_true, grow, Option.bind_some, jjk hw]; rfl
   | some q =>
    have hin := jzy (jjy hq)
    simp only
    cases hp : (q.path == x.path) with
    | false => simp only [Bool.not_false, cond_true, grow, Option.bind_some, jjk hw, cond_false]; rfl
    | true =>
     have hce : ((q.path == x.path) && ((q.kind == x.kind) && ((q.mode == x.mode) && (q.text == x.text)))) = eqE q x := rfl
     simp only [Bool.not_true, cond_false, cond_true, jxv, hin, hq, Option.bind_some, conf, eqE_comm x q]
     cases hk : (x.kind != 1) with
     | true => rfl
     | false =>
      have hce2 : (eqE q x) = ((q.path == x.path) && ((q.kind == x.kind) && ((q.mode == x.mode) && (q.text == x.text)))) := rfl
      rw [hce2]
      cases ((q.path == x.path) && ((q.kind == x.kind) && ((q.mode == x.mode) && (q.text == x.text)))) with
      | false => rfl
      | true => simp only [Bool.not_true, Bool.false_or, cond_false, Option.bind_some, jjk hw]; rfl
  ·simp only [Option.some.injEq] at h'
   cases hs : jxC out x with
   | none => rw [hs] at h'; cases h'
   | some o =>
    rw [hs] at h'
    cases h'
    have h6 := stepJ_len hs
    exact ⟨by omega, stepJ_asc hI.2 hs⟩
 ·simp only [g91_122, jjC, cond_false]
def jjX (out : List Entry) : List Pack → Option (List Entry)
 | [] => some out
 | p :: r => match jq8 out p.tree with
  | some o => bif jjP o then jjX o r else none
  | none => none
def jJ0 (out : List Entry) (p : Pack) : Option (List Entry) := match jq8 out p.tree with
 | some o => bif jjP o then some o else none
 | none => none
theorem jqV (out : List Entry) (p : Pack) (r : List Pack) : jjX out (p :: r) = (jJ0 out p).bind fun o => jjX o r := by
 unfold jJ0
 rw [jjX]
 cases jq8 out p.tree with
 | none => rfl
 | some o => simp only; cases jjP o <;> rfl
theorem stepT_ok {out o : List Entry} {p : Pack} (h : jJ0 out p = some o) : jjP o = true ∧ jq8 out p.tree = some o := by
 unfold jJ0 at h
 split at h
 ·rename_i o' ho
  cases ht : jjP o' with
  | true => rw [ht] at h; cases h; exact ⟨ht, ho⟩
  | false => rw [ht] at h; cases h
 ·cases h
theorem v_l9TreeV (a) (hb : BdPs a.1.1) (hk : a.1.1.all jxM = true) : f50 a = some (((), ((jjX [] a.1.1).isSome, ())), ((jjX [] a.1.1).getD [], ())) := by
 obtain ⟨⟨ps, u⟩, u'⟩ := a
 have hl : ps.length ≤ 2097152 := hb.1
 have htr : ∀ p, p ∈ ps → jjP p.tree = true ∧ BdEs p.tree := by
  intro p hp
  have := List.all_eq_true.1 hk p hp
  unfold jxM at this
  simp only [Bool.and_eq_true] at this
  exact ⟨this.2, (hb.2 p hp).2.2.2⟩
 have key : l50_58 ((ps, ((), ((0 : Int), ()))), (([] : List Entry), ())) = _ := jq3 g50_58 ps (fun i (out : List Entry) => ((ps, ((), ((i : Int), ()))), (out, ())))
  (fun i p out => some (match jJ0 out p with | some o => .inl o | none => .inr ((.inl (((), (false, ())), (([] : List Entry), ()))) : YS jJ3))) (fun out => ((.inr (((), ()), (out, ()))) : YS jJ3))
  (fun i out => out.length ≤ 16 ∧ ∀ e, e ∈ out → BdE e) [] ⟨Nat.zero_le _, fun e h => by cases h⟩ (fun i x out hx hI => ?_) (fun out _ => ?_)
 ·have fold : ∀ (r : List Pack) (k : Nat) (out : List Entry), jqC (fun i p out => some (match jJ0 out p with | some o => .inl o | none => .inr ((.inl (((), (false, ())), (([] : List Entry), ()))) : YS jJ3))) (fun out => ((.inr (((), ()), (out, ()))) : YS jJ3)) k r out =
    some (match jjX out r with | some o => .inr (((), ()), (o, ())) | none => .inl (((), (false, ())), (([] : List Entry), ()))) := by
   intro r
   induction r with
   | nil => intro k out; rfl
   | cons p r ih =>
    intro k out
    rw [jqV]
    simp only [jqC]
    cases jJ0 out p with
    | none => rfl
    | some o => simp only [Option.bind_some]; exact ih _ _
  rw [fold] at key
  simp only [f50, key, Option.bind_some]
  cases jjX [] ps with
  | none => rfl
  | some o => rfl
 ·have hi := jjy hx
  have hw : Sm i := by unfold Sm; omega
  obtain ⟨hto, hbe⟩ := htr x (List.mem_of_getElem? hx)
  have h16 := jxq hto
  have hO : BdEs out := ⟨show out.length ≤ 2097152 by omega, hI.2⟩
  refine ⟨?_, fun s' h' => ?_⟩
  ·have hj := v_l2Join ((out, (x.tree, ())), ()) hO hbe (show out.length + x.tree.length ≤ 2097152 by omega)
   simp only [g50_58, jjB hi, cond_true, jju, hx, Option.bind_some, hj, jJ0]
   cases jq8 out x.tree with
   | none => rfl
   | some o =>
    simp only
    cases jjP o with
    | false => rfl
    | true => simp only [Bool.not_true, cond_false, cond_true, jjk hw]; rfl
  ·simp only [Option.some.injEq] at h'
   cases hs : jJ0 out x with
   | none => rw [hs] at h'; cases h'
   | some o =>
    rw [hs] at h'
    cases h'
    obtain ⟨h5, h6⟩ := stepT_ok hs
    exact ⟨jxq h5, (joinL_mem _ _ _ hbe.2 hI.2 h6).2⟩
 ·simp only [g50_58, jjC, cond_false]
theorem v_l9Tree (a) (hb : BdPs a.1.1) (hk : a.1.1.all jxM = true) : ∃ out, f50 a = some (((), ((jjX [] a.1.1).isSome, ())), (out, ())) := ⟨_, v_l9TreeV a hb hk⟩
theorem v_joinTreesV (a) (hb : BdPs a.1.1) (hk : a.1.1.all jxM = true) : f49 a = some (((), ((jjX [] a.1.1).isSome, ())), ((jjX [] a.1.1).getD [], ())) := by
 obtain ⟨⟨ps, u⟩, u'⟩ := a
 have hl : ps.length ≤ 2097152 := hb.1
 have htr : ∀ p, p ∈ ps → jjP p.tree = true ∧ BdEs p.tree := by
  intro p hp
  have := List.all_eq_true.1 hk p hp
  unfold jxM at this
  simp only [Bool.and_eq_true] at this
  exact ⟨this.2, (hb.2 p hp).2.2.2⟩
 have key : l49_58 (((), (ps, ((ps.length : Int), ((0 : Int), ())))), (([] : List Entry), ())) = _ := jq3 g49_58 ps (fun i (out : List Entry) => (((), (ps, ((ps.length : Int), ((i : Int), ())))), (out, ())))
  (fun i p out => some (match jJ0 out p with | some o => .inl o | none => .inr ((.inl (((), (false, ())), (([] : List Entry), ()))) : YS jJ4))) (fun out => ((.inr (((), ()), (out, ()))) : YS jJ4))
  (fun i out => jjP out = true ∧ ∀ e, e ∈ out → BdE e) [] ⟨rfl, fun e h => by cases h⟩ (fun i x out hx hI => ?_) (fun out _ => ?_)
 ·have fold : ∀ (r : List Pack) (k : Nat) (out : List Entry), jqC (fun i p out => some (match jJ0 out p with | some o => .inl o | none => .inr ((.inl (((), (false, ())), (([] : List Entry), ()))) : YS jJ4))) (fun out => ((.inr (((), ()), (out, ()))) : YS jJ4)) k r out =
    some (match jjX out r with | some o => .inr (((), ()), (o, ())) | none => .inl (((), (false, ())), (([] : List Entry), ()))) := by
   intro r
   induction r with
   | nil => intro k out; rfl
   | cons p r ih =>
    intro k out
    rw [jqV]
    simp only [jqC]
    cases jJ0 out p with
    | none => rfl
    | some o => simp only [Option.bind_some]; exact ih _ _
  rw [fold] at key
  simp only [f49, key, Option.bind_some]
  cases jjX [] ps with
  | none => rfl
  | some o => rfl
 ·have hi := jjy hx
  have hw : Sm i := by unfold Sm; omega
  obtain ⟨hto, hbe⟩ := htr x (List.mem_of_getElem? hx)
  have h16 := jxq hI.1
  have hO : BdEs out := ⟨show out.length ≤ 2097152 by omega, hI.2⟩
  refine ⟨?_, fun s' h' => ?_⟩
  ·have hj := v_TreeJoin ((out, (x.tree, ())), ()) hO hbe hI.1 hto
   simp only [g49_58, jjB hi, cond_true, jju, hx, Option.bind_some, hj, jJ0]
   cases jq8 out x.tree with
   | none => rfl
   | some o =>
    simp only
    cases jjP o with
    | false => rfl
    | true => simp only [Bool.not_true, cond_false, cond_true, jjk hw]; rfl
  ·simp only [Option.some.injEq] at h'
   cases hs : jJ0 out x with
   | none => rw [hs] at h'; cases h'
   | some o =>
    rw [hs] at h'
    cases h'
    obtain ⟨h5, h6⟩ := stepT_ok hs
    exact ⟨h5, (joinL_mem _ _ _ hbe.2 hI.2 h6).2⟩
 ·simp only [g49_58, jjC, cond_false]
theorem v_joinTrees (a) (hb : BdPs a.1.1) (hk : a.1.1.all jxM = true) : ∃ out, f49 a = some (((), ((jjX [] a.1.1).isSome, ())), (out, ())) := ⟨_, v_joinTreesV a hb hk⟩
noncomputable def c228 : Ctx := { tt := tt, fs := fun n => match n with | _ => none }
theorem k228 (h : ∀ T, (tt T).ok Tryz.prog T) : CtxGood Tryz.prog c228 := ⟨⟨h⟩, fun g S hg => (by cases hg), jjq, fun _ _ h => (by cases h), fun _ h => (by cases h)⟩
noncomputable def b228 : Code := jjh Tryz.f228
@[reducible] noncomputable def i228 : Shape := ⟨[(0, .lf (.d (.int .i64)))], [], 6⟩
@[reducible] noncomputable def o228 : Shape := ⟨[(2, .lf (.d (.bool)))], [], 6⟩
noncomputable def f228 (a : i228.Y) : Option o228.Y :=
 some (((a.1.1 != a.1.1), ()), ())
theorem e228 : ∀ a, f228 a = jjp (jjd c228 []) b228 i228 o228 a := fun a => by kernel_rfl
noncomputable def S228 : jjG := jjf tt 6 i228 o228 [.tmp 2] [] f228
theorem z228 (h : ∀ T, (tt T).ok Tryz.prog T) : jja Tryz.prog 228 S228 :=
 have H := k228 h
 jjj (fn := Tryz.f228) (fr := []) H (by kernel_rfl) (by kernel_rfl) (by kernel_rfl) (by kernel_rfl) (by kernel_rfl) jje (by kernel_rfl) (fun y => ⟨_, _, rfl, rfl, rfl⟩) e228
noncomputable def c207 : Ctx := { tt := tt, fs := fun n => match n with | 228 => some S228 | _ => none }
theorem k207 (h : ∀ T, (tt T).ok Tryz.prog T) (h228 : jja Tryz.prog 228 S228) : CtxGood Tryz.prog c207 := ⟨⟨h⟩, fun g S hg => (by
 simp only [c207] at hg
 split at hg
 ·cases hg; exact h228
 ·cases hg), jjq, fun _ _ h => (by cases h), fun _ h => (by cases h)⟩
noncomputable def b207 : Code := jjh Tryz.f207
@[reducible] noncomputable def i207 : Shape := ⟨[(0, .lf (.d (.int .i64))), (1, .lf (.d (.int .i64)))], [], 20⟩
@[reducible] noncomputable def o207 : Shape := ⟨[(4, .lf (.d (.int .i64)))], [], 20⟩
noncomputable def f207 (a : i207.Y) : Option o207.Y :=
(f228 ((a.1.1, ()), ())).bind fun r1747 =>
(f228 ((a.1.2.1, ()), ())).bind fun r1749 =>
 bif r1747.1.1 then
 bif r1749.1.1 then
 some (((0 : Int), ()), ())
else
 some ((((-1) : Int), ()), ())
else
 bif r1749.1.1 then
 some (((1 : Int), ()), ())
else
 bif (decide (a.1.1 < a.1.2.1)) then
 some ((((-1) : Int), ()), ())
else
 bif (decide (a.1.1 > a.1.2.1)) then
 some (((1 : Int), ()), ())
else
 some (((0 : Int), ()), ())
theorem e207 : ∀ a, f207 a = jjp (jjd c207 []) b207 i207 o207 a := fun a => by kernel_rfl
noncomputable def S207 : jjG := jjf tt 20 i207 o207 [.tmp 4] [] f207
theorem z207 (h : ∀ T, (tt T).ok Tryz.prog T) (h228 : jja Tryz.prog 228 S228) : jja Tryz.prog 207 S207 :=
 have H := k207 h h228
 jjj (fn := Tryz.f207) (fr := []) H (by kernel_rfl) (by kernel_rfl) (by kernel_rfl) (by kernel_rfl) (by kernel_rfl) jje (by kernel_rfl) (fun y => ⟨_, _, rfl, rfl, rfl⟩) e207
noncomputable def c172 : Ctx := { tt := tt, fs := fun n => match n with | 207 => some S207 | _ => none }
theorem k172 (h : ∀ T, (tt T).ok Tryz.prog T) (h207 : jja Tryz.prog 207 S207) : CtxGood Tryz.prog c172 := ⟨⟨h⟩, fun g S hg => (by
 simp only [c172] at hg
 split at hg
 ·cases hg; exact h207
 ·cases hg), jjq, fun _ _ h => (by cases h), fun _ h => (by cases h)⟩
noncomputable def b172 : Code := jjh Tryz.f172
@[reducible] noncomputable def s172_26 : Shape := ⟨[(0, .lf (.d (.sl .i64))), (1, .lf (.d (.sl .i64))), (9, .lf (.d (.sl .i64))), (10, .lf (.d (.int .i64))), (11, .lf (.d (.int .i64)))], [], 36⟩
@[reducible] noncomputable def t172_26 : List OSh := [(.ret, ⟨[(4, .lf (.d (.int .i64)))], [], 36⟩), (.exit 0, ⟨[(0, .lf (.d (.sl .i64))), (1, .lf (.d (.sl .i64)))], [], 36⟩)]
noncomputable def g172_26 (y : s172_26.Y) : Option (Sum s172_26.Y (YS t172_26)) :=
 bif (decide (y.1.2.2.2.2.1 < y.1.2.2.2.1)) then
(ix y.1.2.2.1 y.1.2.2.2.2.1).bind fun x1753 =>
 bif (decide (y.1.2.2.2.2.1 ≥ (y.1.2.1.length : Int))) then
 some (.inr (.inl (((1 : Int), ()), ())))
else
(ix y.1.2.1 y.1.2.2.2.2.1).bind fun x1755 =>
(f207 ((x1753, (x1755, ())), ())).bind fun r1757 =>
 bif (r1757.1.1 != (0 : Int)) then
 some (.inr (.inl ((r1757.1.1, ()), ())))
else
 some (.inl ((y.1.1, (y.1.2.1, (y.1.2.2.1, (y.1.2.2.2.1, ((IntKind.i64.wrap (y.1.2.2.2.2.1 + (1 : Int))), ()))))), ()))
else
 some (.inr (.inr ((y.1.1, (y.1.2.1, ())), ())))
theorem r172_26 : ∀ y, g172_26 y = jjz (jjd c172 []) (jjl (jjc b172 1 26)) 26 s172_26 t172_26 y := fun y => by kernel_rfl
noncomputable def jxU : s172_26.Y → Option (YS t172_26) := jjD g172_26
theorem q172_26 (H : CtxGood Tryz.prog c172) : jjn Tryz.prog (jjc b172 1 26) (jjb s172_26 t172_26 jxU) :=
 jjt (fr := []) H (by kernel_rfl) (by kernel_rfl) jje (fun y => jji r172_26 y)
@[reducible] noncomputable def i172 : Shape := ⟨[(0, .lf (.d (.sl .i64))), (1, .lf (.d (.sl .i64)))], [], 36⟩
@[reducible] noncomputable def o172 : Shape := ⟨[(4, .lf (.d (.int .i64)))], [], 36⟩
noncomputable def f172 (a : i172.Y) : Option o172.Y :=
(jxU ((a.1.1, (a.1.2.1, (a.1.1, ((a.1.1.length : Int), ((0 : Int), ()))))), ())).bind fun r1767 =>
(match r1767 with
| .inl r1768 =>
 some ((r1768.1.1, ()), ())
| .inr r1769 =>
 bif (decide ((r1769.1.1.length : Int) < (r1769.1.2.1.length : Int))) then
 some ((((-1) : Int), ()), ())
else
 some (((0 : Int), ()), ()))
theorem e172 : ∀ a, f172 a = jjp (jjd c172 [(26, jjb s172_26 t172_26 jxU)]) b172 i172 o172 a := fun a => by kernel_rfl
noncomputable def S172 : jjG := jjf tt 36 i172 o172 [.tmp 4] [] f172
theorem z172 (h : ∀ T, (tt T).ok Tryz.prog T) (h207 : jja Tryz.prog 207 S207) : jja Tryz.prog 172 S172 :=
 have H := k172 h h207
 jjj (fn := Tryz.f172) (fr := [(26, jjb s172_26 t172_26 jxU)]) H (by kernel_rfl) (by kernel_rfl) (by kernel_rfl) (by kernel_rfl) (by kernel_rfl) ⟨q172_26 H, trivial⟩ (by kernel_rfl) (fun y => ⟨_, _, rfl, rfl, rfl⟩) e172
noncomputable def c130 : Ctx := { tt := tt, fs := fun n => match n with | 172 => some S172 | _ => none }
theorem k130 (h : ∀ T, (tt T).ok Tryz.prog T) (h172 : jja Tryz.prog 172 S172) : CtxGood Tryz.prog c130 := ⟨⟨h⟩, fun g S hg => (by
 simp only [c130] at hg
 split at hg
 ·cases hg; exact h172
 ·cases hg), jjq, fun _ _ h => (by cases h), fun _ h => (by cases h)⟩
noncomputable def b130 : Code := jjh Tryz.f130
@[reducible] noncomputable def i130 : Shape := ⟨[(0, .lf (.d (.sl .i64))), (1, .lf (.d (.sl .i64)))], [], 8⟩
@[reducible] noncomputable def o130 : Shape := ⟨[(4, .lf (.d (.int .i64)))], [], 8⟩
noncomputable def f130 (a : i130.Y) : Option o130.Y :=
(f172 ((a.1.1, (a.1.2.1, ())), ())).bind fun r1771 =>
 some ((r1771.1.1, ()), ())
theorem e130 : ∀ a, f130 a = jjp (jjd c130 []) b130 i130 o130 a := fun a => by kernel_rfl
noncomputable def S130 : jjG := jjf tt 8 i130 o130 [.tmp 4] [] f130
theorem z130 (h : ∀ T, (tt T).ok Tryz.prog T) (h172 : jja Tryz.prog 172 S172) : jja Tryz.prog 130 S130 :=
 have H := k130 h h172
 jjj (fn := Tryz.f130) (fr := []) H (by kernel_rfl) (by kernel_rfl) (by kernel_rfl) (by kernel_rfl) (by kernel_rfl) jje (by kernel_rfl) (fun y => ⟨_, _, rfl, rfl, rfl⟩) e130
noncomputable def c174 : Ctx := { tt := tt, fs := fun n => match n with | _ => none }
theorem k174 (h : ∀ T, (tt T).ok Tryz.prog T) : CtxGood Tryz.prog c174 := ⟨⟨h⟩, fun g S hg => (by cases hg), jjq, fun _ _ h => (by cases h), fun _ h => (by cases h)⟩
noncomputable def b174 : Code := jjh Tryz.f174
@[reducible] noncomputable def s174_104 : Shape := ⟨[(0, .lf (.d (.sl .i64))), (1, .lf (.d (.sl .i64))), (5, .lf (.d (.int .i64)))], [], 42⟩
@[reducible] noncomputable def t174_104 : List OSh := [(.norm, ⟨[(0, .lf (.d (.sl .i64))), (1, .lf (.d (.sl .i64))), (5, .lf (.d (.int .i64)))], [], 42⟩), (.exit 0, ⟨[], [], 42⟩)]
noncomputable def jxn (y : s174_104.Y) : Option (YS t174_104) :=
 bif (!(decide (y.1.2.2.1 < (y.1.1.length : Int)))) then
 bif (decide (y.1.2.2.1 < (y.1.2.1.length : Int))) then
 some (.inl ((y.1.1, (y.1.2.1, (y.1.2.2.1, ()))), ()))
else
 some (.inr ((), ()))
else
 some (.inl ((y.1.1, (y.1.2.1, (y.1.2.2.1, ()))), ()))
theorem r174_104 : ∀ y, jxn y = jjM (jjd c174 []) (jjc (jjl (jjc b174 1 26)) 52 104) 104 s174_104 t174_104 y := fun y => by kernel_rfl
theorem q174_104 (H : CtxGood Tryz.prog c174) : jjn Tryz.prog (jjc (jjl (jjc b174 1 26)) 52 104) (jjb s174_104 t174_104 jxn) :=
 jjv (fr := []) H (by kernel_rfl) jje r174_104
@[reducible] noncomputable def s174_3366 : Shape := ⟨[(0, .lf (.d (.sl .i64))), (1, .lf (.d (.sl .i64))), (5, .lf (.d (.int .i64))), (6, .lf (.d (.int .i64))), (7, .lf (.d (.int .i64)))], [], 42⟩
@[reducible] noncomputable def jz7 : List OSh := [(.norm, ⟨[(0, .lf (.d (.sl .i64))), (1, .lf (.d (.sl .i64))), (5, .lf (.d (.int .i64))), (6, .lf (.d (.int .i64))), (7, .lf (.d (.int .i64)))], [], 42⟩)]
noncomputable def jxa (y : s174_3366.Y) : Option (YS jz7) :=
 bif (decide (y.1.2.2.1 < (y.1.1.length : Int))) then
(ix y.1.1 y.1.2.2.1).bind fun x1075 =>
 some (((y.1.1, (y.1.2.1, (y.1.2.2.1, (x1075, (y.1.2.2.2.2.1, ()))))), ()))
else
 some (((y.1.1, (y.1.2.1, (y.1.2.2.1, (y.1.2.2.2.1, (y.1.2.2.2.2.1, ()))))), ()))
theorem r174_3366 : ∀ y, jxa y = jjM (jjd c174 []) (jjc (jjl (jjc b174 1 26)) 52 3366) 3366 s174_3366 jz7 y := fun y => by kernel_rfl
theorem q174_3366 (H : CtxGood Tryz.prog c174) : jjn Tryz.prog (jjc (jjl (jjc b174 1 26)) 52 3366) (jjb s174_3366 jz7 jxa) :=
 jjv (fr := []) H (by kernel_rfl) jje r174_3366
@[reducible] noncomputable def s174_6734 : Shape := ⟨[(0, .lf (.d (.sl .i64))), (1, .lf (.d (.sl .i64))), (5, .lf (.d (.int .i64))), (6, .lf (.d (.int .i64))), (7, .lf (.d (.int .i64)))], [], 42⟩
@[reducible] noncomputable def jz6 : List OSh := [(.norm, ⟨[(0, .lf (.d (.sl .i64))), (1, .lf (.d (.sl .i64))), (5, .lf (.d (.int .i64))), (6, .lf (.d (.int .i64))), (7, .lf (.d (.int .i64)))], [], 42⟩)]
noncomputable def jq9 (y : s174_6734.Y) : Option (YS jz6) :=
 bif (decide (y.1.2.2.1 < (y.1.2.1.length : Int))) then
(ix y.1.2.1 y.1.2.2.1).bind fun x1083 =>
 some (((y.1.1, (y.1.2.1, (y.1.2.2.1, (y.1.2.2.2.1, (x1083, ()))))), ()))
else
 some (((y.1.1, (y.1.2.1, (y.1.2.2.1, (y.1.2.2.2.1, (y.1.2.2.2.2.1, ()))))), ()))
theorem r174_6734 : ∀ y, jq9 y = jjM (jjd c174 []) (jjc (jjl (jjc b174 1 26)) 52 6734) 6734 s174_6734 jz6 y := fun y => by kernel_rfl
theorem q174_6734 (H : CtxGood Tryz.prog c174) : jjn Tryz.prog (jjc (jjl (jjc b174 1 26)) 52 6734) (jjb s174_6734 jz6 jq9) :=
 jjv (fr := []) H (by kernel_rfl) jje r174_6734
@[reducible] noncomputable def s174_26 : Shape := ⟨[(0, .lf (.d (.sl .i64))), (1, .lf (.d (.sl .i64))), (5, .lf (.d (.int .i64)))], [], 42⟩
@[reducible] noncomputable def t174_26 : List OSh := [(.ret, ⟨[(4, .lf (.d (.int .i64)))], [], 42⟩), (.exit 0, ⟨[], [], 42⟩)]
noncomputable def jQj (y : s174_26.Y) : Option (Sum s174_26.Y (YS t174_26)) :=
(jxn ((y.1.1, (y.1.2.1, (y.1.2.2.1, ()))), ())).bind fun r1085 =>
(match r1085 with
| .inl r1086 =>
(jxa ((r1086.1.1, (r1086.1.2.1, (r1086.1.2.2.1, (((-1) : Int), (((-1) : Int), ()))))), ())).bind fun r1088 =>
(jq9 ((r1088.1.1, (r1088.1.2.1, (r1088.1.2.2.1, (r1088.1.2.2.2.1, (r1088.1.2.2.2.2.1, ()))))), ())).bind fun r1089 =>
 bif (decide (r1089.1.2.2.2.1 < r1089.1.2.2.2.2.1)) then
 some (.inr (.inl ((((-1) : Int), ()), ())))
else
 bif (decide (r1089.1.2.2.2.1 > r1089.1.2.2.2.2.1)) then
 some (.inr (.inl (((1 : Int), ()), ())))
else
 some (.inl ((r1089.1.1, (r1089.1.2.1, ((IntKind.i64.wrap (r1089.1.2.2.1 + (1 : Int))), ()))), ()))
| .inr r1087 =>
 some (.inr (.inr ((), ()))))
theorem r174_26 : ∀ y, jQj y = jjz (jjd c174 [(104, jjb s174_104 t174_104 jxn), (3366, jjb s174_3366 jz7 jxa), (6734, jjb s174_6734 jz6 jq9)]) (jjl (jjc b174 1 26)) 26 s174_26 t174_26 y := fun y => by kernel_rfl
noncomputable def jxG : s174_26.Y → Option (YS t174_26) := jjD jQj
theorem q174_26 (H : CtxGood Tryz.prog c174) : jjn Tryz.prog (jjc b174 1 26) (jjb s174_26 t174_26 jxG) :=
 jjt (fr := [(104, jjb s174_104 t174_104 jxn), (3366, jjb s174_3366 jz7 jxa), (6734, jjb s174_6734 jz6 jq9)]) H (by kernel_rfl) (by kernel_rfl) ⟨q174_104 H, q174_3366 H, q174_6734 H, trivial⟩ (fun y => jji r174_26 y)
@[reducible] noncomputable def i174 : Shape := ⟨[(0, .lf (.d (.sl .i64))), (1, .lf (.d (.sl .i64)))], [], 42⟩
@[reducible] noncomputable def o174 : Shape := ⟨[(4, .lf (.d (.int .i64)))], [], 42⟩
noncomputable def f174 (a : i174.Y) : Option o174.Y :=
(jxG ((a.1.1, (a.1.2.1, ((0 : Int), ()))), ())).bind fun r1093 =>
(match r1093 with
| .inl r1094 =>
 some ((r1094.1.1, ()), ())
| .inr r1095 =>
 some (((0 : Int), ()), ()))
theorem e174 : ∀ a, f174 a = jjp (jjd c174 [(26, jjb s174_26 t174_26 jxG)]) b174 i174 o174 a := fun a => by kernel_rfl
noncomputable def S174 : jjG := jjf tt 42 i174 o174 [.tmp 4] [] f174
theorem z174 (h : ∀ T, (tt T).ok Tryz.prog T) : jja Tryz.prog 174 S174 :=
 have H := k174 h
 jjj (fn := Tryz.f174) (fr := [(26, jjb s174_26 t174_26 jxG)]) H (by kernel_rfl) (by kernel_rfl) (by kernel_rfl) (by kernel_rfl) (by kernel_rfl) ⟨q174_26 H, trivial⟩ (by kernel_rfl) (fun y => ⟨_, _, rfl, rfl, rfl⟩) e174
noncomputable def c131 : Ctx := { tt := tt, fs := fun n => match n with | 173 => some S173 | 174 => some S174 | _ => none }
theorem k131 (h : ∀ T, (tt T).ok Tryz.prog T) (h173 : jja Tryz.prog 173 S173) (h174 : jja Tryz.prog 174 S174) : CtxGood Tryz.prog c131 := ⟨⟨h⟩, fun g S hg => (by
 simp only [c131] at hg
 split at hg
 ·cases hg; exact h173
 ·cases hg; exact h174
 ·cases hg), jjq, fun _ _ h => (by cases h), fun _ h => (by cases h)⟩
noncomputable def b131 : Code := jjh Tryz.f131
@[reducible] noncomputable def s131_60 : Shape := ⟨[(5, .lf (.own 3000320)), (6, .lf (.d (.bool))), (7, .lf (.own 3000448)), (8, .lf (.d (.bool)))], [(3000320, .row .i64, .slot 5 0), (3000448, .row .i64, .slot 7 0)], 28⟩
@[reducible] noncomputable def t131_60 : List OSh := [(.norm, ⟨[(5, .lf (.own 3000320)), (7, .lf (.own 3000448)), (24, .lf (.d (.bool)))], [(3000320, .row .i64, .slot 5 0), (3000448, .row .i64, .slot 7 0)], 28⟩)]
noncomputable def g131_60 (y : s131_60.Y) : Option (YS t131_60) :=
 bif (!(!y.1.2.1)) then
 some ((((), ((), ((!y.1.2.2.2.1), ()))), (y.2.1, (y.2.2.1, ()))))
else
 some ((((), ((), (true, ()))), (y.2.1, (y.2.2.1, ()))))
theorem r131_60 : ∀ y, g131_60 y = jjM (jjd c131 []) (jjc b131 1 60) 60 s131_60 t131_60 y := fun y => by kernel_rfl
theorem q131_60 (H : CtxGood Tryz.prog c131) : jjn Tryz.prog (jjc b131 1 60) (jjb s131_60 t131_60 g131_60) :=
 jjv (fr := []) H (by kernel_rfl) jje r131_60
@[reducible] noncomputable def i131 : Shape := ⟨[(0, .lf (.d (.str))), (1, .lf (.d (.str)))], [], 28⟩
@[reducible] noncomputable def o131 : Shape := ⟨[(4, .lf (.d (.int .i64)))], [], 28⟩
noncomputable def f131 (a : i131.Y) : Option o131.Y :=
(f173 ((a.1.1, ()), ())).bind fun r1098 =>
(f173 ((a.1.2.1, ()), ())).bind fun r1100 =>
(g131_60 (((), (r1098.1.2.1, ((), (r1100.1.2.1, ())))), (r1098.2.1, (r1100.2.1, ())))).bind fun r1102 =>
 bif r1102.1.2.2.1 then
 some (((0 : Int), ()), ())
else
(f174 ((r1102.2.1, (r1102.2.2.1, ())), ())).bind fun r1103 =>
 some ((r1103.1.1, ()), ())
theorem e131 : ∀ a, f131 a = jjp (jjd c131 [(60, jjb s131_60 t131_60 g131_60)]) b131 i131 o131 a := fun a => by kernel_rfl
noncomputable def S131 : jjG := jjf tt 28 i131 o131 [.tmp 4] [] f131
theorem z131 (h : ∀ T, (tt T).ok Tryz.prog T) (h173 : jja Tryz.prog 173 S173) (h174 : jja Tryz.prog 174 S174) : jja Tryz.prog 131 S131 :=
 have H := k131 h h173 h174
 jjj (fn := Tryz.f131) (fr := [(60, jjb s131_60 t131_60 g131_60)]) H (by kernel_rfl) (by kernel_rfl) (by kernel_rfl) (by kernel_rfl) (by kernel_rfl) ⟨q131_60 H, trivial⟩ (by kernel_rfl) (fun y => ⟨_, _, rfl, rfl, rfl⟩) e131
noncomputable def c71 : Ctx := { tt := tt, fs := fun n => match n with | 129 => some S129 | 130 => some S130 | _ => none }
theorem k71 (h : ∀ T, (tt T).ok Tryz.prog T) (h129 : jja Tryz.prog 129 S129) (h130 : jja Tryz.prog 130 S130) : CtxGood Tryz.prog c71 := ⟨⟨h⟩, fun g S hg => (by
 simp only [c71] at hg
 split at hg
 ·cases hg; exact h129
 ·cases hg; exact h130
 ·cases hg), jjq, fun _ _ h => (by cases h), fun _ h => (by cases h)⟩
noncomputable def b71 : Code := jjh Tryz.f71
@[reducible] noncomputable def s71_60 : Shape := ⟨[(5, .lf (.own 3000320)), (6, .lf (.d (.bool))), (7, .lf (.own 3000448)), (8, .lf (.d (.bool)))], [(3000320, .row .i64, .slot 5 0), (3000448, .row .i64, .slot 7 0)], 28⟩
@[reducible] noncomputable def t71_60 : List OSh := [(.norm, ⟨[(5, .lf (.own 3000320)), (7, .lf (.own 3000448)), (24, .lf (.d (.bool)))], [(3000320, .row .i64, .slot 5 0), (3000448, .row .i64, .slot 7 0)], 28⟩)]
noncomputable def g71_60 (y : s71_60.Y) : Option (YS t71_60) :=
 bif (!(!y.1.2.1)) then
 some ((((), ((), ((!y.1.2.2.2.1), ()))), (y.2.1, (y.2.2.1, ()))))
else
 some ((((), ((), (true, ()))), (y.2.1, (y.2.2.1, ()))))
theorem r71_60 : ∀ y, g71_60 y = jjM (jjd c71 []) (jjc b71 1 60) 60 s71_60 t71_60 y := fun y => by kernel_rfl
theorem q71_60 (H : CtxGood Tryz.prog c71) : jjn Tryz.prog (jjc b71 1 60) (jjb s71_60 t71_60 g71_60) :=
 jjv (fr := []) H (by kernel_rfl) jje r71_60
@[reducible] noncomputable def i71 : Shape := ⟨[(0, .lf (.d (.str))), (1, .lf (.d (.str)))], [], 28⟩
@[reducible] noncomputable def o71 : Shape := ⟨[(4, .lf (.d (.int .i64)))], [], 28⟩
noncomputable def f71 (a : i71.Y) : Option o71.Y :=
(f129 ((a.1.1, ()), ())).bind fun r1774 =>
(f129 ((a.1.2.1, ()), ())).bind fun r1776 =>
(g71_60 (((), (r1774.2.2.2.1.1, ((), (r1776.2.2.2.1.1, ())))), (r1774.2.1, (r1776.2.1, ())))).bind fun r1778 =>
 bif r1778.1.2.2.1 then
 some (((0 : Int), ()), ())
else
(f130 ((r1778.2.1, (r1778.2.2.1, ())), ())).bind fun r1779 =>
 some ((r1779.1.1, ()), ())
theorem e71 : ∀ a, f71 a = jjp (jjd c71 [(60, jjb s71_60 t71_60 g71_60)]) b71 i71 o71 a := fun a => by kernel_rfl
noncomputable def S71 : jjG := jjf tt 28 i71 o71 [.tmp 4] [] f71
theorem z71 (h : ∀ T, (tt T).ok Tryz.prog T) (h129 : jja Tryz.prog 129 S129) (h130 : jja Tryz.prog 130 S130) : jja Tryz.prog 71 S71 :=
 have H := k71 h h129 h130
 jjj (fn := Tryz.f71) (fr := [(60, jjb s71_60 t71_60 g71_60)]) H (by kernel_rfl) (by kernel_rfl) (by kernel_rfl) (by kernel_rfl) (by kernel_rfl) ⟨q71_60 H, trivial⟩ (by kernel_rfl) (fun y => ⟨_, _, rfl, rfl, rfl⟩) e71
noncomputable def c142 : Ctx := { tt := tt, fs := fun n => match n with | 71 => some S71 | 109 => some S109 | 111 => some S111 | _ => none }
theorem k142 (h : ∀ T, (tt T).ok Tryz.prog T) (h71 : jja Tryz.prog 71 S71) (h109 : jja Tryz.prog 109 S109) (h111 : jja Tryz.prog 111 S111) : CtxGood Tryz.prog c142 := ⟨⟨h⟩, fun g S hg => (by
 simp only [c142] at hg
 split at hg
 ·cases hg; exact h71
 ·cases hg; exact h109
 ·cases hg; exact h111
 ·cases hg), jjq, fun _ _ h => (by cases h), fun _ h => (by cases h)⟩
noncomputable def b142 : Code := jjh Tryz.f142
@[reducible] noncomputable def s142_12 : Shape := ⟨[(1, .lf (.d (.str))), (2, .lf (.d (.str))), (3, .lf (.ptr 3 0))], [(3, .box [.d (.str), .d (.int .i64), .d (.str)], .same)], 44⟩
@[reducible] noncomputable def t142_12 : List OSh := [(.norm, ⟨[(2, .lf (.d (.str))), (3, .lf (.ptr 3 0)), (20, .lf (.d (.bool)))], [(3, .box [.d (.str), .d (.int .i64), .d (.str)], .same)], 44⟩)]
noncomputable def g142_12 (y : s142_12.Y) : Option (YS t142_12) :=
(f111 (((y.2.1.1, (y.2.1.2.1, (y.2.1.2.2.1, ()))), ()), ())).bind fun r1724 =>
 bif (!(!r1724.1.1)) then
(f109 ((y.1.2.1, ()), ())).bind fun r1725 =>
 bif (!(!r1725.1.1)) then
 some (((y.1.2.1, ((), ((!(y.1.1 == y.2.1.1)), ()))), ((y.2.1.1, (y.2.1.2.1, (y.2.1.2.2.1, ()))), ())))
else
 some (((y.1.2.1, ((), (true, ()))), ((y.2.1.1, (y.2.1.2.1, (y.2.1.2.2.1, ()))), ())))
else
 some (((y.1.2.1, ((), (true, ()))), ((y.2.1.1, (y.2.1.2.1, (y.2.1.2.2.1, ()))), ())))
theorem r142_12 : ∀ y, g142_12 y = jjM (jjd c142 []) (jjc b142 1 12) 12 s142_12 t142_12 y := fun y => by kernel_rfl
theorem q142_12 (H : CtxGood Tryz.prog c142) : jjn Tryz.prog (jjc b142 1 12) (jjb s142_12 t142_12 g142_12) :=
 jjv (fr := []) H (by kernel_rfl) jje r142_12
@[reducible] noncomputable def i142 : Shape := ⟨[(0, .agg [.d (.str), .d (.int .i64), .d (.str)]), (1, .lf (.d (.str))), (2, .lf (.d (.str)))], [], 44⟩
@[reducible] noncomputable def o142 : Shape := ⟨[(6, .lf (.d (.bool)))], [], 44⟩
noncomputable def f142 (a : i142.Y) : Option o142.Y :=
(g142_12 ((a.1.2.1, (a.1.2.2.1, ((), ()))), ((a.1.1.1, (a.1.1.2.1, (a.1.1.2.2.1, ()))), ()))).bind fun r1784 =>
 bif r1784.1.2.2.1 then
 some ((false, ()), ())
else
 bif (r1784.2.1.2.1 == (1 : Int)) then
(f71 ((r1784.1.1, (r1784.2.1.2.2.1, ())), ())).bind fun r1785 =>
 some (((r1785.1.1 == (0 : Int)), ()), ())
else
 bif (r1784.2.1.2.1 == (2 : Int)) then
(f71 ((r1784.1.1, (r1784.2.1.2.2.1, ())), ())).bind fun r1786 =>
 some (((decide (r1786.1.1 ≥ (0 : Int))), ()), ())
else
 bif (r1784.2.1.2.1 == (3 : Int)) then
(f71 ((r1784.1.1, (r1784.2.1.2.2.1, ())), ())).bind fun r1787 =>
 some (((decide (r1787.1.1 < (0 : Int))), ()), ())
else
 some ((true, ()), ())
theorem e142 : ∀ a, f142 a = jjp (jjd c142 [(12, jjb s142_12 t142_12 g142_12)]) b142 i142 o142 a := fun a => by kernel_rfl
noncomputable def S142 : jjG := jjf tt 44 i142 o142 [.tmp 6] [] f142
theorem z142 (h : ∀ T, (tt T).ok Tryz.prog T) (h71 : jja Tryz.prog 71 S71) (h109 : jja Tryz.prog 109 S109) (h111 : jja Tryz.prog 111 S111) : jja Tryz.prog 142 S142 :=
 have H := k142 h h71 h109 h111
 jjj (fn := Tryz.f142) (fr := [(12, jjb s142_12 t142_12 g142_12)]) H (by kernel_rfl) (by kernel_rfl) (by kernel_rfl) (by kernel_rfl) (by kernel_rfl) ⟨q142_12 H, trivial⟩ (by kernel_rfl) (fun y => ⟨_, _, rfl, rfl, rfl⟩) e142
noncomputable def c154 : Ctx := { tt := tt, fs := fun n => match n with | 131 => some S131 | _ => none }
theorem k154 (h : ∀ T, (tt T).ok Tryz.prog T) (h131 : jja Tryz.prog 131 S131) : CtxGood Tryz.prog c154 := ⟨⟨h⟩, fun g S hg => (by
 simp only [c154] at hg
 split at hg
 ·cases hg; exact h131
 ·cases hg), jjq, fun _ _ h => (by cases h), fun _ h => (by cases h)⟩
noncomputable def b154 : Code := jjh Tryz.f154
@[reducible] noncomputable def i154 : Shape := ⟨[(0, .agg [.d (.str), .d (.int .i64), .d (.str)]), (1, .lf (.d (.str))), (2, .lf (.d (.str)))], [], 30⟩
@[reducible] noncomputable def o154 : Shape := ⟨[(6, .lf (.d (.bool)))], [], 30⟩
noncomputable def f154 (a : i154.Y) : Option o154.Y :=
 bif (!(a.1.1.1 == a.1.2.1)) then
 some ((false, ()), ())
else
(f131 ((a.1.2.2.1, (a.1.1.2.2.1, ())), ())).bind fun r1107 =>
 bif (a.1.1.2.1 == (1 : Int)) then
 some (((r1107.1.1 == (0 : Int)), ()), ())
else
 bif (a.1.1.2.1 == (2 : Int)) then
 some (((decide (r1107.1.1 ≥ (0 : Int))), ()), ())
else
 bif (a.1.1.2.1 == (3 : Int)) then
 some (((decide (r1107.1.1 < (0 : Int))), ()), ())
else
 some ((true, ()), ())
theorem e154 : ∀ a, f154 a = jjp (jjd c154 []) b154 i154 o154 a := fun a => by kernel_rfl
noncomputable def S154 : jjG := jjf tt 30 i154 o154 [.tmp 6] [] f154
theorem z154 (h : ∀ T, (tt T).ok Tryz.prog T) (h131 : jja Tryz.prog 131 S131) : jja Tryz.prog 154 S154 :=
 have H := k154 h h131
 jjj (fn := Tryz.f154) (fr := []) H (by kernel_rfl) (by kernel_rfl) (by kernel_rfl) (by kernel_rfl) (by kernel_rfl) jje (by kernel_rfl) (fun y => ⟨_, _, rfl, rfl, rfl⟩) e154
def ordL : List Int → List Int → Int
 | [], [] => 0
 | [], _ :: _ => -1
 | _ :: _, [] => 1
 | x :: a, y :: b => bif decide (x < y) then -1 else bif decide (x > y) then 1 else ordL a b
theorem jqy {α : Type} {xs : List α} {k : Nat} {x : α} {r : List α} (h : xs.drop k = x :: r) : xs[k]? = some x ∧ xs.drop (k + 1) = r ∧ k < xs.length := by
 have h1 : xs[k]? = some x := by
  have := congrArg (fun l => l[0]?) h
  simpa using this
 refine ⟨h1, ?_, jjy h1⟩
 have := congrArg List.tail h
 simpa using this
theorem drop_nil {α : Type} {xs : List α} {k : Nat} (h : xs.drop k = []) : xs.length ≤ k := by
 have := congrArg List.length h
 simp at this; omega
theorem v_l3Order (a) (h1 : Bd a.1.1.length) (h2 : Bd a.1.2.1.length) (p1 : ∀ x, x ∈ a.1.1 → 0 ≤ x) (p2 : ∀ x, x ∈ a.1.2.1 → 0 ≤ x) : f174 a = some ((ordL a.1.1 a.1.2.1, ()), ()) := by
 obtain ⟨⟨xs, ys, u⟩, u'⟩ := a
 have h1 : xs.length ≤ 2097152 := h1
 have h2 : ys.length ≤ 2097152 := h2
 have p1 : ∀ x : Int, x ∈ xs → 0 ≤ x := p1
 have p2 : ∀ x : Int, x ∈ ys → 0 ≤ x := p2
 have key : ∀ (n : Nat) (us ws : List Int) (k : Nat), us.length + ws.length = n → xs.drop k = us → ys.drop k = ws → k ≤ 2097152 →
   (jxG ((xs, (ys, ((k : Int), ()))), ())).bind (fun r625 => (match r625 with | .inl r626 => some ((r626.1.1, ()), ()) | .inr r627 => some (((0 : Int), ()), ()) : Option o174.Y)) = some ((ordL us ws, ()), ()) := by
  intro n
  induction n using Nat.strongRecOn with
  | _ n ih =>
   intro us ws k hn ha hb hk
   have hw : Sm k := by unfold Sm; omega
   match us, ws with
   | [], [] =>
    have c1 := drop_nil ha
    have c2 := drop_nil hb
    have d1 : decide ((k : Int) < (xs.length : Int)) = false := by simp only [decide_eq_false_iff_not]; omega
    have d2 : decide ((k : Int) < (ys.length : Int)) = false := by simp only [decide_eq_false_iff_not]; omega
    have : jxG ((xs, (ys, ((k : Int), ()))), ()) = some (.inr ((), ())) := by
     refine jjT ?_
     simp only [jQj, jxn, d1, d2, Bool.not_false, cond_true, cond_false, Option.bind_some]
    rw [this]; rfl
   | [], y :: ws =>
    have c1 := drop_nil ha
    obtain ⟨c2, c3, c4⟩ := jqy hb
    have hy := p2 y (List.mem_of_getElem? c2)
    have d1 : decide ((k : Int) < (xs.length : Int)) = false := by simp only [decide_eq_false_iff_not]; omega
    have d3 : decide ((-1 : Int) < y) = true := by simp only [decide_eq_true_eq]; omega
    have : jxG ((xs, (ys, ((k : Int), ()))), ()) = some (.inl ((((-1) : Int), ()), ())) := by
     refine jjT ?_
     simp only [jQj, jxn, jxa, jq9, d1, jjB c4, jju, c2, Bool.not_false, cond_true, cond_false, Option.bind_some, d3]
    rw [this]; rfl
   | x :: us, [] =>
    have c1 := drop_nil hb
    obtain ⟨c2, c3, c4⟩ := jqy ha
    have hx := p1 x (List.mem_of_getElem? c2)
    have d1 : decide ((k : Int) < (ys.length : Int)) = false := by simp only [decide_eq_false_iff_not]; omega
    have d3 : decide (x < (-1 : Int)) = false := by simp only [decide_eq_false_iff_not]; omega
    have d4 : decide (x > (-1 : Int)) = true := by simp only [decide_eq_true_eq]; omega
    have : jxG ((xs, (ys, ((k : Int), ()))), ()) = some (.inl (((1 : Int), ()), ())) := by
     refine jjT ?_
     simp only [jQj, jxn, jxa, jq9, d1, jjB c4, jju, c2, Bool.not_true, cond_true, cond_false, Option.bind_some, d3, d4]
    rw [this]; rfl
   | x :: us, y :: ws =>
    obtain ⟨c2, c3, c4⟩ := jqy ha
    obtain ⟨e2, e3, e4⟩ := jqy hb
    have step : jQj ((xs, (ys, ((k : Int), ()))), ()) = some (bif decide (x < y) then .inr (.inl ((((-1) : Int), ()), ())) else bif decide (x > y) then .inr (.inl (((1 : Int), ()), ())) else .inl ((xs, (ys, (((k + 1 : Nat) : Int), ()))), ())) := by
     simp only [jQj, jxn, jxa, jq9, jjB c4, jjB e4, jju, c2, e2, Bool.not_true, cond_true, cond_false, Option.bind_some, jjk hw]
     cases decide (x < y) <;> cases decide (x > y) <;> rfl
    rw [ordL]
    cases hlt : decide (x < y) with
    | true => rw [hlt, cond_true] at step; rw [show jxG ((xs, (ys, ((k : Int), ()))), ()) = _ from jjT step]; rfl
    | false =>
     rw [hlt, cond_false] at step
     cases hgt : decide (x > y) with
     | true => rw [hgt, cond_true] at step; rw [show jxG ((xs, (ys, ((k : Int), ()))), ()) = _ from jjT step]; rfl
     | false =>
      rw [hgt, cond_false] at step
      rw [show jxG ((xs, (ys, ((k : Int), ()))), ()) = _ from jqw step]
      exact ih (us.length + ws.length) (by simp only [List.length_cons] at hn; omega) us ws (k + 1) rfl c3 e3 (by omega)
 have := key _ xs ys 0 rfl rfl rfl (Nat.zero_le _)
 simp only [f174]
 exact this
theorem v_cmpInt (a) : f207 a = some ((bif decide (a.1.1 < a.1.2.1) then -1 else bif decide (a.1.1 > a.1.2.1) then 1 else 0, ()), ()) := by
 obtain ⟨⟨x, y, u⟩, u'⟩ := a
 have hx : (x != x) = false := by simp
 have hy : (y != y) = false := by simp
 simp only [f207, f228, Option.bind_some, hx, hy, cond_false]
 cases decide (x < y) <;> cases decide (x > y) <;> rfl
theorem v_Compare (a) (h1 : Bd a.1.1.length) (h2 : Bd a.1.2.1.length) : f172 a = some ((ordL a.1.1 a.1.2.1, ()), ()) := by
 obtain ⟨⟨xs, ys, u⟩, u'⟩ := a
 have h1 : xs.length ≤ 2097152 := h1
 have h2 : ys.length ≤ 2097152 := h2
 have key : ∀ (us ws : List Int) (k : Nat), xs.drop k = us → ys.drop k = ws → k ≤ xs.length →
   (jxU ((xs, (ys, (xs, ((xs.length : Int), ((k : Int), ()))))), ())).bind (fun r1113 => (match r1113 with
    | .inl r1114 => some ((r1114.1.1, ()), ())
    | .inr r1115 => bif (decide ((r1115.1.1.length : Int) < (r1115.1.2.1.length : Int))) then some ((((-1) : Int), ()), ()) else some (((0 : Int), ()), ()) : Option o172.Y)) = some ((ordL us ws, ()), ()) := by
  intro us
  induction us with
  | nil =>
   intro ws k ha hb hk
   have c1 := drop_nil ha
   have d1 : decide ((k : Int) < (xs.length : Int)) = false := by simp only [decide_eq_false_iff_not]; omega
   have : jxU ((xs, (ys, (xs, ((xs.length : Int), ((k : Int), ()))))), ()) = some (.inr ((xs, (ys, ())), ())) := by
    refine jjT ?_
    simp only [g172_26, d1, cond_false]
   rw [this]
   simp only [Option.bind_some]
   cases ws with
   | nil =>
    have c2 := drop_nil hb
    have : decide ((xs.length : Int) < (ys.length : Int)) = false := by simp only [decide_eq_false_iff_not]; omega
    rw [this]; rfl
   | cons y ws =>
    obtain ⟨_, _, c4⟩ := jqy hb
    rw [jjB (show xs.length < ys.length by omega)]; rfl
  | cons x us ih =>
   intro ws k ha hb hk
   obtain ⟨c2, c3, c4⟩ := jqy ha
   have hw : Sm k := by unfold Sm; omega
   cases ws with
   | nil =>
    have c1 := drop_nil hb
    have d1 : decide ((k : Int) ≥ (ys.length : Int)) = true := by simp only [decide_eq_true_eq]; omega
    have : jxU ((xs, (ys, (xs, ((xs.length : Int), ((k : Int), ()))))), ()) = some (.inl (((1 : Int), ()), ())) := by
     refine jjT ?_
     simp only [g172_26, jjB c4, cond_true, jju, c2, Option.bind_some, d1]
    rw [this]; rfl
   | cons y ws =>
    obtain ⟨e2, e3, e4⟩ := jqy hb
    have d1 : decide ((k : Int) ≥ (ys.length : Int)) = false := by simp only [decide_eq_false_iff_not]; omega
    have step : g172_26 ((xs, (ys, (xs, ((xs.length : Int), ((k : Int), ()))))), ()) = some (bif decide (x < y) then .inr (.inl ((((-1) : Int), ()), ())) else bif decide (x > y) then .inr (.inl (((1 : Int), ()), ())) else .inl ((xs, (ys, (xs, ((xs.length : Int), (((k + 1 : Nat) : Int), ()))))), ())) := by
     simp only [g172_26, jjB c4, jju, c2, e2, d1, cond_true, cond_false, Option.bind_some, v_cmpInt, jjk hw]
     cases decide (x < y) <;> cases decide (x > y) <;> rfl
    rw [ordL]
    cases hlt : decide (x < y) with
    | true => rw [hlt, cond_true] at step; rw [show jxU ((xs, (ys, (xs, ((xs.length : Int), ((k : Int), ()))))), ()) = _ from jjT step]; rfl
    | false =>
     rw [hlt, cond_false] at step
     cases hgt : decide (x > y) with
     | true => rw [hgt, cond_true] at step; rw [show jxU ((xs, (ys, (xs, ((xs.length : Int), ((k : Int), ()))))), ()) = _ from jjT step]; rfl
     | false =>
      rw [hgt, cond_false] at step
      rw [show jxU ((xs, (ys, (xs, ((xs.length : Int), ((k : Int), ()))))), ()) = _ from jqw step]
      exact ih ws (k + 1) c3 e3 (by omega)
 have := key xs ys 0 rfl rfl (Nat.zero_le _)
 simp only [f172]
 exact this
def ordV (a b : Str) : Int := bif jj8 a && jj8 b then ordL (jxX a) (jxX b) else 0
theorem versL_nonneg {s : Str} (h : jj8 s = true) : ∀ x, x ∈ jxX s → 0 ≤ x := by
 intro x hx
 unfold jxX at hx
 obtain ⟨p, hp, rfl⟩ := List.mem_map.1 hx
 unfold jj8 at h
 simp only [Bool.and_eq_true] at h
 have := List.all_eq_true.1 h.1 p hp
 unfold numB at this
 simp only [Bool.and_eq_true] at this
 exact val_nonneg p 0 this.1.1.1.1 (Int.le_refl _)
theorem versL_len (s : Str) : (jxX s).length ≤ s.length + 1 := by
 unfold jxX jqT
 rw [List.length_map]
 exact jqY 46 s
theorem v_VersionOrder (a) (h1 : a.1.1.length ≤ 2097151) (h2 : a.1.2.1.length ≤ 2097151) : f131 a = some ((ordV a.1.1 a.1.2.1, ()), ()) := by
 obtain ⟨⟨x, y, u⟩, u'⟩ := a
 have h1 : x.length ≤ 2097151 := h1
 have h2 : y.length ≤ 2097151 := h2
 obtain ⟨o1, e1, q1⟩ := v_l3Parts ((x, ()), ()) (show x.length ≤ 2097152 by omega)
 obtain ⟨o2, e2, q2⟩ := v_l3Parts ((y, ()), ()) (show y.length ≤ 2097152 by omega)
 simp only [f131, e1, e2, Option.bind_some, g131_60, ordV, Bool.not_not]
 cases hx : jj8 x with
 | false => rfl
 | true =>
  cases hy : jj8 y with
  | false => rfl
  | true =>
   have hx1 := versL_len x
   have hy1 := versL_len y
   have w1 : o1 = jxX x := q1 hx
   have w2 : o2 = jxX y := q2 hy
   subst w1 w2
   have e3 := v_l3Order ((jxX x, (jxX y, ())), ()) (show (jxX x).length ≤ 2097152 by omega) (show (jxX y).length ≤ 2097152 by omega) (versL_nonneg hx) (versL_nonneg hy)
   simp only [cond_true, Bool.not_true, Option.bind_some, cond_false, e3, Bool.and_self]
theorem v_iVersionOrder (a) (h1 : a.1.1.length ≤ 2097151) (h2 : a.1.2.1.length ≤ 2097151) : f71 a = some ((ordV a.1.1 a.1.2.1, ()), ()) := by
 obtain ⟨⟨x, y, u⟩, u'⟩ := a
 have h1 : x.length ≤ 2097151 := h1
 have h2 : y.length ≤ 2097151 := h2
 have e1 := jzo ((x, ()), ()) (show x.length ≤ 2097152 by omega)
 have e2 := jzo ((y, ()), ()) (show y.length ≤ 2097152 by omega)
 simp only [f71, e1, e2, Option.bind_some, g71_60, ordV, Bool.not_not]
 cases hx : jj8 x with
 | false => rfl
 | true =>
  cases hy : jj8 y with
  | false => rfl
  | true =>
   have hx1 := versL_len x
   have hy1 := versL_len y
   have e3 := v_Compare ((jxX x, (jxX y, ())), ()) (show (jxX x).length ≤ 2097152 by omega) (show (jxX y).length ≤ 2097152 by omega)
   simp only [cond_true, Bool.not_true, Option.bind_some, cond_false, f130, e3, Bool.and_self]
def fitsV (n : Need) (v : Str) : Bool := bif n.kind == 1 then ordV v n.version == 0 else bif n.kind == 2 then decide (ordV v n.version ≥ 0) else bif n.kind == 3 then decide (ordV v n.version < 0) else true
theorem v_l3Fits (a) (h1 : a.1.1.2.2.1.length ≤ 2097151) (h2 : a.1.2.2.1.length ≤ 2097151) (hn : a.1.2.1 = a.1.1.1) : f154 a = some ((fitsV ⟨a.1.1.1, a.1.1.2.1, a.1.1.2.2.1⟩ a.1.2.2.1, ()), ()) := by
 obtain ⟨⟨⟨n, k, v, u⟩, m, w, u'⟩, u''⟩ := a
 obtain rfl : m = n := hn
 have e1 := v_VersionOrder ((w, (v, ())), ()) h2 h1
 have e0 : (m == m) = true := by simp
 simp only [f154, e0, e1, Bool.not_true, cond_false, Option.bind_some, fitsV]
 cases (k == 1) <;> cases (k == 2) <;> cases (k == 3) <;> rfl
def fitsB (n : Need) (name v : Str) : Bool := jqU n && jj8 v && (name == n.name) && fitsV n v
theorem v_NeedFits (a) (h0 : Bd a.1.1.1.length) (h1 : a.1.1.2.2.1.length ≤ 2097151) (h2 : a.1.2.2.1.length ≤ 2097151) : f142 a = some ((fitsB ⟨a.1.1.1, a.1.1.2.1, a.1.1.2.2.1⟩ a.1.2.1 a.1.2.2.1, ()), ()) := by
 obtain ⟨⟨⟨n, k, v, u⟩, m, w, u'⟩, u''⟩ := a
 have h1 : v.length ≤ 2097151 := h1
 have h2 : w.length ≤ 2097151 := h2
 have e1 := v_iVersionOrder ((w, (v, ())), ()) h2 h1
 have e2 := v_iNeedOk (((n, (k, (v, ()))), ()), ()) h0 (show v.length ≤ 2097152 by omega)
 have e3 := jz0 ((w, ()), ()) (show w.length ≤ 2097152 by omega)
 simp only [f142, g142_12, e1, e2, e3, Bool.not_not, Option.bind_some, fitsB, fitsV]
 cases jqU ⟨n, k, v⟩ with
 | false => rfl
 | true =>
  cases jj8 w with
  | false => rfl
  | true =>
   cases (m == n) with
   | false => rfl
   | true =>
    simp only [cond_true, Bool.not_true, Option.bind_some, cond_false, Bool.true_and]
    cases (k == 1) <;> cases (k == 2) <;> cases (k == 3) <;> simp only [cond_true, cond_false, Option.bind_some, e1]
noncomputable def c125 : Ctx := { tt := tt, fs := fun n => match n with | _ => none }
theorem k125 (h : ∀ T, (tt T).ok Tryz.prog T) : CtxGood Tryz.prog c125 := ⟨⟨h⟩, fun g S hg => (by cases hg), jjq, fun _ _ h => (by cases h), fun _ h => (by cases h)⟩
noncomputable def b125 : Code := jjh Tryz.f125
@[reducible] noncomputable def s125_26 : Shape := ⟨[(0, .lf (.d (.sl .pack))), (1, .lf (.d (.str))), (5, .lf (.d (.int .i64)))], [], 20⟩
@[reducible] noncomputable def t125_26 : List OSh := [(.ret, ⟨[(4, .lf (.d (.int .i64)))], [], 20⟩), (.exit 0, ⟨[], [], 20⟩)]
noncomputable def g125_26 (y : s125_26.Y) : Option (Sum s125_26.Y (YS t125_26)) :=
 bif (decide (y.1.2.2.1 < (y.1.1.length : Int))) then
(ix y.1.1 y.1.2.2.1).bind fun x909 =>
 bif (x909.name == y.1.2.1) then
 some (.inr (.inl ((y.1.2.2.1, ()), ())))
else
 some (.inl ((y.1.1, (y.1.2.1, ((IntKind.i64.wrap (y.1.2.2.1 + (1 : Int))), ()))), ()))
else
 some (.inr (.inr ((), ())))
theorem r125_26 : ∀ y, g125_26 y = jjz (jjd c125 []) (jjl (jjc b125 1 26)) 26 s125_26 t125_26 y := fun y => by kernel_rfl
noncomputable def jJj : s125_26.Y → Option (YS t125_26) := jjD g125_26
theorem q125_26 (H : CtxGood Tryz.prog c125) : jjn Tryz.prog (jjc b125 1 26) (jjb s125_26 t125_26 jJj) :=
 jjt (fr := []) H (by kernel_rfl) (by kernel_rfl) jje (fun y => jji r125_26 y)
@[reducible] noncomputable def i125 : Shape := ⟨[(0, .lf (.d (.sl .pack))), (1, .lf (.d (.str)))], [], 20⟩
@[reducible] noncomputable def o125 : Shape := ⟨[(4, .lf (.d (.int .i64)))], [], 20⟩
noncomputable def f125 (a : i125.Y) : Option o125.Y :=
(jJj ((a.1.1, (a.1.2.1, ((0 : Int), ()))), ())).bind fun r913 =>
(match r913 with
| .inl r914 =>
 some ((r914.1.1, ()), ())
| .inr r915 =>
 some ((((-1) : Int), ()), ()))
theorem e125 : ∀ a, f125 a = jjp (jjd c125 [(26, jjb s125_26 t125_26 jJj)]) b125 i125 o125 a := fun a => by kernel_rfl
noncomputable def S125 : jjG := jjf tt 20 i125 o125 [.tmp 4] [] f125
theorem z125 (h : ∀ T, (tt T).ok Tryz.prog T) : jja Tryz.prog 125 S125 :=
 have H := k125 h
 jjj (fn := Tryz.f125) (fr := [(26, jjb s125_26 t125_26 jJj)]) H (by kernel_rfl) (by kernel_rfl) (by kernel_rfl) (by kernel_rfl) (by kernel_rfl) ⟨q125_26 H, trivial⟩ (by kernel_rfl) (fun y => ⟨_, _, rfl, rfl, rfl⟩) e125
noncomputable def c101 : Ctx := { tt := tt, fs := fun n => match n with | 125 => some S125 | 154 => some S154 | _ => none }
theorem k101 (h : ∀ T, (tt T).ok Tryz.prog T) (h125 : jja Tryz.prog 125 S125) (h154 : jja Tryz.prog 154 S154) : CtxGood Tryz.prog c101 := ⟨⟨h⟩, fun g S hg => (by
 simp only [c101] at hg
 split at hg
 ·cases hg; exact h125
 ·cases hg; exact h154
 ·cases hg), jjq, fun _ _ h => (by cases h), fun _ h => (by cases h)⟩
noncomputable def b101 : Code := jjh Tryz.f101
@[reducible] noncomputable def s101_215334 : Shape := ⟨[(0, .lf (.d (.sl .pack))), (3, .lf (.d (.int .i64))), (4, .lf (.d (.int .i64))), (5, .lf (.ptr 5 0)), (6, .lf (.d (.int .i64)))], [(5, .box [.d (.str), .d (.int .i64), .d (.str)], .same)], 49⟩
@[reducible] noncomputable def jxA : List OSh := [(.norm, ⟨[(0, .lf (.d (.sl .pack))), (3, .lf (.d (.int .i64))), (4, .lf (.d (.int .i64))), (35, .lf (.d (.int .i64))), (36, .lf (.d (.bool))), (37, .lf (.d (.bool))), (48, .lf (.d (.bool)))], [], 49⟩)]
noncomputable def jqB (y : s101_215334.Y) : Option (YS jxA) :=
 bif (decide (y.1.2.2.2.2.1 < (0 : Int))) then
 some (((y.1.1, (y.1.2.1, (y.1.2.2.1, (y.1.2.2.2.2.1, ((decide (y.1.2.2.2.2.1 < (0 : Int))), (true, (true, ()))))))), ()))
else
(ix y.1.1 y.1.2.2.2.2.1).bind fun x1119 =>
(f154 (((y.2.1.1, (y.2.1.2.1, (y.2.1.2.2.1, ()))), (y.2.1.1, (x1119.version, ()))), ())).bind fun r1120 =>
 some (((y.1.1, (y.1.2.1, (y.1.2.2.1, (y.1.2.2.2.2.1, ((decide (y.1.2.2.2.2.1 < (0 : Int))), (false, ((!r1120.1.1), ()))))))), ()))
theorem r101_215334 : ∀ y, jqB y = jjM (jjd c101 []) (jjc (jjl (jjc (jjl (jjc b101 1 26)) 52 1682)) 3364 215334) 215334 s101_215334 jxA y := fun y => by kernel_rfl
theorem q101_215334 (H : CtxGood Tryz.prog c101) : jjn Tryz.prog (jjc (jjl (jjc (jjl (jjc b101 1 26)) 52 1682)) 3364 215334) (jjb s101_215334 jxA jqB) :=
 jjv (fr := []) H (by kernel_rfl) jje r101_215334
@[reducible] noncomputable def s101_1682 : Shape := ⟨[(0, .lf (.d (.sl .pack))), (3, .lf (.d (.int .i64))), (4, .lf (.d (.int .i64)))], [], 49⟩
@[reducible] noncomputable def jx6 : List OSh := [(.ret, ⟨[(2, .lf (.d (.bool)))], [], 49⟩), (.exit 2, ⟨[(0, .lf (.d (.sl .pack))), (3, .lf (.d (.int .i64)))], [], 49⟩)]
noncomputable def jJx (y : s101_1682.Y) : Option (Sum s101_1682.Y (YS jx6)) :=
(ix y.1.1 y.1.2.1).bind fun x1123 =>
 bif (decide (y.1.2.2.1 < (x1123.needs.length : Int))) then
(ix y.1.1 y.1.2.1).bind fun x1126 =>
(ix x1126.needs y.1.2.2.1).bind fun x1127 =>
(f125 ((y.1.1, (x1127.name, ())), ())).bind fun r1129 =>
(jqB ((y.1.1, (y.1.2.1, (y.1.2.2.1, ((), (r1129.1.1, ()))))), ((x1127.name, (x1127.kind, (x1127.version, ()))), ()))).bind fun r1130 =>
 bif r1130.1.2.2.2.2.2.2.1 then
 some (.inr (.inl ((false, ()), ())))
else
 some (.inl ((r1130.1.1, (r1130.1.2.1, ((IntKind.i64.wrap (r1130.1.2.2.1 + (1 : Int))), ()))), ()))
else
 some (.inr (.inr ((y.1.1, (y.1.2.1, ())), ())))
theorem r101_1682 : ∀ y, jJx y = jjz (jjd c101 [(215334, jjb s101_215334 jxA jqB)]) (jjl (jjc (jjl (jjc b101 1 26)) 52 1682)) 1682 s101_1682 jx6 y := fun y => by kernel_rfl
noncomputable def jJm : s101_1682.Y → Option (YS jx6) := jjD jJx
theorem q101_1682 (H : CtxGood Tryz.prog c101) : jjn Tryz.prog (jjc (jjl (jjc b101 1 26)) 52 1682) (jjb s101_1682 jx6 jJm) :=
 jjt (fr := [(215334, jjb s101_215334 jxA jqB)]) H (by kernel_rfl) (by kernel_rfl) ⟨q101_215334 H, trivial⟩ (fun y => jji r101_1682 y)
@[reducible] noncomputable def s101_26 : Shape := ⟨[(0, .lf (.d (.sl .pack))), (3, .lf (.d (.int .i64)))], [], 49⟩
@[reducible] noncomputable def t101_26 : List OSh := [(.ret, ⟨[(2, .lf (.d (.bool)))], [], 49⟩), (.exit 0, ⟨[], [], 49⟩)]
noncomputable def g101_26 (y : s101_26.Y) : Option (Sum s101_26.Y (YS t101_26)) :=
 bif (decide (y.1.2.1 < (y.1.1.length : Int))) then
(jJm ((y.1.1, (y.1.2.1, ((0 : Int), ()))), ())).bind fun r1134 =>
(match r1134 with
| .inl r1135 =>
 some (.inr (.inl ((r1135.1.1, ()), ())))
| .inr r1136 =>
 some (.inl ((r1136.1.1, ((IntKind.i64.wrap (r1136.1.2.1 + (1 : Int))), ())), ())))
else
 some (.inr (.inr ((), ())))
theorem r101_26 : ∀ y, g101_26 y = jjz (jjd c101 [(1682, jjb s101_1682 jx6 jJm)]) (jjl (jjc b101 1 26)) 26 s101_26 t101_26 y := fun y => by kernel_rfl
noncomputable def l101_26 : s101_26.Y → Option (YS t101_26) := jjD g101_26
theorem q101_26 (H : CtxGood Tryz.prog c101) : jjn Tryz.prog (jjc b101 1 26) (jjb s101_26 t101_26 l101_26) :=
 jjt (fr := [(1682, jjb s101_1682 jx6 jJm)]) H (by kernel_rfl) (by kernel_rfl) ⟨q101_1682 H, trivial⟩ (fun y => jji r101_26 y)
@[reducible] noncomputable def i101 : Shape := ⟨[(0, .lf (.d (.sl .pack)))], [], 49⟩
@[reducible] noncomputable def o101 : Shape := ⟨[(2, .lf (.d (.bool)))], [], 49⟩
noncomputable def f101 (a : i101.Y) : Option o101.Y :=
(l101_26 ((a.1.1, ((0 : Int), ())), ())).bind fun r1140 =>
(match r1140 with
| .inl r1141 =>
 some ((r1141.1.1, ()), ())
| .inr r1142 =>
 some ((true, ()), ()))
theorem e101 : ∀ a, f101 a = jjp (jjd c101 [(26, jjb s101_26 t101_26 l101_26)]) b101 i101 o101 a := fun a => by kernel_rfl
noncomputable def S101 : jjG := jjf tt 49 i101 o101 [.tmp 2] [] f101
theorem z101 (h : ∀ T, (tt T).ok Tryz.prog T) (h125 : jja Tryz.prog 125 S125) (h154 : jja Tryz.prog 154 S154) : jja Tryz.prog 101 S101 :=
 have H := k101 h h125 h154
 jjj (fn := Tryz.f101) (fr := [(26, jjb s101_26 t101_26 l101_26)]) H (by kernel_rfl) (by kernel_rfl) (by kernel_rfl) (by kernel_rfl) (by kernel_rfl) ⟨q101_26 H, trivial⟩ (by kernel_rfl) (fun y => ⟨_, _, rfl, rfl, rfl⟩) e101
noncomputable def c149v0 : Ctx := { tt := tt, fs := fun n => match n with | 142 => some S142 | _ => none }
theorem k149v0 (h : ∀ T, (tt T).ok Tryz.prog T) (h142 : jja Tryz.prog 142 S142) : CtxGood Tryz.prog c149v0 := ⟨⟨h⟩, fun g S hg => (by
 simp only [c149v0] at hg
 split at hg
 ·cases hg; exact h142
 ·cases hg), jjq, fun _ _ h => (by cases h), fun _ h => (by cases h)⟩
noncomputable def b149v0 : Code := jjh Tryz.f149
@[reducible] noncomputable def i149v0 : Shape := ⟨[(0, .agg [.d (.str), .d (.str), .d (.sl .need), .d (.sl .entry)]), (1, .lf (.rptr [.str, .int .i64, .str] 0))], [], 10⟩
@[reducible] noncomputable def o149v0 : Shape := ⟨[(3, .lf (.d (.bool)))], [], 10⟩
noncomputable def f149v0 (a : i149v0.Y) : Option o149v0.Y :=
(f142 (((a.1.2.1.1, (a.1.2.1.2.1, (a.1.2.1.2.2.1, ()))), (a.1.1.1, (a.1.1.2.1, ()))), ())).bind fun r1789 =>
 some ((r1789.1.1, ()), ())
theorem e149v0 : ∀ a, f149v0 a = jjp (jjd c149v0 []) b149v0 i149v0 o149v0 a := fun a => by kernel_rfl
noncomputable def S149v0 : jjG := jjf tt 10 i149v0 o149v0 [.tmp 3] [] f149v0
theorem z149v0 (h : ∀ T, (tt T).ok Tryz.prog T) (h142 : jja Tryz.prog 142 S142) : jja Tryz.prog 149 S149v0 :=
 have H := k149v0 h h142
 jjj (fn := Tryz.f149) (fr := []) H (by kernel_rfl) (by kernel_rfl) (by kernel_rfl) (by kernel_rfl) (by kernel_rfl) jje (by kernel_rfl) (fun y => ⟨_, _, rfl, rfl, rfl⟩) e149v0
noncomputable def c191v0 : Ctx := { tt := tt, fs := fun n => match n with | 149 => some S149v0 | _ => none }
theorem k191v0 (h : ∀ T, (tt T).ok Tryz.prog T) (h149v0 : jja Tryz.prog 149 S149v0) : CtxGood Tryz.prog c191v0 := ⟨⟨h⟩, fun g S hg => (by
 simp only [c191v0] at hg
 split at hg
 ·cases hg; exact h149v0
 ·cases hg), jjq, fun _ _ h => (by cases h), fun _ h => (by cases h)⟩
noncomputable def b191v0 : Code := jjh Tryz.f191
@[reducible] noncomputable def s191v0_26 : Shape := ⟨[(0, .lf (.d (.sl .pack))), (1, .lf (.fn 149 [[.str, .int .i64, .str]])), (7, .lf (.d (.int .i64))), (8, .lf (.d (.int .i64)))], [], 19⟩
@[reducible] noncomputable def jx1 : List OSh := [(.ret, ⟨[(4, .lf (.d (.int .i64)))], [], 19⟩), (.exit 0, ⟨[], [], 19⟩)]
noncomputable def jJs (y : s191v0_26.Y) : Option (Sum s191v0_26.Y (YS jx1)) :=
 bif (decide (y.1.2.2.2.1 < y.1.2.2.1)) then
(ix y.1.1 y.1.2.2.2.1).bind fun x1795 =>
(f149v0 (((x1795.name, (x1795.version, (x1795.needs, (x1795.tree, ())))), ((y.1.2.1.1.1, (y.1.2.1.1.2.1, (y.1.2.1.1.2.2.1, ()))), ())), ())).bind fun r1796 =>
 bif r1796.1.1 then
 some (.inr (.inl ((y.1.2.2.2.1, ()), ())))
else
 some (.inl ((y.1.1, (((y.1.2.1.1.1, (y.1.2.1.1.2.1, (y.1.2.1.1.2.2.1, ()))), ()), (y.1.2.2.1, ((IntKind.i64.wrap (y.1.2.2.2.1 + (1 : Int))), ())))), ()))
else
 some (.inr (.inr ((), ())))
theorem r191v0_26 : ∀ y, jJs y = jjz (jjd c191v0 []) (jjl (jjc b191v0 1 26)) 26 s191v0_26 jx1 y := fun y => by kernel_rfl
noncomputable def jq7 : s191v0_26.Y → Option (YS jx1) := jjD jJs
theorem q191v0_26 (H : CtxGood Tryz.prog c191v0) : jjn Tryz.prog (jjc b191v0 1 26) (jjb s191v0_26 jx1 jq7) :=
 jjt (fr := []) H (by kernel_rfl) (by kernel_rfl) jje (fun y => jji r191v0_26 y)
@[reducible] noncomputable def i191v0 : Shape := ⟨[(0, .lf (.d (.sl .pack))), (1, .lf (.fn 149 [[.str, .int .i64, .str]]))], [], 19⟩
@[reducible] noncomputable def o191v0 : Shape := ⟨[(4, .lf (.d (.int .i64)))], [], 19⟩
noncomputable def f191v0 (a : i191v0.Y) : Option o191v0.Y :=
(jq7 ((a.1.1, (((a.1.2.1.1.1, (a.1.2.1.1.2.1, (a.1.2.1.1.2.2.1, ()))), ()), ((a.1.1.length : Int), ((0 : Int), ())))), ())).bind fun r1800 =>
(match r1800 with
| .inl r1801 =>
 some ((r1801.1.1, ()), ())
| .inr r1802 =>
 some ((((-1) : Int), ()), ()))
theorem e191v0 : ∀ a, f191v0 a = jjp (jjd c191v0 [(26, jjb s191v0_26 jx1 jq7)]) b191v0 i191v0 o191v0 a := fun a => by kernel_rfl
noncomputable def S191v0 : jjG := jjf tt 19 i191v0 o191v0 [.tmp 4] [] f191v0
theorem z191v0 (h : ∀ T, (tt T).ok Tryz.prog T) (h149v0 : jja Tryz.prog 149 S149v0) : jja Tryz.prog 191 S191v0 :=
 have H := k191v0 h h149v0
 jjj (fn := Tryz.f191) (fr := [(26, jjb s191v0_26 jx1 jq7)]) H (by kernel_rfl) (by kernel_rfl) (by kernel_rfl) (by kernel_rfl) (by kernel_rfl) ⟨q191v0_26 H, trivial⟩ (by kernel_rfl) (fun y => ⟨_, _, rfl, rfl, rfl⟩) e191v0
noncomputable def c150v0 : Ctx := { tt := tt, fs := fun n => match n with | 191 => some S191v0 | _ => none }
theorem k150v0 (h : ∀ T, (tt T).ok Tryz.prog T) (h191v0 : jja Tryz.prog 191 S191v0) : CtxGood Tryz.prog c150v0 := ⟨⟨h⟩, fun g S hg => (by
 simp only [c150v0] at hg
 split at hg
 ·cases hg; exact h191v0
 ·cases hg), jjq, fun _ _ h => (by cases h), fun _ h => (by cases h)⟩
noncomputable def b150v0 : Code := jjh Tryz.f150
@[reducible] noncomputable def i150v0 : Shape := ⟨[(0, .lf (.d (.sl .pack))), (1, .lf (.fn 149 [[.str, .int .i64, .str]]))], [], 9⟩
@[reducible] noncomputable def o150v0 : Shape := ⟨[(4, .lf (.d (.bool)))], [], 9⟩
noncomputable def f150v0 (a : i150v0.Y) : Option o150v0.Y :=
(f191v0 ((a.1.1, (((a.1.2.1.1.1, (a.1.2.1.1.2.1, (a.1.2.1.1.2.2.1, ()))), ()), ())), ())).bind fun r1804 =>
 some (((decide (r1804.1.1 ≥ (0 : Int))), ()), ())
theorem e150v0 : ∀ a, f150v0 a = jjp (jjd c150v0 []) b150v0 i150v0 o150v0 a := fun a => by kernel_rfl
noncomputable def S150v0 : jjG := jjf tt 9 i150v0 o150v0 [.tmp 4] [] f150v0
theorem z150v0 (h : ∀ T, (tt T).ok Tryz.prog T) (h191v0 : jja Tryz.prog 191 S191v0) : jja Tryz.prog 150 S150v0 :=
 have H := k150v0 h h191v0
 jjj (fn := Tryz.f150) (fr := []) H (by kernel_rfl) (by kernel_rfl) (by kernel_rfl) (by kernel_rfl) (by kernel_rfl) jje (by kernel_rfl) (fun y => ⟨_, _, rfl, rfl, rfl⟩) e150v0
noncomputable def c93v0 : Ctx := { tt := tt, fs := fun n => match n with | 94 => some S94v0 | 95 => some S95 | _ => none }
theorem k93v0 (h : ∀ T, (tt T).ok Tryz.prog T) (h94v0 : jja Tryz.prog 94 S94v0) (h95 : jja Tryz.prog 95 S95) : CtxGood Tryz.prog c93v0 := ⟨⟨h⟩, fun g S hg => (by
 simp only [c93v0] at hg
 split at hg
 ·cases hg; exact h94v0
 ·cases hg; exact h95
 ·cases hg), jjq, fun _ _ h => (by cases h), fun _ h => (by cases h)⟩
noncomputable def b93v0 : Code := jjh Tryz.f93
@[reducible] noncomputable def s93v0_12 : Shape := ⟨[(0, .lf (.rptr [.sl .pack] 0))], [], 10⟩
@[reducible] noncomputable def t93v0_12 : List OSh := [(.norm, ⟨[(9, .lf (.d (.bool)))], [], 10⟩)]
noncomputable def jJO (y : s93v0_12.Y) : Option (YS t93v0_12) :=
(f94v0 ((y.1.1.1, ((), ())), ())).bind fun r1709 =>
 bif (!(!r1709.1.1)) then
(f95 ((y.1.1.1, ()), ())).bind fun r1710 =>
 some ((((!r1710.1.1), ()), ()))
else
 some (((true, ()), ()))
theorem r93v0_12 : ∀ y, jJO y = jjM (jjd c93v0 []) (jjc b93v0 1 12) 12 s93v0_12 t93v0_12 y := fun y => by kernel_rfl
theorem q93v0_12 (H : CtxGood Tryz.prog c93v0) : jjn Tryz.prog (jjc b93v0 1 12) (jjb s93v0_12 t93v0_12 jJO) :=
 jjv (fr := []) H (by kernel_rfl) jje r93v0_12
@[reducible] noncomputable def i93v0 : Shape := ⟨[(0, .lf (.rptr [.sl .pack] 0))], [], 10⟩
@[reducible] noncomputable def o93v0 : Shape := ⟨[(1, .lf (.d (.int .i64)))], [], 10⟩
noncomputable def f93v0 (a : i93v0.Y) : Option o93v0.Y :=
(jJO (((a.1.1.1, ()), ()), ())).bind fun r1712 =>
 bif r1712.1.1 then
 some (((1 : Int), ()), ())
else
 some (((0 : Int), ()), ())
theorem e93v0 : ∀ a, f93v0 a = jjp (jjd c93v0 [(12, jjb s93v0_12 t93v0_12 jJO)]) b93v0 i93v0 o93v0 a := fun a => by kernel_rfl
noncomputable def S93v0 : jjG := jjf tt 10 i93v0 o93v0 [.tmp 1] [] f93v0
theorem z93v0 (h : ∀ T, (tt T).ok Tryz.prog T) (h94v0 : jja Tryz.prog 94 S94v0) (h95 : jja Tryz.prog 95 S95) : jja Tryz.prog 93 S93v0 :=
 have H := k93v0 h h94v0 h95
 jjj (fn := Tryz.f93) (fr := [(12, jjb s93v0_12 t93v0_12 jJO)]) H (by kernel_rfl) (by kernel_rfl) (by kernel_rfl) (by kernel_rfl) (by kernel_rfl) ⟨q93v0_12 H, trivial⟩ (by kernel_rfl) (fun y => ⟨_, _, rfl, rfl, rfl⟩) e93v0
noncomputable def c96v0 : Ctx := { tt := tt, fs := fun n => match n with | _ => none }
theorem k96v0 (h : ∀ T, (tt T).ok Tryz.prog T) : CtxGood Tryz.prog c96v0 := ⟨⟨h⟩, fun g S hg => (by cases hg), jjq, fun _ _ h => (by cases h), fun _ h => (by cases h)⟩
noncomputable def b96v0 : Code := jjh Tryz.f96
@[reducible] noncomputable def i96v0 : Shape := ⟨[(0, .lf (.rptr [.sl .pack] 0))], [], 5⟩
@[reducible] noncomputable def o96v0 : Shape := ⟨[(1, .lf (.d (.int .i64)))], [], 5⟩
noncomputable def f96v0 (a : i96v0.Y) : Option o96v0.Y :=
 bif (decide ((a.1.1.1.length : Int) > (5 : Int))) then
 some (((6 : Int), ()), ())
else
 some (((0 : Int), ()), ())
theorem e96v0 : ∀ a, f96v0 a = jjp (jjd c96v0 []) b96v0 i96v0 o96v0 a := fun a => by kernel_rfl
noncomputable def S96v0 : jjG := jjf tt 5 i96v0 o96v0 [.tmp 1] [] f96v0
theorem z96v0 (h : ∀ T, (tt T).ok Tryz.prog T) : jja Tryz.prog 96 S96v0 :=
 have H := k96v0 h
 jjj (fn := Tryz.f96) (fr := []) H (by kernel_rfl) (by kernel_rfl) (by kernel_rfl) (by kernel_rfl) (by kernel_rfl) jje (by kernel_rfl) (fun y => ⟨_, _, rfl, rfl, rfl⟩) e96v0
noncomputable def c98 : Ctx := { tt := tt, fs := fun n => match n with | 150 => some S150v0 | _ => none }
theorem k98 (h : ∀ T, (tt T).ok Tryz.prog T) (h150v0 : jja Tryz.prog 150 S150v0) : CtxGood Tryz.prog c98 := ⟨⟨h⟩, fun g S hg => (by
 simp only [c98] at hg
 split at hg
 ·cases hg; exact h150v0
 ·cases hg), jjq, fun _ _ h => (by cases h), fun _ h => (by cases h)⟩
noncomputable def b98 : Code := jjh Tryz.f98
@[reducible] noncomputable def s98_6758 : Shape := ⟨[(0, .lf (.d (.sl .pack))), (8, .lf (.d (.sl .pack))), (9, .lf (.d (.int .i64))), (10, .lf (.d (.int .i64))), (15, .lf (.d (.sl .need))), (16, .lf (.d (.int .i64))), (17, .lf (.d (.int .i64)))], [], 28⟩
@[reducible] noncomputable def jJD : List OSh := [(.ret, ⟨[(2, .lf (.d (.bool)))], [], 28⟩), (.exit 2, ⟨[(0, .lf (.d (.sl .pack))), (8, .lf (.d (.sl .pack))), (9, .lf (.d (.int .i64))), (10, .lf (.d (.int .i64)))], [], 28⟩)]
noncomputable def g98_6758 (y : s98_6758.Y) : Option (Sum s98_6758.Y (YS jJD)) :=
 bif (decide (y.1.2.2.2.2.2.2.1 < y.1.2.2.2.2.2.1)) then
(ix y.1.2.2.2.2.1 y.1.2.2.2.2.2.2.1).bind fun x1808 =>
(f150v0 ((y.1.1, (((x1808.name, (x1808.kind, (x1808.version, ()))), ()), ())), ())).bind fun r1810 =>
 bif (!r1810.1.1) then
 some (.inr (.inl ((false, ()), ())))
else
 some (.inl ((y.1.1, (y.1.2.1, (y.1.2.2.1, (y.1.2.2.2.1, (y.1.2.2.2.2.1, (y.1.2.2.2.2.2.1, ((IntKind.i64.wrap (y.1.2.2.2.2.2.2.1 + (1 : Int))), ()))))))), ()))
else
 some (.inr (.inr ((y.1.1, (y.1.2.1, (y.1.2.2.1, (y.1.2.2.2.1, ())))), ())))
theorem r98_6758 : ∀ y, g98_6758 y = jjz (jjd c98 []) (jjl (jjc (jjl (jjc b98 1 26)) 52 6758)) 6758 s98_6758 jJD y := fun y => by kernel_rfl
noncomputable def l98_6758 : s98_6758.Y → Option (YS jJD) := jjD g98_6758
theorem q98_6758 (H : CtxGood Tryz.prog c98) : jjn Tryz.prog (jjc (jjl (jjc b98 1 26)) 52 6758) (jjb s98_6758 jJD l98_6758) :=
 jjt (fr := []) H (by kernel_rfl) (by kernel_rfl) jje (fun y => jji r98_6758 y)
@[reducible] noncomputable def s98_26 : Shape := ⟨[(0, .lf (.d (.sl .pack))), (8, .lf (.d (.sl .pack))), (9, .lf (.d (.int .i64))), (10, .lf (.d (.int .i64)))], [], 28⟩
@[reducible] noncomputable def t98_26 : List OSh := [(.ret, ⟨[(2, .lf (.d (.bool)))], [], 28⟩), (.exit 0, ⟨[], [], 28⟩)]
noncomputable def g98_26 (y : s98_26.Y) : Option (Sum s98_26.Y (YS t98_26)) :=
 bif (decide (y.1.2.2.2.1 < y.1.2.2.1)) then
(ix y.1.2.1 y.1.2.2.2.1).bind fun x1815 =>
(l98_6758 ((y.1.1, (y.1.2.1, (y.1.2.2.1, (y.1.2.2.2.1, (x1815.needs, ((x1815.needs.length : Int), ((0 : Int), ()))))))), ())).bind fun r1816 =>
(match r1816 with
| .inl r1817 =>
 some (.inr (.inl ((r1817.1.1, ()), ())))
| .inr r1818 =>
 some (.inl ((r1818.1.1, (r1818.1.2.1, (r1818.1.2.2.1, ((IntKind.i64.wrap (r1818.1.2.2.2.1 + (1 : Int))), ())))), ())))
else
 some (.inr (.inr ((), ())))
theorem r98_26 : ∀ y, g98_26 y = jjz (jjd c98 [(6758, jjb s98_6758 jJD l98_6758)]) (jjl (jjc b98 1 26)) 26 s98_26 t98_26 y := fun y => by kernel_rfl
noncomputable def l98_26 : s98_26.Y → Option (YS t98_26) := jjD g98_26
theorem q98_26 (H : CtxGood Tryz.prog c98) : jjn Tryz.prog (jjc b98 1 26) (jjb s98_26 t98_26 l98_26) :=
 jjt (fr := [(6758, jjb s98_6758 jJD l98_6758)]) H (by kernel_rfl) (by kernel_rfl) ⟨q98_6758 H, trivial⟩ (fun y => jji r98_26 y)
@[reducible] noncomputable def i98 : Shape := ⟨[(0, .lf (.d (.sl .pack)))], [], 28⟩
@[reducible] noncomputable def o98 : Shape := ⟨[(2, .lf (.d (.bool)))], [], 28⟩
noncomputable def f98 (a : i98.Y) : Option o98.Y :=
(l98_26 ((a.1.1, (a.1.1, ((a.1.1.length : Int), ((0 : Int), ())))), ())).bind fun r1822 =>
(match r1822 with
| .inl r1823 =>
 some ((r1823.1.1, ()), ())
| .inr r1824 =>
 some ((true, ()), ()))
theorem e98 : ∀ a, f98 a = jjp (jjd c98 [(26, jjb s98_26 t98_26 l98_26)]) b98 i98 o98 a := fun a => by kernel_rfl
noncomputable def S98 : jjG := jjf tt 28 i98 o98 [.tmp 2] [] f98
theorem z98 (h : ∀ T, (tt T).ok Tryz.prog T) (h150v0 : jja Tryz.prog 150 S150v0) : jja Tryz.prog 98 S98 :=
 have H := k98 h h150v0
 jjj (fn := Tryz.f98) (fr := [(26, jjb s98_26 t98_26 l98_26)]) H (by kernel_rfl) (by kernel_rfl) (by kernel_rfl) (by kernel_rfl) (by kernel_rfl) ⟨q98_26 H, trivial⟩ (by kernel_rfl) (fun y => ⟨_, _, rfl, rfl, rfl⟩) e98
noncomputable def c97v0 : Ctx := { tt := tt, fs := fun n => match n with | 98 => some S98 | _ => none }
theorem k97v0 (h : ∀ T, (tt T).ok Tryz.prog T) (h98 : jja Tryz.prog 98 S98) : CtxGood Tryz.prog c97v0 := ⟨⟨h⟩, fun g S hg => (by
 simp only [c97v0] at hg
 split at hg
 ·cases hg; exact h98
 ·cases hg), jjq, fun _ _ h => (by cases h), fun _ h => (by cases h)⟩
noncomputable def b97v0 : Code := jjh Tryz.f97
@[reducible] noncomputable def i97v0 : Shape := ⟨[(0, .lf (.rptr [.sl .pack] 0))], [], 5⟩
@[reducible] noncomputable def o97v0 : Shape := ⟨[(1, .lf (.d (.int .i64)))], [], 5⟩
noncomputable def f97v0 (a : i97v0.Y) : Option o97v0.Y :=
(f98 ((a.1.1.1, ()), ())).bind fun r1828 =>
 bif (!r1828.1.1) then
 some (((4 : Int), ()), ())
else
 some (((0 : Int), ()), ())
theorem e97v0 : ∀ a, f97v0 a = jjp (jjd c97v0 []) b97v0 i97v0 o97v0 a := fun a => by kernel_rfl
noncomputable def S97v0 : jjG := jjf tt 5 i97v0 o97v0 [.tmp 1] [] f97v0
theorem z97v0 (h : ∀ T, (tt T).ok Tryz.prog T) (h98 : jja Tryz.prog 98 S98) : jja Tryz.prog 97 S97v0 :=
 have H := k97v0 h h98
 jjj (fn := Tryz.f97) (fr := []) H (by kernel_rfl) (by kernel_rfl) (by kernel_rfl) (by kernel_rfl) (by kernel_rfl) jje (by kernel_rfl) (fun y => ⟨_, _, rfl, rfl, rfl⟩) e97v0
noncomputable def c99v0 : Ctx := { tt := tt, fs := fun n => match n with | 49 => some S49 | _ => none }
theorem k99v0 (h : ∀ T, (tt T).ok Tryz.prog T) (h49 : jja Tryz.prog 49 S49) : CtxGood Tryz.prog c99v0 := ⟨⟨h⟩, fun g S hg => (by
 simp only [c99v0] at hg
 split at hg
 ·cases hg; exact h49
 ·cases hg), jjq, fun _ _ h => (by cases h), fun _ h => (by cases h)⟩
noncomputable def b99v0 : Code := jjh Tryz.f99
@[reducible] noncomputable def i99v0 : Shape := ⟨[(0, .lf (.rptr [.sl .pack] 0))], [], 11⟩
@[reducible] noncomputable def o99v0 : Shape := ⟨[(1, .lf (.d (.int .i64)))], [], 11⟩
noncomputable def f99v0 (a : i99v0.Y) : Option o99v0.Y :=
(f49 ((a.1.1.1, ()), ())).bind fun r1901 =>
 bif (!r1901.1.2.1) then
 some (((5 : Int), ()), ())
else
 some (((0 : Int), ()), ())
theorem e99v0 : ∀ a, f99v0 a = jjp (jjd c99v0 []) b99v0 i99v0 o99v0 a := fun a => by kernel_rfl
noncomputable def S99v0 : jjG := jjf tt 11 i99v0 o99v0 [.tmp 1] [] f99v0
theorem z99v0 (h : ∀ T, (tt T).ok Tryz.prog T) (h49 : jja Tryz.prog 49 S49) : jja Tryz.prog 99 S99v0 :=
 have H := k99v0 h h49
 jjj (fn := Tryz.f99) (fr := []) H (by kernel_rfl) (by kernel_rfl) (by kernel_rfl) (by kernel_rfl) (by kernel_rfl) jje (by kernel_rfl) (fun y => ⟨_, _, rfl, rfl, rfl⟩) e99v0
noncomputable def c51 : Ctx := { tt := tt, fs := fun n => match n with | 93 => some S93v0 | 96 => some S96v0 | 97 => some S97v0 | 99 => some S99v0 | _ => none }
theorem k51 (h : ∀ T, (tt T).ok Tryz.prog T) (h93v0 : jja Tryz.prog 93 S93v0) (h96v0 : jja Tryz.prog 96 S96v0) (h97v0 : jja Tryz.prog 97 S97v0) (h99v0 : jja Tryz.prog 99 S99v0) : CtxGood Tryz.prog c51 := ⟨⟨h⟩, fun g S hg => (by
 simp only [c51] at hg
 split at hg
 ·cases hg; exact h93v0
 ·cases hg; exact h96v0
 ·cases hg; exact h97v0
 ·cases hg; exact h99v0
 ·cases hg), jjq, fun _ _ h => (by cases h), fun _ h => (by cases h)⟩
noncomputable def b51 : Code := jjh Tryz.f51
@[reducible] noncomputable def s51_3 : Shape := ⟨[(1, .lf (.ptr 1 0))], [(1, .box [.d (.sl .pack)], .same)], 24⟩
@[reducible] noncomputable def t51_3 : List OSh := [(.ret, ⟨[(2, .lf (.d (.int .i64)))], [], 24⟩)]
noncomputable def m51_3 (c : Int) : YS t51_3 := ((c, ()), ())
noncomputable def g51_3 (y : s51_3.Y) : Option (YS t51_3) := restC y.2.1.1 m51_3 [fun ps => f93v0 (((ps, ()), ()), ()), fun ps => f96v0 (((ps, ()), ()), ()), fun ps => f97v0 (((ps, ()), ()), ()), fun ps => f99v0 (((ps, ()), ()), ())]
theorem x51_0 : ∀ ps k i, jJW (jjd c51 []) (jjc (jjl (jjc b51 1 58)) 116 3737) 3737 (((shL 24).st (yL 24 ps k i)).set 5 (lfv (.clo 93 [(1, 0)]))) (kBody 24 t51_3) = ((fun ps => f93v0 (((ps, ()), ()), ())) ps).bind fun r => bif (r.1.1 != 0) then some (.inr (m51_3 r.1.1)) else some (.inl (yL 24 ps k i)) := fun ps k i => by kernel_rfl
theorem x51_1 : ∀ ps k i, jJW (jjd c51 []) (jjc (jjl (jjc b51 1 58)) 116 3737) 3737 (((shL 24).st (yL 24 ps k i)).set 5 (lfv (.clo 96 [(1, 0)]))) (kBody 24 t51_3) = ((fun ps => f96v0 (((ps, ()), ()), ())) ps).bind fun r => bif (r.1.1 != 0) then some (.inr (m51_3 r.1.1)) else some (.inl (yL 24 ps k i)) := fun ps k i => by kernel_rfl
theorem x51_2 : ∀ ps k i, jJW (jjd c51 []) (jjc (jjl (jjc b51 1 58)) 116 3737) 3737 (((shL 24).st (yL 24 ps k i)).set 5 (lfv (.clo 97 [(1, 0)]))) (kBody 24 t51_3) = ((fun ps => f97v0 (((ps, ()), ()), ())) ps).bind fun r => bif (r.1.1 != 0) then some (.inr (m51_3 r.1.1)) else some (.inl (yL 24 ps k i)) := fun ps k i => by kernel_rfl
theorem x51_3 : ∀ ps k i, jJW (jjd c51 []) (jjc (jjl (jjc b51 1 58)) 116 3737) 3737 (((shL 24).st (yL 24 ps k i)).set 5 (lfv (.clo 99 [(1, 0)]))) (kBody 24 t51_3) = ((fun ps => f99v0 (((ps, ()), ()), ())) ps).bind fun r => bif (r.1.1 != 0) then some (.inr (m51_3 r.1.1)) else some (.inl (yL 24 ps k i)) := fun ps k i => by kernel_rfl
theorem q51_3 (H : CtxGood Tryz.prog c51) : jjn Tryz.prog (jjc b51 1 3) (jjb s51_3 t51_3 g51_3) :=
 checks_frag (C := jjd c51 []) (os := t51_3) (nt := 24) (T := 120) (e := 119) (m0 := ((jQd (jjc b51 1 6)).getD 0 default)) (m1 := ((jQd (jjc b51 1 6)).getD 1 default)) (m2 := ((jQd (jjc b51 1 6)).getD 2 default)) (m3 := ((jQd (jjc b51 1 6)).getD 3 default)) (m4 := ((jQd (jjc b51 1 6)).getD 4 default)) (m5 := ((jQd (jjc b51 1 6)).getD 5 default)) (n0 := ((jQd (jjc b51 1 28)).getD 0 default)) (n1 := ((jQd (jjc b51 1 28)).getD 1 default)) (n2 := ((jQd (jjc b51 1 28)).getD 2 default)) (q0 := ((jQd (jjc (jjl (jjc b51 1 58)) 116 232)).getD 0 default)) (r0 := ((jQd (jjc (jjl (jjc b51 1 58)) 116 3736)).getD 0 default)) (r1 := ((jQd (jjc (jjl (jjc b51 1 58)) 116 3736)).getD 1 default)) (r2 := ((jQd (jjc (jjl (jjc b51 1 58)) 116 3736)).getD 2 default))
  (i1 := ridOf (jjc b51 1 6)) (i2 := ridOf (jjc b51 1 28)) (i3 := ridOf (jjc (jjl (jjc b51 1 58)) 116 232)) (i4 := ridOf (jjc (jjl (jjc b51 1 58)) 116 3736)) (BB := (jjc (jjl (jjc b51 1 58)) 116 3737)) (r8 := (jjc (jjl (jjc b51 1 58)) 116 935)) (E := (jjc b51 1 15)) (p3 := 232) (pB := 3737) (p8 := 935) (pE := 15) (g0 := 93) (g1 := 96) (g2 := 97) (g3 := 99) (c0 := fun ps => f93v0 (((ps, ()), ()), ())) (c1 := fun ps => f96v0 (((ps, ()), ()), ())) (c2 := fun ps => f97v0 (((ps, ()), ()), ())) (c3 := fun ps => f99v0 (((ps, ()), ()), ())) (mk := m51_3) H
  {und := (by kernel_rfl), tye := (by kernel_rfl), gd := ⟨(by kernel_rfl), (by kernel_rfl), (by kernel_rfl), (by kernel_rfl), (by kernel_rfl), (by kernel_rfl), (by kernel_rfl), (by kernel_rfl), (by kernel_rfl), (by kernel_rfl), (by kernel_rfl), (by kernel_rfl)⟩, om := ⟨(by kernel_rfl), (by kernel_rfl)⟩, on := ⟨(by kernel_rfl), (by kernel_rfl), (by kernel_rfl)⟩, ors := ⟨(by kernel_rfl), (by kernel_rfl), (by kernel_rfl)⟩, dst := ⟨(by kernel_rfl), (by kernel_rfl), (by kernel_rfl), (by kernel_rfl), (by kernel_rfl), (by kernel_rfl), (by kernel_rfl), (by kernel_rfl)⟩, nt20 := (by decide), nrB := (by kernel_rfl), nr8 := (by kernel_rfl), nrE := (by kernel_rfl), wr := (by kernel_rfl), wrE := (by kernel_rfl),
   orcs := ⟨(fun f hf => by cases hf), jj9 (by kernel_rfl) jje, jj9 (by kernel_rfl) jje, jj9 (by kernel_rfl) jje⟩, hos := (fun _ _ => rfl), h4 := (fun ps => by kernel_rfl), hset := (fun ps k i => by kernel_rfl), hlt := (fun ps k i => by kernel_rfl),
   hB := (fun gc h => by
    simp only [List.mem_cons, List.not_mem_nil, or_false] at h
    rcases h with rfl | rfl | rfl | rfl
    ·exact x51_0
    ·exact x51_1
    ·exact x51_2
    ·exact x51_3),
   h8 := (fun ps k i => by kernel_rfl), hE := (fun ps k i => by kernel_rfl) } (fun ps => rfl) (by kernel_rfl)
@[reducible] noncomputable def i51 : Shape := ⟨[(0, .lf (.d (.sl .pack)))], [], 24⟩
@[reducible] noncomputable def o51 : Shape := ⟨[(2, .lf (.d (.int .i64)))], [], 24⟩
noncomputable def f51 (a : i51.Y) : Option o51.Y :=
(g51_3 (((), ()), ((a.1.1, ()), ()))).bind fun r1903 =>
 some ((r1903.1.1, ()), ())
theorem e51 : ∀ a, f51 a = jjp (jjd c51 [(3, jjb s51_3 t51_3 g51_3)]) b51 i51 o51 a := fun a => by kernel_rfl
noncomputable def S51 : jjG := jjf tt 24 i51 o51 [.tmp 2] [] f51
theorem z51 (h : ∀ T, (tt T).ok Tryz.prog T) (h93v0 : jja Tryz.prog 93 S93v0) (h96v0 : jja Tryz.prog 96 S96v0) (h97v0 : jja Tryz.prog 97 S97v0) (h99v0 : jja Tryz.prog 99 S99v0) : jja Tryz.prog 51 S51 :=
 have H := k51 h h93v0 h96v0 h97v0 h99v0
 jjj (fn := Tryz.f51) (fr := [(3, jjb s51_3 t51_3 g51_3)]) H (by kernel_rfl) (by kernel_rfl) (by kernel_rfl) (by kernel_rfl) (by kernel_rfl) ⟨q51_3 H, trivial⟩ (by kernel_rfl) (fun y => ⟨_, _, rfl, rfl, rfl⟩) e51
noncomputable def c19 : Ctx := { tt := tt, fs := fun n => match n with | 51 => some S51 | _ => none }
theorem k19 (h : ∀ T, (tt T).ok Tryz.prog T) (h51 : jja Tryz.prog 51 S51) : CtxGood Tryz.prog c19 := ⟨⟨h⟩, fun g S hg => (by
 simp only [c19] at hg
 split at hg
 ·cases hg; exact h51
 ·cases hg), jjq, fun _ _ h => (by cases h), fun _ h => (by cases h)⟩
noncomputable def b19 : Code := jjh Tryz.f19
@[reducible] noncomputable def i19 : Shape := ⟨[(0, .agg [.d (.sl .pack)])], [], 7⟩
@[reducible] noncomputable def o19 : Shape := ⟨[(2, .lf (.d (.bool)))], [], 7⟩
noncomputable def f19 (a : i19.Y) : Option o19.Y :=
(f51 ((a.1.1.1, ()), ())).bind fun r1905 =>
 some (((r1905.1.1 == (0 : Int)), ()), ())
theorem e19 : ∀ a, f19 a = jjp (jjd c19 []) b19 i19 o19 a := fun a => by kernel_rfl
noncomputable def S19 : jjG := jjf tt 7 i19 o19 [.tmp 2] [] f19
theorem z19 (h : ∀ T, (tt T).ok Tryz.prog T) (h51 : jja Tryz.prog 51 S51) : jja Tryz.prog 19 S19 :=
 have H := k19 h h51
 jjj (fn := Tryz.f19) (fr := []) H (by kernel_rfl) (by kernel_rfl) (by kernel_rfl) (by kernel_rfl) (by kernel_rfl) jje (by kernel_rfl) (fun y => ⟨_, _, rfl, rfl, rfl⟩) e19
noncomputable def c52 : Ctx := { tt := tt, fs := fun n => match n with | 50 => some S50 | 100 => some S100 | 101 => some S101 | _ => none }
theorem k52 (h : ∀ T, (tt T).ok Tryz.prog T) (h50 : jja Tryz.prog 50 S50) (h100 : jja Tryz.prog 100 S100) (h101 : jja Tryz.prog 101 S101) : CtxGood Tryz.prog c52 := ⟨⟨h⟩, fun g S hg => (by
 simp only [c52] at hg
 split at hg
 ·cases hg; exact h50
 ·cases hg; exact h100
 ·cases hg; exact h101
 ·cases hg), jjq, fun _ _ h => (by cases h), fun _ h => (by cases h)⟩
noncomputable def b52 : Code := jjh Tryz.f52
@[reducible] noncomputable def s52_840 : Shape := ⟨[(0, .lf (.d (.sl .pack))), (3, .lf (.d (.int .i64)))], [], 52⟩
@[reducible] noncomputable def t52_840 : List OSh := [(.norm, ⟨[(0, .lf (.d (.sl .pack))), (3, .lf (.d (.int .i64))), (12, .lf (.d (.sl .pack))), (13, .lf (.d (.int .i64))), (14, .lf (.rptr [.str, .str, .sl .need, .sl .entry] 0)), (15, .agg [.d (.str), .d (.str), .d (.sl .need), .d (.sl .entry)]), (16, .lf (.d (.bool))), (17, .lf (.d (.bool))), (18, .lf (.d (.bool))), (35, .lf (.d (.bool)))], [], 52⟩)]
noncomputable def jQi (y : s52_840.Y) : Option (YS t52_840) :=
(ix y.1.1 y.1.2.1).bind fun x951 =>
(f100 (((x951.name, (x951.version, (x951.needs, (x951.tree, ())))), ()), ())).bind fun r952 =>
 bif (!r952.1.1) then
 some (((y.1.1, (y.1.2.1, (y.1.1, (y.1.2.1, ((x951.name, (x951.version, (x951.needs, (x951.tree, ())))), ((x951.name, (x951.version, (x951.needs, (x951.tree, ())))), (r952.1.1, ((!r952.1.1), (true, (true, ())))))))))), ()))
else
 bif (decide (y.1.2.1 > (0 : Int))) then
(ix y.1.1 (IntKind.i64.wrap (y.1.2.1 - (1 : Int)))).bind fun x953 =>
(ix y.1.1 y.1.2.1).bind fun x954 =>
 some (((y.1.1, (y.1.2.1, (y.1.1, (y.1.2.1, ((x951.name, (x951.version, (x951.needs, (x951.tree, ())))), ((x951.name, (x951.version, (x951.needs, (x951.tree, ())))), (r952.1.1, ((!r952.1.1), (false, ((!(Op.bytesLess x953.name x954.name)), ())))))))))), ()))
else
 some (((y.1.1, (y.1.2.1, (y.1.1, (y.1.2.1, ((x951.name, (x951.version, (x951.needs, (x951.tree, ())))), ((x951.name, (x951.version, (x951.needs, (x951.tree, ())))), (r952.1.1, ((!r952.1.1), (false, (false, ())))))))))), ()))
theorem r52_840 : ∀ y, jQi y = jjM (jjd c52 []) (jjc (jjl (jjc b52 1 26)) 52 840) 840 s52_840 t52_840 y := fun y => by kernel_rfl
theorem q52_840 (H : CtxGood Tryz.prog c52) : jjn Tryz.prog (jjc (jjl (jjc b52 1 26)) 52 840) (jjb s52_840 t52_840 jQi) :=
 jjv (fr := []) H (by kernel_rfl) jje r52_840
@[reducible] noncomputable def s52_26 : Shape := ⟨[(0, .lf (.d (.sl .pack))), (3, .lf (.d (.int .i64)))], [], 52⟩
@[reducible] noncomputable def t52_26 : List OSh := [(.ret, ⟨[(2, .lf (.d (.int .i64)))], [], 52⟩), (.exit 0, ⟨[(0, .lf (.d (.sl .pack)))], [], 52⟩)]
noncomputable def g52_26 (y : s52_26.Y) : Option (Sum s52_26.Y (YS t52_26)) :=
 bif (decide (y.1.2.1 < (y.1.1.length : Int))) then
(jQi ((y.1.1, (y.1.2.1, ())), ())).bind fun r956 =>
 bif r956.1.2.2.2.2.2.2.2.2.2.1 then
 some (.inr (.inl (((1 : Int), ()), ())))
else
 some (.inl ((r956.1.1, ((IntKind.i64.wrap (r956.1.2.1 + (1 : Int))), ())), ()))
else
 some (.inr (.inr ((y.1.1, ()), ())))
theorem r52_26 : ∀ y, g52_26 y = jjz (jjd c52 [(840, jjb s52_840 t52_840 jQi)]) (jjl (jjc b52 1 26)) 26 s52_26 t52_26 y := fun y => by kernel_rfl
noncomputable def l52_26 : s52_26.Y → Option (YS t52_26) := jjD g52_26
theorem q52_26 (H : CtxGood Tryz.prog c52) : jjn Tryz.prog (jjc b52 1 26) (jjb s52_26 t52_26 l52_26) :=
 jjt (fr := [(840, jjb s52_840 t52_840 jQi)]) H (by kernel_rfl) (by kernel_rfl) ⟨q52_840 H, trivial⟩ (fun y => jji r52_26 y)
@[reducible] noncomputable def i52 : Shape := ⟨[(0, .lf (.d (.sl .pack)))], [], 52⟩
@[reducible] noncomputable def o52 : Shape := ⟨[(2, .lf (.d (.int .i64)))], [], 52⟩
noncomputable def f52 (a : i52.Y) : Option o52.Y :=
(l52_26 ((a.1.1, ((0 : Int), ())), ())).bind fun r1148 =>
(match r1148 with
| .inl r1149 =>
 some ((r1149.1.1, ()), ())
| .inr r1150 =>
(f50 ((r1150.1.1, ()), ())).bind fun r1152 =>
 bif (decide ((r1150.1.1.length : Int) > (5 : Int))) then
 some (((6 : Int), ()), ())
else
(f101 ((r1150.1.1, ()), ())).bind fun r1154 =>
 bif (!r1154.1.1) then
 some (((4 : Int), ()), ())
else
 bif (!r1152.1.2.1) then
 some (((5 : Int), ()), ())
else
 some (((0 : Int), ()), ()))
theorem e52 : ∀ a, f52 a = jjp (jjd c52 [(26, jjb s52_26 t52_26 l52_26)]) b52 i52 o52 a := fun a => by kernel_rfl
noncomputable def S52 : jjG := jjf tt 52 i52 o52 [.tmp 2] [] f52
theorem z52 (h : ∀ T, (tt T).ok Tryz.prog T) (h50 : jja Tryz.prog 50 S50) (h100 : jja Tryz.prog 100 S100) (h101 : jja Tryz.prog 101 S101) : jja Tryz.prog 52 S52 :=
 have H := k52 h h50 h100 h101
 jjj (fn := Tryz.f52) (fr := [(26, jjb s52_26 t52_26 l52_26)]) H (by kernel_rfl) (by kernel_rfl) (by kernel_rfl) (by kernel_rfl) (by kernel_rfl) ⟨q52_26 H, trivial⟩ (by kernel_rfl) (fun y => ⟨_, _, rfl, rfl, rfl⟩) e52
noncomputable def c20 : Ctx := { tt := tt, fs := fun n => match n with | 52 => some S52 | _ => none }
theorem k20 (h : ∀ T, (tt T).ok Tryz.prog T) (h52 : jja Tryz.prog 52 S52) : CtxGood Tryz.prog c20 := ⟨⟨h⟩, fun g S hg => (by
 simp only [c20] at hg
 split at hg
 ·cases hg; exact h52
 ·cases hg), jjq, fun _ _ h => (by cases h), fun _ h => (by cases h)⟩
noncomputable def b20 : Code := jjh Tryz.f20
@[reducible] noncomputable def i20 : Shape := ⟨[(0, .agg [.d (.sl .pack)])], [], 7⟩
@[reducible] noncomputable def o20 : Shape := ⟨[(2, .lf (.d (.bool)))], [], 7⟩
noncomputable def f20 (a : i20.Y) : Option o20.Y :=
(f52 ((a.1.1.1, ()), ())).bind fun r2039 =>
 some (((r2039.1.1 == (0 : Int)), ()), ())
theorem e20 : ∀ a, f20 a = jjp (jjd c20 []) b20 i20 o20 a := fun a => by kernel_rfl
noncomputable def S20 : jjG := jjf tt 7 i20 o20 [.tmp 2] [] f20
theorem z20 (h : ∀ T, (tt T).ok Tryz.prog T) (h52 : jja Tryz.prog 52 S52) : jja Tryz.prog 20 S20 :=
 have H := k20 h h52
 jjj (fn := Tryz.f20) (fr := []) H (by kernel_rfl) (by kernel_rfl) (by kernel_rfl) (by kernel_rfl) (by kernel_rfl) jje (by kernel_rfl) (fun y => ⟨_, _, rfl, rfl, rfl⟩) e20
theorem v_l8Pack (a) (hs : Bd a.1.1.length) : (∃ (k : Nat) (q : Pack), f125 a = some (((k : Int), ()), ()) ∧ a.1.1[k]? = some q ∧ a.1.1.find? (fun p => p.name == a.1.2.1) = some q) ∨
  (f125 a = some ((((-1) : Int), ()), ()) ∧ a.1.1.find? (fun p => p.name == a.1.2.1) = none) := by
 obtain ⟨⟨ps, name, u⟩, u'⟩ := a
 have hs : ps.length ≤ 2097152 := hs
 have key : ∀ (r : List Pack) (k : Nat), ps.drop k = r → k ≤ ps.length → (∃ (j : Nat) (q : Pack), jJj ((ps, (name, ((k : Int), ()))), ()) = some (.inl (((j : Int), ()), ())) ∧ ps[j]? = some q ∧ r.find? (fun p => p.name == name) = some q) ∨
   (jJj ((ps, (name, ((k : Int), ()))), ()) = some (.inr ((), ())) ∧ r.find? (fun p => p.name == name) = none) := by
  intro r
  induction r with
  | nil =>
   intro k hr hk
   have := drop_nil hr
   have d1 : decide ((k : Int) < (ps.length : Int)) = false := by simp only [decide_eq_false_iff_not]; omega
   refine .inr ⟨jjT ?_, rfl⟩
   simp only [g125_26, d1, cond_false]
  | cons q r ih =>
   intro k hr hk
   obtain ⟨c1, c2, c3⟩ := jqy hr
   have hw : Sm k := by unfold Sm; omega
   have step : g125_26 ((ps, (name, ((k : Int), ()))), ()) = some (bif q.name == name then .inr (.inl (((k : Int), ()), ())) else .inl ((ps, (name, (((k + 1 : Nat) : Int), ()))), ())) := by
    simp only [g125_26, jjB c3, cond_true, jju, c1, Option.bind_some, jjk hw]
    cases (q.name == name) <;> rfl
   cases hq : (q.name == name) with
   | true =>
    rw [hq, cond_true] at step
    exact .inl ⟨k, q, jjT step, c1, by simp [List.find?_cons, hq]⟩
   | false =>
    rw [hq, cond_false] at step
    rcases ih (k + 1) c2 c3 with ⟨j, q', h1, h2, h3⟩ | ⟨h1, h2⟩
    ·exact .inl ⟨j, q', (jqw step).trans h1, h2, by simp [List.find?_cons, hq]; exact h3⟩
    ·exact .inr ⟨(jqw step).trans h1, by simp only [List.find?_cons, hq]; exact h2⟩
 rcases key ps 0 rfl (Nat.zero_le _) with ⟨j, q, h1, h2, h3⟩ | ⟨h1, h2⟩
 ·have h1 : jJj ((ps, (name, ((0 : Int), ()))), ()) = some (.inl (((j : Int), ()), ())) := h1
  exact .inl ⟨j, q, by simp only [f125, h1, Option.bind_some], h2, h3⟩
 ·have h1 : jJj ((ps, (name, ((0 : Int), ()))), ()) = some (.inr ((), ())) := h1
  exact .inr ⟨by simp only [f125, h1, Option.bind_some], h2⟩
abbrev VS (ps : List Pack) : Prop := ∀ p, p ∈ ps → p.version.length ≤ 2097151 ∧ ∀ n, n ∈ p.needs → n.version.length ≤ 2097151
def jq0 (ps : List Pack) (n : Need) : Bool := match ps.find? (fun q => q.name == n.name) with
 | some q => fitsV n q.version
 | none => false
def jQf (ps : List Pack) (n : Need) : Bool := ps.any fun q => fitsB n q.name q.version
theorem v_l9Needs (a) (hb : BdPs a.1.1) (hv : VS a.1.1) : f101 a = some ((a.1.1.all (fun p => p.needs.all (jq0 a.1.1)), ()), ()) := by
 obtain ⟨⟨ps, u⟩, u'⟩ := a
 have hl : ps.length ≤ 2097152 := hb.1
 have inner : ∀ (i : Nat) (p : Pack), ps[i]? = some p → jJm ((ps, ((i : Int), ((0 : Int), ()))), ()) = some (bif p.needs.all (jq0 ps) then .inr ((ps, ((i : Int), ())), ()) else .inl ((false, ()), ())) := by
  intro i p hp
  have hpm := List.mem_of_getElem? hp
  have hnl : p.needs.length ≤ 2097152 := (hb.2 p hpm).2.2.1.1
  have := jjN jJx p.needs (fun k => ((ps, ((i : Int), ((k : Int), ()))), ())) (fun _ n => jq0 ps n) (.inl ((false, ()), ())) (.inr ((ps, ((i : Int), ())), ())) (fun k n hn => ?_) ?_
  ·have := this
   rw [jjZ] at this
   exact this
  ·have hk := jjy hn
   have hw : Sm k := by unfold Sm; omega
   have hnm := List.mem_of_getElem? hn
   have h8 := v_l8Pack ((ps, (n.name, ())), ()) hl
   simp only [jJx, jju, hp, Option.bind_some, jjB hk, cond_true, hn]
   rcases h8 with ⟨j, q, h1, h2, h3⟩ | ⟨h1, h2⟩
   ·have h2 : ps[j]? = some q := h2
    have h3 : ps.find? (fun p => p.name == n.name) = some q := h3
    have hq := hv q (List.mem_of_getElem? h2)
    have hf := v_l3Fits (((n.name, (n.kind, (n.version, ()))), (n.name, (q.version, ()))), ()) ((hv p hpm).2 n hnm) hq.1 rfl
    have hj : decide ((j : Int) < 0) = false := by simp only [decide_eq_false_iff_not]; omega
    simp only [h1, Option.bind_some, jqB, hj, cond_false, jju, h2, hf, jq0, h3, jjk hw]
    cases fitsV n q.version <;> rfl
   ·have h2 : ps.find? (fun p => p.name == n.name) = none := h2
    have hj : decide ((-1 : Int) < 0) = true := rfl
    simp only [h1, Option.bind_some, jqB, hj, cond_true, jq0, h2, cond_false]
  ·simp only [jJx, jju, hp, Option.bind_some, jjC, cond_false]
 have key : l101_26 ((ps, ((0 : Int), ())), ()) = some (bif jqu (fun _ p => p.needs.all (jq0 ps)) 0 ps then .inr ((), ()) else .inl ((false, ()), ())) := by
  refine jjN g101_26 ps (fun i => ((ps, ((i : Int), ())), ())) _ _ _ (fun i x hx => ?_) ?_
  ·have hi := jjy hx
   have hw : Sm i := by unfold Sm; omega
   simp only [g101_26, jjB hi, cond_true, inner i x hx, Option.bind_some]
   cases x.needs.all (jq0 ps)
   ·rfl
   ·simp only [cond_true, jjk hw]
  ·simp only [g101_26, jjC, cond_false]
 rw [jjZ] at key
 simp only [f101, key, Option.bind_some]
 cases List.all ps (fun p => p.needs.all (jq0 ps)) <;> rfl
theorem v_needsThere (a) (hb : BdPs a.1.1) (hv : VS a.1.1) : f98 a = some ((a.1.1.all (fun p => p.needs.all (jQf a.1.1)), ()), ()) := by
 obtain ⟨⟨ps, u⟩, u'⟩ := a
 have hl : ps.length ≤ 2097152 := hb.1
 have hcon : ∀ n : Need, Bd n.name.length → n.version.length ≤ 2097151 → f150v0 ((ps, (((n.name, (n.kind, (n.version, ()))), ()), ())), ()) = some ((jQf ps n, ()), ()) := by
  intro n hn1 hn2
  have key : ∀ (r : List Pack) (k : Nat), ps.drop k = r → k ≤ ps.length → ∃ z : Int, (jq7 ((ps, (((n.name, (n.kind, (n.version, ()))), ()), ((ps.length : Int), ((k : Int), ())))), ())).bind (fun r1146 => (match r1146 with
    | .inl r1147 => some ((r1147.1.1, ()), ())
    | .inr r1148 => some ((((-1) : Int), ()), ()) : Option o191v0.Y)) = some ((z, ()), ()) ∧ decide (z ≥ 0) = r.any (fun q => fitsB n q.name q.version) := by
   intro r
   induction r with
   | nil =>
    intro k hr hk
    have := drop_nil hr
    have d1 : decide ((k : Int) < (ps.length : Int)) = false := by simp only [decide_eq_false_iff_not]; omega
    have : jq7 ((ps, (((n.name, (n.kind, (n.version, ()))), ()), ((ps.length : Int), ((k : Int), ())))), ()) = some (.inr ((), ())) := by
     refine jjT ?_
     simp only [jJs, d1, cond_false]
    exact ⟨-1, by rw [this]; rfl, rfl⟩
   | cons q r ih =>
    intro k hr hk
    obtain ⟨c1, c2, c3⟩ := jqy hr
    have hw : Sm k := by unfold Sm; omega
    have hq := hv q (List.mem_of_getElem? c1)
    have hf := v_NeedFits (((n.name, (n.kind, (n.version, ()))), (q.name, (q.version, ()))), ()) hn1 hn2 hq.1
    have step : jJs ((ps, (((n.name, (n.kind, (n.version, ()))), ()), ((ps.length : Int), ((k : Int), ())))), ()) = some (bif fitsB n q.name q.version then .inr (.inl (((k : Int), ()), ())) else .inl ((ps, (((n.name, (n.kind, (n.version, ()))), ()), ((ps.length : Int), (((k + 1 : Nat) : Int), ())))), ())) := by
     simp only [jJs, jjB c3, cond_true, jju, c1, Option.bind_some, f149v0, hf, jjk hw]
     cases fitsB n q.name q.version <;> rfl
    rw [List.any_cons]
    cases hfq : fitsB n q.name q.version with
    | true =>
     rw [hfq, cond_true] at step
     exact ⟨k, by rw [show jq7 _ = _ from jjT step]; rfl, by simp⟩
    | false =>
     rw [hfq, cond_false] at step
     obtain ⟨z, h1, h2⟩ := ih (k + 1) c2 c3
     exact ⟨z, by rw [show jq7 _ = _ from jqw step]; exact h1, by rw [h2]; rfl⟩
  obtain ⟨z, h1, h2⟩ := key ps 0 rfl (Nat.zero_le _)
  have h3 : f191v0 ((ps, (((n.name, (n.kind, (n.version, ()))), ()), ())), ()) = some ((z, ()), ()) := by
   simp only [f191v0]
   exact h1
  simp only [f150v0, h3, Option.bind_some, h2, jQf]
 have inner : ∀ (i : Nat) (p : Pack), ps[i]? = some p → l98_6758 ((ps, (ps, ((ps.length : Int), ((i : Int), (p.needs, ((p.needs.length : Int), ((0 : Int), ()))))))), ()) = some (bif p.needs.all (jQf ps) then .inr ((ps, (ps, ((ps.length : Int), ((i : Int), ())))), ()) else .inl ((false, ()), ())) := by
  intro i p hp
  have hpm := List.mem_of_getElem? hp
  have hnl : p.needs.length ≤ 2097152 := (hb.2 p hpm).2.2.1.1
  have := jjN g98_6758 p.needs (fun k => ((ps, (ps, ((ps.length : Int), ((i : Int), (p.needs, ((p.needs.length : Int), ((k : Int), ()))))))), ())) (fun _ n => jQf ps n) (.inl ((false, ()), ())) (.inr ((ps, (ps, ((ps.length : Int), ((i : Int), ())))), ())) (fun k n hn => ?_) ?_
  ·have := this
   rw [jjZ] at this
   exact this
  ·have hk := jjy hn
   have hw : Sm k := by unfold Sm; omega
   have hnm := List.mem_of_getElem? hn
   have hc := hcon n ((hb.2 p hpm).2.2.1.2 n hnm).1 ((hv p hpm).2 n hnm)
   simp only [g98_6758, jjB hk, cond_true, jju, hn, Option.bind_some, hc, jjk hw]
   cases jQf ps n <;> rfl
  ·simp only [g98_6758, jjC, cond_false]
 have key : l98_26 ((ps, (ps, ((ps.length : Int), ((0 : Int), ())))), ()) = some (bif jqu (fun _ p => p.needs.all (jQf ps)) 0 ps then .inr ((), ()) else .inl ((false, ()), ())) := by
  refine jjN g98_26 ps (fun i => ((ps, (ps, ((ps.length : Int), ((i : Int), ())))), ())) _ _ _ (fun i x hx => ?_) ?_
  ·have hi := jjy hx
   have hw : Sm i := by unfold Sm; omega
   simp only [g98_26, jjB hi, cond_true, jju, hx, inner i x hx, Option.bind_some]
   cases x.needs.all (jQf ps)
   ·rfl
   ·simp only [cond_true, jjk hw]
  ·simp only [g98_26, jjC, cond_false]
 rw [jjZ] at key
 simp only [f98, key, Option.bind_some]
 cases List.all ps (fun p => p.needs.all (jQf ps)) <;> rfl
theorem ascP_pair : ∀ ps : List Pack, (∀ i y, ps[i + 1]? = some y → lessP ps i y = true) → ps.Pairwise fun p q => Op.bytesLess p.name q.name = true := by
 intro ps
 induction ps with
 | nil => intro _; exact List.Pairwise.nil
 | cons x r ih =>
  intro h
  have hr := ih (fun i y hy => by
   have := h (i + 1) y (by simpa using hy)
   unfold lessP at this ⊢
   simpa using this)
  refine List.pairwise_cons.2 ⟨fun y hy => ?_, hr⟩
  cases r with
  | nil => cases hy
  | cons z r =>
   have hz : Op.bytesLess x.name z.name = true := by
    have := h 0 z rfl
    unfold lessP at this
    simpa using this
   rcases List.mem_cons.1 hy with rfl | hy
   ·exact hz
   ·exact jJY _ _ _ hz ((List.pairwise_cons.1 hr).1 y hy)
theorem ascP_of {ps : List Pack} (h : ascP ps = true) : ps.Pairwise fun p q => Op.bytesLess p.name q.name = true := by
 refine ascP_pair ps (fun i y hy => ?_)
 have := allI_get ps.tail 0 h i y (by rw [List.getElem?_tail]; exact hy)
 rwa [Nat.zero_add] at this
theorem needs_agree : ∀ (ps : List Pack) (n : Need), (∀ p, p ∈ ps → jj8 p.version = true) → jqU n = true → ps.Pairwise (fun p q => Op.bytesLess p.name q.name = true) → jQf ps n = jq0 ps n := by
 intro ps n
 induction ps with
 | nil => intro _ _ _; rfl
 | cons q r ih =>
  intro hv hn hp
  have hp' := List.pairwise_cons.1 hp
  have ih := ih (fun p h => hv p (List.mem_cons_of_mem _ h)) hn hp'.2
  unfold jQf jq0 at ih ⊢
  rw [List.any_cons, List.find?_cons]
  cases hq : (q.name == n.name) with
  | true =>
   have hno : r.any (fun q => fitsB n q.name q.version) = false := by
    rw [List.any_eq_false]
    intro p hpr
    have h1 := hp'.1 p hpr
    rw [eq_of_beq hq] at h1
    have : (p.name == n.name) = false := by
     cases h : (p.name == n.name) with
     | false => rfl
     | true => rw [eq_of_beq h, jJz] at h1; cases h1
    unfold fitsB
    rw [this]; simp
   rw [hno]
   unfold fitsB
   rw [hv q List.mem_cons_self, hn, hq]
   simp
  | false =>
   have : fitsB n q.name q.version = false := by unfold fitsB; rw [hq]; simp
   rw [this, Bool.false_or]
   exact ih
def jqG (ps : List Pack) : Bool := ps.all jxM && ascP ps && decide (ps.length ≤ 5) && ps.all (fun p => p.needs.all (jq0 ps)) && (jjX [] ps).isSome
def jxc (ps : List Pack) : Int := bif ps.all jxM && ascP ps then (bif decide (ps.length ≤ 5) then (bif ps.all (fun p => p.needs.all (jq0 ps)) then (bif (jjX [] ps).isSome then 0 else 5) else 4) else 6) else 1
theorem rootOk_code (ps : List Pack) : jqG ps = (jxc ps == 0) := by
 unfold jqG jxc
 cases ps.all jxM <;> cases ascP ps <;> cases decide (ps.length ≤ 5) <;> cases ps.all (fun p => p.needs.all (jq0 ps)) <;> cases (jjX [] ps).isSome <;> rfl
theorem allI_shift {α : Type} (ok : Nat → α → Bool) : ∀ (xs : List α) (j : Nat), jqu ok (j + 1) xs = jqu (fun i => ok (i + 1)) j xs := by
 intro xs
 induction xs with
 | nil => intro j; rfl
 | cons x r ih => intro j; simp only [jqu, ih]
def okP (ps : List Pack) (i : Nat) (x : Pack) : Bool := jxM x && (i == 0 || lessP ps (i - 1) x)
theorem okP_all (ps : List Pack) : jqu (okP ps) 0 ps = (ps.all jxM && ascP ps) := by
 unfold okP
 rw [allI_and, jjZ]
 congr 1
 unfold ascP
 cases ps with
 | nil => rfl
 | cons x r =>
  simp only [jqu, beq_self_eq_true, Bool.true_or, Bool.true_and, List.tail_cons]
  rw [allI_shift]
  refine allI_congr r 0 (fun i y _ _ => ?_)
  have : (i + 1 == 0) = false := rfl
  rw [this, Bool.false_or, Nat.add_sub_cancel]
theorem v_RootOk (a) (hb : BdPs a.1.1.1) (hv : VS a.1.1.1) : f20 a = some ((jqG a.1.1.1, ()), ()) := by
 obtain ⟨⟨⟨ps, u⟩, u'⟩, u''⟩ := a
 have hl : ps.length ≤ 2097152 := hb.1
 have key : l52_26 ((ps, ((0 : Int), ())), ()) = some (bif jqu (okP ps) 0 ps then .inr ((ps, ()), ()) else .inl (((1 : Int), ()), ())) := by
  refine jjN g52_26 ps (fun i => ((ps, ((i : Int), ())), ())) _ _ _ (fun i x hx => ?_) ?_
  ·have hi := jjy hx
   have hw : Sm i := by unfold Sm; omega
   have hbx := hb.2 x (List.mem_of_getElem? hx)
   simp only [g52_26, jjB hi, cond_true, jQi, jju, hx, Option.bind_some]
   rw [v_PackOk _ hbx]
   simp only [Option.bind_some, okP, dgt0]
   cases jxM x with
   | false => rfl
   | true =>
    simp only [Bool.not_true, cond_false, Bool.true_and, lessP]
    cases i with
    | zero => simp only [beq_self_eq_true, Bool.not_true, cond_false, Option.bind_some, Bool.true_or, cond_true, jjk hw]
    | succ i =>
     have h0 : (i + 1 == 0) = false := rfl
     have hi' : i < ps.length := by omega
     obtain ⟨q, hq⟩ : ∃ q, ps[i]? = some q := ⟨ps[i], List.getElem?_eq_getElem hi'⟩
     simp only [h0, Bool.not_false, cond_true, jzX (i := i) (by unfold Sm; omega), jju, hq, hx, Option.bind_some, Bool.false_or, Nat.add_sub_cancel]
     cases Op.bytesLess q.name x.name with
     | false => rfl
     | true => simp only [Bool.not_true, cond_false, cond_true, jjk hw]
  ·simp only [g52_26, jjC, cond_false]
 rw [okP_all] at key
 have h5 : decide ((ps.length : Int) > 5) = !decide (ps.length ≤ 5) := by by_cases h : ps.length ≤ 5 <;> simp only [h, decide_true, decide_false, Bool.not_true, Bool.not_false, decide_eq_true_eq, decide_eq_false_iff_not] <;> omega
 simp only [f20, f52, key, Option.bind_some, jqG]
 cases hA : (ps.all jxM && ascP ps) with
 | false => rfl
 | true =>
  have hk : ps.all jxM = true := by simp only [Bool.and_eq_true] at hA; exact hA.1
  obtain ⟨out, ht⟩ := v_l9Tree ((ps, ()), ()) hb hk
  have hn := v_l9Needs ((ps, ()), ()) hb hv
  simp only [cond_true, Option.bind_some, ht, h5, Bool.true_and]
  cases decide (ps.length ≤ 5) with
  | false => rfl
  | true =>
   simp only [Bool.not_true, cond_false, hn, Option.bind_some, Bool.true_and]
   cases ps.all (fun p => p.needs.all (jq0 ps)) <;> cases (jjX [] ps).isSome <;> rfl
theorem v_rootCode (a) (hb : BdPs a.1.1) (hv : VS a.1.1) : f51 a = some ((jxc a.1.1, ()), ()) := by
 obtain ⟨⟨ps, u⟩, u'⟩ := a
 have hl : ps.length ≤ 2097152 := hb.1
 have e1 := v_allPack ((ps, ((), ())), ()) hb
 have e2 := v_packsAscend ((ps, ()), ()) hl
 have e3 := v_needsThere ((ps, ()), ()) hb hv
 have h5 : decide ((ps.length : Int) > 5) = !decide (ps.length ≤ 5) := by by_cases h : ps.length ≤ 5 <;> simp only [h, decide_true, decide_false, Bool.not_true, Bool.not_false, decide_eq_true_eq, decide_eq_false_iff_not] <;> omega
 have c0 : f93v0 (((ps, ()), ()), ()) = some (((bif ps.all jxM && ascP ps then (0 : Int) else 1), ()), ()) := by
  simp only [f93v0, jJO, e1, Bool.not_not, Option.bind_some]
  cases ps.all jxM with
  | false => rfl
  | true => simp only [cond_true, e2, Option.bind_some, Bool.true_and]; cases ascP ps <;> rfl
 have c1 : f96v0 (((ps, ()), ()), ()) = some (((bif decide (ps.length ≤ 5) then (0 : Int) else 6), ()), ()) := by
  simp only [f96v0, h5]
  cases decide (ps.length ≤ 5) <;> rfl
 have c2 : f97v0 (((ps, ()), ()), ()) = some (((bif ps.all (fun p => p.needs.all (jQf ps)) then (0 : Int) else 4), ()), ()) := by
  simp only [f97v0, e3, Option.bind_some]
  cases ps.all (fun p => p.needs.all (jQf ps)) <;> rfl
 have c3 : ps.all jxM = true → f99v0 (((ps, ()), ()), ()) = some (((bif (jjX [] ps).isSome then (0 : Int) else 5), ()), ()) := by
  intro hk
  obtain ⟨out, ht⟩ := v_joinTrees ((ps, ()), ()) hb hk
  simp only [f99v0, ht, Option.bind_some]
  cases (jjX [] ps).isSome <;> rfl
 have z : ∀ n : Int, ((n : Int) != 0) = !(n == 0) := fun n => rfl
 simp only [f51, g51_3, restC, c0, c1, c2, m51_3, Option.bind_some, jxc]
 cases hA : (ps.all jxM && ascP ps) with
 | false => rfl
 | true =>
  simp only [Bool.and_eq_true] at hA
  have hagree : ps.all (fun p => p.needs.all (jQf ps)) = ps.all (fun p => p.needs.all (jq0 ps)) := by
   rw [Bool.eq_iff_iff]
   simp only [List.all_eq_true]
   have hvs : ∀ p, p ∈ ps → jj8 p.version = true := fun p hp => by
    have := List.all_eq_true.1 hA.1 p hp
    unfold jxM at this
    simp only [Bool.and_eq_true] at this
    exact this.1.1.2
   have hns : ∀ p, p ∈ ps → ∀ n, n ∈ p.needs → jQf ps n = jq0 ps n := fun p hp n hn => by
    have := List.all_eq_true.1 hA.1 p hp
    unfold jxM needsOk at this
    simp only [Bool.and_eq_true] at this
    exact needs_agree ps n hvs (List.all_eq_true.1 this.1.2.1.1 n hn) (ascP_of hA.2)
   constructor
   ·intro h p hp n hn; rw [← hns p hp n hn]; exact h p hp n hn
   ·intro h p hp n hn; rw [hns p hp n hn]; exact h p hp n hn
  rw [hagree, c3 hA.1]
  cases decide (ps.length ≤ 5) <;> cases ps.all (fun p => p.needs.all (jq0 ps)) <;> cases (jjX [] ps).isSome <;> rfl
theorem v_iRootOk (a) (hb : BdPs a.1.1.1) (hv : VS a.1.1.1) : f19 a = some ((jqG a.1.1.1, ()), ()) := by
 obtain ⟨⟨⟨ps, u⟩, u'⟩, u''⟩ := a
 have e := v_rootCode ((ps, ()), ()) hb hv
 simp only [f19, e, Option.bind_some, rootOk_code]
noncomputable def c69v0 : Ctx := { tt := tt, fs := fun n => match n with | _ => none }
theorem k69v0 (h : ∀ T, (tt T).ok Tryz.prog T) : CtxGood Tryz.prog c69v0 := ⟨⟨h⟩, fun g S hg => (by cases hg), jjq, fun _ _ h => (by cases h), fun _ h => (by cases h)⟩
noncomputable def b69v0 : Code := jjh Tryz.f69
@[reducible] noncomputable def s69v0_28 : Shape := ⟨[(0, .lf (.ptr 500000 0)), (1, .lf (.d (.int .i64)))], [(500000, .box [.d (.sl .u8), .d (.int .i64)], .same)], 99⟩
@[reducible] noncomputable def t69v0_28 : List OSh := [(.norm, ⟨[(0, .lf (.ptr 500000 0)), (1, .lf (.d (.int .i64))), (24, .lf (.d (.bool)))], [(500000, .box [.d (.sl .u8), .d (.int .i64)], .same)], 99⟩)]
noncomputable def jzz (y : s69v0_28.Y) : Option (YS t69v0_28) :=
 bif (!(decide (y.1.2.1 < (1 : Int)))) then
 some ((((), (y.1.2.1, (((y.2.1.1.length : Int) == (0 : Int)), ()))), ((y.2.1.1, (y.2.1.2.1, ())), ())))
else
 some ((((), (y.1.2.1, (true, ()))), ((y.2.1.1, (y.2.1.2.1, ())), ())))
theorem r69v0_28 : ∀ y, jzz y = jjM (jjd c69v0 []) (jjc b69v0 1 28) 28 s69v0_28 t69v0_28 y := fun y => by kernel_rfl
theorem q69v0_28 (H : CtxGood Tryz.prog c69v0) : jjn Tryz.prog (jjc b69v0 1 28) (jjb s69v0_28 t69v0_28 jzz) :=
 jjv (fr := []) H (by kernel_rfl) jje r69v0_28
@[reducible] noncomputable def i69v0 : Shape := ⟨[(0, .lf (.ptr 500000 0)), (1, .lf (.d (.int .i64)))], [(500000, .box [.d (.sl .u8), .d (.int .i64)], .same)], 99⟩
@[reducible] noncomputable def o69v0 : Shape := ⟨[(0, .lf (.ptr 500000 0)), (4, .lf (.d (.int .i64)))], [(500000, .box [.d (.sl .u8), .d (.int .i64)], .same)], 99⟩
noncomputable def jxJ (a : i69v0.Y) : Option o69v0.Y :=
(jzz (((), (a.1.2.1, ())), ((a.2.1.1, ((IntKind.i64.wrap (a.2.1.2.1 + (1 : Int))), ())), ()))).bind fun r21 =>
 bif r21.1.2.2.1 then
 some (((), ((0 : Int), ())), ((r21.2.1.1, (r21.2.1.2.1, ())), ()))
else
 bif (decide ((IntKind.i64.wrap (r21.2.1.2.1 - (1 : Int))) < (r21.2.1.1.length : Int))) then
(ix r21.2.1.1 (IntKind.i64.wrap (r21.2.1.2.1 - (1 : Int)))).bind fun x24 =>
(remI (IntKind.i64.wrap x24) r21.1.2.1).bind fun x25 =>
 some (((), (x25, ())), ((r21.2.1.1, (r21.2.1.2.1, ())), ()))
else
(remI (IntKind.i64.wrap (r21.2.1.2.1 - (1 : Int))) (r21.2.1.1.length : Int)).bind fun x31 =>
(ix r21.2.1.1 x31).bind fun x32 =>
(remI (IntKind.i64.wrap ((IntKind.i64.wrap ((IntKind.i64.wrap (r21.2.1.2.1 - (1 : Int))) * (7 : Int))) + (3 : Int))) (r21.2.1.1.length : Int)).bind fun x33 =>
(ix r21.2.1.1 x33).bind fun x34 =>
(quoI .i64 (IntKind.i64.wrap (r21.2.1.2.1 - (1 : Int))) (r21.2.1.1.length : Int)).bind fun x35 =>
(quoI .i64 (IntKind.i64.wrap ((IntKind.i64.wrap ((IntKind.i64.wrap ((IntKind.i64.wrap ((IntKind.i64.wrap x32) * (131 : Int))) + (IntKind.i64.wrap ((IntKind.i64.wrap x34) * (1117 : Int))))) + (IntKind.i64.wrap ((IntKind.i64.wrap (r21.2.1.2.1 - (1 : Int))) * (29 : Int))))) + (IntKind.i64.wrap (x35 * (53 : Int))))) (64 : Int)).bind fun x37 =>
(remI (xorI .i64 (IntKind.i64.wrap ((IntKind.i64.wrap ((IntKind.i64.wrap ((IntKind.i64.wrap ((IntKind.i64.wrap x32) * (131 : Int))) + (IntKind.i64.wrap ((IntKind.i64.wrap x34) * (1117 : Int))))) + (IntKind.i64.wrap ((IntKind.i64.wrap (r21.2.1.2.1 - (1 : Int))) * (29 : Int))))) + (IntKind.i64.wrap (x35 * (53 : Int))))) x37) r21.1.2.1).bind fun x38 =>
 some (((), (x38, ())), ((r21.2.1.1, (r21.2.1.2.1, ())), ()))
theorem e69v0 : ∀ a, jxJ a = jjp (jjd c69v0 [(28, jjb s69v0_28 t69v0_28 jzz)]) b69v0 i69v0 o69v0 a := fun a => by kernel_rfl
noncomputable def jqb : jjG := jjf tt 99 i69v0 o69v0 [.tmp 4] [0] jxJ
theorem z69v0 (h : ∀ T, (tt T).ok Tryz.prog T) : jja Tryz.prog 69 jqb :=
 have H := k69v0 h
 jjj (fn := Tryz.f69) (fr := [(28, jjb s69v0_28 t69v0_28 jzz)]) H (by kernel_rfl) (by kernel_rfl) (by kernel_rfl) (by kernel_rfl) (by kernel_rfl) ⟨q69v0_28 H, trivial⟩ (by kernel_rfl) (fun y => ⟨_, _, rfl, rfl, rfl⟩) e69v0
noncomputable def c70v0 : Ctx := { tt := tt, fs := fun n => match n with | 69 => some jqb | _ => none }
theorem k70v0 (h : ∀ T, (tt T).ok Tryz.prog T) (h69v0 : jja Tryz.prog 69 jqb) : CtxGood Tryz.prog c70v0 := ⟨⟨h⟩, fun g S hg => (by
 simp only [c70v0] at hg
 split at hg
 ·cases hg; exact h69v0
 ·cases hg), jjq, fun _ _ h => (by cases h), fun _ h => (by cases h)⟩
noncomputable def b70v0 : Code := jjh Tryz.f70
@[reducible] noncomputable def i70v0 : Shape := ⟨[(0, .lf (.ptr 500000 0)), (1, .lf (.d (.sl .str)))], [(500000, .box [.d (.sl .u8), .d (.int .i64)], .same)], 12⟩
@[reducible] noncomputable def o70v0 : Shape := ⟨[(0, .lf (.ptr 500000 0)), (4, .lf (.d (.str)))], [(500000, .box [.d (.sl .u8), .d (.int .i64)], .same)], 12⟩
noncomputable def jJ2 (a : i70v0.Y) : Option o70v0.Y :=
(jxJ (((), ((a.1.2.1.length : Int), ())), ((a.2.1.1, (a.2.1.2.1, ())), ()))).bind fun r45 =>
(ix a.1.2.1 r45.1.2.1).bind fun x46 =>
 some (((), (x46, ())), ((r45.2.1.1, (r45.2.1.2.1, ())), ()))
theorem e70v0 : ∀ a, jJ2 a = jjp (jjd c70v0 []) b70v0 i70v0 o70v0 a := fun a => by kernel_rfl
noncomputable def jqt : jjG := jjf tt 12 i70v0 o70v0 [.tmp 4] [0] jJ2
theorem z70v0 (h : ∀ T, (tt T).ok Tryz.prog T) (h69v0 : jja Tryz.prog 69 jqb) : jja Tryz.prog 70 jqt :=
 have H := k70v0 h h69v0
 jjj (fn := Tryz.f70) (fr := []) H (by kernel_rfl) (by kernel_rfl) (by kernel_rfl) (by kernel_rfl) (by kernel_rfl) jje (by kernel_rfl) (fun y => ⟨_, _, rfl, rfl, rfl⟩) e70v0
noncomputable def c159v0 : Ctx := { tt := tt, fs := fun n => match n with | 70 => some jqt | _ => none }
theorem k159v0 (h : ∀ T, (tt T).ok Tryz.prog T) (h70v0 : jja Tryz.prog 70 jqt) : CtxGood Tryz.prog c159v0 := ⟨⟨h⟩, fun g S hg => (by
 simp only [c159v0] at hg
 split at hg
 ·cases hg; exact h70v0
 ·cases hg), jjq, fun _ _ h => (by cases h), fun _ h => (by cases h)⟩
noncomputable def b159v0 : Code := jjh Tryz.f159
@[reducible] noncomputable def i159v0 : Shape := ⟨[(0, .lf (.ptr 500000 0))], [(500000, .box [.d (.sl .u8), .d (.int .i64)], .same)], 6⟩
@[reducible] noncomputable def o159v0 : Shape := ⟨[(0, .lf (.ptr 500000 0)), (2, .lf (.d (.str)))], [(500000, .box [.d (.sl .u8), .d (.int .i64)], .same)], 6⟩
noncomputable def f159v0 (a : i159v0.Y) : Option o159v0.Y :=
(jJ2 (((), (([([97] : Str), ([98] : Str), ([97, 47, 98] : Str), ([97, 47, 99] : Str), ([97, 47, 98, 47, 99] : Str), ([108, 105, 98] : Str), ([108, 105, 98, 47, 120] : Str), ([108, 105, 98, 47, 120, 46, 99] : Str), ([100, 111, 99, 47, 121] : Str), ([98, 105, 110] : Str), ([98, 105, 110, 47, 122] : Str), ([97, 47, 98, 47, 99, 47, 100, 47, 101] : Str)] : List Str), ())), ((a.2.1.1, (a.2.1.2.1, ())), ()))).bind fun r251 =>
 some (((), (r251.1.2.1, ())), ((r251.2.1.1, (r251.2.1.2.1, ())), ()))
theorem e159v0 : ∀ a, f159v0 a = jjp (jjd c159v0 []) b159v0 i159v0 o159v0 a := fun a => by kernel_rfl
noncomputable def S159v0 : jjG := jjf tt 6 i159v0 o159v0 [.tmp 2] [0] f159v0
theorem z159v0 (h : ∀ T, (tt T).ok Tryz.prog T) (h70v0 : jja Tryz.prog 70 jqt) : jja Tryz.prog 159 S159v0 :=
 have H := k159v0 h h70v0
 jjj (fn := Tryz.f159) (fr := []) H (by kernel_rfl) (by kernel_rfl) (by kernel_rfl) (by kernel_rfl) (by kernel_rfl) jje (by kernel_rfl) (fun y => ⟨_, _, rfl, rfl, rfl⟩) e159v0
noncomputable def c167v0 : Ctx := { tt := tt, fs := fun n => match n with | 70 => some jqt | _ => none }
theorem k167v0 (h : ∀ T, (tt T).ok Tryz.prog T) (h70v0 : jja Tryz.prog 70 jqt) : CtxGood Tryz.prog c167v0 := ⟨⟨h⟩, fun g S hg => (by
 simp only [c167v0] at hg
 split at hg
 ·cases hg; exact h70v0
 ·cases hg), jjq, fun _ _ h => (by cases h), fun _ h => (by cases h)⟩
noncomputable def b167v0 : Code := jjh Tryz.f167
@[reducible] noncomputable def i167v0 : Shape := ⟨[(0, .lf (.ptr 500000 0))], [(500000, .box [.d (.sl .u8), .d (.int .i64)], .same)], 6⟩
@[reducible] noncomputable def o167v0 : Shape := ⟨[(0, .lf (.ptr 500000 0)), (2, .lf (.d (.str)))], [(500000, .box [.d (.sl .u8), .d (.int .i64)], .same)], 6⟩
noncomputable def f167v0 (a : i167v0.Y) : Option o167v0.Y :=
(jJ2 (((), (([([49] : Str), ([49, 46, 48] : Str), ([49, 46, 49] : Str), ([49, 46, 50] : Str), ([50] : Str), ([48, 46, 57, 46, 57] : Str), ([49, 46, 49, 48] : Str), ([57, 57, 57, 46, 57, 57, 57, 46, 57, 57, 57, 46, 57, 57, 57] : Str)] : List Str), ())), ((a.2.1.1, (a.2.1.2.1, ())), ()))).bind fun r49 =>
 some (((), (r49.1.2.1, ())), ((r49.2.1.1, (r49.2.1.2.1, ())), ()))
theorem e167v0 : ∀ a, f167v0 a = jjp (jjd c167v0 []) b167v0 i167v0 o167v0 a := fun a => by kernel_rfl
noncomputable def jJB : jjG := jjf tt 6 i167v0 o167v0 [.tmp 2] [0] f167v0
theorem z167v0 (h : ∀ T, (tt T).ok Tryz.prog T) (h70v0 : jja Tryz.prog 70 jqt) : jja Tryz.prog 167 jJB :=
 have H := k167v0 h h70v0
 jjj (fn := Tryz.f167) (fr := []) H (by kernel_rfl) (by kernel_rfl) (by kernel_rfl) (by kernel_rfl) (by kernel_rfl) jje (by kernel_rfl) (fun y => ⟨_, _, rfl, rfl, rfl⟩) e167v0
noncomputable def c202 : Ctx := { tt := tt, fs := fun n => match n with | 57 => some S57 | 147 => some S147 | 188 => some S188 | 189 => some S189 | 190 => some S190 | _ => none }
theorem k202 (h : ∀ T, (tt T).ok Tryz.prog T) (h57 : jja Tryz.prog 57 S57) (h147 : jja Tryz.prog 147 S147) (h188 : jja Tryz.prog 188 S188) (h189 : jja Tryz.prog 189 S189) (h190 : jja Tryz.prog 190 S190) : CtxGood Tryz.prog c202 := ⟨⟨h⟩, fun g S hg => (by
 simp only [c202] at hg
 split at hg
 ·cases hg; exact h57
 ·cases hg; exact h147
 ·cases hg; exact h188
 ·cases hg; exact h189
 ·cases hg; exact h190
 ·cases hg), jjq, fun _ _ h => (by cases h), fun _ h => (by cases h)⟩
noncomputable def b202 : Code := jjh Tryz.f202
@[reducible] noncomputable def s202_120 : Shape := ⟨[(0, .lf (.d (.sl .entry))), (3, .lf (.ptr 3 0)), (4, .lf (.own 3000256)), (5, .lf (.d (.bool))), (6, .lf (.d (.int .i64))), (7, .lf (.d (.bool))), (8, .lf (.own 3000512))], [(3, .box [.d (.str), .d (.int .i64), .d (.int .i64), .d (.str)], .same), (3000256, .row .entry, .slot 4 0), (3000512, .row .entry, .slot 8 0)], 68⟩
@[reducible] noncomputable def t202_120 : List OSh := [(.norm, ⟨[(0, .lf (.d (.sl .entry))), (3, .lf (.ptr 3 0)), (4, .lf (.own 3000256)), (5, .lf (.d (.bool))), (6, .lf (.d (.int .i64))), (7, .lf (.d (.bool))), (8, .lf (.own 3000512)), (18, .lf (.d (.bool)))], [(3, .box [.d (.str), .d (.int .i64), .d (.int .i64), .d (.str)], .same), (3000256, .row .entry, .slot 4 0), (3000512, .row .entry, .slot 8 0)], 68⟩)]
noncomputable def jzC (y : s202_120.Y) : Option (YS t202_120) :=
(f188 (((y.2.1.1, (y.2.1.2.1, (y.2.1.2.2.1, (y.2.1.2.2.2.1, ())))), ()), ())).bind fun r214 =>
 bif (!(!r214.1.1)) then
(f190 ((y.2.1.1, ()), ())).bind fun r215 =>
(f189 ((y.1.1, (r215.1.1, ())), ())).bind fun r216 =>
 some (((y.1.1, ((), ((), (y.1.2.2.2.1, (y.1.2.2.2.2.1, (y.1.2.2.2.2.2.1, ((), ((!r216.1.1), ())))))))), ((y.2.1.1, (y.2.1.2.1, (y.2.1.2.2.1, (y.2.1.2.2.2.1, ())))), (y.2.2.1, (y.2.2.2.1, ())))))
else
 some (((y.1.1, ((), ((), (y.1.2.2.2.1, (y.1.2.2.2.2.1, (y.1.2.2.2.2.2.1, ((), (true, ())))))))), ((y.2.1.1, (y.2.1.2.1, (y.2.1.2.2.1, (y.2.1.2.2.2.1, ())))), (y.2.2.1, (y.2.2.2.1, ())))))
theorem r202_120 : ∀ y, jzC y = jjM (jjd c202 []) (jjc b202 1 120) 120 s202_120 t202_120 y := fun y => by kernel_rfl
theorem q202_120 (H : CtxGood Tryz.prog c202) : jjn Tryz.prog (jjc b202 1 120) (jjb s202_120 t202_120 jzC) :=
 jjv (fr := []) H (by kernel_rfl) jje r202_120
@[reducible] noncomputable def s202_486 : Shape := ⟨[(0, .lf (.d (.sl .entry))), (3, .lf (.ptr 3 0)), (4, .lf (.own 3000256)), (5, .lf (.d (.bool))), (6, .lf (.d (.int .i64))), (7, .lf (.d (.bool))), (8, .lf (.own 3000512))], [(3, .box [.d (.str), .d (.int .i64), .d (.int .i64), .d (.str)], .same), (3000256, .row .entry, .slot 4 0), (3000512, .row .entry, .slot 8 0)], 68⟩
@[reducible] noncomputable def t202_486 : List OSh := [(.norm, ⟨[(0, .lf (.d (.sl .entry))), (3, .lf (.ptr 3 0)), (4, .lf (.own 3000256)), (5, .lf (.d (.bool))), (6, .lf (.d (.int .i64))), (7, .lf (.d (.bool))), (8, .lf (.own 3000512)), (31, .lf (.d (.bool)))], [(3, .box [.d (.str), .d (.int .i64), .d (.int .i64), .d (.str)], .same), (3000256, .row .entry, .slot 4 0), (3000512, .row .entry, .slot 8 0)], 68⟩)]
noncomputable def jzB (y : s202_486.Y) : Option (YS t202_486) :=
 bif y.1.2.2.2.2.2.1 then
(ix y.1.1 y.1.2.2.2.2.1).bind fun x225 =>
 some (((y.1.1, ((), ((), (y.1.2.2.2.1, (y.1.2.2.2.2.1, (y.1.2.2.2.2.2.1, ((), ((x225.kind != y.2.1.2.1), ())))))))), ((y.2.1.1, (y.2.1.2.1, (y.2.1.2.2.1, (y.2.1.2.2.2.1, ())))), (y.2.2.1, (y.2.2.2.1, ())))))
else
 some (((y.1.1, ((), ((), (y.1.2.2.2.1, (y.1.2.2.2.2.1, (y.1.2.2.2.2.2.1, ((), (false, ())))))))), ((y.2.1.1, (y.2.1.2.1, (y.2.1.2.2.1, (y.2.1.2.2.2.1, ())))), (y.2.2.1, (y.2.2.2.1, ())))))
theorem r202_486 : ∀ y, jzB y = jjM (jjd c202 []) (jjc b202 1 486) 486 s202_486 t202_486 y := fun y => by kernel_rfl
theorem q202_486 (H : CtxGood Tryz.prog c202) : jjn Tryz.prog (jjc b202 1 486) (jjb s202_486 t202_486 jzB) :=
 jjv (fr := []) H (by kernel_rfl) jje r202_486
@[reducible] noncomputable def i202 : Shape := ⟨[(0, .lf (.d (.sl .entry))), (1, .agg [.d (.str), .d (.int .i64), .d (.int .i64), .d (.str)])], [], 68⟩
@[reducible] noncomputable def o202 : Shape := ⟨[(4, .lf (.own 3000256)), (5, .lf (.d (.bool)))], [(3000256, .row .entry, .slot 4 0)], 68⟩
noncomputable def f202 (a : i202.Y) : Option o202.Y :=
(f57 ((a.1.1, (a.1.2.1.1, ())), ())).bind fun r220 =>
(f147 ((a.1.1, ()), ())).bind fun r222 =>
(jzC ((a.1.1, ((), ((), (false, (r220.1.1, (r220.1.2.1, ((), ()))))))), ((a.1.2.1.1, (a.1.2.1.2.1, (a.1.2.1.2.2.1, (a.1.2.1.2.2.2.1, ())))), (([] : List Entry), (r222.2.1, ()))))).bind fun r223 =>
 bif r223.1.2.2.2.2.2.2.2.1 then
 some (((), (false, ())), (r223.2.2.2.1, ()))
else
(jzB ((r223.1.1, ((), ((), (r223.1.2.2.2.1, (r223.1.2.2.2.2.1, (r223.1.2.2.2.2.2.1, ((), ()))))))), ((r223.2.1.1, (r223.2.1.2.1, (r223.2.1.2.2.1, (r223.2.1.2.2.2.1, ())))), (r223.2.2.1, (r223.2.2.2.1, ()))))).bind fun r226 =>
 bif r226.1.2.2.2.2.2.2.2.1 then
 some (((), (false, ())), (r226.2.2.2.1, ()))
else
 bif r226.1.2.2.2.2.2.1 then
(inb r226.2.2.2.1.length r226.1.2.2.2.2.1).bind fun x229 =>
((r226.2.2.2.1[x229]?).bind fun q => some (Entry.mk r226.2.1.1 r226.2.1.2.1 r226.2.1.2.2.1 r226.2.1.2.2.2.1)).bind fun x230 =>
 some (((), (true, ())), ((r226.2.2.2.1.set x229 x230), ()))
else
 bif (decide ((r226.1.1.length : Int) ≥ (16 : Int))) then
 some (((), (false, ())), (r226.2.2.2.1, ()))
else
(jqM r226.1.1 (0 : Int) r226.1.2.2.2.2.1).bind fun x231 =>
(apd 48 ([] : List Entry) x231).bind fun x232 =>
(apd 48 x232 ([(Entry.mk r226.2.1.1 r226.2.1.2.1 r226.2.1.2.2.1 r226.2.1.2.2.2.1)] : List Entry)).bind fun x233 =>
(jqM r226.1.1 r226.1.2.2.2.2.1 (r226.1.1.length : Int)).bind fun x234 =>
(apd 48 x233 x234).bind fun x235 =>
 some (((), (true, ())), (x235, ()))
theorem e202 : ∀ a, f202 a = jjp (jjd c202 [(120, jjb s202_120 t202_120 jzC), (486, jjb s202_486 t202_486 jzB)]) b202 i202 o202 a := fun a => by kernel_rfl
noncomputable def S202 : jjG := jjf tt 68 i202 o202 [.tmp 4, .tmp 5] [] f202
theorem z202 (h : ∀ T, (tt T).ok Tryz.prog T) (h57 : jja Tryz.prog 57 S57) (h147 : jja Tryz.prog 147 S147) (h188 : jja Tryz.prog 188 S188) (h189 : jja Tryz.prog 189 S189) (h190 : jja Tryz.prog 190 S190) : jja Tryz.prog 202 S202 :=
 have H := k202 h h57 h147 h188 h189 h190
 jjj (fn := Tryz.f202) (fr := [(120, jjb s202_120 t202_120 jzC), (486, jjb s202_486 t202_486 jzB)]) H (by kernel_rfl) (by kernel_rfl) (by kernel_rfl) (by kernel_rfl) (by kernel_rfl) ⟨q202_120 H, q202_486 H, trivial⟩ (by kernel_rfl) (fun y => ⟨_, _, rfl, rfl, rfl⟩) e202
noncomputable def c205v0 : Ctx := { tt := tt, fs := fun n => match n with | 69 => some jqb | _ => none }
theorem k205v0 (h : ∀ T, (tt T).ok Tryz.prog T) (h69v0 : jja Tryz.prog 69 jqb) : CtxGood Tryz.prog c205v0 := ⟨⟨h⟩, fun g S hg => (by
 simp only [c205v0] at hg
 split at hg
 ·cases hg; exact h69v0
 ·cases hg), jjq, fun _ _ h => (by cases h), fun _ h => (by cases h)⟩
noncomputable def b205v0 : Code := jjh Tryz.f205
@[reducible] noncomputable def i205v0 : Shape := ⟨[(0, .lf (.ptr 500000 0)), (1, .lf (.d (.sl .i64)))], [(500000, .box [.d (.sl .u8), .d (.int .i64)], .same)], 12⟩
@[reducible] noncomputable def o205v0 : Shape := ⟨[(0, .lf (.ptr 500000 0)), (4, .lf (.d (.int .i64)))], [(500000, .box [.d (.sl .u8), .d (.int .i64)], .same)], 12⟩
noncomputable def f205v0 (a : i205v0.Y) : Option o205v0.Y :=
(jxJ (((), ((a.1.2.1.length : Int), ())), ((a.2.1.1, (a.2.1.2.1, ())), ()))).bind fun r255 =>
(ix a.1.2.1 r255.1.2.1).bind fun x256 =>
 some (((), (x256, ())), ((r255.2.1.1, (r255.2.1.2.1, ())), ()))
theorem e205v0 : ∀ a, f205v0 a = jjp (jjd c205v0 []) b205v0 i205v0 o205v0 a := fun a => by kernel_rfl
noncomputable def S205v0 : jjG := jjf tt 12 i205v0 o205v0 [.tmp 4] [0] f205v0
theorem z205v0 (h : ∀ T, (tt T).ok Tryz.prog T) (h69v0 : jja Tryz.prog 69 jqb) : jja Tryz.prog 205 S205v0 :=
 have H := k205v0 h h69v0
 jjj (fn := Tryz.f205) (fr := []) H (by kernel_rfl) (by kernel_rfl) (by kernel_rfl) (by kernel_rfl) (by kernel_rfl) jje (by kernel_rfl) (fun y => ⟨_, _, rfl, rfl, rfl⟩) e205v0
noncomputable def c206 : Ctx := { tt := tt, fs := fun n => match n with | _ => none }
theorem k206 (h : ∀ T, (tt T).ok Tryz.prog T) : CtxGood Tryz.prog c206 := ⟨⟨h⟩, fun g S hg => (by cases hg), jjq, fun _ _ h => (by cases h), fun _ h => (by cases h)⟩
noncomputable def b206 : Code := jjh Tryz.f206
@[reducible] noncomputable def s206_452 : Shape := ⟨[(0, .lf (.d (.str))), (1, .lf (.d (.int .i64))), (5, .lf (.d (.str)))], [], 20⟩
@[reducible] noncomputable def t206_452 : List OSh := [(.norm, ⟨[(0, .lf (.d (.str))), (1, .lf (.d (.int .i64))), (5, .lf (.d (.str)))], [], 20⟩)]
noncomputable def jzA (y : s206_452.Y) : Option (YS t206_452) :=
(remI y.1.2.1 (2 : Int)).bind fun x269 =>
 bif (x269 == (1 : Int)) then
(cat y.1.2.2.1 y.1.1).bind fun x270 =>
 some (((y.1.1, (y.1.2.1, (x270, ()))), ()))
else
 some (((y.1.1, (y.1.2.1, (y.1.2.2.1, ()))), ()))
theorem r206_452 : ∀ y, jzA y = jjM (jjd c206 []) (jjc (jjl (jjc b206 1 28)) 56 452) 452 s206_452 t206_452 y := fun y => by kernel_rfl
theorem q206_452 (H : CtxGood Tryz.prog c206) : jjn Tryz.prog (jjc (jjl (jjc b206 1 28)) 56 452) (jjb s206_452 t206_452 jzA) :=
 jjv (fr := []) H (by kernel_rfl) jje r206_452
@[reducible] noncomputable def s206_28 : Shape := ⟨[(0, .lf (.d (.str))), (1, .lf (.d (.int .i64))), (5, .lf (.d (.str)))], [], 20⟩
@[reducible] noncomputable def t206_28 : List OSh := [(.exit 0, ⟨[(5, .lf (.d (.str)))], [], 20⟩)]
noncomputable def g206_28 (y : s206_28.Y) : Option (Sum s206_28.Y (YS t206_28)) :=
 bif (decide (y.1.2.1 > (0 : Int))) then
(jzA ((y.1.1, (y.1.2.1, (y.1.2.2.1, ()))), ())).bind fun r275 =>
(cat r275.1.1 r275.1.1).bind fun x277 =>
(quoI .i64 r275.1.2.1 (2 : Int)).bind fun x278 =>
 some (.inl ((x277, (x278, (r275.1.2.2.1, ()))), ()))
else
 some (.inr (((y.1.2.2.1, ()), ())))
theorem r206_28 : ∀ y, g206_28 y = jjz (jjd c206 [(452, jjb s206_452 t206_452 jzA)]) (jjl (jjc b206 1 28)) 28 s206_28 t206_28 y := fun y => by kernel_rfl
noncomputable def l206_28 : s206_28.Y → Option (YS t206_28) := jjD g206_28
theorem q206_28 (H : CtxGood Tryz.prog c206) : jjn Tryz.prog (jjc b206 1 28) (jjb s206_28 t206_28 l206_28) :=
 jjt (fr := [(452, jjb s206_452 t206_452 jzA)]) H (by kernel_rfl) (by kernel_rfl) ⟨q206_452 H, trivial⟩ (fun y => jji r206_28 y)
@[reducible] noncomputable def i206 : Shape := ⟨[(0, .lf (.d (.str))), (1, .lf (.d (.int .i64)))], [], 20⟩
@[reducible] noncomputable def o206 : Shape := ⟨[(4, .lf (.d (.str)))], [], 20⟩
noncomputable def f206 (a : i206.Y) : Option o206.Y :=
(l206_28 ((a.1.1, (a.1.2.1, (([] : Str), ()))), ())).bind fun r280 =>
 some ((r280.1.1, ()), ())
theorem e206 : ∀ a, f206 a = jjp (jjd c206 [(28, jjb s206_28 t206_28 l206_28)]) b206 i206 o206 a := fun a => by kernel_rfl
noncomputable def S206 : jjG := jjf tt 20 i206 o206 [.tmp 4] [] f206
theorem z206 (h : ∀ T, (tt T).ok Tryz.prog T) : jja Tryz.prog 206 S206 :=
 have H := k206 h
 jjj (fn := Tryz.f206) (fr := [(28, jjb s206_28 t206_28 l206_28)]) H (by kernel_rfl) (by kernel_rfl) (by kernel_rfl) (by kernel_rfl) (by kernel_rfl) ⟨q206_28 H, trivial⟩ (by kernel_rfl) (fun y => ⟨_, _, rfl, rfl, rfl⟩) e206
noncomputable def c227v0 : Ctx := { tt := tt, fs := fun n => match n with | 70 => some jqt | 206 => some S206 | _ => none }
theorem k227v0 (h : ∀ T, (tt T).ok Tryz.prog T) (h70v0 : jja Tryz.prog 70 jqt) (h206 : jja Tryz.prog 206 S206) : CtxGood Tryz.prog c227v0 := ⟨⟨h⟩, fun g S hg => (by
 simp only [c227v0] at hg
 split at hg
 ·cases hg; exact h70v0
 ·cases hg; exact h206
 ·cases hg), jjq, fun _ _ h => (by cases h), fun _ h => (by cases h)⟩
noncomputable def b227v0 : Code := jjh Tryz.f227
@[reducible] noncomputable def i227v0 : Shape := ⟨[(0, .lf (.ptr 500000 0))], [(500000, .box [.d (.sl .u8), .d (.int .i64)], .same)], 7⟩
@[reducible] noncomputable def o227v0 : Shape := ⟨[(0, .lf (.ptr 500000 0)), (2, .lf (.d (.str)))], [(500000, .box [.d (.sl .u8), .d (.int .i64)], .same)], 7⟩
noncomputable def f227v0 (a : i227v0.Y) : Option o227v0.Y :=
(f206 ((([116] : Str), ((80 : Int), ())), ())).bind fun r283 =>
(jJ2 (((), (([([] : Str), ([111, 110, 101, 10] : Str), ([111, 110, 101, 10, 116, 119, 111, 10, 116, 104, 114, 101, 101, 10] : Str), ([110, 111, 32, 101, 110, 100] : Str), ([97, 10, 98, 10, 99, 10, 100, 10, 101, 10, 102, 10, 103, 10] : Str), r283.1.1] : List Str), ())), ((a.2.1.1, (a.2.1.2.1, ())), ()))).bind fun r284 =>
 some (((), (r284.1.2.1, ())), ((r284.2.1.1, (r284.2.1.2.1, ())), ()))
theorem e227v0 : ∀ a, f227v0 a = jjp (jjd c227v0 []) b227v0 i227v0 o227v0 a := fun a => by kernel_rfl
noncomputable def S227v0 : jjG := jjf tt 7 i227v0 o227v0 [.tmp 2] [0] f227v0
theorem z227v0 (h : ∀ T, (tt T).ok Tryz.prog T) (h70v0 : jja Tryz.prog 70 jqt) (h206 : jja Tryz.prog 206 S206) : jja Tryz.prog 227 S227v0 :=
 have H := k227v0 h h70v0 h206
 jjj (fn := Tryz.f227) (fr := []) H (by kernel_rfl) (by kernel_rfl) (by kernel_rfl) (by kernel_rfl) (by kernel_rfl) jje (by kernel_rfl) (fun y => ⟨_, _, rfl, rfl, rfl⟩) e227v0
noncomputable def c203v0 : Ctx := { tt := tt, fs := fun n => match n with | 69 => some jqb | 159 => some S159v0 | 205 => some S205v0 | 227 => some S227v0 | _ => none }
theorem k203v0 (h : ∀ T, (tt T).ok Tryz.prog T) (h69v0 : jja Tryz.prog 69 jqb) (h159v0 : jja Tryz.prog 159 S159v0) (h205v0 : jja Tryz.prog 205 S205v0) (h227v0 : jja Tryz.prog 227 S227v0) : CtxGood Tryz.prog c203v0 := ⟨⟨h⟩, fun g S hg => (by
 simp only [c203v0] at hg
 split at hg
 ·cases hg; exact h69v0
 ·cases hg; exact h159v0
 ·cases hg; exact h205v0
 ·cases hg; exact h227v0
 ·cases hg), jjq, fun _ _ h => (by cases h), fun _ h => (by cases h)⟩
noncomputable def b203v0 : Code := jjh Tryz.f203
@[reducible] noncomputable def i203v0 : Shape := ⟨[(0, .lf (.ptr 500000 0))], [(500000, .box [.d (.sl .u8), .d (.int .i64)], .same)], 26⟩
@[reducible] noncomputable def o203v0 : Shape := ⟨[(0, .lf (.ptr 500000 0)), (2, .lf (.ptr 2 0))], [(500000, .box [.d (.sl .u8), .d (.int .i64)], .same), (2, .box [.d (.str), .d (.int .i64), .d (.int .i64), .d (.str)], .same)], 26⟩
noncomputable def f203v0 (a : i203v0.Y) : Option o203v0.Y :=
(f159v0 (((), ()), ((a.2.1.1, (a.2.1.2.1, ())), ()))).bind fun r290 =>
(f205v0 (((), (([(1 : Int), (1 : Int), (2 : Int), (2 : Int), (3 : Int)] : List Int), ())), ((r290.2.1.1, (r290.2.1.2.1, ())), ()))).bind fun r291 =>
(jxJ (((), ((8 : Int), ())), ((r291.2.1.1, (r291.2.1.2.1, ())), ()))).bind fun r292 =>
 bif (r291.1.2.1 == (2 : Int)) then
(f227v0 (((), ()), ((r292.2.1.1, (r292.2.1.2.1, ())), ()))).bind fun r293 =>
 some (((), ((), ())), ((r293.2.1.1, (r293.2.1.2.1, ())), ((r290.1.2.1, (r291.1.2.1, (r292.1.2.1, (r293.1.2.1, ())))), ())))
else
 bif (r291.1.2.1 == (3 : Int)) then
(f159v0 (((), ()), ((r292.2.1.1, (r292.2.1.2.1, ())), ()))).bind fun r294 =>
 some (((), ((), ())), ((r294.2.1.1, (r294.2.1.2.1, ())), ((r290.1.2.1, (r291.1.2.1, ((0 : Int), (r294.1.2.1, ())))), ())))
else
 some (((), ((), ())), ((r292.2.1.1, (r292.2.1.2.1, ())), ((r290.1.2.1, (r291.1.2.1, (r292.1.2.1, (([] : Str), ())))), ())))
theorem e203v0 : ∀ a, f203v0 a = jjp (jjd c203v0 []) b203v0 i203v0 o203v0 a := fun a => by kernel_rfl
noncomputable def S203v0 : jjG := jjf tt 26 i203v0 o203v0 [.cell 2 32] [0] f203v0
theorem z203v0 (h : ∀ T, (tt T).ok Tryz.prog T) (h69v0 : jja Tryz.prog 69 jqb) (h159v0 : jja Tryz.prog 159 S159v0) (h205v0 : jja Tryz.prog 205 S205v0) (h227v0 : jja Tryz.prog 227 S227v0) : jja Tryz.prog 203 S203v0 :=
 have H := k203v0 h h69v0 h159v0 h205v0 h227v0
 jjj (fn := Tryz.f203) (fr := []) H (by kernel_rfl) (by kernel_rfl) (by kernel_rfl) (by kernel_rfl) (by kernel_rfl) jje (by kernel_rfl) (fun y => ⟨_, _, rfl, rfl, rfl⟩) e203v0
theorem jqK (a) (m : Nat) (h : RD a.2.1.1 a.2.1.2.1 m) (hm : 1 ≤ m) : Ev (jxJ a) (fun r => RD r.2.1.1 r.2.1.2.1 (m - 1) ∧ (0 : Int) ≤ r.1.2.1 ∧ ((1 : Int) ≤ a.1.2.1 → (r.1.2.1 : Int) < a.1.2.1)) := by
 obtain ⟨⟨u1, (n : Int), u2⟩, ⟨⟨(b : List Int), (p : Int), u3⟩, u4⟩⟩ := a
 have h : RD b p m := h
 obtain ⟨h1, h2, h3, h4⟩ := h
 have e1 : IntKind.i64.wrap (p + 1) = p + 1 := jjH (by omega) (by omega)
 have e2 : IntKind.i64.wrap (p + 1 - 1) = p := by rw [show p + 1 - 1 = p by omega]; exact jjH (by omega) (by omega)
 have R : RD b (p + 1) (m - 1) := ⟨h1, h2, by omega, by omega⟩
 unfold jxJ
 simp only [e1]
 have hg : jzz (((), (n, ())), ((b, (p + 1, ())), ())) = some ((((), (n, ((decide (n < 1) || (b.length : Int) == 0), ()))), ((b, (p + 1, ())), ()))) := by
  unfold jzz
  cases decide (n < 1) <;> rfl
 refine Ev.eq hg ?_
 refine Ev.ite (fun hc => Ev.ret ⟨R, Int.le_refl _, fun hn => hn⟩) fun hc => ?_
 have hc : (decide (n < 1) || (b.length : Int) == 0) = false := hc
 simp only [Bool.or_eq_false_iff, decide_eq_false_iff_not, beq_eq_false_iff_ne, ne_eq] at hc
 have hn : 1 ≤ n := by omega
 have hb : 0 < b.length := by omega
 simp only [e2]
 refine Ev.ite (fun hd => ?_) fun hd => ?_
 ·have hd : p < (b.length : Int) := of_decide_eq_true hd
  obtain ⟨x, k1, k2⟩ := ix_in (xs := b) h3 hd
  obtain ⟨k3, k4⟩ := h2 x k2
  refine Ev.eq k1 ?_
  have e3 : IntKind.i64.wrap x = x := jjH (by omega) (by omega)
  refine Ev.eq (x := x % n) (by show remI (IntKind.i64.wrap x) n = _; rw [e3]; exact rem_nn k3 (by omega)) ?_
  exact Ev.ret ⟨R, Int.emod_nonneg _ (by omega), fun _ => Int.emod_lt_of_pos _ (by omega)⟩
 ·have hl : 0 < (b.length : Int) := by omega
  have m7 : IntKind.i64.wrap (IntKind.i64.wrap (p * 7) + 3) = p * 7 + 3 := by rw [jjH (n := p * 7) (by omega) (by omega)]; exact jjH (by omega) (by omega)
  obtain ⟨x, k1, k2⟩ := ix_in (xs := b) (Int.emod_nonneg p (b := (b.length : Int)) (by omega)) (Int.emod_lt_of_pos p hl)
  obtain ⟨k3, k4⟩ := h2 x k2
  obtain ⟨y, l1, l2⟩ := ix_in (xs := b) (Int.emod_nonneg (p * 7 + 3) (b := (b.length : Int)) (by omega)) (Int.emod_lt_of_pos (p * 7 + 3) hl)
  obtain ⟨l3, l4⟩ := h2 y l2
  have q0 : 0 ≤ p / (b.length : Int) := Int.ediv_nonneg h3 (by omega)
  have q1 : p / (b.length : Int) ≤ p := Int.ediv_le_self _ h3
  refine Ev.eq (x := p % (b.length : Int)) (rem_nn h3 hl) ?_
  refine Ev.eq k1 ?_
  refine Ev.eq (x := (p * 7 + 3) % (b.length : Int)) (by show remI (IntKind.i64.wrap (IntKind.i64.wrap (p * 7) + 3)) (b.length : Int) = _; rw [m7]; exact rem_nn (by omega) hl) ?_
  refine Ev.eq l1 ?_
  refine Ev.eq (x := p / (b.length : Int)) (quo_nn rfl h3 (by omega) hl) ?_
  have w1 : IntKind.i64.wrap x = x := jjH (by omega) (by omega)
  have w2 : IntKind.i64.wrap y = y := jjH (by omega) (by omega)
  have w3 : IntKind.i64.wrap (x * 131) = x * 131 := jjH (by omega) (by omega)
  have w4 : IntKind.i64.wrap (y * 1117) = y * 1117 := jjH (by omega) (by omega)
  have w5 : IntKind.i64.wrap (x * 131 + y * 1117) = x * 131 + y * 1117 := jjH (by omega) (by omega)
  have w6 : IntKind.i64.wrap (p * 29) = p * 29 := jjH (by omega) (by omega)
  have w7 : IntKind.i64.wrap (x * 131 + y * 1117 + p * 29) = x * 131 + y * 1117 + p * 29 := jjH (by omega) (by omega)
  have w8 : IntKind.i64.wrap (p / (b.length : Int) * 53) = p / (b.length : Int) * 53 := jjH (by omega) (by omega)
  have w9 : IntKind.i64.wrap (x * 131 + y * 1117 + p * 29 + p / (b.length : Int) * 53) = x * 131 + y * 1117 + p * 29 + p / (b.length : Int) * 53 := jjH (by omega) (by omega)
  simp only [w1, w2, w3, w4, w5, w6, w7, w8, w9]
  have n0 : 0 ≤ x * 131 + y * 1117 + p * 29 + p / (b.length : Int) * 53 := by omega
  have n1 : x * 131 + y * 1117 + p * 29 + p / (b.length : Int) * 53 < 4611686018427387904 := by omega
  generalize x * 131 + y * 1117 + p * 29 + p / (b.length : Int) * 53 = X at n0 n1
  refine Ev.eq (x := X / 64) (quo_nn rfl n0 (by omega) (by decide)) ?_
  have hx := xor_nn n0 n1 (Int.ediv_nonneg n0 (by decide : (0 : Int) ≤ 64)) (Int.lt_of_le_of_lt (Int.ediv_le_self 64 n0) n1)
  refine Ev.eq (x := xorI .i64 X (X / 64) % n) (rem_nn hx (by omega)) ?_
  exact Ev.ret ⟨R, Int.emod_nonneg _ (by omega), fun _ => Int.emod_lt_of_pos _ (by omega)⟩
theorem v_of (a) (m : Nat) (h : RD a.2.1.1 a.2.1.2.1 m) (hm : 1 ≤ m) (hl : (1 : Int) ≤ (a.1.2.1 : List Str).length) : Ev (jJ2 a) (fun r => RD r.2.1.1 r.2.1.2.1 (m - 1) ∧ r.1.2.1 ∈ (a.1.2.1 : List Str)) := by
 unfold jJ2
 refine Ev.bind (jqK _ m h hm) fun r hr => ?_
 obtain ⟨x, k1, k2⟩ := ix_in (xs := (a.1.2.1 : List Str)) hr.2.1 (hr.2.2 hl)
 exact Ev.eq k1 (Ev.ret ⟨hr.1, k2⟩)
theorem v_one (a) (m : Nat) (h : RD a.2.1.1 a.2.1.2.1 m) (hm : 1 ≤ m) (hl : (1 : Int) ≤ (a.1.2.1 : List Int).length) : Ev (f205v0 a) (fun r => RD r.2.1.1 r.2.1.2.1 (m - 1) ∧ r.1.2.1 ∈ (a.1.2.1 : List Int)) := by
 unfold f205v0
 refine Ev.bind (jqK _ m h hm) fun r hr => ?_
 obtain ⟨x, k1, k2⟩ := ix_in (xs := (a.1.2.1 : List Int)) hr.2.1 (hr.2.2 hl)
 exact Ev.eq k1 (Ev.ret ⟨hr.1, k2⟩)
abbrev Sh (s : Str) : Prop := s.length ≤ 200
theorem sh_all {L : List Str} (h : L.all (fun s => decide (s.length ≤ 200)) = true) {s : Str} (hs : s ∈ L) : Sh s := of_decide_eq_true (List.all_eq_true.1 h s hs)
theorem jzY (a) (m : Nat) (h : RD a.2.1.1 a.2.1.2.1 m) (hm : 1 ≤ m) : Ev (f167v0 a) (fun r => RD r.2.1.1 r.2.1.2.1 (m - 1) ∧ Sh r.1.2.1) := by
 unfold f167v0
 refine Ev.bind (v_of _ m h hm (by simp)) fun r hr => Ev.ret ⟨hr.1, sh_all (by rfl) hr.2⟩
theorem v_l11Path (a) (m : Nat) (h : RD a.2.1.1 a.2.1.2.1 m) (hm : 1 ≤ m) : Ev (f159v0 a) (fun r => RD r.2.1.1 r.2.1.2.1 (m - 1) ∧ Sh r.1.2.1) := by
 unfold f159v0
 refine Ev.bind (v_of _ m h hm (by simp)) fun r hr => Ev.ret ⟨hr.1, sh_all (by rfl) hr.2⟩
theorem v_l1Many (a) (hs : (a.1.1 : Str).length ≤ 1) (h0 : (0 : Int) ≤ a.1.2.1) (h1 : (a.1.2.1 : Int) ≤ 127) : Ev (f206 a) (fun r => Sh r.1.1) := by
 obtain ⟨⟨(s : Str), (n : Int), u⟩, u'⟩ := a
 unfold f206
 have key : Ev (l206_28 ((s, (n, (([] : Str), ()))), ())) (fun r => Sh r.1.1) := by
  refine Ev.loop (fun (k : Nat) y => (0 : Int) ≤ y.1.2.1 ∧ (y.1.2.1 : Int).toNat = k ∧ (y.1.2.1 : Int).toNat * (y.1.1 : Str).length + (y.1.2.2.1 : Str).length ≤ 127 ∧ (y.1.1 : Str).length ≤ 256 ∧ (y.1.2.1 : Int) ≤ 127) (fun k y hy => ?_) n.toNat _ ⟨h0, rfl, ?_, by show s.length ≤ 256; have : s.length ≤ 1 := hs; omega, h1⟩
  ·obtain ⟨⟨(s : Str), (n : Int), (out : Str), u⟩, u'⟩ := y
   obtain ⟨y1, y2, y3, y4, y5⟩ := hy
   have y5 : n ≤ 127 := y5
   have y1 : 0 ≤ n := y1
   have y3 : n.toNat * s.length + out.length ≤ 127 := y3
   have y4 : s.length ≤ 256 := y4
   unfold g206_28
   refine Ev.ite (fun hc => ?_) fun hc => ?_
   ·have hc : n > 0 := of_decide_eq_true hc
    have hN : 1 ≤ n.toNat := by omega
    have hsl : s.length ≤ 127 := by have := Nat.mul_le_mul_right s.length hN; omega
    have piece : Ev (jzA ((s, (n, (out, ()))), ())) (fun r => r.1.1 = s ∧ r.1.2.1 = n ∧ (n % 2 = 1 ∧ (r.1.2.2.1 : Str).length = out.length + s.length ∨ n % 2 = 0 ∧ (r.1.2.2.1 : Str).length = out.length)) := by
     unfold jzA
     refine Ev.eq (x := n % 2) (rem_nn y1 (by decide)) ?_
     refine Ev.ite (fun hd => ?_) fun hd => ?_
     ·have hd : n % 2 = 1 := by simpa using hd
      exact Ev.eq (ev_cat (s := out) (t := s) (by omega)) (Ev.ret ⟨rfl, rfl, .inl ⟨hd, by simp⟩⟩)
     ·have hd : ¬ n % 2 = 1 := by simpa using hd
      exact Ev.ret ⟨rfl, rfl, .inr ⟨by omega, rfl⟩⟩
    refine Ev.bind piece fun r hr => ?_
    obtain ⟨⟨(s' : Str), (n' : Int), (out' : Str), v⟩, v'⟩ := r
    obtain ⟨r1, r2, r3⟩ := hr
    have r1 : s' = s := r1
    have r2 : n' = n := r2
    subst r1 r2
    refine Ev.eq (ev_cat (s := s') (t := s') (by omega)) ?_
    refine Ev.eq (x := n' / 2) (quo_nn (x := n') rfl y1 (by omega) (by decide)) ?_
    refine Ev.ret ⟨(n' / 2).toNat, ?_, ?_⟩
    ·show (n' / 2).toNat < k
     have : n'.toNat = k := y2
     omega
    ·refine ⟨by show 0 ≤ n' / 2; omega, rfl, ?_, by show (s' ++ s').length ≤ 256; simp; omega, by show n' / 2 ≤ 127; omega⟩
     show (n' / 2).toNat * (s' ++ s').length + out'.length ≤ 127
     have r3 : n' % 2 = 1 ∧ out'.length = out.length + s'.length ∨ n' % 2 = 0 ∧ out'.length = out.length := r3
     obtain ⟨q, hq⟩ : ∃ q : Nat, (n' / 2).toNat = q := ⟨_, rfl⟩
     rw [hq, List.length_append]
     rcases r3 with ⟨r3, r4⟩ | ⟨r3, r4⟩
     ·have e : n'.toNat = 2 * q + 1 := by omega
      rw [e] at y3
      rw [r4]
      have : (2 * q + 1) * s'.length = q * (s'.length + s'.length) + s'.length := by rw [Nat.add_mul, Nat.one_mul, Nat.mul_assoc, Nat.mul_add]; omega
      omega
     ·have e : n'.toNat = 2 * q := by omega
      rw [e] at y3
      rw [r4]
      have : 2 * q * s'.length = q * (s'.length + s'.length) := by rw [Nat.mul_add, Nat.mul_assoc]; omega
      omega
   ·exact Ev.ret (show out.length ≤ 200 by omega)
  ·show n.toNat * s.length + 0 ≤ 127
   have hs : s.length ≤ 1 := hs
   have h1 : n ≤ 127 := h1
   have : n.toNat * s.length ≤ n.toNat * 1 := Nat.mul_le_mul_left _ hs
   omega
 exact Ev.bind key fun r hr => Ev.ret hr
theorem v_l11Text (a) (m : Nat) (h : RD a.2.1.1 a.2.1.2.1 m) (hm : 1 ≤ m) : Ev (f227v0 a) (fun r => RD r.2.1.1 r.2.1.2.1 (m - 1) ∧ Sh r.1.2.1) := by
 unfold f227v0
 refine Ev.bind (v_l1Many _ (by simp) (by show (0 : Int) ≤ 80; decide) (by show (80 : Int) ≤ 127; decide)) fun q hq => ?_
 refine Ev.bind (v_of _ m h hm (by simp)) fun r hr => Ev.ret ⟨hr.1, ?_⟩
 have := hr.2
 simp only [List.mem_cons, List.not_mem_nil, or_false] at this
 rcases this with e | e | e | e | e | e
 ·show (r.1.2.1 : Str).length ≤ 200; rw [e]; decide
 ·show (r.1.2.1 : Str).length ≤ 200; rw [e]; decide
 ·show (r.1.2.1 : Str).length ≤ 200; rw [e]; decide
 ·show (r.1.2.1 : Str).length ≤ 200; rw [e]; decide
 ·show (r.1.2.1 : Str).length ≤ 200; rw [e]; decide
 ·show (r.1.2.1 : Str).length ≤ 200; rw [e]; exact hq
abbrev ShE (e : Entry) : Prop := Sh e.path ∧ Sh e.text
theorem v_l11Entry (a) (m : Nat) (h : RD a.2.1.1 a.2.1.2.1 m) (hm : 4 ≤ m) : Ev (f203v0 a) (fun r => RD r.2.1.1 r.2.1.2.1 (m - 4) ∧ ShE ⟨r.2.2.1.1, r.2.2.1.2.1, r.2.2.1.2.2.1, r.2.2.1.2.2.2.1⟩) := by
 unfold f203v0
 refine Ev.bind (v_l11Path _ m h (by omega)) fun r1 h1 => ?_
 refine Ev.bind (v_one _ (m - 1) h1.1 (by omega) (by simp)) fun r2 h2 => ?_
 refine Ev.bind (jqK _ (m - 1 - 1) h2.1 (by omega)) fun r3 h3 => ?_
 refine Ev.ite (fun _ => ?_) fun _ => Ev.ite (fun _ => ?_) fun _ => ?_
 ·exact Ev.bind (v_l11Text _ _ h3.1 (by omega)) fun r4 h4 => Ev.ret ⟨h4.1.less (by omega), h1.2, h4.2⟩
 ·exact Ev.bind (v_l11Path _ _ h3.1 (by omega)) fun r4 h4 => Ev.ret ⟨h4.1.less (by omega), h1.2, h4.2⟩
 ·exact Ev.ret ⟨h3.1.less (by omega), h1.2, show (0 : Nat) ≤ 200 by decide⟩
theorem v_l2Copy (a) (h : Bd a.1.1.length) : f147 a = some (((), ()), (a.1.1, ())) := by
 obtain ⟨⟨t, u⟩, u'⟩ := a
 have h : t.length ≤ 2097152 := h
 simp only [f147, jqd (show (48 : Nat) ≤ 100 by decide) (show Sm (([] : List Entry).length + t.length) by unfold Sm; simp; omega), List.nil_append, Option.bind_some]
abbrev ShT (t : List Entry) : Prop := t.length ≤ 16 ∧ ∀ e, e ∈ t → ShE e
theorem shE_set {t : List Entry} {k : Nat} {e : Entry} (h : ∀ e, e ∈ t → ShE e) (he : ShE e) : ∀ x, x ∈ t.set k e → ShE x := by
 intro x hx
 rcases List.mem_or_eq_of_mem_set hx with hx | hx
 ·exact h x hx
 ·rw [hx]; exact he
theorem v_l2Put (a) (ht : ShT a.1.1) (he : ShE ⟨a.1.2.1.1, a.1.2.1.2.1, a.1.2.1.2.2.1, a.1.2.1.2.2.2.1⟩) : Ev (f202 a) (fun r => ShT r.2.1) := by
 obtain ⟨⟨t, ⟨path, kind, mode, text, u0⟩, u⟩, u'⟩ := a
 obtain ⟨h1, h2⟩ := ht
 have h1 : t.length ≤ 16 := h1
 have he : ShE ⟨path, kind, mode, text⟩ := he
 have hb : Bd t.length := by unfold Bd; omega
 unfold f202
 refine Ev.eq (v_l2At ((t, (path, ())), ()) hb) ?_
 refine Ev.eq (v_l2Copy ((t, ()), ()) hb) ?_
 have hp := jQb t path
 have e1 := v_l2Entry (((path, (kind, (mode, (text, ())))), ()), ()) (Nat.le_trans he.1 (by decide)) (Nat.le_trans he.2 (by decide))
 have e2 := v_l1Up ((path, ()), ()) (Nat.le_trans he.1 (by decide))
 have e3 := v_l2Dir ((t, (upL path, ())), ()) hb
 obtain ⟨c, hc⟩ : ∃ c : Bool, jzC ((t, ((), ((), (false, ((jj1 t path : Int), (jxm t path, ((), ()))))))), ((path, (kind, (mode, (text, ())))), (([] : List Entry), (t, ())))) =
   some ((t, ((), ((), (false, ((jj1 t path : Int), (jxm t path, ((), (c, ())))))))), ((path, (kind, (mode, (text, ())))), (([] : List Entry), (t, ())))) := by
  unfold jzC
  simp only [e1, Option.bind_some, Bool.not_not]
  cases entOk ⟨path, kind, mode, text⟩ with
  | false => exact ⟨true, rfl⟩
  | true => simp only [cond_true, e2, Option.bind_some, e3]; exact ⟨_, rfl⟩
 refine Ev.eq hc ?_
 refine Ev.ite (fun _ => Ev.ret ⟨h1, h2⟩) fun _ => ?_
 obtain ⟨d, hd⟩ : ∃ d : Bool, jzB ((t, ((), ((), (false, ((jj1 t path : Int), (jxm t path, ((), ()))))))), ((path, (kind, (mode, (text, ())))), (([] : List Entry), (t, ())))) =
   some ((t, ((), ((), (false, ((jj1 t path : Int), (jxm t path, ((), (d, ())))))))), ((path, (kind, (mode, (text, ())))), (([] : List Entry), (t, ())))) := by
  unfold jzB
  cases hh : jxm t path with
  | false => exact ⟨false, rfl⟩
  | true =>
   unfold jxm at hh
   cases hq : t[jj1 t path]? with
   | none => rw [hq] at hh; cases hh
   | some e => simp only [cond_true, jju, hq, Option.bind_some]; exact ⟨_, rfl⟩
 refine Ev.eq hd ?_
 refine Ev.ite (fun _ => Ev.ret ⟨h1, h2⟩) fun _ => ?_
 refine Ev.ite (fun hh => ?_) fun _ => Ev.ite (fun _ => Ev.ret ⟨h1, h2⟩) fun hl => ?_
 ·have hh : jxm t path = true := hh
  unfold jxm at hh
  cases hq : t[jj1 t path]? with
  | none => rw [hq] at hh; cases hh
  | some e =>
   refine Ev.eq (jzy (jjy hq)) ?_
   refine Ev.eq (x := Entry.mk path kind mode text) (by show (t[jj1 t path]?).bind _ = _; rw [hq]; rfl) ?_
   exact Ev.ret ⟨by show (t.set _ _).length ≤ 16; rw [List.length_set]; exact h1, shE_set h2 he⟩
 ·have hl : ¬ ((t.length : Int) ≥ 16) := of_decide_eq_false hl
  refine Ev.eq (jzq hp) ?_
  refine Ev.eq (jqd (by decide) (by unfold Sm; simp; omega)) ?_
  refine Ev.eq (jqd (by decide) (by unfold Sm; simp; omega)) ?_
  refine Ev.eq (jxB hp) ?_
  refine Ev.eq (jqd (by decide) (by unfold Sm; simp; omega)) ?_
  refine Ev.ret ⟨?_, fun x hx => ?_⟩
  ·show (([] ++ t.take (jj1 t path) ++ [Entry.mk path kind mode text]) ++ t.drop (jj1 t path)).length ≤ 16
   simp; omega
  ·have hx : x ∈ ([] ++ t.take (jj1 t path) ++ [Entry.mk path kind mode text]) ++ t.drop (jj1 t path) := hx
   simp only [List.nil_append, List.mem_append, List.mem_singleton] at hx
   rcases hx with (hx | hx) | hx
   ·exact h2 x (List.mem_of_mem_take hx)
   ·rw [hx]; exact he
   ·exact h2 x (List.mem_of_mem_drop hx)
noncomputable def c241 : Ctx := { tt := tt, fs := fun n => match n with | 236 => some S236 | _ => none }
theorem k241 (h : ∀ T, (tt T).ok Tryz.prog T) (h236 : jja Tryz.prog 236 S236) : CtxGood Tryz.prog c241 := ⟨⟨h⟩, fun g S hg => (by
 simp only [c241] at hg
 split at hg
 ·cases hg; exact h236
 ·cases hg), jjq, fun _ _ h => (by cases h), fun _ h => (by cases h)⟩
noncomputable def b241 : Code := jjh Tryz.f241
@[reducible] noncomputable def s241_28 : Shape := ⟨[(0, .lf (.d (.str))), (3, .lf (.d (.int .i64)))], [], 43⟩
@[reducible] noncomputable def t241_28 : List OSh := [(.norm, ⟨[(0, .lf (.d (.str))), (3, .lf (.d (.int .i64))), (12, .lf (.d (.bool)))], [], 43⟩)]
noncomputable def g241_28 (y : s241_28.Y) : Option (YS t241_28) :=
 bif (decide ((y.1.1.length : Int) > (1 : Int))) then
(ix y.1.1 (1 : Int)).bind fun x409 =>
 some (((y.1.1, (y.1.2.1, (((x409.toNat : Int) == (33 : Int)), ()))), ()))
else
 some (((y.1.1, (y.1.2.1, (false, ()))), ()))
theorem r241_28 : ∀ y, g241_28 y = jjM (jjd c241 []) (jjc (jjc b241 1 14) 14 28) 28 s241_28 t241_28 y := fun y => by kernel_rfl
theorem q241_28 (H : CtxGood Tryz.prog c241) : jjn Tryz.prog (jjc (jjc b241 1 14) 14 28) (jjb s241_28 t241_28 g241_28) :=
 jjv (fr := []) H (by kernel_rfl) jje r241_28
@[reducible] noncomputable def s241_14 : Shape := ⟨[(0, .lf (.d (.str))), (3, .lf (.d (.int .i64)))], [], 43⟩
@[reducible] noncomputable def t241_14 : List OSh := [(.norm, ⟨[(0, .lf (.d (.str))), (3, .lf (.d (.int .i64)))], [], 43⟩)]
noncomputable def g241_14 (y : s241_14.Y) : Option (YS t241_14) :=
(g241_28 ((y.1.1, (y.1.2.1, ())), ())).bind fun r412 =>
 bif r412.1.2.2.1 then
 some (((r412.1.1, ((2 : Int), ())), ()))
else
 some (((r412.1.1, (r412.1.2.1, ())), ()))
theorem r241_14 : ∀ y, g241_14 y = jjM (jjd c241 [(28, jjb s241_28 t241_28 g241_28)]) (jjc b241 1 14) 14 s241_14 t241_14 y := fun y => by kernel_rfl
theorem q241_14 (H : CtxGood Tryz.prog c241) : jjn Tryz.prog (jjc b241 1 14) (jjb s241_14 t241_14 g241_14) :=
 jjv (fr := [(28, jjb s241_28 t241_28 g241_28)]) H (by kernel_rfl) ⟨q241_28 H, trivial⟩ r241_14
@[reducible] noncomputable def s241_124 : Shape := ⟨[(0, .lf (.d (.str))), (3, .lf (.d (.int .i64))), (4, .lf (.d (.int .i64)))], [], 43⟩
@[reducible] noncomputable def jJG : List OSh := [(.exit 0, ⟨[(0, .lf (.d (.str))), (3, .lf (.d (.int .i64))), (4, .lf (.d (.int .i64)))], [], 43⟩)]
noncomputable def g241_124 (y : s241_124.Y) : Option (Sum s241_124.Y (YS jJG)) :=
 bif (decide (y.1.2.1 < (y.1.1.length : Int))) then
(ix y.1.1 y.1.2.1).bind fun x421 =>
(f236 (((x421.toNat : Int), ()), ())).bind fun r422 =>
 bif r422.1.1 then
 some (.inl ((y.1.1, ((IntKind.i64.wrap (y.1.2.1 + (1 : Int))), (y.1.2.2.1, ()))), ()))
else
 some (.inr (((y.1.1, (y.1.2.1, (y.1.2.2.1, ()))), ())))
else
 some (.inr (((y.1.1, (y.1.2.1, (y.1.2.2.1, ()))), ())))
theorem r241_124 : ∀ y, g241_124 y = jjz (jjd c241 []) (jjl (jjc b241 1 124)) 124 s241_124 jJG y := fun y => by kernel_rfl
noncomputable def l241_124 : s241_124.Y → Option (YS jJG) := jjD g241_124
theorem q241_124 (H : CtxGood Tryz.prog c241) : jjn Tryz.prog (jjc b241 1 124) (jjb s241_124 jJG l241_124) :=
 jjt (fr := []) H (by kernel_rfl) (by kernel_rfl) jje (fun y => jji r241_124 y)
@[reducible] noncomputable def s241_252 : Shape := ⟨[(0, .lf (.d (.str))), (3, .lf (.d (.int .i64))), (4, .lf (.d (.int .i64)))], [], 43⟩
@[reducible] noncomputable def t241_252 : List OSh := [(.norm, ⟨[(3, .lf (.d (.int .i64))), (40, .lf (.d (.bool)))], [], 43⟩)]
noncomputable def g241_252 (y : s241_252.Y) : Option (YS t241_252) :=
 bif (!(y.1.2.1 == y.1.2.2.1)) then
 bif (!(y.1.2.1 == (y.1.1.length : Int))) then
(ix y.1.1 y.1.2.1).bind fun x428 =>
 some (((y.1.2.1, (((x428.toNat : Int) != (93 : Int)), ())), ()))
else
 some (((y.1.2.1, (true, ())), ()))
else
 some (((y.1.2.1, (true, ())), ()))
theorem r241_252 : ∀ y, g241_252 y = jjM (jjd c241 []) (jjc b241 1 252) 252 s241_252 t241_252 y := fun y => by kernel_rfl
theorem q241_252 (H : CtxGood Tryz.prog c241) : jjn Tryz.prog (jjc b241 1 252) (jjb s241_252 t241_252 g241_252) :=
 jjv (fr := []) H (by kernel_rfl) jje r241_252
@[reducible] noncomputable def i241 : Shape := ⟨[(0, .lf (.d (.str)))], [], 43⟩
@[reducible] noncomputable def o241 : Shape := ⟨[(2, .lf (.d (.int .i64)))], [], 43⟩
noncomputable def f241 (a : i241.Y) : Option o241.Y :=
(g241_14 ((a.1.1, ((1 : Int), ())), ())).bind fun r431 =>
(l241_124 ((r431.1.1, (r431.1.2.1, (r431.1.2.1, ()))), ())).bind fun r432 =>
(g241_252 ((r432.1.1, (r432.1.2.1, (r432.1.2.2.1, ()))), ())).bind fun r434 =>
 bif r434.1.2.1 then
 some (((0 : Int), ()), ())
else
 some (((IntKind.i64.wrap (r434.1.1 + (1 : Int))), ()), ())
theorem e241 : ∀ a, f241 a = jjp (jjd c241 [(14, jjb s241_14 t241_14 g241_14), (124, jjb s241_124 jJG l241_124), (252, jjb s241_252 t241_252 g241_252)]) b241 i241 o241 a := fun a => by kernel_rfl
noncomputable def S241 : jjG := jjf tt 43 i241 o241 [.tmp 2] [] f241
theorem z241 (h : ∀ T, (tt T).ok Tryz.prog T) (h236 : jja Tryz.prog 236 S236) : jja Tryz.prog 241 S241 :=
 have H := k241 h h236
 jjj (fn := Tryz.f241) (fr := [(14, jjb s241_14 t241_14 g241_14), (124, jjb s241_124 jJG l241_124), (252, jjb s241_252 t241_252 g241_252)]) H (by kernel_rfl) (by kernel_rfl) (by kernel_rfl) (by kernel_rfl) (by kernel_rfl) ⟨q241_14 H, q241_124 H, q241_252 H, trivial⟩ (by kernel_rfl) (fun y => ⟨_, _, rfl, rfl, rfl⟩) e241
noncomputable def c234 : Ctx := { tt := tt, fs := fun n => match n with | 236 => some S236 | 241 => some S241 | _ => none }
theorem k234 (h : ∀ T, (tt T).ok Tryz.prog T) (h236 : jja Tryz.prog 236 S236) (h241 : jja Tryz.prog 241 S241) : CtxGood Tryz.prog c234 := ⟨⟨h⟩, fun g S hg => (by
 simp only [c234] at hg
 split at hg
 ·cases hg; exact h236
 ·cases hg; exact h241
 ·cases hg), jjq, fun _ _ h => (by cases h), fun _ h => (by cases h)⟩
noncomputable def b234 : Code := jjh Tryz.f234
@[reducible] noncomputable def s234_6726 : Shape := ⟨[(0, .lf (.d (.str))), (3, .lf (.d (.int .i64)))], [], 45⟩
@[reducible] noncomputable def jz4 : List OSh := [(.norm, ⟨[(0, .lf (.d (.str))), (3, .lf (.d (.int .i64))), (26, .lf (.d (.bool)))], [], 45⟩)]
noncomputable def jxH (y : s234_6726.Y) : Option (YS jz4) :=
(ix y.1.1 y.1.2.1).bind fun x448 =>
 bif (!((x448.toNat : Int) == (42 : Int))) then
(ix y.1.1 y.1.2.1).bind fun x449 =>
 some (((y.1.1, (y.1.2.1, (((x449.toNat : Int) == (63 : Int)), ()))), ()))
else
 some (((y.1.1, (y.1.2.1, (true, ()))), ()))
theorem r234_6726 : ∀ y, jxH y = jjM (jjd c234 []) (jjc (jjl (jjc b234 1 26)) 52 6726) 6726 s234_6726 jz4 y := fun y => by kernel_rfl
theorem q234_6726 (H : CtxGood Tryz.prog c234) : jjn Tryz.prog (jjc (jjl (jjc b234 1 26)) 52 6726) (jjb s234_6726 jz4 jxH) :=
 jjv (fr := []) H (by kernel_rfl) jje r234_6726
@[reducible] noncomputable def s234_26 : Shape := ⟨[(0, .lf (.d (.str))), (3, .lf (.d (.int .i64)))], [], 45⟩
@[reducible] noncomputable def t234_26 : List OSh := [(.ret, ⟨[(2, .lf (.d (.bool)))], [], 45⟩), (.exit 0, ⟨[(0, .lf (.d (.str)))], [], 45⟩)]
noncomputable def g234_26 (y : s234_26.Y) : Option (Sum s234_26.Y (YS t234_26)) :=
 bif (decide (y.1.2.1 < (y.1.1.length : Int))) then
(ix y.1.1 y.1.2.1).bind fun x456 =>
 bif ((x456.toNat : Int) == (91 : Int)) then
(jqM y.1.1 y.1.2.1 (y.1.1.length : Int)).bind fun x459 =>
(f241 ((x459, ()), ())).bind fun r460 =>
 bif (r460.1.1 == (0 : Int)) then
 some (.inr (.inl ((false, ()), ())))
else
 some (.inl ((y.1.1, ((IntKind.i64.wrap ((IntKind.i64.wrap ((IntKind.i64.wrap (y.1.2.1 + r460.1.1)) - (1 : Int))) + (1 : Int))), ())), ()))
else
(jxH ((y.1.1, (y.1.2.1, ())), ())).bind fun r461 =>
 bif r461.1.2.2.1 then
 some (.inl ((r461.1.1, ((IntKind.i64.wrap (r461.1.2.1 + (1 : Int))), ())), ()))
else
(ix r461.1.1 r461.1.2.1).bind fun x464 =>
(f236 (((x464.toNat : Int), ()), ())).bind fun r465 =>
 bif (!r465.1.1) then
 some (.inr (.inl ((false, ()), ())))
else
 some (.inl ((r461.1.1, ((IntKind.i64.wrap (r461.1.2.1 + (1 : Int))), ())), ()))
else
 some (.inr (.inr ((y.1.1, ()), ())))
theorem r234_26 : ∀ y, g234_26 y = jjz (jjd c234 [(6726, jjb s234_6726 jz4 jxH)]) (jjl (jjc b234 1 26)) 26 s234_26 t234_26 y := fun y => by kernel_rfl
noncomputable def l234_26 : s234_26.Y → Option (YS t234_26) := jjD g234_26
theorem q234_26 (H : CtxGood Tryz.prog c234) : jjn Tryz.prog (jjc b234 1 26) (jjb s234_26 t234_26 l234_26) :=
 jjt (fr := [(6726, jjb s234_6726 jz4 jxH)]) H (by kernel_rfl) (by kernel_rfl) ⟨q234_6726 H, trivial⟩ (fun y => jji r234_26 y)
@[reducible] noncomputable def i234 : Shape := ⟨[(0, .lf (.d (.str)))], [], 45⟩
@[reducible] noncomputable def o234 : Shape := ⟨[(2, .lf (.d (.bool)))], [], 45⟩
noncomputable def f234 (a : i234.Y) : Option o234.Y :=
(l234_26 ((a.1.1, ((0 : Int), ())), ())).bind fun r475 =>
(match r475 with
| .inl r476 =>
 some ((r476.1.1, ()), ())
| .inr r477 =>
 some (((!(r477.1.1 == ([] : Str))), ()), ()))
theorem e234 : ∀ a, f234 a = jjp (jjd c234 [(26, jjb s234_26 t234_26 l234_26)]) b234 i234 o234 a := fun a => by kernel_rfl
noncomputable def S234 : jjG := jjf tt 45 i234 o234 [.tmp 2] [] f234
theorem z234 (h : ∀ T, (tt T).ok Tryz.prog T) (h236 : jja Tryz.prog 236 S236) (h241 : jja Tryz.prog 241 S241) : jja Tryz.prog 234 S234 :=
 have H := k234 h h236 h241
 jjj (fn := Tryz.f234) (fr := [(26, jjb s234_26 t234_26 l234_26)]) H (by kernel_rfl) (by kernel_rfl) (by kernel_rfl) (by kernel_rfl) (by kernel_rfl) ⟨q234_26 H, trivial⟩ (by kernel_rfl) (fun y => ⟨_, _, rfl, rfl, rfl⟩) e234
noncomputable def c224 : Ctx := { tt := tt, fs := fun n => match n with | 208 => some S208 | 234 => some S234 | _ => none }
theorem k224 (h : ∀ T, (tt T).ok Tryz.prog T) (h208 : jja Tryz.prog 208 S208) (h234 : jja Tryz.prog 234 S234) : CtxGood Tryz.prog c224 := ⟨⟨h⟩, fun g S hg => (by
 simp only [c224] at hg
 split at hg
 ·cases hg; exact h208
 ·cases hg; exact h234
 ·cases hg), jjq, fun _ _ h => (by cases h), fun _ h => (by cases h)⟩
noncomputable def b224 : Code := jjh Tryz.f224
@[reducible] noncomputable def s224_58 : Shape := ⟨[(0, .lf (.d (.str))), (3, .lf (.own 3000192)), (4, .lf (.d (.int .i64)))], [(3000192, .row .str, .slot 3 0)], 30⟩
@[reducible] noncomputable def t224_58 : List OSh := [(.ret, ⟨[(2, .lf (.d (.bool)))], [], 30⟩), (.exit 0, ⟨[(0, .lf (.d (.str))), (3, .lf (.own 3000192))], [(3000192, .row .str, .slot 3 0)], 30⟩)]
noncomputable def g224_58 (y : s224_58.Y) : Option (Sum s224_58.Y (YS t224_58)) :=
 bif (decide (y.1.2.2.1 < (y.2.1.length : Int))) then
(inb y.2.1.length y.1.2.2.1).bind fun x485 =>
(y.2.1[x485]?).bind fun x486 =>
(f234 ((x486, ()), ())).bind fun r487 =>
 bif (!r487.1.1) then
 some (.inr (.inl ((false, ()), ())))
else
 some (.inl ((y.1.1, ((), ((IntKind.i64.wrap (y.1.2.2.1 + (1 : Int))), ()))), (y.2.1, ())))
else
 some (.inr (.inr ((y.1.1, ((), ())), (y.2.1, ()))))
theorem r224_58 : ∀ y, g224_58 y = jjz (jjd c224 []) (jjl (jjc b224 1 58)) 58 s224_58 t224_58 y := fun y => by kernel_rfl
noncomputable def l224_58 : s224_58.Y → Option (YS t224_58) := jjD g224_58
theorem q224_58 (H : CtxGood Tryz.prog c224) : jjn Tryz.prog (jjc b224 1 58) (jjb s224_58 t224_58 l224_58) :=
 jjt (fr := []) H (by kernel_rfl) (by kernel_rfl) jje (fun y => jji r224_58 y)
@[reducible] noncomputable def i224 : Shape := ⟨[(0, .lf (.d (.str)))], [], 30⟩
@[reducible] noncomputable def o224 : Shape := ⟨[(2, .lf (.d (.bool)))], [], 30⟩
noncomputable def f224 (a : i224.Y) : Option o224.Y :=
(f208 ((a.1.1, ((47 : Int), ((IntKind.i64.wrap ((a.1.1.length : Int) + (1 : Int))), ()))), ())).bind fun r495 =>
(l224_58 ((a.1.1, ((), ((0 : Int), ()))), (r495.2.1, ()))).bind fun r499 =>
(match r499 with
| .inl r500 =>
 some ((r500.1.1, ()), ())
| .inr r501 =>
 bif (decide ((r501.2.1.length : Int) ≤ (5 : Int))) then
 some (((decide ((r501.1.1.length : Int) ≤ (40 : Int))), ()), ())
else
 some ((false, ()), ()))
theorem e224 : ∀ a, f224 a = jjp (jjd c224 [(58, jjb s224_58 t224_58 l224_58)]) b224 i224 o224 a := fun a => by kernel_rfl
noncomputable def S224 : jjG := jjf tt 30 i224 o224 [.tmp 2] [] f224
theorem z224 (h : ∀ T, (tt T).ok Tryz.prog T) (h208 : jja Tryz.prog 208 S208) (h234 : jja Tryz.prog 234 S234) : jja Tryz.prog 224 S224 :=
 have H := k224 h h208 h234
 jjj (fn := Tryz.f224) (fr := [(58, jjb s224_58 t224_58 l224_58)]) H (by kernel_rfl) (by kernel_rfl) (by kernel_rfl) (by kernel_rfl) (by kernel_rfl) ⟨q224_58 H, trivial⟩ (by kernel_rfl) (fun y => ⟨_, _, rfl, rfl, rfl⟩) e224
noncomputable def c242 : Ctx := { tt := tt, fs := fun n => match n with | _ => none }
theorem k242 (h : ∀ T, (tt T).ok Tryz.prog T) : CtxGood Tryz.prog c242 := ⟨⟨h⟩, fun g S hg => (by cases hg), jjq, fun _ _ h => (by cases h), fun _ h => (by cases h)⟩
noncomputable def b242 : Code := jjh Tryz.f242
@[reducible] noncomputable def s242_1864 : Shape := ⟨[(0, .lf (.d (.str))), (1, .lf (.d (.int .u8))), (5, .lf (.d (.bool))), (6, .lf (.d (.int .i64)))], [], 33⟩
@[reducible] noncomputable def jz3 : List OSh := [(.norm, ⟨[(0, .lf (.d (.str))), (1, .lf (.d (.int .u8))), (5, .lf (.d (.bool))), (6, .lf (.d (.int .i64))), (29, .lf (.d (.bool)))], [], 33⟩)]
noncomputable def jJq (y : s242_1864.Y) : Option (YS jz3) :=
(ix y.1.1 y.1.2.2.2.1).bind fun x547 =>
 bif ((x547.toNat : Int) == y.1.2.1) then
 bif (!(decide (y.1.2.2.2.1 > (1 : Int)))) then
 some (((y.1.1, (y.1.2.1, (y.1.2.2.1, (y.1.2.2.2.1, ((!y.1.2.2.1), ()))))), ()))
else
 some (((y.1.1, (y.1.2.1, (y.1.2.2.1, (y.1.2.2.2.1, (true, ()))))), ()))
else
 some (((y.1.1, (y.1.2.1, (y.1.2.2.1, (y.1.2.2.2.1, (false, ()))))), ()))
theorem r242_1864 : ∀ y, jJq y = jjM (jjd c242 []) (jjc (jjl (jjc b242 1 58)) 116 1864) 1864 s242_1864 jz3 y := fun y => by kernel_rfl
theorem q242_1864 (H : CtxGood Tryz.prog c242) : jjn Tryz.prog (jjc (jjl (jjc b242 1 58)) 116 1864) (jjb s242_1864 jz3 jJq) :=
 jjv (fr := []) H (by kernel_rfl) jje r242_1864
@[reducible] noncomputable def s242_58 : Shape := ⟨[(0, .lf (.d (.str))), (1, .lf (.d (.int .u8))), (5, .lf (.d (.bool))), (6, .lf (.d (.int .i64)))], [], 33⟩
@[reducible] noncomputable def t242_58 : List OSh := [(.ret, ⟨[(4, .lf (.d (.bool)))], [], 33⟩), (.exit 0, ⟨[(5, .lf (.d (.bool)))], [], 33⟩)]
noncomputable def g242_58 (y : s242_58.Y) : Option (Sum s242_58.Y (YS t242_58)) :=
 bif (decide (y.1.2.2.2.1 < (IntKind.i64.wrap ((y.1.1.length : Int) - (1 : Int))))) then
(jJq ((y.1.1, (y.1.2.1, (y.1.2.2.1, (y.1.2.2.2.1, ())))), ())).bind fun r549 =>
 bif r549.1.2.2.2.2.1 then
 some (.inr (.inl (((!r549.1.2.2.1), ()), ())))
else
 some (.inl ((r549.1.1, (r549.1.2.1, (r549.1.2.2.1, ((IntKind.i64.wrap (r549.1.2.2.2.1 + (1 : Int))), ())))), ()))
else
 some (.inr (.inr ((y.1.2.2.1, ()), ())))
theorem r242_58 : ∀ y, g242_58 y = jjz (jjd c242 [(1864, jjb s242_1864 jz3 jJq)]) (jjl (jjc b242 1 58)) 58 s242_58 t242_58 y := fun y => by kernel_rfl
noncomputable def l242_58 : s242_58.Y → Option (YS t242_58) := jjD g242_58
theorem q242_58 (H : CtxGood Tryz.prog c242) : jjn Tryz.prog (jjc b242 1 58) (jjb s242_58 t242_58 l242_58) :=
 jjt (fr := [(1864, jjb s242_1864 jz3 jJq)]) H (by kernel_rfl) (by kernel_rfl) ⟨q242_1864 H, trivial⟩ (fun y => jji r242_58 y)
@[reducible] noncomputable def i242 : Shape := ⟨[(0, .lf (.d (.str))), (1, .lf (.d (.int .u8)))], [], 33⟩
@[reducible] noncomputable def o242 : Shape := ⟨[(4, .lf (.d (.bool)))], [], 33⟩
noncomputable def f242 (a : i242.Y) : Option o242.Y :=
(ix a.1.1 (1 : Int)).bind fun x554 =>
(l242_58 ((a.1.1, (a.1.2.1, (((x554.toNat : Int) == (33 : Int)), ((1 : Int), ())))), ())).bind fun r555 =>
(match r555 with
| .inl r556 =>
 some ((r556.1.1, ()), ())
| .inr r557 =>
 some ((r557.1.1, ()), ()))
theorem e242 : ∀ a, f242 a = jjp (jjd c242 [(58, jjb s242_58 t242_58 l242_58)]) b242 i242 o242 a := fun a => by kernel_rfl
noncomputable def S242 : jjG := jjf tt 33 i242 o242 [.tmp 4] [] f242
theorem z242 (h : ∀ T, (tt T).ok Tryz.prog T) : jja Tryz.prog 242 S242 :=
 have H := k242 h
 jjj (fn := Tryz.f242) (fr := [(58, jjb s242_58 t242_58 l242_58)]) H (by kernel_rfl) (by kernel_rfl) (by kernel_rfl) (by kernel_rfl) (by kernel_rfl) ⟨q242_58 H, trivial⟩ (by kernel_rfl) (fun y => ⟨_, _, rfl, rfl, rfl⟩) e242
@[reducible] noncomputable def i235 : Shape := ⟨[(0, .lf (.d (.str))), (1, .lf (.d (.str)))], [], 68⟩
@[reducible] noncomputable def o235 : Shape := ⟨[(4, .lf (.d (.bool)))], [], 68⟩
noncomputable def SF235 (F : i235.Y → Option o235.Y) : jjG := jjf tt 68 i235 o235 [.tmp 4] [] F
noncomputable def c235 (F : i235.Y → Option o235.Y) : Ctx := { tt := tt, fs := fun n => match n with | 235 => some (SF235 F) | 241 => some S241 | 242 => some S242 | _ => none }
theorem k235 (F : i235.Y → Option o235.Y) (h : ∀ T, (tt T).ok Tryz.prog T) (h241 : jja Tryz.prog 241 S241) (h242 : jja Tryz.prog 242 S242) (hF : jja Tryz.prog 235 (SF235 F)) : CtxGood Tryz.prog (c235 F) := ⟨⟨h⟩, fun g S hg => (by
 simp only [c235] at hg
 split at hg
 ·cases hg; exact hF
 ·cases hg; exact h241
 ·cases hg; exact h242
 ·cases hg), jjq, fun _ _ h => (by cases h), fun _ h => (by cases h)⟩
noncomputable def b235 : Code := jjh Tryz.f235
noncomputable def ff235 (F : i235.Y → Option o235.Y) (a : i235.Y) : Option o235.Y :=
 bif (a.1.1 == ([] : Str)) then
 some (((a.1.2.1 == ([] : Str)), ()), ())
else
(ix a.1.1 (0 : Int)).bind fun x587 =>
 bif ((x587.toNat : Int) == (42 : Int)) then
(jqM a.1.1 (1 : Int) (a.1.1.length : Int)).bind fun x588 =>
(F ((x588, (a.1.2.1, ())), ())).bind fun r589 =>
 bif (!r589.1.1) then
 bif (!(a.1.2.1 == ([] : Str))) then
(jqM a.1.2.1 (1 : Int) (a.1.2.1.length : Int)).bind fun x590 =>
(F ((a.1.1, (x590, ())), ())).bind fun r591 =>
 some ((r591.1.1, ()), ())
else
 some ((false, ()), ())
else
 some ((true, ()), ())
else
 bif (a.1.2.1 == ([] : Str)) then
 some ((false, ()), ())
else
(ix a.1.1 (0 : Int)).bind fun x606 =>
 bif ((x606.toNat : Int) == (63 : Int)) then
(jqM a.1.1 (1 : Int) (a.1.1.length : Int)).bind fun x607 =>
(jqM a.1.2.1 (1 : Int) (a.1.2.1.length : Int)).bind fun x608 =>
(F ((x607, (x608, ())), ())).bind fun r609 =>
 some ((r609.1.1, ()), ())
else
 bif ((x606.toNat : Int) == (91 : Int)) then
(f241 ((a.1.1, ()), ())).bind fun r611 =>
(jqM a.1.1 (0 : Int) r611.1.1).bind fun x612 =>
(ix a.1.2.1 (0 : Int)).bind fun x613 =>
(f242 ((x612, ((x613.toNat : Int), ())), ())).bind fun r614 =>
 bif r614.1.1 then
(jqM a.1.1 r611.1.1 (a.1.1.length : Int)).bind fun x615 =>
(jqM a.1.2.1 (1 : Int) (a.1.2.1.length : Int)).bind fun x616 =>
(F ((x615, (x616, ())), ())).bind fun r617 =>
 some ((r617.1.1, ()), ())
else
 some ((false, ()), ())
else
(ix a.1.1 (0 : Int)).bind fun x618 =>
(ix a.1.2.1 (0 : Int)).bind fun x619 =>
 bif ((x618.toNat : Int) == (x619.toNat : Int)) then
(jqM a.1.1 (1 : Int) (a.1.1.length : Int)).bind fun x620 =>
(jqM a.1.2.1 (1 : Int) (a.1.2.1.length : Int)).bind fun x621 =>
(F ((x620, (x621, ())), ())).bind fun r622 =>
 some ((r622.1.1, ()), ())
else
 some ((false, ()), ())
theorem e235 (F : i235.Y → Option o235.Y) : ∀ a, (ff235 F) a = jjp (jjd (c235 F) []) b235 i235 o235 a := fun a => by kernel_rfl
theorem zz235 (F : i235.Y → Option o235.Y) (h : ∀ T, (tt T).ok Tryz.prog T) (h241 : jja Tryz.prog 241 S241) (h242 : jja Tryz.prog 242 S242) (hF : jja Tryz.prog 235 (SF235 F)) : jja Tryz.prog 235 (jjf tt 68 i235 o235 [.tmp 4] [] (ff235 F)) :=
 have H := (k235 F) h h241 h242 hF
 jjj (fn := Tryz.f235) (fr := []) H (by kernel_rfl) (by kernel_rfl) (by kernel_rfl) (by kernel_rfl) (by kernel_rfl) jje (by kernel_rfl) (fun y => ⟨_, _, rfl, rfl, rfl⟩) (e235 F)
noncomputable def f235 : i235.Y → Option o235.Y := iterR ff235 fuelN
noncomputable def S235 : jjG := jjf tt 68 i235 o235 [.tmp 4] [] f235
theorem z235 (h : ∀ T, (tt T).ok Tryz.prog T) (h241 : jja Tryz.prog 241 S241) (h242 : jja Tryz.prog 242 S242) : jja Tryz.prog 235 S235 := rec_ok (ff := ff235) (fun F hF => zz235 F h h241 h242 hF) fuelN
@[reducible] noncomputable def i225 : Shape := ⟨[(0, .lf (.d (.sl .str))), (1, .lf (.d (.sl .str)))], [], 49⟩
@[reducible] noncomputable def o225 : Shape := ⟨[(4, .lf (.d (.bool)))], [], 49⟩
noncomputable def SF225 (F : i225.Y → Option o225.Y) : jjG := jjf tt 49 i225 o225 [.tmp 4] [] F
noncomputable def c225 (F : i225.Y → Option o225.Y) : Ctx := { tt := tt, fs := fun n => match n with | 225 => some (SF225 F) | 235 => some S235 | _ => none }
theorem k225 (F : i225.Y → Option o225.Y) (h : ∀ T, (tt T).ok Tryz.prog T) (h235 : jja Tryz.prog 235 S235) (hF : jja Tryz.prog 225 (SF225 F)) : CtxGood Tryz.prog (c225 F) := ⟨⟨h⟩, fun g S hg => (by
 simp only [c225] at hg
 split at hg
 ·cases hg; exact hF
 ·cases hg; exact h235
 ·cases hg), jjq, fun _ _ h => (by cases h), fun _ h => (by cases h)⟩
noncomputable def b225 : Code := jjh Tryz.f225
noncomputable def ff225 (F : i225.Y → Option o225.Y) (a : i225.Y) : Option o225.Y :=
 bif ((a.1.1.length : Int) == (0 : Int)) then
 some ((((a.1.2.1.length : Int) == (0 : Int)), ()), ())
else
(ix a.1.1 (0 : Int)).bind fun x634 =>
 bif (x634 == ([42, 42] : Str)) then
(jqM a.1.1 (1 : Int) (a.1.1.length : Int)).bind fun x635 =>
(F ((x635, (a.1.2.1, ())), ())).bind fun r636 =>
 bif (!r636.1.1) then
 bif (decide ((a.1.2.1.length : Int) > (0 : Int))) then
(jqM a.1.2.1 (1 : Int) (a.1.2.1.length : Int)).bind fun x637 =>
(F ((a.1.1, (x637, ())), ())).bind fun r638 =>
 some ((r638.1.1, ()), ())
else
 some ((false, ()), ())
else
 some ((true, ()), ())
else
 bif (decide ((a.1.2.1.length : Int) > (0 : Int))) then
(ix a.1.1 (0 : Int)).bind fun x639 =>
(ix a.1.2.1 (0 : Int)).bind fun x640 =>
(f235 ((x639, (x640, ())), ())).bind fun r641 =>
 bif r641.1.1 then
(jqM a.1.1 (1 : Int) (a.1.1.length : Int)).bind fun x642 =>
(jqM a.1.2.1 (1 : Int) (a.1.2.1.length : Int)).bind fun x643 =>
(F ((x642, (x643, ())), ())).bind fun r644 =>
 some ((r644.1.1, ()), ())
else
 some ((false, ()), ())
else
 some ((false, ()), ())
theorem e225 (F : i225.Y → Option o225.Y) : ∀ a, (ff225 F) a = jjp (jjd (c225 F) []) b225 i225 o225 a := fun a => by kernel_rfl
theorem zz225 (F : i225.Y → Option o225.Y) (h : ∀ T, (tt T).ok Tryz.prog T) (h235 : jja Tryz.prog 235 S235) (hF : jja Tryz.prog 225 (SF225 F)) : jja Tryz.prog 225 (jjf tt 49 i225 o225 [.tmp 4] [] (ff225 F)) :=
 have H := (k225 F) h h235 hF
 jjj (fn := Tryz.f225) (fr := []) H (by kernel_rfl) (by kernel_rfl) (by kernel_rfl) (by kernel_rfl) (by kernel_rfl) jje (by kernel_rfl) (fun y => ⟨_, _, rfl, rfl, rfl⟩) (e225 F)
noncomputable def f225 : i225.Y → Option o225.Y := iterR ff225 fuelN
noncomputable def S225 : jjG := jjf tt 49 i225 o225 [.tmp 4] [] f225
theorem z225 (h : ∀ T, (tt T).ok Tryz.prog T) (h235 : jja Tryz.prog 235 S235) : jja Tryz.prog 225 S225 := rec_ok (ff := ff225) (fun F hF => zz225 F h h235 hF) fuelN
noncomputable def c200 : Ctx := { tt := tt, fs := fun n => match n with | 208 => some S208 | 216 => some S216 | 224 => some S224 | 225 => some S225 | _ => none }
theorem k200 (h : ∀ T, (tt T).ok Tryz.prog T) (h208 : jja Tryz.prog 208 S208) (h216 : jja Tryz.prog 216 S216) (h224 : jja Tryz.prog 224 S224) (h225 : jja Tryz.prog 225 S225) : CtxGood Tryz.prog c200 := ⟨⟨h⟩, fun g S hg => (by
 simp only [c200] at hg
 split at hg
 ·cases hg; exact h208
 ·cases hg; exact h216
 ·cases hg; exact h224
 ·cases hg; exact h225
 ·cases hg), jjq, fun _ _ h => (by cases h), fun _ h => (by cases h)⟩
noncomputable def b200 : Code := jjh Tryz.f200
@[reducible] noncomputable def i200 : Shape := ⟨[(0, .lf (.d (.str))), (1, .lf (.d (.str)))], [], 24⟩
@[reducible] noncomputable def o200 : Shape := ⟨[(4, .lf (.d (.bool)))], [], 24⟩
noncomputable def f200 (a : i200.Y) : Option o200.Y :=
(f224 ((a.1.1, ()), ())).bind fun r646 =>
 bif r646.1.1 then
(f216 ((a.1.2.1, ()), ())).bind fun r647 =>
 bif r647.1.1 then
(f208 ((a.1.1, ((47 : Int), ((IntKind.i64.wrap ((a.1.1.length : Int) + (1 : Int))), ()))), ())).bind fun r648 =>
(f208 ((a.1.2.1, ((47 : Int), ((IntKind.i64.wrap ((a.1.2.1.length : Int) + (1 : Int))), ()))), ())).bind fun r649 =>
(f225 ((r648.2.1, (r649.2.1, ())), ())).bind fun r650 =>
 some ((r650.1.1, ()), ())
else
 some ((false, ()), ())
else
 some ((false, ()), ())
theorem e200 : ∀ a, f200 a = jjp (jjd c200 []) b200 i200 o200 a := fun a => by kernel_rfl
noncomputable def S200 : jjG := jjf tt 24 i200 o200 [.tmp 4] [] f200
theorem z200 (h : ∀ T, (tt T).ok Tryz.prog T) (h208 : jja Tryz.prog 208 S208) (h216 : jja Tryz.prog 216 S216) (h224 : jja Tryz.prog 224 S224) (h225 : jja Tryz.prog 225 S225) : jja Tryz.prog 200 S200 :=
 have H := k200 h h208 h216 h224 h225
 jjj (fn := Tryz.f200) (fr := []) H (by kernel_rfl) (by kernel_rfl) (by kernel_rfl) (by kernel_rfl) (by kernel_rfl) jje (by kernel_rfl) (fun y => ⟨_, _, rfl, rfl, rfl⟩) e200
noncomputable def c226 : Ctx := { tt := tt, fs := fun n => match n with | _ => none }
theorem k226 (h : ∀ T, (tt T).ok Tryz.prog T) : CtxGood Tryz.prog c226 := ⟨⟨h⟩, fun g S hg => (by cases hg), jjq, fun _ _ h => (by cases h), fun _ h => (by cases h)⟩
noncomputable def b226 : Code := jjh Tryz.f226
@[reducible] noncomputable def i226 : Shape := ⟨[(0, .lf (.d (.str))), (1, .lf (.d (.str)))], [], 30⟩
@[reducible] noncomputable def o226 : Shape := ⟨[(4, .lf (.d (.bool)))], [], 30⟩
noncomputable def f226 (a : i226.Y) : Option o226.Y :=
 bif (!(a.1.2.1 == a.1.1)) then
 bif (decide ((a.1.2.1.length : Int) > (a.1.1.length : Int))) then
(jqM a.1.2.1 (0 : Int) (a.1.1.length : Int)).bind fun x657 =>
 bif (x657 == a.1.1) then
(ix a.1.2.1 (a.1.1.length : Int)).bind fun x658 =>
 some ((((x658.toNat : Int) == (47 : Int)), ()), ())
else
 some ((false, ()), ())
else
 some ((false, ()), ())
else
 some ((true, ()), ())
theorem e226 : ∀ a, f226 a = jjp (jjd c226 []) b226 i226 o226 a := fun a => by kernel_rfl
noncomputable def S226 : jjG := jjf tt 30 i226 o226 [.tmp 4] [] f226
theorem z226 (h : ∀ T, (tt T).ok Tryz.prog T) : jja Tryz.prog 226 S226 :=
 have H := k226 h
 jjj (fn := Tryz.f226) (fr := []) H (by kernel_rfl) (by kernel_rfl) (by kernel_rfl) (by kernel_rfl) (by kernel_rfl) jje (by kernel_rfl) (fun y => ⟨_, _, rfl, rfl, rfl⟩) e226
noncomputable def c201 : Ctx := { tt := tt, fs := fun n => match n with | 200 => some S200 | 226 => some S226 | _ => none }
theorem k201 (h : ∀ T, (tt T).ok Tryz.prog T) (h200 : jja Tryz.prog 200 S200) (h226 : jja Tryz.prog 226 S226) : CtxGood Tryz.prog c201 := ⟨⟨h⟩, fun g S hg => (by
 simp only [c201] at hg
 split at hg
 ·cases hg; exact h200
 ·cases hg; exact h226
 ·cases hg), jjq, fun _ _ h => (by cases h), fun _ h => (by cases h)⟩
noncomputable def b201 : Code := jjh Tryz.f201
@[reducible] noncomputable def s201_840 : Shape := ⟨[(0, .lf (.d (.sl .entry))), (1, .lf (.d (.str))), (2, .lf (.d (.str))), (7, .lf (.d (.int .i64)))], [], 30⟩
@[reducible] noncomputable def t201_840 : List OSh := [(.norm, ⟨[(0, .lf (.d (.sl .entry))), (1, .lf (.d (.str))), (2, .lf (.d (.str))), (7, .lf (.d (.int .i64))), (29, .lf (.d (.bool)))], [], 30⟩)]
noncomputable def jzD (y : s201_840.Y) : Option (YS t201_840) :=
(ix y.1.1 y.1.2.2.2.1).bind fun x666 =>
(f226 ((y.1.2.2.1, (x666.path, ())), ())).bind fun r667 =>
 bif r667.1.1 then
(ix y.1.1 y.1.2.2.2.1).bind fun x668 =>
(f200 ((y.1.2.1, (x668.path, ())), ())).bind fun r669 =>
 some (((y.1.1, (y.1.2.1, (y.1.2.2.1, (y.1.2.2.2.1, (r669.1.1, ()))))), ()))
else
 some (((y.1.1, (y.1.2.1, (y.1.2.2.1, (y.1.2.2.2.1, (false, ()))))), ()))
theorem r201_840 : ∀ y, jzD y = jjM (jjd c201 []) (jjc (jjl (jjc b201 1 26)) 52 840) 840 s201_840 t201_840 y := fun y => by kernel_rfl
theorem q201_840 (H : CtxGood Tryz.prog c201) : jjn Tryz.prog (jjc (jjl (jjc b201 1 26)) 52 840) (jjb s201_840 t201_840 jzD) :=
 jjv (fr := []) H (by kernel_rfl) jje r201_840
@[reducible] noncomputable def s201_26 : Shape := ⟨[(0, .lf (.d (.sl .entry))), (1, .lf (.d (.str))), (2, .lf (.d (.str))), (7, .lf (.d (.int .i64)))], [], 30⟩
@[reducible] noncomputable def t201_26 : List OSh := [(.ret, ⟨[(6, .lf (.d (.bool)))], [], 30⟩), (.exit 0, ⟨[], [], 30⟩)]
noncomputable def g201_26 (y : s201_26.Y) : Option (Sum s201_26.Y (YS t201_26)) :=
 bif (decide (y.1.2.2.2.1 < (y.1.1.length : Int))) then
(jzD ((y.1.1, (y.1.2.1, (y.1.2.2.1, (y.1.2.2.2.1, ())))), ())).bind fun r671 =>
 bif r671.1.2.2.2.2.1 then
 some (.inr (.inl ((true, ()), ())))
else
 some (.inl ((r671.1.1, (r671.1.2.1, (r671.1.2.2.1, ((IntKind.i64.wrap (r671.1.2.2.2.1 + (1 : Int))), ())))), ()))
else
 some (.inr (.inr ((), ())))
theorem r201_26 : ∀ y, g201_26 y = jjz (jjd c201 [(840, jjb s201_840 t201_840 jzD)]) (jjl (jjc b201 1 26)) 26 s201_26 t201_26 y := fun y => by kernel_rfl
noncomputable def l201_26 : s201_26.Y → Option (YS t201_26) := jjD g201_26
theorem q201_26 (H : CtxGood Tryz.prog c201) : jjn Tryz.prog (jjc b201 1 26) (jjb s201_26 t201_26 l201_26) :=
 jjt (fr := [(840, jjb s201_840 t201_840 jzD)]) H (by kernel_rfl) (by kernel_rfl) ⟨q201_840 H, trivial⟩ (fun y => jji r201_26 y)
@[reducible] noncomputable def i201 : Shape := ⟨[(0, .lf (.d (.sl .entry))), (1, .lf (.d (.str))), (2, .lf (.d (.str)))], [], 30⟩
@[reducible] noncomputable def o201 : Shape := ⟨[(6, .lf (.d (.bool)))], [], 30⟩
noncomputable def f201 (a : i201.Y) : Option o201.Y :=
(l201_26 ((a.1.1, (a.1.2.1, (a.1.2.2.1, ((0 : Int), ())))), ())).bind fun r675 =>
(match r675 with
| .inl r676 =>
 some ((r676.1.1, ()), ())
| .inr r677 =>
 some ((false, ()), ()))
theorem e201 : ∀ a, f201 a = jjp (jjd c201 [(26, jjb s201_26 t201_26 l201_26)]) b201 i201 o201 a := fun a => by kernel_rfl
noncomputable def S201 : jjG := jjf tt 30 i201 o201 [.tmp 6] [] f201
theorem z201 (h : ∀ T, (tt T).ok Tryz.prog T) (h200 : jja Tryz.prog 200 S200) (h226 : jja Tryz.prog 226 S226) : jja Tryz.prog 201 S201 :=
 have H := k201 h h200 h226
 jjj (fn := Tryz.f201) (fr := [(26, jjb s201_26 t201_26 l201_26)]) H (by kernel_rfl) (by kernel_rfl) (by kernel_rfl) (by kernel_rfl) (by kernel_rfl) ⟨q201_26 H, trivial⟩ (by kernel_rfl) (fun y => ⟨_, _, rfl, rfl, rfl⟩) e201
noncomputable def c168 : Ctx := { tt := tt, fs := fun n => match n with | 148 => some S148 | 200 => some S200 | 201 => some S201 | _ => none }
theorem k168 (h : ∀ T, (tt T).ok Tryz.prog T) (h148 : jja Tryz.prog 148 S148) (h200 : jja Tryz.prog 200 S200) (h201 : jja Tryz.prog 201 S201) : CtxGood Tryz.prog c168 := ⟨⟨h⟩, fun g S hg => (by
 simp only [c168] at hg
 split at hg
 ·cases hg; exact h148
 ·cases hg; exact h200
 ·cases hg; exact h201
 ·cases hg), jjq, fun _ _ h => (by cases h), fun _ h => (by cases h)⟩
noncomputable def b168 : Code := jjh Tryz.f168
@[reducible] noncomputable def s168_1864 : Shape := ⟨[(0, .lf (.d (.sl .entry))), (1, .lf (.d (.str))), (5, .lf (.own 3000320)), (6, .lf (.d (.int .i64)))], [(3000320, .row .entry, .slot 5 0)], 51⟩
@[reducible] noncomputable def jz8 : List OSh := [(.norm, ⟨[(0, .lf (.d (.sl .entry))), (1, .lf (.d (.str))), (5, .lf (.own 3000320)), (6, .lf (.d (.int .i64))), (42, .lf (.d (.bool)))], [(3000320, .row .entry, .slot 5 0)], 51⟩)]
noncomputable def jxI (y : s168_1864.Y) : Option (YS jz8) :=
(ix y.1.1 y.1.2.2.2.1).bind fun x686 =>
(f200 ((y.1.2.1, (x686.path, ())), ())).bind fun r687 =>
 bif (!r687.1.1) then
(ix y.1.1 y.1.2.2.2.1).bind fun x688 =>
 bif (x688.kind == (1 : Int)) then
(ix y.1.1 y.1.2.2.2.1).bind fun x689 =>
(f201 ((y.1.1, (y.1.2.1, (x689.path, ()))), ())).bind fun r690 =>
 some (((y.1.1, (y.1.2.1, ((), (y.1.2.2.2.1, (r690.1.1, ()))))), (y.2.1, ())))
else
 some (((y.1.1, (y.1.2.1, ((), (y.1.2.2.2.1, (false, ()))))), (y.2.1, ())))
else
 some (((y.1.1, (y.1.2.1, ((), (y.1.2.2.2.1, (true, ()))))), (y.2.1, ())))
theorem r168_1864 : ∀ y, jxI y = jjM (jjd c168 []) (jjc (jjl (jjc b168 1 58)) 116 1864) 1864 s168_1864 jz8 y := fun y => by kernel_rfl
theorem q168_1864 (H : CtxGood Tryz.prog c168) : jjn Tryz.prog (jjc (jjl (jjc b168 1 58)) 116 1864) (jjb s168_1864 jz8 jxI) :=
 jjv (fr := []) H (by kernel_rfl) jje r168_1864
@[reducible] noncomputable def s168_58 : Shape := ⟨[(0, .lf (.d (.sl .entry))), (1, .lf (.d (.str))), (5, .lf (.own 3000320)), (6, .lf (.d (.int .i64)))], [(3000320, .row .entry, .slot 5 0)], 51⟩
@[reducible] noncomputable def t168_58 : List OSh := [(.exit 0, ⟨[(5, .lf (.own 3000320))], [(3000320, .row .entry, .slot 5 0)], 51⟩)]
noncomputable def g168_58 (y : s168_58.Y) : Option (Sum s168_58.Y (YS t168_58)) :=
 bif (decide (y.1.2.2.2.1 < (y.1.1.length : Int))) then
(f148 ((y.1.1, ()), ())).bind fun r695 =>
 bif r695.1.1 then
(jxI ((y.1.1, (y.1.2.1, ((), (y.1.2.2.2.1, ())))), (y.2.1, ()))).bind fun r696 =>
 bif r696.1.2.2.2.2.1 then
(ix r696.1.1 r696.1.2.2.2.1).bind fun x697 =>
(apd 48 r696.2.1 ([x697] : List Entry)).bind fun x698 =>
 some (.inl ((r696.1.1, (r696.1.2.1, ((), ((IntKind.i64.wrap (r696.1.2.2.2.1 + (1 : Int))), ())))), (x698, ())))
else
 some (.inl ((r696.1.1, (r696.1.2.1, ((), ((IntKind.i64.wrap (r696.1.2.2.2.1 + (1 : Int))), ())))), (r696.2.1, ())))
else
 some (.inr ((((), ()), (y.2.1, ()))))
else
 some (.inr ((((), ()), (y.2.1, ()))))
theorem r168_58 : ∀ y, g168_58 y = jjz (jjd c168 [(1864, jjb s168_1864 jz8 jxI)]) (jjl (jjc b168 1 58)) 58 s168_58 t168_58 y := fun y => by kernel_rfl
noncomputable def l168_58 : s168_58.Y → Option (YS t168_58) := jjD g168_58
theorem q168_58 (H : CtxGood Tryz.prog c168) : jjn Tryz.prog (jjc b168 1 58) (jjb s168_58 t168_58 l168_58) :=
 jjt (fr := [(1864, jjb s168_1864 jz8 jxI)]) H (by kernel_rfl) (by kernel_rfl) ⟨q168_1864 H, trivial⟩ (fun y => jji r168_58 y)
@[reducible] noncomputable def i168 : Shape := ⟨[(0, .lf (.d (.sl .entry))), (1, .lf (.d (.str)))], [], 51⟩
@[reducible] noncomputable def o168 : Shape := ⟨[(4, .lf (.own 3000256))], [(3000256, .row .entry, .slot 4 0)], 51⟩
noncomputable def f168 (a : i168.Y) : Option o168.Y :=
(l168_58 ((a.1.1, (a.1.2.1, ((), ((0 : Int), ())))), (([] : List Entry), ()))).bind fun r700 =>
 some (((), ()), (r700.2.1, ()))
theorem e168 : ∀ a, f168 a = jjp (jjd c168 [(58, jjb s168_58 t168_58 l168_58)]) b168 i168 o168 a := fun a => by kernel_rfl
noncomputable def S168 : jjG := jjf tt 51 i168 o168 [.tmp 4] [] f168
theorem z168 (h : ∀ T, (tt T).ok Tryz.prog T) (h148 : jja Tryz.prog 148 S148) (h200 : jja Tryz.prog 200 S200) (h201 : jja Tryz.prog 201 S201) : jja Tryz.prog 168 S168 :=
 have H := k168 h h148 h200 h201
 jjj (fn := Tryz.f168) (fr := [(58, jjb s168_58 t168_58 l168_58)]) H (by kernel_rfl) (by kernel_rfl) (by kernel_rfl) (by kernel_rfl) (by kernel_rfl) ⟨q168_58 H, trivial⟩ (by kernel_rfl) (fun y => ⟨_, _, rfl, rfl, rfl⟩) e168
@[reducible] noncomputable def i204 : Shape := ⟨[(0, .lf (.d (.int .i64)))], [], 28⟩
@[reducible] noncomputable def o204 : Shape := ⟨[(2, .lf (.d (.str)))], [], 28⟩
noncomputable def SF204 (F : i204.Y → Option o204.Y) : jjG := jjf tt 28 i204 o204 [.tmp 2] [] F
noncomputable def c204 (F : i204.Y → Option o204.Y) : Ctx := { tt := tt, fs := fun n => match n with | 204 => some (SF204 F) | _ => none }
theorem k204 (F : i204.Y → Option o204.Y) (h : ∀ T, (tt T).ok Tryz.prog T) (hF : jja Tryz.prog 204 (SF204 F)) : CtxGood Tryz.prog (c204 F) := ⟨⟨h⟩, fun g S hg => (by
 simp only [c204] at hg
 split at hg
 ·cases hg; exact hF
 ·cases hg), jjq, fun _ _ h => (by cases h), fun _ h => (by cases h)⟩
noncomputable def b204 : Code := jjh Tryz.f204
noncomputable def ff204 (F : i204.Y → Option o204.Y) (a : i204.Y) : Option o204.Y :=
 bif (decide (a.1.1 < ((-9223372036854775807) : Int))) then
 some ((([45, 57, 50, 50, 51, 51, 55, 50, 48, 51, 54, 56, 53, 52, 55, 55, 53, 56, 48, 56] : Str), ()), ())
else
 bif (decide (a.1.1 < (0 : Int))) then
(F (((IntKind.i64.wrap (0 - a.1.1)), ()), ())).bind fun r325 =>
(cat ([45] : Str) r325.1.1).bind fun x326 =>
 some ((x326, ()), ())
else
 bif (decide (a.1.1 < (10 : Int))) then
 some (((strOf ([(IntKind.u8.wrap (IntKind.i64.wrap ((48 : Int) + a.1.1)))] : List Int)), ()), ())
else
(quoI .i64 a.1.1 (10 : Int)).bind fun x327 =>
(F ((x327, ()), ())).bind fun r328 =>
(remI a.1.1 (10 : Int)).bind fun x329 =>
(cat r328.1.1 (strOf ([(IntKind.u8.wrap (IntKind.i64.wrap ((48 : Int) + x329)))] : List Int))).bind fun x330 =>
 some ((x330, ()), ())
theorem e204 (F : i204.Y → Option o204.Y) : ∀ a, (ff204 F) a = jjp (jjd (c204 F) []) b204 i204 o204 a := fun a => by kernel_rfl
theorem zz204 (F : i204.Y → Option o204.Y) (h : ∀ T, (tt T).ok Tryz.prog T) (hF : jja Tryz.prog 204 (SF204 F)) : jja Tryz.prog 204 (jjf tt 28 i204 o204 [.tmp 2] [] (ff204 F)) :=
 have H := (k204 F) h hF
 jjj (fn := Tryz.f204) (fr := []) H (by kernel_rfl) (by kernel_rfl) (by kernel_rfl) (by kernel_rfl) (by kernel_rfl) jje (by kernel_rfl) (fun y => ⟨_, _, rfl, rfl, rfl⟩) (e204 F)
noncomputable def f204 : i204.Y → Option o204.Y := iterR ff204 fuelN
noncomputable def S204 : jjG := jjf tt 28 i204 o204 [.tmp 2] [] f204
theorem z204 (h : ∀ T, (tt T).ok Tryz.prog T) : jja Tryz.prog 204 S204 := rec_ok (ff := ff204) (fun F hF => zz204 F h hF) fuelN
noncomputable def c169v0 : Ctx := { tt := tt, fs := fun n => match n with | 69 => some jqb | 202 => some S202 | 203 => some S203v0 | 204 => some S204 | _ => none }
theorem k169v0 (h : ∀ T, (tt T).ok Tryz.prog T) (h69v0 : jja Tryz.prog 69 jqb) (h202 : jja Tryz.prog 202 S202) (h203v0 : jja Tryz.prog 203 S203v0) (h204 : jja Tryz.prog 204 S204) : CtxGood Tryz.prog c169v0 := ⟨⟨h⟩, fun g S hg => (by
 simp only [c169v0] at hg
 split at hg
 ·cases hg; exact h69v0
 ·cases hg; exact h202
 ·cases hg; exact h203v0
 ·cases hg; exact h204
 ·cases hg), jjq, fun _ _ h => (by cases h), fun _ h => (by cases h)⟩
noncomputable def b169v0 : Code := jjh Tryz.f169
@[reducible] noncomputable def s169v0_122 : Shape := ⟨[(0, .lf (.ptr 500000 0)), (3, .lf (.own 3000192)), (4, .lf (.own 3000256)), (5, .lf (.d (.int .i64)))], [(500000, .box [.d (.sl .u8), .d (.int .i64)], .same), (3000192, .row .entry, .slot 3 0), (3000256, .row .str, .slot 4 0)], 59⟩
@[reducible] noncomputable def jxs : List OSh := [(.exit 0, ⟨[(0, .lf (.ptr 500000 0)), (3, .lf (.own 3000192))], [(500000, .box [.d (.sl .u8), .d (.int .i64)], .same), (3000192, .row .entry, .slot 3 0)], 59⟩)]
noncomputable def g169v0_122 (y : s169v0_122.Y) : Option (Sum s169v0_122.Y (YS jxs)) :=
 bif (decide (y.1.2.2.2.1 < (y.2.2.2.1.length : Int))) then
(jxJ (((), ((2 : Int), ())), ((y.2.1.1, (y.2.1.2.1, ())), ()))).bind fun r238 =>
 bif (r238.1.2.1 == (0 : Int)) then
(inb y.2.2.2.1.length y.1.2.2.2.1).bind fun x239 =>
(y.2.2.2.1[x239]?).bind fun x240 =>
(f202 ((y.2.2.1, ((x240, ((1 : Int), ((7 : Int), (([] : Str), ())))), ())), ())).bind fun r241 =>
 some (.inl (((), ((), ((), ((IntKind.i64.wrap (y.1.2.2.2.1 + (1 : Int))), ())))), ((r238.2.1.1, (r238.2.1.2.1, ())), (r241.2.1, (y.2.2.2.1, ())))))
else
 some (.inl (((), ((), ((), ((IntKind.i64.wrap (y.1.2.2.2.1 + (1 : Int))), ())))), ((r238.2.1.1, (r238.2.1.2.1, ())), (y.2.2.1, (y.2.2.2.1, ())))))
else
 some (.inr ((((), ((), ())), ((y.2.1.1, (y.2.1.2.1, ())), (y.2.2.1, ())))))
theorem r169v0_122 : ∀ y, g169v0_122 y = jjz (jjd c169v0 []) (jjl (jjc b169v0 1 122)) 122 s169v0_122 jxs y := fun y => by kernel_rfl
noncomputable def jJM : s169v0_122.Y → Option (YS jxs) := jjD g169v0_122
theorem q169v0_122 (H : CtxGood Tryz.prog c169v0) : jjn Tryz.prog (jjc b169v0 1 122) (jjb s169v0_122 jxs jJM) :=
 jjt (fr := []) H (by kernel_rfl) (by kernel_rfl) jje (fun y => jji r169v0_122 y)
@[reducible] noncomputable def s169v0_250 : Shape := ⟨[(0, .lf (.ptr 500000 0)), (3, .lf (.own 3000192)), (6, .lf (.d (.int .i64)))], [(500000, .box [.d (.sl .u8), .d (.int .i64)], .same), (3000192, .row .entry, .slot 3 0)], 59⟩
@[reducible] noncomputable def jxr : List OSh := [(.exit 2, ⟨[(0, .lf (.ptr 500000 0)), (3, .lf (.own 3000192))], [(500000, .box [.d (.sl .u8), .d (.int .i64)], .same), (3000192, .row .entry, .slot 3 0)], 59⟩)]
noncomputable def g169v0_250 (y : s169v0_250.Y) : Option (Sum s169v0_250.Y (YS jxr)) :=
 bif (decide (y.1.2.2.1 > (0 : Int))) then
(f203v0 (((), ()), ((y.2.1.1, (y.2.1.2.1, ())), ()))).bind fun r297 =>
(f202 ((y.2.2.1, ((r297.2.2.1.1, (r297.2.2.1.2.1, (r297.2.2.1.2.2.1, (r297.2.2.1.2.2.2.1, ())))), ())), ())).bind fun r298 =>
 some (.inl (((), ((), ((IntKind.i64.wrap (y.1.2.2.1 - (1 : Int))), ()))), ((r297.2.1.1, (r297.2.1.2.1, ())), (r298.2.1, ()))))
else
 some (.inr ((((), ((), ())), ((y.2.1.1, (y.2.1.2.1, ())), (y.2.2.1, ())))))
theorem r169v0_250 : ∀ y, g169v0_250 y = jjz (jjd c169v0 []) (jjl (jjc b169v0 1 250)) 250 s169v0_250 jxr y := fun y => by kernel_rfl
noncomputable def jJL : s169v0_250.Y → Option (YS jxr) := jjD g169v0_250
theorem q169v0_250 (H : CtxGood Tryz.prog c169v0) : jjn Tryz.prog (jjc b169v0 1 250) (jjb s169v0_250 jxr jJL) :=
 jjt (fr := []) H (by kernel_rfl) (by kernel_rfl) jje (fun y => jji r169v0_250 y)
@[reducible] noncomputable def s169v0_2026 : Shape := ⟨[(0, .lf (.ptr 500000 0)), (3, .lf (.own 3000192)), (7, .lf (.d (.int .i64)))], [(500000, .box [.d (.sl .u8), .d (.int .i64)], .same), (3000192, .row .entry, .slot 3 0)], 59⟩
@[reducible] noncomputable def jqW : List OSh := [(.exit 4, ⟨[(0, .lf (.ptr 500000 0)), (3, .lf (.own 3000192))], [(500000, .box [.d (.sl .u8), .d (.int .i64)], .same), (3000192, .row .entry, .slot 3 0)], 59⟩)]
noncomputable def jQk (y : s169v0_2026.Y) : Option (Sum s169v0_2026.Y (YS jqW)) :=
 bif (decide (y.1.2.2.1 < (16 : Int))) then
(f204 ((y.1.2.2.1, ()), ())).bind fun r334 =>
(cat ([102] : Str) r334.1.1).bind fun x335 =>
(f202 ((y.2.2.1, ((x335, ((2 : Int), ((0 : Int), (([] : Str), ())))), ())), ())).bind fun r336 =>
 some (.inl (((), ((), ((IntKind.i64.wrap (y.1.2.2.1 + (1 : Int))), ()))), ((y.2.1.1, (y.2.1.2.1, ())), (r336.2.1, ()))))
else
 some (.inr ((((), ((), ())), ((y.2.1.1, (y.2.1.2.1, ())), (y.2.2.1, ())))))
theorem r169v0_2026 : ∀ y, jQk y = jjz (jjd c169v0 []) (jjl (jjc b169v0 1 2026)) 2026 s169v0_2026 jqW y := fun y => by kernel_rfl
noncomputable def jzx : s169v0_2026.Y → Option (YS jqW) := jjD jQk
theorem q169v0_2026 (H : CtxGood Tryz.prog c169v0) : jjn Tryz.prog (jjc b169v0 1 2026) (jjb s169v0_2026 jqW jzx) :=
 jjt (fr := []) H (by kernel_rfl) (by kernel_rfl) jje (fun y => jji r169v0_2026 y)
@[reducible] noncomputable def i169v0 : Shape := ⟨[(0, .lf (.ptr 500000 0))], [(500000, .box [.d (.sl .u8), .d (.int .i64)], .same)], 59⟩
@[reducible] noncomputable def o169v0 : Shape := ⟨[(0, .lf (.ptr 500000 0)), (2, .lf (.own 3000128))], [(500000, .box [.d (.sl .u8), .d (.int .i64)], .same), (3000128, .row .entry, .slot 2 0)], 59⟩
noncomputable def f169v0 (a : i169v0.Y) : Option o169v0.Y :=
(jJM (((), ((), ((), ((0 : Int), ())))), ((a.2.1.1, (a.2.1.2.1, ())), (([] : List Entry), (([([97] : Str), ([108, 105, 98] : Str), ([98, 105, 110] : Str), ([100, 111, 99] : Str), ([97, 47, 98] : Str)] : List Str), ()))))).bind fun r339 =>
(jxJ (((), ((7 : Int), ())), ((r339.2.1.1, (r339.2.1.2.1, ())), ()))).bind fun r344 =>
(jJL (((), ((), (r344.1.2.1, ()))), ((r344.2.1.1, (r344.2.1.2.1, ())), (r339.2.2.1, ())))).bind fun r345 =>
(jxJ (((), ((30 : Int), ())), ((r345.2.1.1, (r345.2.1.2.1, ())), ()))).bind fun r347 =>
 bif (r347.1.2.1 == (0 : Int)) then
(jzx (((), ((), ((0 : Int), ()))), ((r347.2.1.1, (r347.2.1.2.1, ())), (r345.2.2.1, ())))).bind fun r348 =>
 some (((), ((), ())), ((r348.2.1.1, (r348.2.1.2.1, ())), (r348.2.2.1, ())))
else
 some (((), ((), ())), ((r347.2.1.1, (r347.2.1.2.1, ())), (r345.2.2.1, ())))
theorem e169v0 : ∀ a, f169v0 a = jjp (jjd c169v0 [(122, jjb s169v0_122 jxs jJM), (250, jjb s169v0_250 jxr jJL), (2026, jjb s169v0_2026 jqW jzx)]) b169v0 i169v0 o169v0 a := fun a => by kernel_rfl
noncomputable def S169v0 : jjG := jjf tt 59 i169v0 o169v0 [.tmp 2] [0] f169v0
theorem z169v0 (h : ∀ T, (tt T).ok Tryz.prog T) (h69v0 : jja Tryz.prog 69 jqb) (h202 : jja Tryz.prog 202 S202) (h203v0 : jja Tryz.prog 203 S203v0) (h204 : jja Tryz.prog 204 S204) : jja Tryz.prog 169 S169v0 :=
 have H := k169v0 h h69v0 h202 h203v0 h204
 jjj (fn := Tryz.f169) (fr := [(122, jjb s169v0_122 jxs jJM), (250, jjb s169v0_250 jxr jJL), (2026, jjb s169v0_2026 jqW jzx)]) H (by kernel_rfl) (by kernel_rfl) (by kernel_rfl) (by kernel_rfl) (by kernel_rfl) ⟨q169v0_122 H, q169v0_250 H, q169v0_2026 H, trivial⟩ (by kernel_rfl) (fun y => ⟨_, _, rfl, rfl, rfl⟩) e169v0
abbrev NoBr (g : Str) : Prop := ∀ b, b ∈ g → b.toNat ≠ 91
theorem ix_str {s : Str} {i : Int} (h0 : 0 ≤ i) (h1 : i < (s.length : Int)) : ∃ x, ix s i = some x ∧ x ∈ s := ix_in h0 h1
theorem v_l1Globbed (a) (hs : Bd a.1.1.length) (hn : NoBr a.1.1) : Ev (f234 a) (fun _ => True) := by
 obtain ⟨⟨(s : Str), u⟩, u'⟩ := a
 have hs : s.length ≤ 2097152 := hs
 unfold f234
 refine Ev.bind (P := fun _ => True) ?_ fun r _ => ?_
 ·refine Ev.loop (fun (k : Nat) y => y.1.1 = s ∧ (0 : Int) ≤ y.1.2.1 ∧ (y.1.2.1 : Int) + k = s.length) (fun k y hy => ?_) s.length _ ⟨rfl, Int.le_refl _, by show (0 : Int) + s.length = s.length; omega⟩
  obtain ⟨⟨(s1 : Str), (i : Int), u⟩, u'⟩ := y
  obtain ⟨y1, y2, y3⟩ := hy
  have y1 : s1 = s := y1
  subst y1
  have y2 : 0 ≤ i := y2
  have y3 : i + k = s1.length := y3
  unfold g234_26
  refine Ev.ite (fun hc => ?_) fun _ => Ev.ret trivial
  have hc : i < (s1.length : Int) := of_decide_eq_true hc
  obtain ⟨x, k1, k2⟩ := ix_str y2 hc
  have hx : ((x.toNat : Int) == 91) = false := by
   have := hn x k2
   simp only [beq_eq_false_iff_ne, ne_eq]; omega
  have hw : IntKind.i64.wrap (i + 1) = i + 1 := jjH (by omega) (by omega)
  refine Ev.eq k1 ?_
  refine Ev.ite (fun hd => by rw [hx] at hd; cases hd) fun _ => ?_
  have piece : Ev (jxH ((s1, (i, ())), ())) (fun r => r.1.1 = s1 ∧ r.1.2.1 = i) := by
   unfold jxH
   refine Ev.eq k1 ?_
   exact Ev.ite (fun _ => Ev.eq k1 (Ev.ret ⟨rfl, rfl⟩)) fun _ => Ev.ret ⟨rfl, rfl⟩
  refine Ev.bind piece fun r hr => ?_
  obtain ⟨⟨(s2 : Str), (i2 : Int), (c : Bool), v⟩, v'⟩ := r
  obtain ⟨r1, r2⟩ := hr
  have r1 : s2 = s1 := r1
  have r2 : i2 = i := r2
  subst r1 r2
  refine Ev.ite (fun _ => ?_) fun _ => ?_
  ·refine Ev.ret ⟨k - 1, by omega, rfl, ?_, ?_⟩
   ·show 0 ≤ IntKind.i64.wrap (i2 + 1); rw [hw]; omega
   ·show IntKind.i64.wrap (i2 + 1) + ((k - 1 : Nat) : Int) = _; rw [hw]; omega
  ·refine Ev.eq k1 ?_
   refine Ev.eq (v_l1Small (((x.toNat : Int), ()), ())) ?_
   refine Ev.ite (fun _ => Ev.ret trivial) fun _ => ?_
   refine Ev.ret ⟨k - 1, by omega, rfl, ?_, ?_⟩
   ·show 0 ≤ IntKind.i64.wrap (i2 + 1); rw [hw]; omega
   ·show IntKind.i64.wrap (i2 + 1) + ((k - 1 : Nat) : Int) = _; rw [hw]; omega
 ·cases r with
  | inl r => exact Ev.ret trivial
  | inr r => exact Ev.ret trivial
theorem splitL_nobr {g : Str} (h : NoBr g) : ∀ x, x ∈ jjw 47 g → NoBr x := by
 induction g with
 | nil =>
  intro x hx b hb
  simp [jjw] at hx
  subst hx; cases hb
 | cons c g ih =>
  have ih := ih fun b hb => h b (List.mem_cons_of_mem _ hb)
  intro x hx b hb
  simp only [jjw] at hx
  cases hc : (c == 47) with
  | true =>
   simp only [hc, cond_true, List.mem_cons] at hx
   rcases hx with rfl | hx
   ·cases hb
   ·exact ih x hx b hb
  | false =>
   simp only [hc, cond_false] at hx
   cases hL : jjw 47 g with
   | nil => exact absurd hL (jJd 47 g)
   | cons y L =>
    rw [hL] at hx ih
    simp only [List.mem_cons] at hx
    rcases hx with rfl | hx
    ·rcases List.mem_cons.1 hb with rfl | hb
     ·exact h _ List.mem_cons_self
     ·exact ih y List.mem_cons_self b hb
    ·exact ih x (List.mem_cons_of_mem _ hx) b hb
theorem v_GlobOk (a) (hs : a.1.1.length ≤ 200) (hn : NoBr a.1.1) : Ev (f224 a) (fun _ => True) := by
 obtain ⟨⟨(g : Str), u⟩, u'⟩ := a
 have hs : g.length ≤ 200 := hs
 unfold f224
 have hw : IntKind.i64.wrap ((g.length : Int) + 1) = ((g.length + 1 : Nat) : Int) := jjk (by unfold Sm; omega)
 refine Ev.eq (v_l1Cut 47 ((g, ((47 : Int), (IntKind.i64.wrap ((g.length : Int) + 1), ()))), ()) (by show g.length ≤ 2097152; omega) rfl hw) ?_
 have hL : (jjw 47 g).length ≤ 201 := by have := jqY 47 g; omega
 refine Ev.bind (P := fun _ => True) ?_ fun r _ => ?_
 ·refine Ev.loop (fun (k : Nat) y => y.2.1 = jjw 47 g ∧ (0 : Int) ≤ y.1.2.2.1 ∧ (y.1.2.2.1 : Int) + k = (jjw 47 g).length) (fun k y hy => ?_) (jjw 47 g).length _ ⟨rfl, Int.le_refl _, by show (0 : Int) + _ = _; omega⟩
  obtain ⟨⟨(g1 : Str), u1, (i : Int), u⟩, (L : List Str), u'⟩ := y
  obtain ⟨y1, y2, y3⟩ := hy
  have y1 : L = jjw 47 g := y1
  have y2 : 0 ≤ i := y2
  have y3 : i + k = (jjw 47 g).length := y3
  subst y1
  unfold g224_58
  refine Ev.ite (fun hc => ?_) fun _ => Ev.ret trivial
  have hc : i < ((jjw 47 g).length : Int) := of_decide_eq_true hc
  obtain ⟨j, rfl⟩ := Int.eq_ofNat_of_zero_le y2
  have hj : j < (jjw 47 g).length := by omega
  have hw : IntKind.i64.wrap ((j : Int) + 1) = (j : Int) + 1 := jjH (by omega) (by omega)
  refine Ev.eq (jzy hj) ?_
  refine Ev.eq (List.getElem?_eq_getElem hj) ?_
  have hm := List.getElem_mem hj
  refine Ev.bind (v_l1Globbed (((jjw 47 g)[j], ()), ()) (by have := jqX 47 g _ hm; show ((jjw 47 g)[j]).length ≤ 2097152; omega) (splitL_nobr hn _ hm)) fun r _ => ?_
  refine Ev.ite (fun _ => Ev.ret trivial) fun _ => ?_
  refine Ev.ret ⟨k - 1, by omega, rfl, ?_, ?_⟩
  ·show 0 ≤ IntKind.i64.wrap ((j : Int) + 1); rw [hw]; omega
  ·show IntKind.i64.wrap ((j : Int) + 1) + ((k - 1 : Nat) : Int) = _; rw [hw]; omega
 ·cases r with
  | inl r => exact Ev.ret trivial
  | inr r => exact Ev.ite (fun _ => Ev.ret trivial) fun _ => Ev.ret trivial
theorem subl1 {s : Str} (h : s ≠ []) : jqM s (1 : Int) (s.length : Int) = some (s.drop 1) := jxB (a := 1) (by have := List.length_pos_iff.2 h; omega)
theorem subl1L {s : List Str} (h : 0 < s.length) : jqM s (1 : Int) (s.length : Int) = some (s.drop 1) := jxB (a := 1) h
theorem ne_of_beq {s : Str} (h : (s == ([] : Str)) = false) : s ≠ [] := by simpa using h
theorem fits_ev : ∀ (n : Nat) (g s : Str), NoBr g → g.length + s.length < n → Ev (iterR ff235 n ((g, (s, ())), ())) (fun _ => True) := by
 intro n
 induction n with
 | zero => intro g s _ h; omega
 | succ n ih =>
  intro g s hn hl
  show Ev (ff235 (iterR ff235 n) _) _
  unfold ff235
  refine Ev.ite (fun _ => Ev.ret trivial) fun hg => ?_
  have hg : g ≠ [] := ne_of_beq hg
  have hgp := List.length_pos_iff.2 hg
  obtain ⟨x, k1, k2⟩ := ix_str (s := g) (i := 0) (by omega) (by omega)
  refine Ev.eq k1 ?_
  have hd1 : NoBr (g.drop 1) := fun b hb => hn b (List.mem_of_mem_drop hb)
  have hdl : (g.drop 1).length + 1 = g.length := by rw [List.length_drop]; omega
  refine Ev.ite (fun _ => ?_) fun _ => ?_
  ·refine Ev.eq (subl1 hg) ?_
   refine Ev.bind (ih (g.drop 1) s hd1 (by omega)) fun r _ => ?_
   refine Ev.ite (fun _ => ?_) fun _ => Ev.ret trivial
   refine Ev.ite (fun hs => ?_) fun _ => Ev.ret trivial
   have hs : s ≠ [] := by
    have hs : (!(s == ([] : Str))) = true := hs
    intro e; subst e; cases hs
   have hsp := List.length_pos_iff.2 hs
   refine Ev.eq (subl1 hs) ?_
   exact Ev.bind (ih g (s.drop 1) hn (by rw [List.length_drop]; omega)) fun r _ => Ev.ret trivial
  ·refine Ev.ite (fun _ => Ev.ret trivial) fun hs => ?_
   have hs : s ≠ [] := ne_of_beq hs
   have hsp := List.length_pos_iff.2 hs
   have step : Ev (iterR ff235 n ((g.drop 1, (s.drop 1, ())), ())) (fun _ => True) := ih _ _ hd1 (by rw [List.length_drop]; rw [List.length_drop]; omega)
   refine Ev.eq k1 ?_
   refine Ev.ite (fun _ => ?_) fun _ => ?_
   ·refine Ev.eq (subl1 hg) ?_
    refine Ev.eq (subl1 hs) ?_
    exact Ev.bind step fun r _ => Ev.ret trivial
   ·have hx : ((x.toNat : Int) == 91) = false := by
     have := hn x k2
     simp only [beq_eq_false_iff_ne, ne_eq]; omega
    refine Ev.ite (fun hd => by rw [hx] at hd; cases hd) fun _ => ?_
    refine Ev.eq k1 ?_
    obtain ⟨y, l1, l2⟩ := ix_str (s := s) (i := 0) (by omega) (by omega)
    refine Ev.eq l1 ?_
    refine Ev.ite (fun _ => ?_) fun _ => Ev.ret trivial
    refine Ev.eq (subl1 hg) ?_
    refine Ev.eq (subl1 hs) ?_
    exact Ev.bind step fun r _ => Ev.ret trivial
theorem v_l1Fits (a) (h1 : Bd a.1.1.length) (h2 : Bd a.1.2.1.length) (hn : NoBr a.1.1) : Ev (f235 a) (fun _ => True) := by
 obtain ⟨⟨(g : Str), (s : Str), u⟩, u'⟩ := a
 have h1 : g.length ≤ 2097152 := h1
 have h2 : s.length ≤ 2097152 := h2
 exact fits_ev fuelN g s hn (by unfold fuelN; omega)
theorem match_ev : ∀ (n : Nat) (g s : List Str), (∀ x, x ∈ g → NoBr x ∧ Bd x.length) → (∀ x, x ∈ s → Bd x.length) → g.length + s.length < n → Ev (iterR ff225 n ((g, (s, ())), ())) (fun _ => True) := by
 intro n
 induction n with
 | zero => intro g s _ _ h; omega
 | succ n ih =>
  intro g s hn hs hl
  show Ev (ff225 (iterR ff225 n) _) _
  unfold ff225
  refine Ev.ite (fun _ => Ev.ret trivial) fun hg => ?_
  have hgp : 0 < g.length := by
   have hg : ((g.length : Int) == 0) = false := hg
   simp only [beq_eq_false_iff_ne, ne_eq] at hg; omega
  obtain ⟨x, k1, k2⟩ := ix_in (xs := g) (i := 0) (by omega) (by omega)
  refine Ev.eq k1 ?_
  have hd1 : ∀ x, x ∈ g.drop 1 → NoBr x ∧ Bd x.length := fun b hb => hn b (List.mem_of_mem_drop hb)
  have hs1 : ∀ x, x ∈ s.drop 1 → Bd x.length := fun b hb => hs b (List.mem_of_mem_drop hb)
  have hdl : (g.drop 1).length + 1 = g.length := by rw [List.length_drop]; omega
  refine Ev.ite (fun _ => ?_) fun _ => ?_
  ·refine Ev.eq (subl1L hgp) ?_
   refine Ev.bind (ih (g.drop 1) s hd1 hs (by omega)) fun r _ => ?_
   refine Ev.ite (fun _ => ?_) fun _ => Ev.ret trivial
   refine Ev.ite (fun hc => ?_) fun _ => Ev.ret trivial
   have hc : (s.length : Int) > 0 := of_decide_eq_true hc
   refine Ev.eq (subl1L (s := s) (by omega)) ?_
   exact Ev.bind (ih g (s.drop 1) hn hs1 (by rw [List.length_drop]; omega)) fun r _ => Ev.ret trivial
  ·refine Ev.ite (fun hc => ?_) fun _ => Ev.ret trivial
   have hc : (s.length : Int) > 0 := of_decide_eq_true hc
   refine Ev.eq k1 ?_
   obtain ⟨y, l1, l2⟩ := ix_in (xs := s) (i := 0) (by omega) (by omega)
   refine Ev.eq l1 ?_
   refine Ev.bind (v_l1Fits ((x, (y, ())), ()) (hn x k2).2 (hs y l2) (hn x k2).1) fun r _ => ?_
   refine Ev.ite (fun _ => ?_) fun _ => Ev.ret trivial
   refine Ev.eq (subl1L hgp) ?_
   refine Ev.eq (subl1L (s := s) (by omega)) ?_
   exact Ev.bind (ih (g.drop 1) (s.drop 1) hd1 hs1 (by rw [List.length_drop]; rw [List.length_drop]; omega)) fun r _ => Ev.ret trivial
theorem v_GlobHas (a) (h1 : a.1.1.length ≤ 200) (h2 : a.1.2.1.length ≤ 1048576) (hn : NoBr a.1.1) : Ev (f200 a) (fun _ => True) := by
 obtain ⟨⟨(g : Str), (s : Str), u⟩, u'⟩ := a
 have h1 : g.length ≤ 200 := h1
 have h2 : s.length ≤ 1048576 := h2
 unfold f200
 refine Ev.bind (v_GlobOk ((g, ()), ()) h1 hn) fun r _ => ?_
 refine Ev.ite (fun _ => ?_) fun _ => Ev.ret trivial
 refine Ev.eq (v_l1Path ((s, ()), ()) (by show s.length ≤ 2097152; omega)) ?_
 refine Ev.ite (fun _ => ?_) fun _ => Ev.ret trivial
 refine Ev.eq (v_l1Cut 47 ((g, ((47 : Int), (IntKind.i64.wrap ((g.length : Int) + 1), ()))), ()) (by show g.length ≤ 2097152; omega) rfl (jjk (by unfold Sm; omega))) ?_
 refine Ev.eq (v_l1Cut 47 ((s, ((47 : Int), (IntKind.i64.wrap ((s.length : Int) + 1), ()))), ()) (by show s.length ≤ 2097152; omega) rfl (jjk (by unfold Sm; omega))) ?_
 have g1 := jqY 47 g
 have s1 := jqY 47 s
 refine Ev.bind (P := fun _ => True) ?_ fun r _ => Ev.ret trivial
 exact match_ev fuelN (jjw 47 g) (jjw 47 s) (fun x hx => ⟨splitL_nobr hn x hx, by have := jqX 47 g x hx; unfold Bd; omega⟩) (fun x hx => by have := jqX 47 s x hx; unfold Bd; omega) (by unfold fuelN; omega)
theorem v_l1Below (a) (h1 : Bd a.1.1.length) : Ev (f226 a) (fun _ => True) := by
 obtain ⟨⟨(g : Str), (s : Str), u⟩, u'⟩ := a
 unfold f226
 refine Ev.ite (fun _ => ?_) fun _ => Ev.ret trivial
 refine Ev.ite (fun hc => ?_) fun _ => Ev.ret trivial
 have hc : (s.length : Int) > (g.length : Int) := of_decide_eq_true hc
 refine Ev.eq (jzq (xs := s) (b := g.length) (by omega)) ?_
 refine Ev.ite (fun _ => ?_) fun _ => Ev.ret trivial
 obtain ⟨x, k1, _⟩ := ix_str (s := s) (i := (g.length : Int)) (by omega) (by omega)
 exact Ev.eq k1 (Ev.ret trivial)
theorem v_l2Needed (a) (ht : ShT a.1.1) (hg : a.1.2.1.length ≤ 200) (hn : NoBr a.1.2.1) (hd : Sh a.1.2.2.1) : Ev (f201 a) (fun _ => True) := by
 obtain ⟨⟨(t : List Entry), (g : Str), (d : Str), u⟩, u'⟩ := a
 obtain ⟨ht1, ht2⟩ := ht
 have ht1 : t.length ≤ 16 := ht1
 have hd : d.length ≤ 200 := hd
 unfold f201
 refine Ev.bind (P := fun _ => True) ?_ fun r _ => ?_
 ·refine Ev.loop (fun (k : Nat) y => y.1.1 = t ∧ y.1.2.1 = g ∧ y.1.2.2.1 = d ∧ (0 : Int) ≤ y.1.2.2.2.1 ∧ (y.1.2.2.2.1 : Int) + k = t.length) (fun k y hy => ?_) t.length _ ⟨rfl, rfl, rfl, Int.le_refl _, by show (0 : Int) + _ = _; omega⟩
  obtain ⟨⟨(t1 : List Entry), (g1 : Str), (d1 : Str), (i : Int), u⟩, u'⟩ := y
  obtain ⟨y1, y2, y3, y4, y5⟩ := hy
  have y1 : t1 = t := y1
  have y2 : g1 = g := y2
  have y3 : d1 = d := y3
  subst y1 y2 y3
  have y4 : 0 ≤ i := y4
  have y5 : i + k = t1.length := y5
  unfold g201_26
  refine Ev.ite (fun hc => ?_) fun _ => Ev.ret trivial
  have hc : i < (t1.length : Int) := of_decide_eq_true hc
  have hw : IntKind.i64.wrap (i + 1) = i + 1 := jjH (by omega) (by omega)
  obtain ⟨x, k1, k2⟩ := ix_in (xs := t1) y4 hc
  have piece : Ev (jzD ((t1, (g1, (d1, (i, ())))), ())) (fun r => r.1.1 = t1 ∧ r.1.2.1 = g1 ∧ r.1.2.2.1 = d1 ∧ r.1.2.2.2.1 = i) := by
   unfold jzD
   refine Ev.eq k1 ?_
   refine Ev.bind (v_l1Below ((d1, (x.path, ())), ()) (by show d1.length ≤ 2097152; omega)) fun r _ => ?_
   refine Ev.ite (fun _ => ?_) fun _ => Ev.ret ⟨rfl, rfl, rfl, rfl⟩
   refine Ev.eq k1 ?_
   exact Ev.bind (v_GlobHas ((g1, (x.path, ())), ()) hg (Nat.le_trans (ht2 x k2).1 (by decide)) hn) fun r _ => Ev.ret ⟨rfl, rfl, rfl, rfl⟩
  refine Ev.bind piece fun r hr => ?_
  obtain ⟨⟨(t2' : List Entry), (g2 : Str), (d2 : Str), (i2 : Int), (c : Bool), v⟩, v'⟩ := r
  obtain ⟨r1, r2, r3, r4⟩ := hr
  have r1 : t2' = t1 := r1
  have r2 : g2 = g1 := r2
  have r3 : d2 = d1 := r3
  have r4 : i2 = i := r4
  subst r1 r2 r3 r4
  refine Ev.ite (fun _ => Ev.ret trivial) fun _ => ?_
  refine Ev.ret ⟨k - 1, by omega, rfl, rfl, rfl, ?_, ?_⟩
  ·show 0 ≤ IntKind.i64.wrap (i2 + 1); rw [hw]; omega
  ·show IntKind.i64.wrap (i2 + 1) + ((k - 1 : Nat) : Int) = _; rw [hw]; omega
 ·cases r with
  | inl r => exact Ev.ret trivial
  | inr r => exact Ev.ret trivial
theorem v_TreePart (a) (ht : ShT a.1.1) (hg : a.1.2.1.length ≤ 200) (hn : NoBr a.1.2.1) : Ev (f168 a) (fun r => ShT r.2.1) := by
 obtain ⟨⟨(t : List Entry), (g : Str), u⟩, u'⟩ := a
 obtain ⟨ht1, ht2⟩ := ht
 have ht1 : t.length ≤ 16 := ht1
 have hg : g.length ≤ 200 := hg
 have hbE : BdEs t := ⟨by show t.length ≤ 2097152; omega, fun e he => ⟨Nat.le_trans (ht2 e he).1 (by decide), Nat.le_trans (ht2 e he).2 (by decide)⟩⟩
 unfold f168
 refine Ev.bind (P := fun r => ShT r.2.1) ?_ fun r hr => Ev.ret hr
 refine Ev.loop (fun (k : Nat) y => y.1.1 = t ∧ y.1.2.1 = g ∧ (0 : Int) ≤ y.1.2.2.2.1 ∧ (y.1.2.2.2.1 : Int) + k = t.length ∧ ((y.2.1 : List Entry).length : Int) ≤ y.1.2.2.2.1 ∧ ∀ e, e ∈ (y.2.1 : List Entry) → ShE e) (fun k y hy => ?_) t.length _
  ⟨rfl, rfl, Int.le_refl _, by show (0 : Int) + _ = _; omega, by show (0 : Int) ≤ 0; omega, fun e he => by cases he⟩
 obtain ⟨⟨(t1 : List Entry), (g1 : Str), u1, (i : Int), u⟩, (out : List Entry), u'⟩ := y
 obtain ⟨y1, y2, y3, y4, y5, y6⟩ := hy
 have y1 : t1 = t := y1
 have y2 : g1 = g := y2
 subst y1 y2
 have y3 : 0 ≤ i := y3
 have y4 : i + k = t1.length := y4
 have y5 : (out.length : Int) ≤ i := y5
 unfold g168_58
 refine Ev.ite (fun hc => ?_) fun _ => Ev.ret ⟨by show out.length ≤ 16; omega, y6⟩
 have hc : i < (t1.length : Int) := of_decide_eq_true hc
 have hw : IntKind.i64.wrap (i + 1) = i + 1 := jjH (by omega) (by omega)
 obtain ⟨x, k1, k2⟩ := ix_in (xs := t1) y3 hc
 refine Ev.eq (v_TreeOk ((t1, ()), ()) hbE) ?_
 refine Ev.ite (fun _ => ?_) fun _ => Ev.ret ⟨by show out.length ≤ 16; omega, y6⟩
 have piece : Ev (jxI ((t1, (g1, ((), (i, ())))), (out, ()))) (fun r => r.1.1 = t1 ∧ r.1.2.1 = g1 ∧ r.1.2.2.2.1 = i ∧ r.2.1 = out) := by
  unfold jxI
  refine Ev.eq k1 ?_
  refine Ev.bind (v_GlobHas ((g1, (x.path, ())), ()) hg (Nat.le_trans (ht2 x k2).1 (by decide)) hn) fun r _ => ?_
  refine Ev.ite (fun _ => ?_) fun _ => Ev.ret ⟨rfl, rfl, rfl, rfl⟩
  refine Ev.eq k1 ?_
  refine Ev.ite (fun _ => ?_) fun _ => Ev.ret ⟨rfl, rfl, rfl, rfl⟩
  refine Ev.eq k1 ?_
  exact Ev.bind (v_l2Needed ((t1, (g1, (x.path, ()))), ()) ⟨ht1, ht2⟩ hg hn (ht2 x k2).1) fun r _ => Ev.ret ⟨rfl, rfl, rfl, rfl⟩
 refine Ev.bind piece fun r hr => ?_
 obtain ⟨⟨(t2' : List Entry), (g2 : Str), w1, (i2 : Int), (c : Bool), v⟩, (out2 : List Entry), v'⟩ := r
 obtain ⟨r1, r2, r3, r4⟩ := hr
 have r1 : t2' = t1 := r1
 have r2 : g2 = g1 := r2
 have r3 : i2 = i := r3
 have r4 : out2 = out := r4
 subst r1 r2 r3 r4
 refine Ev.ite (fun _ => ?_) fun _ => ?_
 ·refine Ev.eq k1 ?_
  refine Ev.eq (jqd (by decide) (by unfold Sm; simp; omega)) ?_
  refine Ev.ret ⟨k - 1, by omega, rfl, rfl, ?_, ?_, ?_, fun e he => ?_⟩
  ·show 0 ≤ IntKind.i64.wrap (i2 + 1); rw [hw]; omega
  ·show IntKind.i64.wrap (i2 + 1) + ((k - 1 : Nat) : Int) = _; rw [hw]; omega
  ·show ((out2 ++ [x]).length : Int) ≤ IntKind.i64.wrap (i2 + 1); rw [hw]; simp; omega
  ·have he : e ∈ out2 ++ [x] := he
   rcases List.mem_append.1 he with he | he
   ·exact y6 e he
   ·rw [List.mem_singleton.1 he]; exact ht2 x k2
 ·refine Ev.ret ⟨k - 1, by omega, rfl, rfl, ?_, ?_, ?_, y6⟩
  ·show 0 ≤ IntKind.i64.wrap (i2 + 1); rw [hw]; omega
  ·show IntKind.i64.wrap (i2 + 1) + ((k - 1 : Nat) : Int) = _; rw [hw]; omega
  ·show (out2.length : Int) ≤ IntKind.i64.wrap (i2 + 1); rw [hw]; omega
theorem dec_ev : ∀ (n : Nat) (x : Int), 0 ≤ x → x ≤ 100000 → x < n → Ev (iterR ff204 n ((x, ()), ())) (fun r => ((r.1.1 : Str).length : Int) ≤ x + 1) := by
 intro n
 induction n with
 | zero => intro x h0 _ h; omega
 | succ n ih =>
  intro x h0 h1 hl
  show Ev (ff204 (iterR ff204 n) _) _
  unfold ff204
  refine Ev.ite (fun hc => ?_) fun _ => ?_
  ·have hc : x < -9223372036854775807 := of_decide_eq_true hc
   omega
  refine Ev.ite (fun hc => ?_) fun _ => ?_
  ·have hc : x < 0 := of_decide_eq_true hc
   omega
  refine Ev.ite (fun hc => ?_) fun hc => ?_
  ·exact Ev.ret (by show ((strOf [_]).length : Int) ≤ x + 1; simp [strOf]; omega)
  ·have hc : ¬ x < 10 := of_decide_eq_false hc
   refine Ev.eq (quo_nn (x := x) rfl h0 (by omega) (by decide)) ?_
   refine Ev.bind (ih (x / 10) (by omega) (by omega) (by omega)) fun r hr => ?_
   refine Ev.eq (rem_nn (x := x) h0 (by decide)) ?_
   have hr : ((r.1.1 : Str).length : Int) ≤ x / 10 + 1 := hr
   refine Ev.eq (ev_cat (s := r.1.1) (by simp [strOf]; omega)) ?_
   exact Ev.ret (by show (((r.1.1 : Str) ++ strOf [_]).length : Int) ≤ x + 1; rw [List.length_append]; simp [strOf]; omega)
theorem v_l1Dec (a) (h0 : (0 : Int) ≤ a.1.1) (h1 : (a.1.1 : Int) ≤ 100) : Ev (f204 a) (fun r => (r.1.1 : Str).length ≤ 101) := by
 obtain ⟨⟨(x : Int), u⟩, u'⟩ := a
 have h0 : 0 ≤ x := h0
 have h1 : x ≤ 100 := h1
 exact (dec_ev fuelN x h0 (by omega) (by unfold fuelN; omega)).mono fun r hr => by have hr : ((r.1.1 : Str).length : Int) ≤ x + 1 := hr; omega
theorem v_l11Tree (a) (m : Nat) (h : RD a.2.1.1 a.2.1.2.1 m) (hm : 40 ≤ m) : Ev (f169v0 a) (fun r => RD r.2.1.1 r.2.1.2.1 (m - 40) ∧ ShT r.2.2.1) := by
 obtain ⟨⟨u1, u2⟩, ⟨⟨(b : List Int), (p : Int), u3⟩, u4⟩⟩ := a
 have h : RD b p m := h
 unfold f169v0
 refine Ev.bind (P := fun r => RD r.2.1.1 r.2.1.2.1 (m - 5) ∧ ShT r.2.2.1) ?_ fun r1 h1 => ?_
 ·refine Ev.loop (fun (k : Nat) y => k ≤ 5 ∧ (0 : Int) ≤ y.1.2.2.2.1 ∧ (y.1.2.2.2.1 : Int) + k = 5 ∧ (y.2.2.2.1 : List Str) = [[97], [108, 105, 98], [98, 105, 110], [100, 111, 99], [97, 47, 98]] ∧ RD y.2.1.1 y.2.1.2.1 (m - (5 - k)) ∧ ShT y.2.2.1) (fun k y hy => ?_) 5 _
   ⟨Nat.le_refl _, Int.le_refl _, by show (0 : Int) + (5 : Nat) = 5; rfl, rfl, h, by show (0 : Nat) ≤ 16; decide, fun e he => by cases he⟩
  obtain ⟨⟨w1, w2, w3, (i : Int), w4⟩, ⟨⟨(b' : List Int), (p' : Int), w5⟩, (t : List Entry), (L : List Str), w6⟩⟩ := y
  obtain ⟨y1, y2, y3, y4, y5, y6⟩ := hy
  have y2 : 0 ≤ i := y2
  have y3 : i + k = 5 := y3
  have y4 : L = _ := y4
  have hL : L.length = 5 := by rw [y4]; rfl
  have hLs : ∀ s, s ∈ L → Sh s := by rw [y4]; exact fun s hs => sh_all (by rfl) hs
  have y5 : RD b' p' (m - (5 - k)) := y5
  have y6 : ShT t := y6
  unfold g169v0_122
  refine Ev.ite (fun hc => ?_) fun hc => ?_
  ·have hc : i < (L.length : Int) := of_decide_eq_true hc
   have hw : IntKind.i64.wrap (i + 1) = i + 1 := jjH (by omega) (by omega)
   obtain ⟨j, rfl⟩ := Int.eq_ofNat_of_zero_le y2
   have hj : j < L.length := by omega
   refine Ev.bind (jqK _ _ y5 (by omega)) fun r hr => ?_
   have hR : RD r.2.1.1 r.2.1.2.1 (m - (5 - (k - 1))) := hr.1.less (by omega)
   refine Ev.ite (fun _ => ?_) fun _ => ?_
   ·refine Ev.eq (jzy hj) ?_
    refine Ev.eq (List.getElem?_eq_getElem hj) ?_
    have hsh : Sh L[j] := hLs _ (List.getElem_mem hj)
    refine Ev.bind (v_l2Put ((t, ((L[j], ((1 : Int), ((7 : Int), (([] : Str), ())))), ())), ()) y6 ⟨hsh, by show (0 : Nat) ≤ 200; decide⟩) fun r2 h2 => ?_
    refine Ev.ret ⟨k - 1, by omega, by omega, ?_, ?_, y4, hR, h2⟩
    ·show 0 ≤ IntKind.i64.wrap ((j : Int) + 1); rw [hw]; omega
    ·show IntKind.i64.wrap ((j : Int) + 1) + ((k - 1 : Nat) : Int) = 5; rw [hw]; omega
   ·refine Ev.ret ⟨k - 1, by omega, by omega, ?_, ?_, y4, hR, y6⟩
    ·show 0 ≤ IntKind.i64.wrap ((j : Int) + 1); rw [hw]; omega
    ·show IntKind.i64.wrap ((j : Int) + 1) + ((k - 1 : Nat) : Int) = 5; rw [hw]; omega
  ·exact Ev.ret ⟨y5.less (by omega), y6⟩
 refine Ev.bind (jqK _ _ h1.1 (by omega)) fun r2 h2 => ?_
 obtain ⟨⟨v1, (q : Int), v2⟩, ⟨⟨(b1 : List Int), (p1 : Int), v3⟩, v4⟩⟩ := r2
 have h2n : q < 7 := h2.2.2 (by show (1 : Int) ≤ 7; decide)
 have h20 : 0 ≤ q := h2.2.1
 refine Ev.bind (P := fun r => RD r.2.1.1 r.2.1.2.1 (m - 34) ∧ ShT r.2.2.1) ?_ fun r3 h3 => ?_
 ·refine Ev.loop (fun (k : Nat) y => k ≤ 6 ∧ (y.1.2.2.1 : Int) = k ∧ RD y.2.1.1 y.2.1.2.1 (m - 34 + 4 * k) ∧ ShT y.2.2.1) (fun k y hy => ?_) q.toNat _
   ⟨by omega, by show q = _; omega, (by refine h2.1.less ?_; omega), h1.2⟩
  obtain ⟨⟨w1, w2, (i : Int), w4⟩, ⟨⟨(b' : List Int), (p' : Int), w5⟩, (t : List Entry), w6⟩⟩ := y
  obtain ⟨y1, y3, y5, y6⟩ := hy
  have y3 : i = k := y3
  subst y3
  have y5 : RD b' p' (m - 34 + 4 * k) := y5
  have y6 : ShT t := y6
  unfold g169v0_250
  refine Ev.ite (fun hc => ?_) fun hc => ?_
  ·have hc : (k : Int) > 0 := of_decide_eq_true hc
   have hw : IntKind.i64.wrap ((k : Int) - 1) = ((k - 1 : Nat) : Int) := by rw [jjH (by omega) (by omega)]; omega
   refine Ev.bind (v_l11Entry _ _ y5 (by omega)) fun r hr => ?_
   refine Ev.bind (v_l2Put ((t, ((r.2.2.1.1, (r.2.2.1.2.1, (r.2.2.1.2.2.1, (r.2.2.1.2.2.2.1, ())))), ())), ()) y6 hr.2) fun r2 h2 => ?_
   exact Ev.ret ⟨k - 1, by omega, by omega, hw, hr.1.less (by omega), h2⟩
  ·exact Ev.ret ⟨y5.less (by omega), y6⟩
 refine Ev.bind (jqK _ _ h3.1 (by omega)) fun r4 h4 => ?_
 refine Ev.ite (fun _ => ?_) fun _ => Ev.ret ⟨h4.1.less (by omega), h3.2⟩
 refine Ev.bind (P := fun r => RD r.2.1.1 r.2.1.2.1 (m - 34 - 1) ∧ ShT r.2.2.1) ?_ fun r5 h5 => Ev.ret ⟨h5.1.less (by omega), h5.2⟩
 refine Ev.loop (fun (k : Nat) y => (0 : Int) ≤ y.1.2.2.1 ∧ (y.1.2.2.1 : Int) + k = 16 ∧ RD y.2.1.1 y.2.1.2.1 (m - 34 - 1) ∧ ShT y.2.2.1) (fun k y hy => ?_) 16 _ ⟨Int.le_refl _, by show (0 : Int) + (16 : Nat) = 16; rfl, h4.1, h3.2⟩
 obtain ⟨⟨w1, w2, (i : Int), w4⟩, ⟨⟨(b' : List Int), (p' : Int), w5⟩, (t : List Entry), w6⟩⟩ := y
 obtain ⟨y1, y3, y5, y6⟩ := hy
 have y1 : 0 ≤ i := y1
 have y3 : i + k = 16 := y3
 have y6 : ShT t := y6
 unfold jQk
 refine Ev.ite (fun hc => ?_) fun hc => Ev.ret ⟨y5, y6⟩
 have hc : i < 16 := of_decide_eq_true hc
 have hw : IntKind.i64.wrap (i + 1) = i + 1 := jjH (by omega) (by omega)
 refine Ev.bind (v_l1Dec ((i, ()), ()) y1 (by show i ≤ 100; omega)) fun r hr => ?_
 have hr : (r.1.1 : Str).length ≤ 101 := hr
 refine Ev.eq (ev_cat (s := [102]) (t := r.1.1) (by show 1 + _ ≤ _; omega)) ?_
 refine Ev.bind (v_l2Put ((t, (((([102] : Str) ++ r.1.1, ((2 : Int), ((0 : Int), (([] : Str), ()))))), ())), ()) y6 ⟨by show ((([102] : Str) ++ r.1.1).length) ≤ 200; simp; omega, by show (0 : Nat) ≤ 200; decide⟩) fun r2 h2 => ?_
 refine Ev.ret ⟨k - 1, by omega, ?_, ?_, y5, h2⟩
 ·show 0 ≤ IntKind.i64.wrap (i + 1); rw [hw]; omega
 ·show IntKind.i64.wrap (i + 1) + ((k - 1 : Nat) : Int) = 16; rw [hw]; omega
noncomputable def c107v0 : Ctx := { tt := tt, fs := fun n => match n with | 69 => some jqb | 70 => some jqt | 159 => some S159v0 | _ => none }
theorem k107v0 (h : ∀ T, (tt T).ok Tryz.prog T) (h69v0 : jja Tryz.prog 69 jqb) (h70v0 : jja Tryz.prog 70 jqt) (h159v0 : jja Tryz.prog 159 S159v0) : CtxGood Tryz.prog c107v0 := ⟨⟨h⟩, fun g S hg => (by
 simp only [c107v0] at hg
 split at hg
 ·cases hg; exact h69v0
 ·cases hg; exact h70v0
 ·cases hg; exact h159v0
 ·cases hg), jjq, fun _ _ h => (by cases h), fun _ h => (by cases h)⟩
noncomputable def b107v0 : Code := jjh Tryz.f107
@[reducible] noncomputable def i107v0 : Shape := ⟨[(0, .lf (.ptr 500000 0))], [(500000, .box [.d (.sl .u8), .d (.int .i64)], .same)], 11⟩
@[reducible] noncomputable def o107v0 : Shape := ⟨[(0, .lf (.ptr 500000 0)), (2, .lf (.d (.str)))], [(500000, .box [.d (.sl .u8), .d (.int .i64)], .same)], 11⟩
noncomputable def f107v0 (a : i107v0.Y) : Option o107v0.Y :=
(jxJ (((), ((6 : Int), ())), ((a.2.1.1, (a.2.1.2.1, ())), ()))).bind fun r1251 =>
 bif (r1251.1.2.1 == (0 : Int)) then
(jJ2 (((), (([([] : Str), ([47] : Str), ([97, 47] : Str), ([47, 97] : Str), ([46] : Str), ([46, 46] : Str), ([97, 47, 47, 98] : Str), ([65] : Str), ([97, 47, 98, 47, 99, 47, 100, 47, 101, 47, 102] : Str), ([101, 108, 101, 118, 101, 110, 108, 101, 116, 116, 101] : Str), ([97, 32, 98] : Str), ([120, 47, 46, 46, 47, 121] : Str)] : List Str), ())), ((r1251.2.1.1, (r1251.2.1.2.1, ())), ()))).bind fun r1252 =>
 some (((), (r1252.1.2.1, ())), ((r1252.2.1.1, (r1252.2.1.2.1, ())), ()))
else
(f159v0 (((), ()), ((r1251.2.1.1, (r1251.2.1.2.1, ())), ()))).bind fun r1253 =>
 some (((), (r1253.1.2.1, ())), ((r1253.2.1.1, (r1253.2.1.2.1, ())), ()))
theorem e107v0 : ∀ a, f107v0 a = jjp (jjd c107v0 []) b107v0 i107v0 o107v0 a := fun a => by kernel_rfl
noncomputable def S107v0 : jjG := jjf tt 11 i107v0 o107v0 [.tmp 2] [0] f107v0
theorem z107v0 (h : ∀ T, (tt T).ok Tryz.prog T) (h69v0 : jja Tryz.prog 69 jqb) (h70v0 : jja Tryz.prog 70 jqt) (h159v0 : jja Tryz.prog 159 S159v0) : jja Tryz.prog 107 S107v0 :=
 have H := k107v0 h h69v0 h70v0 h159v0
 jjj (fn := Tryz.f107) (fr := []) H (by kernel_rfl) (by kernel_rfl) (by kernel_rfl) (by kernel_rfl) (by kernel_rfl) jje (by kernel_rfl) (fun y => ⟨_, _, rfl, rfl, rfl⟩) e107v0
noncomputable def c123v0 : Ctx := { tt := tt, fs := fun n => match n with | 69 => some jqb | 70 => some jqt | 167 => some jJB | _ => none }
theorem k123v0 (h : ∀ T, (tt T).ok Tryz.prog T) (h69v0 : jja Tryz.prog 69 jqb) (h70v0 : jja Tryz.prog 70 jqt) (h167v0 : jja Tryz.prog 167 jJB) : CtxGood Tryz.prog c123v0 := ⟨⟨h⟩, fun g S hg => (by
 simp only [c123v0] at hg
 split at hg
 ·cases hg; exact h69v0
 ·cases hg; exact h70v0
 ·cases hg; exact h167v0
 ·cases hg), jjq, fun _ _ h => (by cases h), fun _ h => (by cases h)⟩
noncomputable def b123v0 : Code := jjh Tryz.f123
@[reducible] noncomputable def i123v0 : Shape := ⟨[(0, .lf (.ptr 500000 0))], [(500000, .box [.d (.sl .u8), .d (.int .i64)], .same)], 17⟩
@[reducible] noncomputable def o123v0 : Shape := ⟨[(0, .lf (.ptr 500000 0)), (2, .lf (.ptr 2 0))], [(500000, .box [.d (.sl .u8), .d (.int .i64)], .same), (2, .box [.d (.str), .d (.int .i64), .d (.str)], .same)], 17⟩
noncomputable def f123v0 (a : i123v0.Y) : Option o123v0.Y :=
(jJ2 (((), (([([111, 110, 101] : Str), ([116, 119, 111] : Str), ([116, 104, 114, 101, 101] : Str), ([122, 105, 112] : Str)] : List Str), ())), ((a.2.1.1, (a.2.1.2.1, ())), ()))).bind fun r715 =>
(jxJ (((), ((4 : Int), ())), ((r715.2.1.1, (r715.2.1.2.1, ())), ()))).bind fun r716 =>
 bif (r716.1.2.1 != (0 : Int)) then
(f167v0 (((), ()), ((r716.2.1.1, (r716.2.1.2.1, ())), ()))).bind fun r717 =>
 some (((), ((), ())), ((r717.2.1.1, (r717.2.1.2.1, ())), ((r715.1.2.1, (r716.1.2.1, (r717.1.2.1, ()))), ())))
else
 some (((), ((), ())), ((r716.2.1.1, (r716.2.1.2.1, ())), ((r715.1.2.1, (r716.1.2.1, (([] : Str), ()))), ())))
theorem e123v0 : ∀ a, f123v0 a = jjp (jjd c123v0 []) b123v0 i123v0 o123v0 a := fun a => by kernel_rfl
noncomputable def jJC : jjG := jjf tt 17 i123v0 o123v0 [.cell 2 50] [0] f123v0
theorem z123v0 (h : ∀ T, (tt T).ok Tryz.prog T) (h69v0 : jja Tryz.prog 69 jqb) (h70v0 : jja Tryz.prog 70 jqt) (h167v0 : jja Tryz.prog 167 jJB) : jja Tryz.prog 123 jJC :=
 have H := k123v0 h h69v0 h70v0 h167v0
 jjj (fn := Tryz.f123) (fr := []) H (by kernel_rfl) (by kernel_rfl) (by kernel_rfl) (by kernel_rfl) (by kernel_rfl) jje (by kernel_rfl) (fun y => ⟨_, _, rfl, rfl, rfl⟩) e123v0
noncomputable def c120v0 : Ctx := { tt := tt, fs := fun n => match n with | 69 => some jqb | 70 => some jqt | 123 => some jJC | 167 => some jJB | 168 => some S168 | 169 => some S169v0 | _ => none }
theorem k120v0 (h : ∀ T, (tt T).ok Tryz.prog T) (h69v0 : jja Tryz.prog 69 jqb) (h70v0 : jja Tryz.prog 70 jqt) (h123v0 : jja Tryz.prog 123 jJC) (h167v0 : jja Tryz.prog 167 jJB) (h168 : jja Tryz.prog 168 S168) (h169v0 : jja Tryz.prog 169 S169v0) : CtxGood Tryz.prog c120v0 := ⟨⟨h⟩, fun g S hg => (by
 simp only [c120v0] at hg
 split at hg
 ·cases hg; exact h69v0
 ·cases hg; exact h70v0
 ·cases hg; exact h123v0
 ·cases hg; exact h167v0
 ·cases hg; exact h168
 ·cases hg; exact h169v0
 ·cases hg), jjq, fun _ _ h => (by cases h), fun _ h => (by cases h)⟩
noncomputable def b120v0 : Code := jjh Tryz.f120
@[reducible] noncomputable def i120v0 : Shape := ⟨[(0, .lf (.ptr 500000 0)), (1, .lf (.d (.str)))], [(500000, .box [.d (.sl .u8), .d (.int .i64)], .same)], 27⟩
@[reducible] noncomputable def o120v0 : Shape := ⟨[(0, .lf (.ptr 500000 0)), (4, .lf (.ptr 4 0))], [(500000, .box [.d (.sl .u8), .d (.int .i64)], .same), (5000258, .row .need, .cell 4 2), (5000259, .row .entry, .cell 4 3), (4, .box [.d (.str), .d (.str), .own 5000258, .own 5000259], .same)], 27⟩
noncomputable def f120v0 (a : i120v0.Y) : Option o120v0.Y :=
(f167v0 (((), ()), ((a.2.1.1, (a.2.1.2.1, ())), ()))).bind fun r724 =>
(f169v0 (((), ()), ((r724.2.1.1, (r724.2.1.2.1, ())), ()))).bind fun r725 =>
(jJ2 (((), (([([42, 42] : Str), ([97, 47, 42, 42] : Str), ([108, 105, 98, 47, 42, 42] : Str), ([100, 111, 99, 47, 42, 42] : Str), ([98, 42] : Str)] : List Str), ())), ((r725.2.1.1, (r725.2.1.2.1, ())), ()))).bind fun r726 =>
(f168 ((r725.2.2.1, (r726.1.2.1, ())), ())).bind fun r727 =>
(jxJ (((), ((3 : Int), ())), ((r726.2.1.1, (r726.2.1.2.1, ())), ()))).bind fun r729 =>
 bif (r729.1.2.1 == (0 : Int)) then
(f123v0 (((), ()), ((r729.2.1.1, (r729.2.1.2.1, ())), ()))).bind fun r730 =>
(apd 40 ([] : List Need) ([(Need.mk r730.2.2.1.1 r730.2.2.1.2.1 r730.2.2.1.2.2.1)] : List Need)).bind fun x731 =>
 some (((), ((), ())), ((r730.2.1.1, (r730.2.1.2.1, ())), (x731, (r727.2.1, ((a.1.2.1, (r724.1.2.1, ((), ((), ())))), ())))))
else
 some (((), ((), ())), ((r729.2.1.1, (r729.2.1.2.1, ())), (([] : List Need), (r727.2.1, ((a.1.2.1, (r724.1.2.1, ((), ((), ())))), ())))))
theorem e120v0 : ∀ a, f120v0 a = jjp (jjd c120v0 []) b120v0 i120v0 o120v0 a := fun a => by kernel_rfl
noncomputable def S120v0 : jjG := jjf tt 27 i120v0 o120v0 [.cell 4 37] [0] f120v0
theorem z120v0 (h : ∀ T, (tt T).ok Tryz.prog T) (h69v0 : jja Tryz.prog 69 jqb) (h70v0 : jja Tryz.prog 70 jqt) (h123v0 : jja Tryz.prog 123 jJC) (h167v0 : jja Tryz.prog 167 jJB) (h168 : jja Tryz.prog 168 S168) (h169v0 : jja Tryz.prog 169 S169v0) : jja Tryz.prog 120 S120v0 :=
 have H := k120v0 h h69v0 h70v0 h123v0 h167v0 h168 h169v0
 jjj (fn := Tryz.f120) (fr := []) H (by kernel_rfl) (by kernel_rfl) (by kernel_rfl) (by kernel_rfl) (by kernel_rfl) jje (by kernel_rfl) (fun y => ⟨_, _, rfl, rfl, rfl⟩) e120v0
noncomputable def c121v0 : Ctx := { tt := tt, fs := fun n => match n with | 69 => some jqb | 70 => some jqt | 167 => some jJB | _ => none }
theorem k121v0 (h : ∀ T, (tt T).ok Tryz.prog T) (h69v0 : jja Tryz.prog 69 jqb) (h70v0 : jja Tryz.prog 70 jqt) (h167v0 : jja Tryz.prog 167 jJB) : CtxGood Tryz.prog c121v0 := ⟨⟨h⟩, fun g S hg => (by
 simp only [c121v0] at hg
 split at hg
 ·cases hg; exact h69v0
 ·cases hg; exact h70v0
 ·cases hg; exact h167v0
 ·cases hg), jjq, fun _ _ h => (by cases h), fun _ h => (by cases h)⟩
noncomputable def b121v0 : Code := jjh Tryz.f121
@[reducible] noncomputable def i121v0 : Shape := ⟨[(0, .lf (.ptr 500000 0))], [(500000, .box [.d (.sl .u8), .d (.int .i64)], .same)], 11⟩
@[reducible] noncomputable def o121v0 : Shape := ⟨[(0, .lf (.ptr 500000 0)), (2, .lf (.d (.str)))], [(500000, .box [.d (.sl .u8), .d (.int .i64)], .same)], 11⟩
noncomputable def f121v0 (a : i121v0.Y) : Option o121v0.Y :=
(jxJ (((), ((6 : Int), ())), ((a.2.1.1, (a.2.1.2.1, ())), ()))).bind fun r1209 =>
 bif (r1209.1.2.1 == (0 : Int)) then
(jJ2 (((), (([([] : Str), ([46] : Str), ([49, 46] : Str), ([48, 49] : Str), ([49, 48, 48, 48] : Str), ([49, 46, 50, 46, 51, 46, 52, 46, 53] : Str), ([97] : Str), ([49, 46, 45, 49] : Str)] : List Str), ())), ((r1209.2.1.1, (r1209.2.1.2.1, ())), ()))).bind fun r1210 =>
 some (((), (r1210.1.2.1, ())), ((r1210.2.1.1, (r1210.2.1.2.1, ())), ()))
else
(f167v0 (((), ()), ((r1209.2.1.1, (r1209.2.1.2.1, ())), ()))).bind fun r1211 =>
 some (((), (r1211.1.2.1, ())), ((r1211.2.1.1, (r1211.2.1.2.1, ())), ()))
theorem e121v0 : ∀ a, f121v0 a = jjp (jjd c121v0 []) b121v0 i121v0 o121v0 a := fun a => by kernel_rfl
noncomputable def S121v0 : jjG := jjf tt 11 i121v0 o121v0 [.tmp 2] [0] f121v0
theorem z121v0 (h : ∀ T, (tt T).ok Tryz.prog T) (h69v0 : jja Tryz.prog 69 jqb) (h70v0 : jja Tryz.prog 70 jqt) (h167v0 : jja Tryz.prog 167 jJB) : jja Tryz.prog 121 S121v0 :=
 have H := k121v0 h h69v0 h70v0 h167v0
 jjj (fn := Tryz.f121) (fr := []) H (by kernel_rfl) (by kernel_rfl) (by kernel_rfl) (by kernel_rfl) (by kernel_rfl) jje (by kernel_rfl) (fun y => ⟨_, _, rfl, rfl, rfl⟩) e121v0
noncomputable def c122v0 : Ctx := { tt := tt, fs := fun n => match n with | 69 => some jqb | 70 => some jqt | 121 => some S121v0 | 123 => some jJC | _ => none }
theorem k122v0 (h : ∀ T, (tt T).ok Tryz.prog T) (h69v0 : jja Tryz.prog 69 jqb) (h70v0 : jja Tryz.prog 70 jqt) (h121v0 : jja Tryz.prog 121 S121v0) (h123v0 : jja Tryz.prog 123 jJC) : CtxGood Tryz.prog c122v0 := ⟨⟨h⟩, fun g S hg => (by
 simp only [c122v0] at hg
 split at hg
 ·cases hg; exact h69v0
 ·cases hg; exact h70v0
 ·cases hg; exact h121v0
 ·cases hg; exact h123v0
 ·cases hg), jjq, fun _ _ h => (by cases h), fun _ h => (by cases h)⟩
noncomputable def b122v0 : Code := jjh Tryz.f122
@[reducible] noncomputable def i122v0 : Shape := ⟨[(0, .lf (.ptr 500000 0))], [(500000, .box [.d (.sl .u8), .d (.int .i64)], .same)], 26⟩
@[reducible] noncomputable def o122v0 : Shape := ⟨[(0, .lf (.ptr 500000 0)), (2, .lf (.ptr 2 0))], [(500000, .box [.d (.sl .u8), .d (.int .i64)], .same), (2, .box [.d (.str), .d (.int .i64), .d (.str)], .same)], 26⟩
noncomputable def f122v0 (a : i122v0.Y) : Option o122v0.Y :=
(f123v0 (((), ()), ((a.2.1.1, (a.2.1.2.1, ())), ()))).bind fun r1221 =>
(jxJ (((), ((14 : Int), ())), ((r1221.2.1.1, (r1221.2.1.2.1, ())), ()))).bind fun r1223 =>
 bif (r1223.1.2.1 == (0 : Int)) then
(jJ2 (((), (([([] : Str), ([57] : Str), ([79, 110, 101] : Str), ([101, 108, 101, 118, 101, 110, 108, 101, 116, 116, 101] : Str)] : List Str), ())), ((r1223.2.1.1, (r1223.2.1.2.1, ())), ()))).bind fun r1224 =>
 some (((), ((), ())), ((r1224.2.1.1, (r1224.2.1.2.1, ())), ((r1224.1.2.1, (r1221.2.2.1.2.1, (r1221.2.2.1.2.2.1, ()))), ())))
else
 bif (r1223.1.2.1 == (1 : Int)) then
(jxJ (((), ((6 : Int), ())), ((r1223.2.1.1, (r1223.2.1.2.1, ())), ()))).bind fun r1225 =>
 some (((), ((), ())), ((r1225.2.1.1, (r1225.2.1.2.1, ())), ((r1221.2.2.1.1, ((IntKind.i64.wrap (r1225.1.2.1 - (1 : Int))), (r1221.2.2.1.2.2.1, ()))), ())))
else
 bif (r1223.1.2.1 == (2 : Int)) then
(f121v0 (((), ()), ((r1223.2.1.1, (r1223.2.1.2.1, ())), ()))).bind fun r1226 =>
 some (((), ((), ())), ((r1226.2.1.1, (r1226.2.1.2.1, ())), ((r1221.2.2.1.1, (r1221.2.2.1.2.1, (r1226.1.2.1, ()))), ())))
else
 some (((), ((), ())), ((r1223.2.1.1, (r1223.2.1.2.1, ())), ((r1221.2.2.1.1, (r1221.2.2.1.2.1, (r1221.2.2.1.2.2.1, ()))), ())))
theorem e122v0 : ∀ a, f122v0 a = jjp (jjd c122v0 []) b122v0 i122v0 o122v0 a := fun a => by kernel_rfl
noncomputable def S122v0 : jjG := jjf tt 26 i122v0 o122v0 [.cell 2 50] [0] f122v0
theorem z122v0 (h : ∀ T, (tt T).ok Tryz.prog T) (h69v0 : jja Tryz.prog 69 jqb) (h70v0 : jja Tryz.prog 70 jqt) (h121v0 : jja Tryz.prog 121 S121v0) (h123v0 : jja Tryz.prog 123 jJC) : jja Tryz.prog 122 S122v0 :=
 have H := k122v0 h h69v0 h70v0 h121v0 h123v0
 jjj (fn := Tryz.f122) (fr := []) H (by kernel_rfl) (by kernel_rfl) (by kernel_rfl) (by kernel_rfl) (by kernel_rfl) jje (by kernel_rfl) (fun y => ⟨_, _, rfl, rfl, rfl⟩) e122v0
noncomputable def c170v0 : Ctx := { tt := tt, fs := fun n => match n with | 69 => some jqb | 70 => some jqt | 107 => some S107v0 | 203 => some S203v0 | 205 => some S205v0 | 206 => some S206 | _ => none }
theorem k170v0 (h : ∀ T, (tt T).ok Tryz.prog T) (h69v0 : jja Tryz.prog 69 jqb) (h70v0 : jja Tryz.prog 70 jqt) (h107v0 : jja Tryz.prog 107 S107v0) (h203v0 : jja Tryz.prog 203 S203v0) (h205v0 : jja Tryz.prog 205 S205v0) (h206 : jja Tryz.prog 206 S206) : CtxGood Tryz.prog c170v0 := ⟨⟨h⟩, fun g S hg => (by
 simp only [c170v0] at hg
 split at hg
 ·cases hg; exact h69v0
 ·cases hg; exact h70v0
 ·cases hg; exact h107v0
 ·cases hg; exact h203v0
 ·cases hg; exact h205v0
 ·cases hg; exact h206
 ·cases hg), jjq, fun _ _ h => (by cases h), fun _ h => (by cases h)⟩
noncomputable def b170v0 : Code := jjh Tryz.f170
@[reducible] noncomputable def i170v0 : Shape := ⟨[(0, .lf (.ptr 500000 0))], [(500000, .box [.d (.sl .u8), .d (.int .i64)], .same)], 32⟩
@[reducible] noncomputable def o170v0 : Shape := ⟨[(0, .lf (.ptr 500000 0)), (2, .lf (.ptr 2 0))], [(500000, .box [.d (.sl .u8), .d (.int .i64)], .same), (2, .box [.d (.str), .d (.int .i64), .d (.int .i64), .d (.str)], .same)], 32⟩
noncomputable def f170v0 (a : i170v0.Y) : Option o170v0.Y :=
(f203v0 (((), ()), ((a.2.1.1, (a.2.1.2.1, ())), ()))).bind fun r1260 =>
(jxJ (((), ((14 : Int), ())), ((r1260.2.1.1, (r1260.2.1.2.1, ())), ()))).bind fun r1262 =>
 bif (r1262.1.2.1 == (0 : Int)) then
(f107v0 (((), ()), ((r1262.2.1.1, (r1262.2.1.2.1, ())), ()))).bind fun r1263 =>
 some (((), ((), ())), ((r1263.2.1.1, (r1263.2.1.2.1, ())), ((r1263.1.2.1, (r1260.2.2.1.2.1, (r1260.2.2.1.2.2.1, (r1260.2.2.1.2.2.2.1, ())))), ())))
else
 bif (r1262.1.2.1 == (1 : Int)) then
(jxJ (((), ((5 : Int), ())), ((r1262.2.1.1, (r1262.2.1.2.1, ())), ()))).bind fun r1264 =>
 some (((), ((), ())), ((r1264.2.1.1, (r1264.2.1.2.1, ())), ((r1260.2.2.1.1, (r1264.1.2.1, (r1260.2.2.1.2.2.1, (r1260.2.2.1.2.2.2.1, ())))), ())))
else
 bif (r1262.1.2.1 == (2 : Int)) then
(f205v0 (((), (([((-1) : Int), (8 : Int), (0 : Int)] : List Int), ())), ((r1262.2.1.1, (r1262.2.1.2.1, ())), ()))).bind fun r1265 =>
 some (((), ((), ())), ((r1265.2.1.1, (r1265.2.1.2.1, ())), ((r1260.2.2.1.1, (r1260.2.2.1.2.1, (r1265.1.2.1, (r1260.2.2.1.2.2.2.1, ())))), ())))
else
 bif (r1262.1.2.1 == (3 : Int)) then
(f206 ((([117] : Str), ((81 : Int), ())), ())).bind fun r1266 =>
(jJ2 (((), (([([1] : Str), r1266.1.1, ([120] : Str), ([] : Str)] : List Str), ())), ((r1262.2.1.1, (r1262.2.1.2.1, ())), ()))).bind fun r1267 =>
 some (((), ((), ())), ((r1267.2.1.1, (r1267.2.1.2.1, ())), ((r1260.2.2.1.1, (r1260.2.2.1.2.1, (r1260.2.2.1.2.2.1, (r1267.1.2.1, ())))), ())))
else
 some (((), ((), ())), ((r1262.2.1.1, (r1262.2.1.2.1, ())), ((r1260.2.2.1.1, (r1260.2.2.1.2.1, (r1260.2.2.1.2.2.1, (r1260.2.2.1.2.2.2.1, ())))), ())))
theorem e170v0 : ∀ a, f170v0 a = jjp (jjd c170v0 []) b170v0 i170v0 o170v0 a := fun a => by kernel_rfl
noncomputable def S170v0 : jjG := jjf tt 32 i170v0 o170v0 [.cell 2 32] [0] f170v0
theorem z170v0 (h : ∀ T, (tt T).ok Tryz.prog T) (h69v0 : jja Tryz.prog 69 jqb) (h70v0 : jja Tryz.prog 70 jqt) (h107v0 : jja Tryz.prog 107 S107v0) (h203v0 : jja Tryz.prog 203 S203v0) (h205v0 : jja Tryz.prog 205 S205v0) (h206 : jja Tryz.prog 206 S206) : jja Tryz.prog 170 S170v0 :=
 have H := k170v0 h h69v0 h70v0 h107v0 h203v0 h205v0 h206
 jjj (fn := Tryz.f170) (fr := []) H (by kernel_rfl) (by kernel_rfl) (by kernel_rfl) (by kernel_rfl) (by kernel_rfl) jje (by kernel_rfl) (fun y => ⟨_, _, rfl, rfl, rfl⟩) e170v0
end Go.Proofs
