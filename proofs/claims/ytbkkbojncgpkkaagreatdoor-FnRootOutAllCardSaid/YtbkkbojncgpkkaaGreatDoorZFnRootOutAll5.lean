/- It is proved that everything can be removed (FnRootOutAll). (part 6 of 7: JkEF9, JkEPuCa, JkEF21v0, JkEPuCb, JkEF20, JkEF8, JkEPuCc, JkEF10, JkEF19v0, JkEF7, JkEPuCd, JkEF3, JkEPuCe, JkEF11, JkEPuCf, JkEF4, JkEPuCg, JkEF101, JkEF75, JkEF102, JkEF42, JkEF76, JkEF43v0, JkEF24) Conditions: none beyond the statement. -/
import Derived.Test.YtbkkbojncgpkkaaGreatDoorZFnRootOutAll4
import Derived.Tactics
import Derived.Deep.RegionLaw
import Derived.Shelf.Abstract
import Derived.Test.YtbkkbojncgpkkaaGreatDoorProg
import Derived.KernelRfl
set_option linter.unusedSectionVars false
set_option linter.unusedSimpArgs false
set_option maxRecDepth 100000
set_option linter.unusedVariables false
namespace Go.Proofs
open Go.Jk
noncomputable def c9 : Ctx := { tt := tt, fs := fun n => match n with | 22 => some S22 | 23 => some S23 | _ => none }
theorem k9 (h : ∀ T, (tt T).ok Pz T) (h22 : jja Pz 22 S22) (h23 : jja Pz 23 S23) : CtxGood Pz c9 := ⟨⟨h⟩, fun g S hg => (by
 simp only [c9] at hg
 split at hg
 ·cases hg; exact h22
 ·cases hg; exact h23
 ·cases hg), jjp, fun _ _ h => (by cases h), fun _ h => (by cases h)⟩
noncomputable def b9 : Code := jji Tryz.f9
@[reducible] noncomputable def s9_250 : Shape := ⟨[(0, .lf (.d (.sl .pack))), (1, .lf (.d (.sl .str))), (7, .lf (.d (.sl .str))), (8, .lf (.d (.int .i64)))], [], 41⟩
@[reducible] noncomputable def t9_250 : List OSh := [(.ret, ⟨[(4, .lf (.own 3000256)), (5, .lf (.d (.int .i64)))], [(3000256, .row .str, .slot 4 0)], 41⟩), (.exit 0, ⟨[(7, .lf (.d (.sl .str)))], [], 41⟩)]
noncomputable def g9_250 (y : s9_250.Y) : Option (Sum s9_250.Y (YS t9_250)) :=
 bif (decide (y.1.2.2.2.1 < (y.1.2.1.length : Int))) then
(ix y.1.2.1 y.1.2.2.2.1).bind fun x1798 =>
(f23 ((y.1.1, (x1798, (y.1.2.2.1, (([] : List Str), ())))), ())).bind fun r1799 =>
 bif (r1799.1.2.1 != (0 : Int)) then
 some (.inr (.inl (((), (r1799.1.2.1, ())), (([] : List Str), ()))))
else
 some (.inl ((y.1.1, (y.1.2.1, (r1799.1.1, ((IntKind.i64.wrap (y.1.2.2.2.1 + (1 : Int))), ())))), ()))
else
 some (.inr (.inr ((y.1.2.2.1, ()), ())))
theorem r9_250 : ∀ y, g9_250 y = jjz (jjd c9 []) (jjl (jjc b9 1 250)) 250 s9_250 t9_250 y := fun y => by kernel_rfl
noncomputable def l9_250 : s9_250.Y → Option (YS t9_250) := jjC g9_250
theorem q9_250 (H : CtxGood Pz c9) : jjn Pz (jjc b9 1 250) (jjb s9_250 t9_250 l9_250) :=
 jjt (fr := []) H (by kernel_rfl) (by kernel_rfl) jje (fun y => jjh r9_250 y)
@[reducible] noncomputable def i9 : Shape := ⟨[(0, .lf (.d (.sl .pack))), (1, .lf (.d (.sl .str)))], [], 41⟩
@[reducible] noncomputable def o9 : Shape := ⟨[(4, .lf (.d (.sl .str))), (5, .lf (.d (.int .i64)))], [], 41⟩
noncomputable def f9 (a : i9.Y) : Option o9.Y :=
(f22 ((a.1.1, ()), ())).bind fun r1807 =>
 bif (r1807.1.1 != (0 : Int)) then
 some ((([] : List Str), (r1807.1.1, ())), ())
else
(l9_250 ((a.1.1, (a.1.2.1, (([] : List Str), ((0 : Int), ())))), ())).bind fun r1811 =>
(match r1811 with
| .inl r1812 =>
 some ((r1812.2.1, (r1812.1.2.1, ())), ())
| .inr r1813 =>
 some ((r1813.1.1, ((0 : Int), ())), ()))
theorem e9 : ∀ a, f9 a = jjo (jjd c9 [(250, jjb s9_250 t9_250 l9_250)]) b9 i9 o9 a := fun a => by kernel_rfl
noncomputable def S9 : jjF := jjf tt 41 i9 o9 [.tmp 4, .tmp 5] [] f9
theorem z9 (h : ∀ T, (tt T).ok Pz T) (h22 : jja Pz 22 S22) (h23 : jja Pz 23 S23) : jja Pz 9 S9 :=
 have H := k9 h h22 h23
 jjk (fn := Tryz.f9) (fr := [(250, jjb s9_250 t9_250 l9_250)]) H (by kernel_rfl) (by kernel_rfl) (by kernel_rfl) (by kernel_rfl) (by kernel_rfl) ⟨q9_250 H, trivial⟩ (by kernel_rfl) (fun y => ⟨_, _, rfl, rfl, rfl⟩) e9
theorem v_l8Has (a) (hs : a.1.1.length ≤ 2097152) : f40 a = some ((a.1.1.contains a.1.2.1, ()), ()) := by
 obtain ⟨⟨xs, s, u⟩, u'⟩ := a
 have hs : xs.length ≤ 2097152 := hs
 have key : l40_26 ((xs, (s, ((0 : Int), ()))), ()) = some (bif jqz (fun _ x => !(x == s)) 0 xs then .inr ((), ()) else .inl ((true, ()), ())) := by
  refine jjU g40_26 xs (fun i => ((xs, (s, ((i : Int), ()))), ())) _ _ _ (fun i x hx => ?_) ?_
  ·have hi := jjv hx
   have hw : Sm i := by unfold Sm; omega
   simp only [g40_26, jjA hi, cond_true, jjs, hx, Option.bind_some, jjj hw]
   cases (x == s) <;> rfl
  ·simp only [g40_26, jjI, cond_false]
 rw [jjW, all_not] at key
 simp only [f40, key, Option.bind_some]
 cases xs.contains s <;> rfl
def jJg (ps : List Pack) : Int := bif ps.all jxP then (bif dupA [] (ps.map (·.name)) then 2 else 0) else 1
def jJW (rec : Str → List Str → Sum (List Str) Int) (ps : List Pack) : List Need → List Str → Sum (List Str) Int
 | [], out => .inl out
 | n :: r, out => match ps.find? (fun q => q.name == n.name) with
  | none => .inr 3
  | some q => bif jJV n q.version then (match rec n.name out with
   | .inl o => jJW rec ps r o
   | .inr c => .inr c) else .inr 3
def clo (ps : List Pack) : Nat → List Str → Str → List Str → Sum (List Str) Int
 | 0, _, _, _ => .inr 4
 | m + 1, op, name, out => bif out.contains name then .inl out else match ps.find? (fun q => q.name == name) with
  | none => .inr 3
  | some p => bif op.contains name then .inr 4 else match jJW (clo ps m (op ++ [name])) ps p.needs out with
   | .inl o => .inl (o ++ [name])
   | .inr c => .inr c
def Nms (ps : List Pack) (l : List Str) : Prop := l.Nodup ∧ ∀ s, s ∈ l → ∃ q, ps.find? (fun q => q.name == s) = some q
theorem nodup_le : ∀ (l L : List Str), l.Nodup → (∀ x, x ∈ l → x ∈ L) → l.length ≤ L.length := by
 intro l
 induction l with
 | nil => intro L _ _; exact Nat.zero_le _
 | cons x l ih =>
  intro L hn h
  obtain ⟨h1, h2⟩ := List.nodup_cons.1 hn
  have hx := h x List.mem_cons_self
  have := ih (L.erase x) h2 (fun y hy => (List.mem_erase_of_ne (fun e => by subst e; exact h1 hy)).2 (h y (List.mem_cons_of_mem _ hy)))
  rw [List.length_erase_of_mem hx] at this
  have := List.length_pos_of_mem hx
  simp only [List.length_cons]; omega
theorem Nms.len {ps : List Pack} {l : List Str} (h : Nms ps l) : l.length ≤ ps.length := by
 have := nodup_le l (ps.map (·.name)) h.1 (fun s hs => by
  obtain ⟨q, hq⟩ := h.2 s hs
  have h1 := List.mem_of_find?_eq_some hq
  have h2 : q.name = s := by have := List.find?_some hq; simpa using this
  exact List.mem_map.2 ⟨q, h1, h2⟩)
 simpa using this
theorem Nms.add {ps : List Pack} {l : List Str} {s : Str} {q : Pack} (h : Nms ps l) (hs : l.contains s = false) (hq : ps.find? (fun q => q.name == s) = some q) : Nms ps (l ++ [s]) := by
 have hn : s ∉ l := by simpa using hs
 refine ⟨?_, fun x hx => ?_⟩
 ·rw [List.nodup_append]
  refine ⟨h.1, by simp, fun a ha b hb => ?_⟩
  rw [List.mem_singleton.1 hb]
  exact fun e => hn (e ▸ ha)
 ·rcases List.mem_append.1 hx with hx | hx
  ·exact h.2 x hx
  ·rw [List.mem_singleton.1 hx]; exact ⟨q, hq⟩
theorem Nms.nil (ps : List Pack) : Nms ps [] := ⟨List.nodup_nil, fun s h => by cases h⟩
def Dis (op out : List Str) : Prop := ∀ s, s ∈ op → s ∉ out
def CloS (ps : List Pack) (op : List Str) (r : Sum (List Str) Int) (x : Option o23.Y) : Prop :=
 (∃ o, r = .inl o ∧ (Nms ps o ∧ Dis op o) ∧ x = some ((o, ((0 : Int), ())), ())) ∨ (∃ c o, r = .inr c ∧ c ≠ 0 ∧ x = some ((o, (c, ())), ()))
theorem v_closeNs (ps : List Pack) (hb : BdPs ps) (hv : VS ps) (name : Str) (p : Pack) (k : Nat) (hk : ps[k]? = some p) (wth : List Str) (rec : Str → List Str → Sum (List Str) Int) (F : i23.Y → Option o23.Y)
  (hF : ∀ nm out, Nms ps out ∧ Dis wth out → CloS ps wth (rec nm out) (F ((ps, (nm, (out, (wth, ())))), ()))) : ∀ (r : List Need) (i : Nat) (out : List Str), p.needs.drop i = r → i ≤ p.needs.length → Nms ps out ∧ Dis wth out →
  (∃ o, jJW rec ps r out = .inl o ∧ (Nms ps o ∧ Dis wth o) ∧ jzC F ((ps, (name, (out, ((k : Int), (wth, ((i : Int), ())))))), ()) = some (.inr ((name, (o, ())), ()))) ∨
  (∃ c o, jJW rec ps r out = .inr c ∧ c ≠ 0 ∧ jzC F ((ps, (name, (out, ((k : Int), (wth, ((i : Int), ())))))), ()) = some (.inl ((o, (c, ())), ()))) := by
 have hpm := List.mem_of_getElem? hk
 intro r
 induction r with
 | nil =>
  intro i out hr hi ho
  have := drop_nil hr
  have d1 : decide ((i : Int) < (p.needs.length : Int)) = false := by simp only [decide_eq_false_iff_not]; omega
  refine .inl ⟨out, rfl, ho, jjE ?_⟩
  simp only [jzE, jjs, hk, Option.bind_some, d1, cond_false]
 | cons n r ih =>
  intro i out hr hi ho
  obtain ⟨c1, c2, c3⟩ := jqg hr
  have hnm := List.mem_of_getElem? c1
  have hlen : p.needs.length ≤ 2097152 := (hb.2 p hpm).2.2.1.1
  have hw : Sm i := by unfold Sm; omega
  have h8 := v_l8Pack ((ps, (n.name, ())), ()) hb.1
  have pre : ∀ (X : Option (Sum s23_250.Y (YS t23_250))), jzE F ((ps, (name, (out, ((k : Int), (wth, ((i : Int), ())))))), ()) = X → jzC F ((ps, (name, (out, ((k : Int), (wth, ((i : Int), ())))))), ()) = X.bind (fun s => match s with | .inl y => jzC F y | .inr b => some b) := by
   intro X hX
   subst hX
   cases hg : jzE F ((ps, (name, (out, ((k : Int), (wth, ((i : Int), ())))))), ()) with
   | none => unfold jzC; rw [loopF_eq, hg]; rfl
   | some s =>
    cases s with
    | inl y => exact jqc hg
    | inr b => exact jjE hg
  rcases h8 with ⟨j, q, h1, h2, h3⟩ | ⟨h1, h2⟩
  ·have h2 : ps[j]? = some q := h2
   have h3 : ps.find? (fun p => p.name == n.name) = some q := h3
   have hq := hv q (List.mem_of_getElem? h2)
   have hf := v_l3Fits (((n.name, (n.kind, (n.version, ()))), (n.name, (q.version, ()))), ()) ((hv p hpm).2 n hnm) hq.1 rfl
   have hj : decide ((j : Int) < 0) = false := by simp only [decide_eq_false_iff_not]; omega
   simp only [jJW, h3]
   cases hfit : jJV n q.version with
   | false =>
    refine .inr ⟨3, out, rfl, by decide, jjE ?_⟩
    simp only [jzE, jjs, hk, c1, Option.bind_some, jjA c3, cond_true, h1, jJl, hj, cond_false, h2, hf, hfit, Bool.not_false]
   | true =>
    simp only [cond_true]
    rcases hF n.name out ho with ⟨o, g1, g2, g3⟩ | ⟨c, o, g1, g2, g3⟩
    ·rw [g1]
     have step : jzE F ((ps, (name, (out, ((k : Int), (wth, ((i : Int), ())))))), ()) = some (.inl ((ps, (name, (o, ((k : Int), (wth, (((i + 1 : Nat) : Int), ())))))), ())) := by
      simp only [jzE, jjs, hk, c1, Option.bind_some, jjA c3, cond_true, h1, jJl, hj, cond_false, h2, hf, hfit, Bool.not_true, g3, bne_self_eq_false, jjj hw]
     have e : jzC F ((ps, (name, (out, ((k : Int), (wth, ((i : Int), ())))))), ()) = _ := jqc step
     rw [e]
     exact ih (i + 1) o c2 c3 g2
    ·rw [g1]
     have hc : (c != 0) = true := by simpa using g2
     refine .inr ⟨c, out, rfl, g2, jjE ?_⟩
     simp only [jzE, jjs, hk, c1, Option.bind_some, jjA c3, cond_true, h1, jJl, hj, cond_false, h2, hf, hfit, Bool.not_true, g3, hc]
  ·have h2 : ps.find? (fun p => p.name == n.name) = none := h2
   have hj : decide ((-1 : Int) < 0) = true := rfl
   simp only [jJW, h2]
   refine .inr ⟨3, out, rfl, by decide, jjE ?_⟩
   simp only [jzE, jjs, hk, c1, Option.bind_some, jjA c3, cond_true, h1, jJl, hj]
theorem v_l8Close (ps : List Pack) (hb : BdPs ps) (hv : VS ps) (hl : ps.length ≤ 1000000) : ∀ (m : Nat) (op : List Str), Nms ps op → ps.length < m + op.length → ∀ (f : Nat), m ≤ f → ∀ name out, Nms ps out ∧ Dis op out →
  CloS ps op (clo ps m op name out) (jxi ff23 f ((ps, (name, (out, (op, ())))), ())) := by
 intro m
 induction m with
 | zero => intro op ho hm; have := ho.len; omega
 | succ m ih =>
  intro op ho hm f hf name out hout
  obtain ⟨f, rfl⟩ : ∃ f', f = f' + 1 := ⟨f - 1, by omega⟩
  have hol := ho.len
  have houtl := hout.1.len
  have e1 := v_l8Has ((out, (name, ())), ()) (show out.length ≤ 2097152 by omega)
  have e2 := v_l8Has ((op, (name, ())), ()) (show op.length ≤ 2097152 by omega)
  show CloS ps op _ (ff23 (jxi ff23 f) ((ps, (name, (out, (op, ())))), ()))
  simp only [clo]
  rcases v_l8Pack ((ps, (name, ())), ()) hb.1 with ⟨k, p, h1, h2, h3⟩ | ⟨h1, h2⟩
  ·have h2 : ps[k]? = some p := h2
   have h3 : ps.find? (fun p => p.name == name) = some p := h3
   have hk : decide ((k : Int) < 0) = false := by simp only [decide_eq_false_iff_not]; omega
   cases c1 : out.contains name with
   | true =>
    refine .inl ⟨out, rfl, hout, ?_⟩
    simp only [ff23, h1, e1, c1, Option.bind_some, cond_true]
   | false =>
    simp only [cond_false, h3]
    cases c2 : op.contains name with
    | true =>
     refine .inr ⟨4, out, rfl, by decide, ?_⟩
     simp only [ff23, h1, e1, e2, c1, c2, hk, Option.bind_some, cond_true, cond_false]
    | false =>
     have ho' := ho.add c2 h3
     have a1 : apd 16 ([] : List Str) op = some op := by rw [jj0 (by decide) (by unfold Sm; simp; omega)]; rfl
     have a2 : apd 16 op [name] = some (op ++ [name]) := jj0 (by decide) (by unfold Sm; simp; omega)
     have hdis : Nms ps out ∧ Dis (op ++ [name]) out := ⟨hout.1, fun s hs => by
      rcases List.mem_append.1 hs with hs | hs
      ·exact hout.2 s hs
      ·rw [List.mem_singleton.1 hs]; simpa using c1⟩
     have loop := v_closeNs ps hb hv name p k h2 (op ++ [name]) (clo ps m (op ++ [name])) (jxi ff23 f)
      (fun nm out' h' => ih (op ++ [name]) ho' (by simp; omega) f (by omega) nm out' h') p.needs 0 out rfl (Nat.zero_le _) hdis
     simp only [cond_false]
     rcases loop with ⟨o, g1, g2, g3⟩ | ⟨c, o, g1, g2, g3⟩
     ·have g3 : jzC (jxi ff23 f) ((ps, (name, (out, ((k : Int), (op ++ [name], ((0 : Int), ())))))), ()) = _ := g3
      have hoo := g2.1.len
      have a3 : apd 16 ([] : List Str) o = some o := by rw [jj0 (by decide) (by unfold Sm; simp; omega)]; rfl
      have a4 : apd 16 o [name] = some (o ++ [name]) := jj0 (by decide) (by unfold Sm; simp; omega)
      have hno : o.contains name = false := by
       have := g2.2 name (by simp)
       simpa using this
      rw [g1]
      refine .inl ⟨o ++ [name], rfl, ⟨g2.1.add hno h3, fun s hs hs' => ?_⟩, ?_⟩
      ·rcases List.mem_append.1 hs' with hs' | hs'
       ·exact g2.2 s (List.mem_append.2 (.inl hs)) hs'
       ·rw [List.mem_singleton.1 hs'] at hs
        have : name ∉ op := by simpa using c2
        exact this hs
      ·simp only [ff23, h1, e1, e2, c1, c2, hk, Option.bind_some, cond_true, cond_false, a1, a2, g3, a3, a4]
     ·have g3 : jzC (jxi ff23 f) ((ps, (name, (out, ((k : Int), (op ++ [name], ((0 : Int), ())))))), ()) = _ := g3
      rw [g1]
      refine .inr ⟨c, o, rfl, g2, ?_⟩
      simp only [ff23, h1, e1, e2, c1, c2, hk, Option.bind_some, cond_true, cond_false, a1, a2, g3]
  ·have h2 : ps.find? (fun p => p.name == name) = none := h2
   have hk : decide ((-1 : Int) < 0) = true := rfl
   cases c1 : out.contains name with
   | true =>
    refine .inl ⟨out, rfl, hout, ?_⟩
    simp only [ff23, h1, e1, c1, Option.bind_some, cond_true]
   | false =>
    simp only [cond_false, h2]
    refine .inr ⟨3, out, rfl, by decide, ?_⟩
    simp only [ff23, h1, e1, c1, hk, Option.bind_some, cond_true, cond_false]
theorem fuel_big {n : Nat} (h : n ≤ 1000001) : n ≤ jzL := by unfold jzL; omega
def jxW (ps : List Pack) (m : Nat) : List Str → List Str → Sum (List Str) Int
 | [], out => .inl out
 | n :: r, out => match clo ps m [] n out with
  | .inl o => jxW ps m r o
  | .inr c => .inr c
def closeL (ps : List Pack) (names : List Str) : List Str × Int := bif jJg ps == 0 then (match jxW ps (ps.length + 1) names [] with
 | .inl o => (o, 0)
 | .inr c => ([], c)) else ([], jJg ps)
@[reducible] noncomputable def i21v0 : Shape := ⟨[(0, .lf (.ptr 500000 0)), (1, .lf (.d (.str)))], [(37000002, .row .i64, .cell 500000 2), (37000003, .row .str, .cell 500000 3), (500000, .box [.d (.sl .pack), .d (.map .i64), .own 37000002, .own 37000003], .same)], 104⟩
@[reducible] noncomputable def o21v0 : Shape := ⟨[(0, .lf (.ptr 500000 0)), (4, .lf (.d (.int .i64)))], [(37000002, .row .i64, .cell 500000 2), (37000003, .row .str, .cell 500000 3), (500000, .box [.d (.sl .pack), .d (.map .i64), .own 37000002, .own 37000003], .same)], 104⟩
noncomputable def SF21v0 (F : i21v0.Y → Option o21v0.Y) : jjF := jjf tt 104 i21v0 o21v0 [.tmp 4] [0] F
noncomputable def c21v0 (F : i21v0.Y → Option o21v0.Y) : Ctx := { tt := tt, fs := fun n => match n with | 21 => some (SF21v0 F) | 36 => some S36 | _ => none }
theorem k21v0 (F : i21v0.Y → Option o21v0.Y) (h : ∀ T, (tt T).ok Pz T) (h36 : jja Pz 36 S36) (hF : jja Pz 21 (SF21v0 F)) : CtxGood Pz (c21v0 F) := ⟨⟨h⟩, fun g S hg => (by
 simp only [c21v0] at hg
 split at hg
 ·cases hg; exact hF
 ·cases hg; exact h36
 ·cases hg), jjp, fun _ _ h => (by cases h), fun _ h => (by cases h)⟩
noncomputable def b21v0 : Code := jji Tryz.f21
@[reducible] noncomputable def s21v0_259276 : Shape := ⟨[(0, .lf (.ptr 500000 0)), (1, .lf (.d (.str))), (5, .lf (.d (.int .i64))), (8, .lf (.ptr 8 0)), (9, .lf (.d (.int .i64))), (10, .lf (.d (.bool))), (47, .lf (.d (.sl .need))), (48, .lf (.d (.int .i64))), (49, .lf (.d (.int .i64))), (54, .lf (.ptr 500000 0)), (55, .lf (.ptr 500000 0)), (56, .lf (.ptr 500000 1)), (57, .lf (.d (.map .i64))), (58, .lf (.ptr 8 0)), (59, .lf (.d (.str))), (61, .lf (.d (.int .i64))), (62, .lf (.d (.bool)))], [(37000002, .row .i64, .cell 500000 2), (37000003, .row .str, .cell 500000 3), (500000, .box [.d (.sl .pack), .d (.map .i64), .own 37000002, .own 37000003], .same), (8, .box [.d (.str), .d (.int .i64), .d (.str)], .same)], 104⟩
@[reducible] noncomputable def jq5 : List OSh := [(.norm, ⟨[(0, .lf (.ptr 500000 0)), (1, .lf (.d (.str))), (5, .lf (.d (.int .i64))), (8, .lf (.ptr 8 0)), (9, .lf (.d (.int .i64))), (10, .lf (.d (.bool))), (47, .lf (.d (.sl .need))), (48, .lf (.d (.int .i64))), (49, .lf (.d (.int .i64))), (54, .lf (.ptr 500000 0)), (55, .lf (.ptr 500000 0)), (56, .lf (.ptr 500000 1)), (57, .lf (.d (.map .i64))), (58, .lf (.ptr 8 0)), (59, .lf (.d (.str))), (61, .lf (.d (.int .i64))), (62, .lf (.d (.bool))), (63, .lf (.d (.bool))), (64, .lf (.d (.bool))), (65, .lf (.d (.bool))), (79, .lf (.d (.bool)))], [(37000002, .row .i64, .cell 500000 2), (37000003, .row .str, .cell 500000 3), (500000, .box [.d (.sl .pack), .d (.map .i64), .own 37000002, .own 37000003], .same), (8, .box [.d (.str), .d (.int .i64), .d (.str)], .same)], 104⟩)]
noncomputable def jqf (F : i21v0.Y → Option o21v0.Y) (y : s21v0_259276.Y) : Option (YS jq5) :=
 bif (!y.1.2.2.2.2.2.1) then
 some ((((), (y.1.2.1, (y.1.2.2.1, ((), (y.1.2.2.2.2.1, (y.1.2.2.2.2.2.1, (y.1.2.2.2.2.2.2.1, (y.1.2.2.2.2.2.2.2.1, (y.1.2.2.2.2.2.2.2.2.1, ((), ((), ((), (y.1.2.2.2.2.2.2.2.2.2.2.2.2.1, ((), (y.1.2.2.2.2.2.2.2.2.2.2.2.2.2.2.1, (y.1.2.2.2.2.2.2.2.2.2.2.2.2.2.2.2.1, (y.1.2.2.2.2.2.2.2.2.2.2.2.2.2.2.2.2.1, (y.1.2.2.2.2.2.1, ((!y.1.2.2.2.2.2.1), (true, (true, ()))))))))))))))))))))), (y.2.1, (y.2.2.1, ((y.2.2.2.1.1, (y.2.2.2.1.2.1, ((), ((), ())))), ((y.2.2.2.2.1.1, (y.2.2.2.2.1.2.1, (y.2.2.2.2.1.2.2.1, ()))), ()))))))
else
(ix y.2.2.2.1.1 y.1.2.2.2.2.1).bind fun x1385 =>
(f36 (((y.2.2.2.2.1.1, (y.2.2.2.2.1.2.1, (y.2.2.2.2.1.2.2.1, ()))), (y.2.2.2.2.1.1, (x1385.version, ()))), ())).bind fun r1386 =>
 some ((((), (y.1.2.1, (y.1.2.2.1, ((), (y.1.2.2.2.2.1, (y.1.2.2.2.2.2.1, (y.1.2.2.2.2.2.2.1, (y.1.2.2.2.2.2.2.2.1, (y.1.2.2.2.2.2.2.2.2.1, ((), ((), ((), (y.1.2.2.2.2.2.2.2.2.2.2.2.2.1, ((), (y.1.2.2.2.2.2.2.2.2.2.2.2.2.2.2.1, (y.1.2.2.2.2.2.2.2.2.2.2.2.2.2.2.2.1, (y.1.2.2.2.2.2.2.2.2.2.2.2.2.2.2.2.2.1, (y.1.2.2.2.2.2.1, ((!y.1.2.2.2.2.2.1), (false, ((!r1386.1.1), ()))))))))))))))))))))), (y.2.1, (y.2.2.1, ((y.2.2.2.1.1, (y.2.2.2.1.2.1, ((), ((), ())))), ((y.2.2.2.2.1.1, (y.2.2.2.2.1.2.1, (y.2.2.2.2.1.2.2.1, ()))), ()))))))
theorem r21v0_259276 (F : i21v0.Y → Option o21v0.Y) : ∀ y, (jqf F) y = jjK (jjd (c21v0 F) []) (jjc (jjl (jjc b21v0 1 506)) 1012 259276) 259276 s21v0_259276 jq5 y := fun y => by kernel_rfl
theorem q21v0_259276 (F : i21v0.Y → Option o21v0.Y) (H : CtxGood Pz (c21v0 F)) : jjn Pz (jjc (jjl (jjc b21v0 1 506)) 1012 259276) (jjb s21v0_259276 jq5 (jqf F)) :=
 jjw (fr := []) H (by kernel_rfl) jje (r21v0_259276 F)
@[reducible] noncomputable def s21v0_506 : Shape := ⟨[(0, .lf (.ptr 500000 0)), (1, .lf (.d (.str))), (5, .lf (.d (.int .i64))), (47, .lf (.d (.sl .need))), (48, .lf (.d (.int .i64))), (49, .lf (.d (.int .i64)))], [(37000002, .row .i64, .cell 500000 2), (37000003, .row .str, .cell 500000 3), (500000, .box [.d (.sl .pack), .d (.map .i64), .own 37000002, .own 37000003], .same)], 104⟩
@[reducible] noncomputable def jzb : List OSh := [(.ret, ⟨[(0, .lf (.ptr 500000 0)), (4, .lf (.d (.int .i64)))], [(37000002, .row .i64, .cell 500000 2), (37000003, .row .str, .cell 500000 3), (500000, .box [.d (.sl .pack), .d (.map .i64), .own 37000002, .own 37000003], .same)], 104⟩), (.exit 1, ⟨[(0, .lf (.ptr 500000 0)), (1, .lf (.d (.str))), (5, .lf (.d (.int .i64)))], [(37000002, .row .i64, .cell 500000 2), (37000003, .row .str, .cell 500000 3), (500000, .box [.d (.sl .pack), .d (.map .i64), .own 37000002, .own 37000003], .same)], 104⟩)]
noncomputable def jxb (F : i21v0.Y → Option o21v0.Y) (y : s21v0_506.Y) : Option (Sum s21v0_506.Y (YS jzb)) :=
 bif (decide (y.1.2.2.2.2.2.1 < y.1.2.2.2.2.1)) then
(ix y.1.2.2.2.1 y.1.2.2.2.2.2.1).bind fun x1392 =>
((jqf F) (((), (y.1.2.1, (y.1.2.2.1, ((), (((jqm y.2.2.2.1.2.1 x1392.name).getD (0 : Int)), ((jqm y.2.2.2.1.2.1 x1392.name).isSome, (y.1.2.2.2.1, (y.1.2.2.2.2.1, (y.1.2.2.2.2.2.1, ((), ((), ((), (y.2.2.2.1.2.1, ((), (x1392.name, (((jqm y.2.2.2.1.2.1 x1392.name).getD (0 : Int)), ((jqm y.2.2.2.1.2.1 x1392.name).isSome, ()))))))))))))))))), (y.2.1, (y.2.2.1, ((y.2.2.2.1.1, (y.2.2.2.1.2.1, ((), ((), ())))), ((x1392.name, (x1392.kind, (x1392.version, ()))), ())))))).bind fun r1394 =>
 bif r1394.1.2.2.2.2.2.2.2.2.2.2.2.2.2.2.2.2.2.2.2.2.1 then
 some (.inr (.inl (((), ((3 : Int), ())), (r1394.2.1, (r1394.2.2.1, ((r1394.2.2.2.1.1, (r1394.2.2.2.1.2.1, ((), ((), ())))), ()))))))
else
(F (((), (r1394.2.2.2.2.1.1, ())), (r1394.2.1, (r1394.2.2.1, ((r1394.2.2.2.1.1, (r1394.2.2.2.1.2.1, ((), ((), ())))), ()))))).bind fun r1396 =>
 bif (r1396.1.2.1 != (0 : Int)) then
 some (.inr (.inl (((), (r1396.1.2.1, ())), (r1396.2.1, (r1396.2.2.1, ((r1396.2.2.2.1.1, (r1396.2.2.2.1.2.1, ((), ((), ())))), ()))))))
else
 some (.inl (((), (r1394.1.2.1, (r1394.1.2.2.1, (r1394.1.2.2.2.2.2.2.1, (r1394.1.2.2.2.2.2.2.2.1, ((IntKind.i64.wrap (r1394.1.2.2.2.2.2.2.2.2.1 + (1 : Int))), ())))))), (r1396.2.1, (r1396.2.2.1, ((r1396.2.2.2.1.1, (r1396.2.2.2.1.2.1, ((), ((), ())))), ())))))
else
 some (.inr (.inr (((), (y.1.2.1, (y.1.2.2.1, ()))), (y.2.1, (y.2.2.1, ((y.2.2.2.1.1, (y.2.2.2.1.2.1, ((), ((), ())))), ()))))))
theorem r21v0_506 (F : i21v0.Y → Option o21v0.Y) : ∀ y, (jxb F) y = jjz (jjd (c21v0 F) [(259276, jjb s21v0_259276 jq5 (jqf F))]) (jjl (jjc b21v0 1 506)) 506 s21v0_506 jzb y := fun y => by kernel_rfl
noncomputable def jqP (F : i21v0.Y → Option o21v0.Y) : s21v0_506.Y → Option (YS jzb) := jjC (jxb F)
theorem q21v0_506 (F : i21v0.Y → Option o21v0.Y) (H : CtxGood Pz (c21v0 F)) : jjn Pz (jjc b21v0 1 506) (jjb s21v0_506 jzb (jqP F)) :=
 jjt (fr := [(259276, jjb s21v0_259276 jq5 (jqf F))]) H (by kernel_rfl) (by kernel_rfl) ⟨(q21v0_259276 F) H, trivial⟩ (fun y => jjh (r21v0_506 F) y)
noncomputable def jxN (F : i21v0.Y → Option o21v0.Y) (a : i21v0.Y) : Option o21v0.Y :=
 bif (!((jqm a.2.2.2.1.2.1 a.1.2.1).isSome)) then
 some (((), ((3 : Int), ())), (a.2.1, (a.2.2.1, ((a.2.2.2.1.1, (a.2.2.2.1.2.1, ((), ((), ())))), ()))))
else
(inb a.2.1.length ((jqm a.2.2.2.1.2.1 a.1.2.1).getD (0 : Int))).bind fun x1301 =>
(a.2.1[x1301]?).bind fun x1302 =>
 bif (x1302 == (2 : Int)) then
 some (((), ((0 : Int), ())), (a.2.1, (a.2.2.1, ((a.2.2.2.1.1, (a.2.2.2.1.2.1, ((), ((), ())))), ()))))
else
 bif (x1302 == (1 : Int)) then
 some (((), ((4 : Int), ())), (a.2.1, (a.2.2.1, ((a.2.2.2.1.1, (a.2.2.2.1.2.1, ((), ((), ())))), ()))))
else
(inb a.2.1.length ((jqm a.2.2.2.1.2.1 a.1.2.1).getD (0 : Int))).bind fun x1305 =>
((a.2.1[x1305]?).bind fun q => some (1 : Int)).bind fun x1306 =>
(ix a.2.2.2.1.1 ((jqm a.2.2.2.1.2.1 a.1.2.1).getD (0 : Int))).bind fun x1401 =>
((jqP F) (((), (a.1.2.1, (((jqm a.2.2.2.1.2.1 a.1.2.1).getD (0 : Int)), (x1401.needs, ((x1401.needs.length : Int), ((0 : Int), ())))))), ((a.2.1.set x1305 x1306), (a.2.2.1, ((a.2.2.2.1.1, (a.2.2.2.1.2.1, ((), ((), ())))), ()))))).bind fun r1402 =>
(match r1402 with
| .inl r1403 =>
 some (((), (r1403.1.2.1, ())), (r1403.2.1, (r1403.2.2.1, ((r1403.2.2.2.1.1, (r1403.2.2.2.1.2.1, ((), ((), ())))), ()))))
| .inr r1404 =>
(inb r1404.2.1.length r1404.1.2.2.1).bind fun x1407 =>
((r1404.2.1[x1407]?).bind fun q => some (2 : Int)).bind fun x1408 =>
(apd 16 r1404.2.2.1 ([r1404.1.2.1] : List Str)).bind fun x1409 =>
 some (((), ((0 : Int), ())), ((r1404.2.1.set x1407 x1408), (x1409, ((r1404.2.2.2.1.1, (r1404.2.2.2.1.2.1, ((), ((), ())))), ())))))
theorem e21v0 (F : i21v0.Y → Option o21v0.Y) : ∀ a, (jxN F) a = jjo (jjd (c21v0 F) [(506, jjb s21v0_506 jzb (jqP F))]) b21v0 i21v0 o21v0 a := fun a => by kernel_rfl
theorem zz21v0 (F : i21v0.Y → Option o21v0.Y) (h : ∀ T, (tt T).ok Pz T) (h36 : jja Pz 36 S36) (hF : jja Pz 21 (SF21v0 F)) : jja Pz 21 (jjf tt 104 i21v0 o21v0 [.tmp 4] [0] (jxN F)) :=
 have H := (k21v0 F) h h36 hF
 jjk (fn := Tryz.f21) (fr := [(506, jjb s21v0_506 jzb (jqP F))]) H (by kernel_rfl) (by kernel_rfl) (by kernel_rfl) (by kernel_rfl) (by kernel_rfl) ⟨(q21v0_506 F) H, trivial⟩ (by kernel_rfl) (fun y => ⟨_, _, rfl, rfl, rfl⟩) (e21v0 F)
noncomputable def f21v0 : i21v0.Y → Option o21v0.Y := jxi jxN jzL
noncomputable def S21v0 : jjF := jjf tt 104 i21v0 o21v0 [.tmp 4] [0] f21v0
theorem z21v0 (h : ∀ T, (tt T).ok Pz T) (h36 : jja Pz 36 S36) : jja Pz 21 S21v0 := rec_ok (ff := jxN) (fun F hF => zz21v0 F h h36 hF) jzL
structure Idx (ps : List Pack) (es : List (Str × Int)) : Prop where
 hit : ∀ n q, ps.find? (fun q => q.name == n) = some q → ∃ k : Nat, ps[k]? = some q ∧ q.name = n ∧ jqm es n = some (k : Int)
 miss : ∀ n, ps.find? (fun q => q.name == n) = none → jqm es n = none
 nod : ∀ (i j : Nat) (p q : Pack), ps[i]? = some p → ps[j]? = some q → p.name = q.name → i = j
def jxU (ps : List Pack) (out op : List Str) : List Int := ps.map fun q => bif out.contains q.name then 2 else bif op.contains q.name then 1 else 0
theorem stOf_len (ps : List Pack) (out op : List Str) : (jxU ps out op).length = ps.length := by simp [jxU]
theorem jJd {ps : List Pack} {k : Nat} {q : Pack} (h : ps[k]? = some q) (out op : List Str) : (jxU ps out op)[k]? = some (bif out.contains q.name then 2 else bif op.contains q.name then 1 else 0) := by
 simp [jxU, h]
theorem con_app (l : List Str) (x y : Str) : (l ++ [x]).contains y = (l.contains y || y == x) := by
 rw [Bool.eq_iff_iff]
 simp only [List.contains_iff_mem, List.mem_append, List.mem_singleton, Bool.or_eq_true, beq_iff_eq]
theorem st_open {ps : List Pack} {es : List (Str × Int)} (I : Idx ps es) {k : Nat} {q : Pack} (h : ps[k]? = some q) {out op : List Str} (ho : out.contains q.name = false) : (jxU ps out op).set k 1 = jxU ps out (op ++ [q.name]) := by
 apply List.ext_getElem?
 intro i
 rw [List.getElem?_set]
 by_cases hik : k = i
 ·subst hik
  have hlt : k < (jxU ps out op).length := by rw [stOf_len]; exact jjv h
  rw [if_pos rfl, if_pos hlt, jJd h, ho, con_app]
  simp
 ·rw [if_neg hik]
  cases hi : ps[i]? with
  | none => simp [jxU, hi]
  | some p =>
   rw [jJd hi, jJd hi, con_app]
   have : (p.name == q.name) = false := by
    cases he : (p.name == q.name) with
    | false => rfl
    | true => exact absurd (I.nod i k p q hi h (eq_of_beq he)).symm hik
   rw [this, Bool.or_false]
theorem st_done {ps : List Pack} {es : List (Str × Int)} (I : Idx ps es) {k : Nat} {q : Pack} (h : ps[k]? = some q) {out op : List Str} : (jxU ps out (op ++ [q.name])).set k 2 = jxU ps (out ++ [q.name]) op := by
 apply List.ext_getElem?
 intro i
 rw [List.getElem?_set]
 by_cases hik : k = i
 ·subst hik
  have hlt : k < (jxU ps out (op ++ [q.name])).length := by rw [stOf_len]; exact jjv h
  rw [if_pos rfl, if_pos hlt, jJd h, con_app]
  simp
 ·rw [if_neg hik]
  cases hi : ps[i]? with
  | none => simp [jxU, hi]
  | some p =>
   rw [jJd hi, jJd hi, con_app, con_app]
   have : (p.name == q.name) = false := by
    cases he : (p.name == q.name) with
    | false => rfl
    | true => exact absurd (I.nod i k p q hi h (eq_of_beq he)).symm hik
   rw [this, Bool.or_false, Bool.or_false]
abbrev boxY (ps : List Pack) (es : List (Str × Int)) (st : List Int) (out : List Str) : YSites i21v0.sites := (st, (out, ((ps, (es, ((), ((), ())))), ())))
def CloI (ps : List Pack) (es : List (Str × Int)) (op : List Str) (r : Sum (List Str) Int) (x : Option o21v0.Y) : Prop :=
 (∃ o, r = .inl o ∧ (Nms ps o ∧ Dis op o) ∧ x = some (((), ((0 : Int), ())), boxY ps es (jxU ps o op) o)) ∨ (∃ c st o, r = .inr c ∧ c ≠ 0 ∧ x = some (((), (c, ())), boxY ps es st o))
theorem v_addNs (ps : List Pack) (es : List (Str × Int)) (I : Idx ps es) (hb : BdPs ps) (hv : VS ps) (hok : ps.all jxP = true) (name : Str) (kI : Int) (p : Pack) (hp : p ∈ ps) (wth : List Str) (rec : Str → List Str → Sum (List Str) Int) (F : i21v0.Y → Option o21v0.Y)
  (hF : ∀ nm out, Nms ps out ∧ Dis wth out → CloI ps es wth (rec nm out) (F (((), (nm, ())), boxY ps es (jxU ps out wth) out))) : ∀ (r : List Need) (i : Nat) (out : List Str), p.needs.drop i = r → i ≤ p.needs.length → Nms ps out ∧ Dis wth out →
  (∃ o, jJW rec ps r out = .inl o ∧ (Nms ps o ∧ Dis wth o) ∧ jqP F (((), (name, (kI, (p.needs, ((p.needs.length : Int), ((i : Int), ())))))), boxY ps es (jxU ps out wth) out) = some (.inr (((), (name, (kI, ()))), boxY ps es (jxU ps o wth) o))) ∨
  (∃ c st o, jJW rec ps r out = .inr c ∧ c ≠ 0 ∧ jqP F (((), (name, (kI, (p.needs, ((p.needs.length : Int), ((i : Int), ())))))), boxY ps es (jxU ps out wth) out) = some (.inl (((), (c, ())), boxY ps es st o))) := by
 intro r
 induction r with
 | nil =>
  intro i out hr hi ho
  have := drop_nil hr
  have d1 : decide ((i : Int) < (p.needs.length : Int)) = false := by simp only [decide_eq_false_iff_not]; omega
  refine .inl ⟨out, rfl, ho, jjE ?_⟩
  simp only [jxb, d1, cond_false]
 | cons n r ih =>
  intro i out hr hi ho
  obtain ⟨c1, c2, c3⟩ := jqg hr
  have hnm := List.mem_of_getElem? c1
  have hlen : p.needs.length ≤ 2097152 := (hb.2 p hp).2.2.1.1
  have hw : Sm i := by unfold Sm; omega
  cases hf : ps.find? (fun q => q.name == n.name) with
  | none =>
   have hm := I.miss _ hf
   simp only [jJW, hf]
   refine .inr ⟨3, jxU ps out wth, out, rfl, by decide, jjE ?_⟩
   simp only [jxb, jjA c3, cond_true, jjs, c1, Option.bind_some, hm, Option.isSome_none, jqf, Bool.not_false]
  | some q =>
   obtain ⟨k, hk, hqn, hm⟩ := I.hit _ _ hf
   have hqm := List.mem_of_getElem? hk
   have hq := hv q hqm
   have hqok := List.all_eq_true.1 hok q hqm
   have hpok := List.all_eq_true.1 hok p hp
   unfold jxP jQb at hqok hpok
   simp only [Bool.and_eq_true] at hqok hpok
   have hno : jqH n = true := List.all_eq_true.1 hpok.1.2.1.1 n hnm
   have hnb := (hb.2 p hp).2.2.1.2 n hnm
   have hft := v_NeedFits (((n.name, (n.kind, (n.version, ()))), (n.name, (q.version, ()))), ()) hnb.1 ((hv p hp).2 n hnm) hq.1
   have hfb : fitsB ⟨n.name, n.kind, n.version⟩ n.name q.version = jJV n q.version := by
    unfold fitsB
    have e1 : jqH ⟨n.name, n.kind, n.version⟩ = true := hno
    rw [e1, hqok.1.1.2]
    simp
   simp only [hfb] at hft
   simp only [jJW, hf]
   cases hfit : jJV n q.version with
   | false =>
    rw [hfit] at hft
    refine .inr ⟨3, jxU ps out wth, out, rfl, by decide, jjE ?_⟩
    simp only [jxb, jjA c3, cond_true, jjs, c1, Option.bind_some, hm, Option.isSome_some, Option.getD_some, jqf, Bool.not_true, Bool.not_false, cond_false, hk, hft]
   | true =>
    rw [hfit] at hft
    simp only [cond_true]
    rcases hF n.name out ho with ⟨o, g1, g2, g3⟩ | ⟨c, st, o, g1, g2, g3⟩
    ·rw [g1]
     have step : jxb F (((), (name, (kI, (p.needs, ((p.needs.length : Int), ((i : Int), ())))))), boxY ps es (jxU ps out wth) out) = some (.inl (((), (name, (kI, (p.needs, ((p.needs.length : Int), (((i + 1 : Nat) : Int), ())))))), boxY ps es (jxU ps o wth) o)) := by
      simp only [jxb, jjA c3, cond_true, jjs, c1, Option.bind_some, hm, Option.isSome_some, Option.getD_some, jqf, Bool.not_true, cond_false, hk, hft, g3, bne_self_eq_false, jjj hw]
     have e : jqP F (((), (name, (kI, (p.needs, ((p.needs.length : Int), ((i : Int), ())))))), boxY ps es (jxU ps out wth) out) = _ := jqc step
     rw [e]
     exact ih (i + 1) o c2 c3 g2
    ·rw [g1]
     have hc : (c != 0) = true := by simpa using g2
     refine .inr ⟨c, st, o, rfl, g2, jjE ?_⟩
     simp only [jxb, jjA c3, cond_true, jjs, c1, Option.bind_some, hm, Option.isSome_some, Option.getD_some, jqf, Bool.not_true, cond_false, hk, hft, g3, hc]
theorem v_add (ps : List Pack) (es : List (Str × Int)) (I : Idx ps es) (hb : BdPs ps) (hv : VS ps) (hok : ps.all jxP = true) (hl : ps.length ≤ 1000000) : ∀ (m : Nat) (op : List Str), Nms ps op → ps.length < m + op.length → ∀ (f : Nat), m ≤ f → ∀ name out, Nms ps out ∧ Dis op out →
  CloI ps es op (clo ps m op name out) (jxi jxN f (((), (name, ())), boxY ps es (jxU ps out op) out)) := by
 intro m
 induction m with
 | zero => intro op ho hm; have := ho.len; omega
 | succ m ih =>
  intro op ho hm f hf name out hout
  obtain ⟨f, rfl⟩ : ∃ f', f = f' + 1 := ⟨f - 1, by omega⟩
  have hol := ho.len
  have houtl := hout.1.len
  show CloI ps es op _ (jxN (jxi jxN f) (((), (name, ())), boxY ps es (jxU ps out op) out))
  simp only [clo]
  cases hfd : ps.find? (fun q => q.name == name) with
  | none =>
   have hmis := I.miss _ hfd
   have c1 : out.contains name = false := by
    cases hc : out.contains name with
    | false => rfl
    | true =>
     obtain ⟨q, hq⟩ := hout.1.2 name (by simpa using hc)
     rw [hfd] at hq; cases hq
   rw [c1]
   refine .inr ⟨3, jxU ps out op, out, rfl, by decide, ?_⟩
   simp only [jxN, hmis, Option.isSome_none, Bool.not_false, cond_true]
  | some p =>
   obtain ⟨k, hk, hpn, hm1⟩ := I.hit _ _ hfd
   have hkl : k < (jxU ps out op).length := by rw [stOf_len]; exact jjv hk
   have hat := jJd hk out op
   rw [hpn] at hat
   cases c1 : out.contains name with
   | true =>
    rw [c1] at hat
    refine .inl ⟨out, rfl, hout, ?_⟩
    simp only [jxN, hm1, Option.isSome_some, Bool.not_true, cond_false, cond_true, Option.getD_some, jqQ hkl, Option.bind_some, hat, beq_self_eq_true]
   | false =>
    rw [c1] at hat
    simp only [cond_false]
    cases c2 : op.contains name with
    | true =>
     rw [c2] at hat
     have t1 : ((1 : Int) == 2) = false := rfl
     refine .inr ⟨4, jxU ps out op, out, rfl, by decide, ?_⟩
     simp only [jxN, hm1, Option.isSome_some, Bool.not_true, cond_false, cond_true, Option.getD_some, jqQ hkl, Option.bind_some, hat, beq_self_eq_true, t1]
    | false =>
     rw [c2] at hat
     have t1 : ((0 : Int) == 2) = false := rfl
     have t2 : ((0 : Int) == 1) = false := rfl
     have hpc1 : out.contains p.name = false := by rw [hpn]; exact c1
     have ho' := ho.add c2 hfd
     have hset := st_open I hk (op := op) hpc1
     rw [hpn] at hset
     have hdis : Nms ps out ∧ Dis (op ++ [name]) out := ⟨hout.1, fun s hs => by
      rcases List.mem_append.1 hs with hs | hs
      ·exact hout.2 s hs
      ·rw [List.mem_singleton.1 hs]; simpa using c1⟩
     have loop := v_addNs ps es I hb hv hok name (k : Int) p (List.mem_of_getElem? hk) (op ++ [name]) (clo ps m (op ++ [name])) (jxi jxN f)
      (fun nm out' h' => ih (op ++ [name]) ho' (by simp; omega) f (by omega) nm out' h') p.needs 0 out rfl (Nat.zero_le _) hdis
     simp only [cond_false]
     rcases loop with ⟨o, g1, g2, g3⟩ | ⟨c, st, o, g1, g2, g3⟩
     ·have g3 : jqP (jxi jxN f) (((), (name, ((k : Int), (p.needs, ((p.needs.length : Int), ((0 : Int), ())))))), boxY ps es (jxU ps out (op ++ [name])) out) = _ := g3
      have hoo := g2.1.len
      have hkl2 : k < (jxU ps o (op ++ [name])).length := by rw [stOf_len]; exact jjv hk
      have hat2 := jJd hk o (op ++ [name])
      have hset2 := st_done I hk (out := o) (op := op)
      rw [hpn] at hset2
      have a4 : apd 16 o [name] = some (o ++ [name]) := jj0 (by decide) (by unfold Sm; simp; omega)
      have hno : o.contains name = false := by
       have := g2.2 name (by simp)
       simpa using this
      rw [g1]
      refine .inl ⟨o ++ [name], rfl, ⟨g2.1.add hno hfd, fun s hs hs' => ?_⟩, ?_⟩
      ·rcases List.mem_append.1 hs' with hs' | hs'
       ·exact g2.2 s (List.mem_append.2 (.inl hs)) hs'
       ·rw [List.mem_singleton.1 hs'] at hs
        have : name ∉ op := by simpa using c2
        exact this hs
      ·simp only [jxN, hm1, Option.isSome_some, Bool.not_true, cond_false, cond_true, Option.getD_some, jqQ hkl, Option.bind_some, hat, t1, t2, jjs, hk, hset, g3, jqQ hkl2, hat2, a4, hset2]
     ·have g3 : jqP (jxi jxN f) (((), (name, ((k : Int), (p.needs, ((p.needs.length : Int), ((0 : Int), ())))))), boxY ps es (jxU ps out (op ++ [name])) out) = _ := g3
      rw [g1]
      refine .inr ⟨c, st, o, rfl, g2, ?_⟩
      simp only [jxN, hm1, Option.isSome_some, Bool.not_true, cond_false, cond_true, Option.getD_some, jqQ hkl, Option.bind_some, hat, t1, t2, jjs, hk, hset, g3]
noncomputable def c20 : Ctx := { tt := tt, fs := fun n => match n with | 34 => some S34v0 | _ => none }
theorem k20 (h : ∀ T, (tt T).ok Pz T) (h34v0 : jja Pz 34 S34v0) : CtxGood Pz c20 := ⟨⟨h⟩, fun g S hg => (by
 simp only [c20] at hg
 split at hg
 ·cases hg; exact h34v0
 ·cases hg), jjp, fun _ _ h => (by cases h), fun _ h => (by cases h)⟩
noncomputable def b20 : Code := jji Tryz.f20
@[reducible] noncomputable def s20_122 : Shape := ⟨[(0, .lf (.d (.sl .pack))), (4, .lf (.own 3000256)), (13, .lf (.d (.sl .pack))), (14, .lf (.d (.int .i64))), (15, .lf (.d (.int .i64)))], [(3000256, .map .i64, .slot 4 0)], 31⟩
@[reducible] noncomputable def t20_122 : List OSh := [(.exit 0, ⟨[(0, .lf (.d (.sl .pack))), (4, .lf (.own 3000256))], [(3000256, .map .i64, .slot 4 0)], 31⟩)]
noncomputable def g20_122 (y : s20_122.Y) : Option (Sum s20_122.Y (YS t20_122)) :=
 bif (decide (y.1.2.2.2.2.1 < y.1.2.2.2.1)) then
(ix y.1.2.2.1 y.1.2.2.2.2.1).bind fun x1268 =>
 some (.inl ((y.1.1, ((), (y.1.2.2.1, (y.1.2.2.2.1, ((IntKind.i64.wrap (y.1.2.2.2.2.1 + (1 : Int))), ()))))), ((jqV y.2.1 x1268.name y.1.2.2.2.2.1), ())))
else
 some (.inr (((y.1.1, ((), ())), (y.2.1, ()))))
theorem r20_122 : ∀ y, g20_122 y = jjz (jjd c20 []) (jjl (jjc b20 1 122)) 122 s20_122 t20_122 y := fun y => by kernel_rfl
noncomputable def l20_122 : s20_122.Y → Option (YS t20_122) := jjC g20_122
theorem q20_122 (H : CtxGood Pz c20) : jjn Pz (jjc b20 1 122) (jjb s20_122 t20_122 l20_122) :=
 jjt (fr := []) H (by kernel_rfl) (by kernel_rfl) jje (fun y => jjh r20_122 y)
@[reducible] noncomputable def i20 : Shape := ⟨[(0, .lf (.d (.sl .pack)))], [], 31⟩
@[reducible] noncomputable def o20 : Shape := ⟨[(2, .lf (.d (.map .i64))), (3, .lf (.d (.int .i64)))], [], 31⟩
noncomputable def f20 (a : i20.Y) : Option o20.Y :=
(f34v0 ((a.1.1, ((), ())), ())).bind fun r1264 =>
 bif (!r1264.1.1) then
 some ((([] : List (Str × Int)), ((1 : Int), ())), ())
else
(l20_122 ((a.1.1, ((), (a.1.1, ((a.1.1.length : Int), ((0 : Int), ()))))), (([] : List (Str × Int)), ()))).bind fun r1270 =>
 bif ((r1270.2.1.length : Int) != (r1270.1.1.length : Int)) then
 some ((([] : List (Str × Int)), ((2 : Int), ())), ())
else
 some ((r1270.2.1, ((0 : Int), ())), ())
theorem e20 : ∀ a, f20 a = jjo (jjd c20 [(122, jjb s20_122 t20_122 l20_122)]) b20 i20 o20 a := fun a => by kernel_rfl
noncomputable def S20 : jjF := jjf tt 31 i20 o20 [.tmp 2, .tmp 3] [] f20
theorem z20 (h : ∀ T, (tt T).ok Pz T) (h34v0 : jja Pz 34 S34v0) : jja Pz 20 S20 :=
 have H := k20 h h34v0
 jjk (fn := Tryz.f20) (fr := [(122, jjb s20_122 t20_122 l20_122)]) H (by kernel_rfl) (by kernel_rfl) (by kernel_rfl) (by kernel_rfl) (by kernel_rfl) ⟨q20_122 H, trivial⟩ (by kernel_rfl) (fun y => ⟨_, _, rfl, rfl, rfl⟩) e20
noncomputable def c8 : Ctx := { tt := tt, fs := fun n => match n with | 20 => some S20 | 21 => some S21v0 | _ => none }
theorem k8 (h : ∀ T, (tt T).ok Pz T) (h20 : jja Pz 20 S20) (h21v0 : jja Pz 21 S21v0) : CtxGood Pz c8 := ⟨⟨h⟩, fun g S hg => (by
 simp only [c8] at hg
 split at hg
 ·cases hg; exact h20
 ·cases hg; exact h21v0
 ·cases hg), jjp, fun _ _ h => (by cases h), fun _ h => (by cases h)⟩
noncomputable def b8 : Code := jji Tryz.f8
@[reducible] noncomputable def s8_250 : Shape := ⟨[(8, .lf (.ptr 8 0)), (26, .lf (.d (.sl .str))), (27, .lf (.d (.int .i64))), (28, .lf (.d (.int .i64)))], [(5000514, .row .i64, .cell 8 2), (5000515, .row .str, .cell 8 3), (8, .box [.d (.sl .pack), .d (.map .i64), .own 5000514, .own 5000515], .same)], 40⟩
@[reducible] noncomputable def t8_250 : List OSh := [(.ret, ⟨[(4, .lf (.own 3000256)), (5, .lf (.d (.int .i64)))], [(3000256, .row .str, .slot 4 0)], 40⟩), (.exit 0, ⟨[(8, .lf (.ptr 8 0))], [(5000514, .row .i64, .cell 8 2), (5000515, .row .str, .cell 8 3), (8, .box [.d (.sl .pack), .d (.map .i64), .own 5000514, .own 5000515], .same)], 40⟩)]
noncomputable def g8_250 (y : s8_250.Y) : Option (Sum s8_250.Y (YS t8_250)) :=
 bif (decide (y.1.2.2.2.1 < y.1.2.2.1)) then
(ix y.1.2.1 y.1.2.2.2.1).bind fun x1413 =>
(f21v0 (((), (x1413, ())), (y.2.1, (y.2.2.1, ((y.2.2.2.1.1, (y.2.2.2.1.2.1, ((), ((), ())))), ()))))).bind fun r1415 =>
 bif (r1415.1.2.1 != (0 : Int)) then
 some (.inr (.inl (((), (r1415.1.2.1, ())), (([] : List Str), ()))))
else
 some (.inl (((), (y.1.2.1, (y.1.2.2.1, ((IntKind.i64.wrap (y.1.2.2.2.1 + (1 : Int))), ())))), (r1415.2.1, (r1415.2.2.1, ((r1415.2.2.2.1.1, (r1415.2.2.2.1.2.1, ((), ((), ())))), ())))))
else
 some (.inr (.inr (((), ()), (y.2.1, (y.2.2.1, ((y.2.2.2.1.1, (y.2.2.2.1.2.1, ((), ((), ())))), ()))))))
theorem r8_250 : ∀ y, g8_250 y = jjz (jjd c8 []) (jjl (jjc b8 1 250)) 250 s8_250 t8_250 y := fun y => by kernel_rfl
noncomputable def l8_250 : s8_250.Y → Option (YS t8_250) := jjC g8_250
theorem q8_250 (H : CtxGood Pz c8) : jjn Pz (jjc b8 1 250) (jjb s8_250 t8_250 l8_250) :=
 jjt (fr := []) H (by kernel_rfl) (by kernel_rfl) jje (fun y => jjh r8_250 y)
@[reducible] noncomputable def i8 : Shape := ⟨[(0, .lf (.d (.sl .pack))), (1, .lf (.d (.sl .str)))], [], 40⟩
@[reducible] noncomputable def o8 : Shape := ⟨[(4, .lf (.own 3000256)), (5, .lf (.d (.int .i64)))], [(3000256, .row .str, .slot 4 0)], 40⟩
noncomputable def f8 (a : i8.Y) : Option o8.Y :=
(f20 ((a.1.1, ()), ())).bind fun r1276 =>
 bif (r1276.1.2.1 != (0 : Int)) then
 some (((), (r1276.1.2.1, ())), (([] : List Str), ()))
else
(mk0 8 (a.1.1.length : Int) (a.1.1.length : Int) (0 : Int)).bind fun x1278 =>
(l8_250 (((), (a.1.2.1, ((a.1.2.1.length : Int), ((0 : Int), ())))), (x1278, (([] : List Str), ((a.1.1, (r1276.1.1, ((), ((), ())))), ()))))).bind fun r1419 =>
(match r1419 with
| .inl r1420 =>
 some (((), (r1420.1.2.1, ())), (r1420.2.1, ()))
| .inr r1421 =>
 some (((), ((0 : Int), ())), (r1421.2.2.1, ())))
theorem e8 : ∀ a, f8 a = jjo (jjd c8 [(250, jjb s8_250 t8_250 l8_250)]) b8 i8 o8 a := fun a => by kernel_rfl
noncomputable def S8 : jjF := jjf tt 40 i8 o8 [.tmp 4, .tmp 5] [] f8
theorem z8 (h : ∀ T, (tt T).ok Pz T) (h20 : jja Pz 20 S20) (h21v0 : jja Pz 21 S21v0) : jja Pz 8 S8 :=
 have H := k8 h h20 h21v0
 jjk (fn := Tryz.f8) (fr := [(250, jjb s8_250 t8_250 l8_250)]) H (by kernel_rfl) (by kernel_rfl) (by kernel_rfl) (by kernel_rfl) (by kernel_rfl) ⟨q8_250 H, trivial⟩ (by kernel_rfl) (fun y => ⟨_, _, rfl, rfl, rfl⟩) e8
def jJj (es : List (Str × Int)) : List Str := es.map (·.1)
def bld (es : List (Str × Int)) (i : Nat) : List Pack → List (Str × Int)
 | [] => es
 | p :: r => bld (jqV es p.name (i : Int)) (i + 1) r
def zipN (i : Nat) : List Pack → List (Str × Int)
 | [] => []
 | p :: r => (p.name, (i : Int)) :: zipN (i + 1) r
theorem mapPut_new (n : Str) (v : Int) : ∀ es : List (Str × Int), (jJj es).contains n = false → jqV es n v = es ++ [(n, v)] := by
 intro es
 induction es with
 | nil => intro _; rfl
 | cons p es ih =>
  intro h
  simp only [jJj, List.map_cons, List.contains_cons, Bool.or_eq_false_iff] at h
  have h1 : (p.1 == n) = false := by
   cases he : (p.1 == n) with
   | false => rfl
   | true => rw [eq_of_beq he] at h; simp at h
  simp only [jqV, h1, cond_false, ih h.2, List.cons_append]
theorem mapPut_old (n : Str) (v : Int) : ∀ es : List (Str × Int), (jJj es).contains n = true → (jqV es n v).length = es.length := by
 intro es
 induction es with
 | nil => intro h; cases h
 | cons p es ih =>
  intro h
  simp only [jqV]
  cases h1 : (p.1 == n) with
  | true => rfl
  | false =>
   have h2 : (n == p.1) = false := by
    cases he : (n == p.1) with
    | false => rfl
    | true => rw [eq_of_beq he] at h1; simp at h1
   simp only [jJj, List.map_cons, List.contains_cons, h2, Bool.false_or] at h
   simp only [cond_false, List.length_cons, ih h]
theorem bld_ok : ∀ (r : List Pack) (es : List (Str × Int)) (i : Nat), dupA (jJj es) (r.map (·.name)) = false → bld es i r = es ++ zipN i r := by
 intro r
 induction r with
 | nil => intro es i _; simp [bld, zipN]
 | cons p r ih =>
  intro es i h
  simp only [List.map_cons, dupA, Bool.or_eq_false_iff] at h
  have h1 := mapPut_new p.name (i : Int) es h.1
  simp only [bld, zipN]
  rw [h1, ih _ _ (by simp only [jJj, List.map_append, List.map_cons, List.map_nil]; exact h.2)]
  simp
theorem bld_len : ∀ (r : List Pack) (es : List (Str × Int)) (i : Nat), (bld es i r).length ≤ es.length + r.length ∧ (dupA (jJj es) (r.map (·.name)) = true → (bld es i r).length < es.length + r.length) := by
 intro r
 induction r with
 | nil => intro es i; exact ⟨Nat.le_refl _, fun h => by cases h⟩
 | cons p r ih =>
  intro es i
  simp only [bld, List.map_cons, dupA]
  obtain ⟨h1, h2⟩ := ih (jqV es p.name (i : Int)) (i + 1)
  cases hc : (jJj es).contains p.name with
  | true =>
   rw [mapPut_old _ _ _ hc] at h1 h2
   exact ⟨by simp only [List.length_cons]; omega, fun _ => by simp only [List.length_cons]; omega⟩
  | false =>
   have hn := mapPut_new p.name (i : Int) es hc
   have hl : (jqV es p.name (i : Int)).length = es.length + 1 := by rw [hn]; simp
   have hk : jJj (jqV es p.name (i : Int)) = jJj es ++ [p.name] := by rw [hn]; simp [jJj]
   rw [hk] at h2
   rw [hl] at h1 h2
   exact ⟨by simp only [List.length_cons]; omega, fun h => by have := h2 (by simpa using h); simp only [List.length_cons]; omega⟩
theorem zip_get (n : Str) : ∀ (r : List Pack) (i : Nat), (r.find? (fun q => q.name == n) = none → jqm (zipN i r) n = none) ∧
  ∀ q, r.find? (fun q => q.name == n) = some q → ∃ k : Nat, r[k]? = some q ∧ q.name = n ∧ jqm (zipN i r) n = some ((i + k : Nat) : Int) := by
 intro r
 induction r with
 | nil => intro i; exact ⟨fun _ => rfl, fun q h => by cases h⟩
 | cons p r ih =>
  intro i
  obtain ⟨h1, h2⟩ := ih (i + 1)
  simp only [List.find?_cons, zipN, jqm]
  cases hp : (p.name == n) with
  | true => exact ⟨fun h => (by cases h), fun q h => (by cases h; exact ⟨0, rfl, eq_of_beq hp, rfl⟩)⟩
  | false =>
   refine ⟨h1, fun q h => ?_⟩
   obtain ⟨k, k1, k2, k3⟩ := h2 q h
   exact ⟨k + 1, by simpa using k1, k2, by rw [cond_false, k3]; congr 2; omega⟩
theorem dupA_nodup : ∀ (r acc : List Str), dupA acc r = false → acc.Nodup → (acc ++ r).Nodup := by
 intro r
 induction r with
 | nil => intro acc _ h; simpa using h
 | cons x r ih =>
  intro acc h hn
  simp only [dupA, Bool.or_eq_false_iff] at h
  have hx : x ∉ acc := by simpa using h.1
  have := ih (acc ++ [x]) h.2 (by
   rw [List.nodup_append]
   exact ⟨hn, by simp, fun a ha b hb => by rw [List.mem_singleton.1 hb]; exact fun e => hx (e ▸ ha)⟩)
  simpa using this
theorem idx_zip {ps : List Pack} (h : dupA [] (ps.map (·.name)) = false) : Idx ps (zipN 0 ps) := by
 have hn : (ps.map (·.name)).Nodup := by have := dupA_nodup _ _ h List.nodup_nil; simpa using this
 refine ⟨fun n q hq => ?_, fun n hq => (zip_get n ps 0).1 hq, fun i j p q hi hj he => ?_⟩
 ·obtain ⟨k, k1, k2, k3⟩ := (zip_get n ps 0).2 q hq
  exact ⟨k, k1, k2, by rw [Nat.zero_add] at k3; exact k3⟩
 ·have hpw := List.pairwise_iff_getElem.1 hn
  have hil : i < (ps.map (·.name)).length := by rw [List.length_map]; exact jjv hi
  have hjl : j < (ps.map (·.name)).length := by rw [List.length_map]; exact jjv hj
  have ei : (ps.map (·.name))[i] = p.name := by rw [List.getElem_map, (List.getElem?_eq_some_iff.1 hi).2]
  have ej : (ps.map (·.name))[j] = q.name := by rw [List.getElem_map, (List.getElem?_eq_some_iff.1 hj).2]
  rcases Nat.lt_trichotomy i j with hlt | he' | hlt
  ·exact absurd (by rw [ei, ej]; exact he) (hpw i j hil hjl hlt)
  ·exact he'
  ·exact absurd (by rw [ei, ej]; exact he.symm) (hpw j i hjl hil hlt)
theorem v_packIndex (a) (hb : BdPs a.1.1) : f20 a = some (((bif jJg a.1.1 == 0 then zipN 0 a.1.1 else []), (jJg a.1.1, ())), ()) := by
 obtain ⟨⟨ps, u⟩, u'⟩ := a
 have hl : ps.length ≤ 2097152 := hb.1
 have key : ∀ (r : List Pack) (k : Nat) (es : List (Str × Int)), ps.drop k = r → k ≤ ps.length →
   l20_122 ((ps, ((), (ps, ((ps.length : Int), ((k : Int), ()))))), (es, ())) = some ((ps, ((), ())), (bld es k r, ())) := by
  intro r
  induction r with
  | nil =>
   intro k es hr hk
   have := drop_nil hr
   have d1 : decide ((k : Int) < (ps.length : Int)) = false := by simp only [decide_eq_false_iff_not]; omega
   refine jjE ?_
   simp only [g20_122, d1, cond_false, bld]
  | cons q r ih =>
   intro k es hr hk
   obtain ⟨c1, c2, c3⟩ := jqg hr
   have hw : Sm k := by unfold Sm; omega
   refine (jqc ?_).trans (ih (k + 1) (jqV es q.name (k : Int)) c2 c3)
   simp only [g20_122, jjA c3, cond_true, jjs, c1, Option.bind_some, jjj hw]
 have key := key ps 0 [] rfl (Nat.zero_le _)
 have key : l20_122 ((ps, ((), (ps, ((ps.length : Int), ((0 : Int), ()))))), (([] : List (Str × Int)), ())) = _ := key
 have e1 := v_allPack ((ps, ((), ())), ()) hb
 simp only [f20, e1, Option.bind_some, jJg, key]
 cases ps.all jxP with
 | false => rfl
 | true =>
  simp only [Bool.not_true, cond_false, cond_true]
  cases hd : dupA [] (ps.map (·.name)) with
  | true =>
   have := (bld_len ps [] 0).2 hd
   have hne : (((bld [] 0 ps).length : Int) != (ps.length : Int)) = true := by simp at this ⊢; omega
   rw [hne]; rfl
  | false =>
   have hbl := bld_ok ps [] 0 hd
   rw [List.nil_append] at hbl
   have hz : ∀ (r : List Pack) (i : Nat), (zipN i r).length = r.length := by
    intro r
    induction r with
    | nil => intro i; rfl
    | cons p r ih => intro i; simp only [zipN, List.length_cons, ih]
   have hne : (((bld [] 0 ps).length : Int) != (ps.length : Int)) = false := by rw [hbl, hz]; simp
   rw [hne, hbl]; rfl
theorem st_zero (ps : List Pack) : jxU ps [] [] = List.replicate ps.length 0 := by
 induction ps with
 | nil => rfl
 | cons p ps ih =>
  have : jxU (p :: ps) [] [] = 0 :: jxU ps [] [] := rfl
  rw [this, ih]; rfl
theorem v_iClosure (a) (hb : BdPs a.1.1) (hv : VS a.1.1) (hl : a.1.1.length ≤ 1000000) (hn : a.1.2.1.length ≤ 1000000) : f8 a = some (((), ((closeL a.1.1 a.1.2.1).2, ())), ((closeL a.1.1 a.1.2.1).1, ())) := by
 obtain ⟨⟨ps, names, u⟩, u'⟩ := a
 have hl : ps.length ≤ 1000000 := hl
 have hn : names.length ≤ 1000000 := hn
 have e0 := v_packIndex ((ps, ()), ()) hb
 have zz : (jJg ps != 0) = !(jJg ps == 0) := rfl
 simp only [f8, e0, Option.bind_some, zz, closeL]
 cases hz : (jJg ps == 0) with
 | false => rfl
 | true =>
  have hok : ps.all jxP = true ∧ dupA [] (ps.map (·.name)) = false := by
   unfold jJg at hz
   cases h1 : ps.all jxP with
   | false => rw [h1] at hz; cases hz
   | true =>
    rw [h1] at hz
    cases h2 : dupA [] (ps.map (·.name)) with
    | true => rw [h2] at hz; cases hz
    | false => exact ⟨rfl, rfl⟩
  have I := idx_zip hok.2
  have hmk : mk0 8 (ps.length : Int) (ps.length : Int) (0 : Int) = some (jxU ps [] []) := by
   unfold mk0
   rw [if_pos ⟨by omega, by omega, by unfold room; omega, by unfold maxLen; omega⟩, Int.toNat_natCast, st_zero]
  have key : ∀ (r : List Str) (i : Nat) (out : List Str), names.drop i = r → i ≤ names.length → Nms ps out ∧ Dis [] out →
    (∃ o, jxW ps (ps.length + 1) r out = .inl o ∧ l8_250 (((), (names, ((names.length : Int), ((i : Int), ())))), boxY ps (zipN 0 ps) (jxU ps out []) out) = some (.inr (((), ()), boxY ps (zipN 0 ps) (jxU ps o []) o))) ∨
    (∃ c, jxW ps (ps.length + 1) r out = .inr c ∧ c ≠ 0 ∧ l8_250 (((), (names, ((names.length : Int), ((i : Int), ())))), boxY ps (zipN 0 ps) (jxU ps out []) out) = some (.inl (((), (c, ())), (([] : List Str), ())))) := by
   intro r
   induction r with
   | nil =>
    intro i out hr hi ho
    have := drop_nil hr
    have d1 : decide ((i : Int) < (names.length : Int)) = false := by simp only [decide_eq_false_iff_not]; omega
    refine .inl ⟨out, rfl, jjE ?_⟩
    simp only [g8_250, d1, cond_false]
   | cons n r ih =>
    intro i out hr hi ho
    obtain ⟨c1, c2, c3⟩ := jqg hr
    have hw : Sm i := by unfold Sm; omega
    simp only [jxW]
    rcases v_add ps (zipN 0 ps) I hb hv hok.1 hl (ps.length + 1) [] (Nms.nil ps) (by simp) jzL (fuel_big (by omega)) n out ho with ⟨o, g1, g2, g3⟩ | ⟨c, st, o, g1, g2, g3⟩
    ·have g3 : f21v0 (((), (n, ())), boxY ps (zipN 0 ps) (jxU ps out []) out) = _ := g3
     rw [g1]
     have step : g8_250 (((), (names, ((names.length : Int), ((i : Int), ())))), boxY ps (zipN 0 ps) (jxU ps out []) out) = some (.inl (((), (names, ((names.length : Int), (((i + 1 : Nat) : Int), ())))), boxY ps (zipN 0 ps) (jxU ps o []) o)) := by
      simp only [g8_250, jjA c3, cond_true, jjs, c1, Option.bind_some, g3, bne_self_eq_false, cond_false, jjj hw]
     have e : l8_250 (((), (names, ((names.length : Int), ((i : Int), ())))), boxY ps (zipN 0 ps) (jxU ps out []) out) = _ := jqc step
     rw [e]
     exact ih (i + 1) o c2 c3 g2
    ·have g3 : f21v0 (((), (n, ())), boxY ps (zipN 0 ps) (jxU ps out []) out) = _ := g3
     rw [g1]
     have hc : (c != 0) = true := by simpa using g2
     refine .inr ⟨c, rfl, g2, jjE ?_⟩
     simp only [g8_250, jjA c3, cond_true, jjs, c1, Option.bind_some, g3, hc]
  simp only [Bool.not_true, cond_false, cond_true, hmk, Option.bind_some]
  rcases key names 0 [] rfl (Nat.zero_le _) ⟨Nms.nil ps, fun s hs => by cases hs⟩ with ⟨o, g1, g2⟩ | ⟨c, g1, g2, g3⟩
  ·have g2 : l8_250 (((), (names, ((names.length : Int), ((0 : Int), ())))), boxY ps (zipN 0 ps) (jxU ps [] []) []) = _ := g2
   simp only [g1, g2, Option.bind_some]
  ·have g3 : l8_250 (((), (names, ((names.length : Int), ((0 : Int), ())))), boxY ps (zipN 0 ps) (jxU ps [] []) []) = _ := g3
   simp only [g1, g3, Option.bind_some]
noncomputable def c10 : Ctx := { tt := tt, fs := fun n => match n with | _ => none }
theorem k10 (h : ∀ T, (tt T).ok Pz T) : CtxGood Pz c10 := ⟨⟨h⟩, fun g S hg => (by cases hg), jjp, fun _ _ h => (by cases h), fun _ h => (by cases h)⟩
noncomputable def b10 : Code := jji Tryz.f10
@[reducible] noncomputable def s10_58 : Shape := ⟨[(0, .lf (.d (.sl .str))), (1, .lf (.d (.sl .str))), (5, .lf (.d (.int .i64)))], [], 26⟩
@[reducible] noncomputable def t10_58 : List OSh := [(.ret, ⟨[(4, .lf (.d (.bool)))], [], 26⟩), (.exit 0, ⟨[], [], 26⟩)]
noncomputable def g10_58 (y : s10_58.Y) : Option (Sum s10_58.Y (YS t10_58)) :=
 bif (decide (y.1.2.2.1 < (y.1.1.length : Int))) then
(ix y.1.1 y.1.2.2.1).bind fun x1822 =>
(ix y.1.2.1 y.1.2.2.1).bind fun x1823 =>
 bif (!(x1822 == x1823)) then
 some (.inr (.inl ((false, ()), ())))
else
 some (.inl ((y.1.1, (y.1.2.1, ((IntKind.i64.wrap (y.1.2.2.1 + (1 : Int))), ()))), ()))
else
 some (.inr (.inr ((), ())))
theorem r10_58 : ∀ y, g10_58 y = jjz (jjd c10 []) (jjl (jjc b10 1 58)) 58 s10_58 t10_58 y := fun y => by kernel_rfl
noncomputable def l10_58 : s10_58.Y → Option (YS t10_58) := jjC g10_58
theorem q10_58 (H : CtxGood Pz c10) : jjn Pz (jjc b10 1 58) (jjb s10_58 t10_58 l10_58) :=
 jjt (fr := []) H (by kernel_rfl) (by kernel_rfl) jje (fun y => jjh r10_58 y)
@[reducible] noncomputable def i10 : Shape := ⟨[(0, .lf (.d (.sl .str))), (1, .lf (.d (.sl .str)))], [], 26⟩
@[reducible] noncomputable def o10 : Shape := ⟨[(4, .lf (.d (.bool)))], [], 26⟩
noncomputable def f10 (a : i10.Y) : Option o10.Y :=
 bif ((a.1.1.length : Int) != (a.1.2.1.length : Int)) then
 some ((false, ()), ())
else
(l10_58 ((a.1.1, (a.1.2.1, ((0 : Int), ()))), ())).bind fun r1824 =>
(match r1824 with
| .inl r1825 =>
 some ((r1825.1.1, ()), ())
| .inr r1826 =>
 some ((true, ()), ()))
theorem e10 : ∀ a, f10 a = jjo (jjd c10 [(58, jjb s10_58 t10_58 l10_58)]) b10 i10 o10 a := fun a => by kernel_rfl
noncomputable def S10 : jjF := jjf tt 26 i10 o10 [.tmp 4] [] f10
theorem z10 (h : ∀ T, (tt T).ok Pz T) : jja Pz 10 S10 :=
 have H := k10 h
 jjk (fn := Tryz.f10) (fr := [(58, jjb s10_58 t10_58 l10_58)]) H (by kernel_rfl) (by kernel_rfl) (by kernel_rfl) (by kernel_rfl) (by kernel_rfl) ⟨q10_58 H, trivial⟩ (by kernel_rfl) (fun y => ⟨_, _, rfl, rfl, rfl⟩) e10
@[reducible] noncomputable def s19v0_31306 : Shape := ⟨[(0, .lf (.ptr 500000 0)), (3, .lf (.own 3000192)), (4, .lf (.d (.sl .str))), (5, .lf (.d (.int .i64))), (6, .lf (.ptr 6 0)), (18, .lf (.d (.sl .str))), (19, .lf (.d (.int .i64))), (21, .lf (.d (.str))), (22, .lf (.ptr 500000 0)), (23, .lf (.d (.str))), (24, .agg [.d (.str), .d (.str), .own 3001538, .own 3001539])], [(500000, .box [.d (.sl .u8), .d (.int .i64)], .same), (3000192, .row .pack, .slot 3 0), (5000386, .row .need, .cell 6 2), (5000387, .row .entry, .cell 6 3), (6, .box [.d (.str), .d (.str), .own 5000386, .own 5000387], .same), (3001538, .row .need, .slot 24 2), (3001539, .row .entry, .slot 24 3)], 47⟩
@[reducible] noncomputable def t19v0_31306 : List OSh := [(.norm, ⟨[(0, .lf (.ptr 500000 0)), (3, .lf (.own 3000192)), (4, .lf (.d (.sl .str))), (5, .lf (.d (.int .i64))), (6, .lf (.ptr 6 0)), (18, .lf (.d (.sl .str))), (19, .lf (.d (.int .i64))), (21, .lf (.d (.str))), (22, .lf (.ptr 500000 0)), (23, .lf (.d (.str))), (24, .agg [.d (.str), .d (.str), .own 3001538, .own 3001539])], [(500000, .box [.d (.sl .u8), .d (.int .i64)], .same), (3000192, .row .pack, .slot 3 0), (5000386, .row .need, .cell 6 2), (5000387, .row .entry, .cell 6 3), (6, .box [.d (.str), .d (.str), .own 5000386, .own 5000387], .same), (3001538, .row .need, .slot 24 2), (3001539, .row .entry, .slot 24 3)], 47⟩)]
noncomputable def g19v0_31306 (y : s19v0_31306.Y) : Option (YS t19v0_31306) :=
(jq3 (((), ((2 : Int), ())), ((y.2.1.1, (y.2.1.2.1, ())), ()))).bind fun r94 =>
 bif (r94.1.2.1 == (0 : Int)) then
(jzZ (((), (y.1.2.2.1, ())), ((r94.2.1.1, (r94.2.1.2.1, ())), ()))).bind fun r95 =>
 some ((((), ((), (y.1.2.2.1, (y.1.2.2.2.1, ((), (y.1.2.2.2.2.2.1, (y.1.2.2.2.2.2.2.1, (y.1.2.2.2.2.2.2.2.1, ((), (y.1.2.2.2.2.2.2.2.2.2.1, ((y.1.2.2.2.2.2.2.2.2.2.2.1.1, (y.1.2.2.2.2.2.2.2.2.2.2.1.2.1, ((), ((), ())))), ()))))))))))), ((r95.2.1.1, (r95.2.1.2.1, ())), (y.2.2.1, (([(Need.mk r95.1.2.1 (0 : Int) ([] : Str))] : List Need), (y.2.2.2.2.1, ((y.2.2.2.2.2.1.1, (y.2.2.2.2.2.1.2.1, ((), ((), ())))), (y.2.2.2.2.2.2.1, (y.2.2.2.2.2.2.2.1, ())))))))))
else
 some ((((), ((), (y.1.2.2.1, (y.1.2.2.2.1, ((), (y.1.2.2.2.2.2.1, (y.1.2.2.2.2.2.2.1, (y.1.2.2.2.2.2.2.2.1, ((), (y.1.2.2.2.2.2.2.2.2.2.1, ((y.1.2.2.2.2.2.2.2.2.2.2.1.1, (y.1.2.2.2.2.2.2.2.2.2.2.1.2.1, ((), ((), ())))), ()))))))))))), ((r94.2.1.1, (r94.2.1.2.1, ())), (y.2.2.1, (y.2.2.2.1, (y.2.2.2.2.1, ((y.2.2.2.2.2.1.1, (y.2.2.2.2.2.1.2.1, ((), ((), ())))), (y.2.2.2.2.2.2.1, (y.2.2.2.2.2.2.2.1, ())))))))))
@[reducible] noncomputable def s19v0_122 : Shape := ⟨[(0, .lf (.ptr 500000 0)), (3, .lf (.own 3000192)), (4, .lf (.d (.sl .str))), (5, .lf (.d (.int .i64)))], [(500000, .box [.d (.sl .u8), .d (.int .i64)], .same), (3000192, .row .pack, .slot 3 0)], 47⟩
@[reducible] noncomputable def t19v0_122 : List OSh := [(.exit 0, ⟨[(0, .lf (.ptr 500000 0)), (3, .lf (.own 3000192))], [(500000, .box [.d (.sl .u8), .d (.int .i64)], .same), (3000192, .row .pack, .slot 3 0)], 47⟩)]
noncomputable def g19v0_122 (y : s19v0_122.Y) : Option (Sum s19v0_122.Y (YS t19v0_122)) :=
 bif (decide (y.1.2.2.2.1 < (y.1.2.2.1.length : Int))) then
(jq3 (((), ((4 : Int), ())), ((y.2.1.1, (y.2.1.2.1, ())), ()))).bind fun r99 =>
 bif (decide (r99.1.2.1 > (0 : Int))) then
(ix y.1.2.2.1 y.1.2.2.2.1).bind fun x102 =>
(f32v0 (((), ()), ((r99.2.1.1, (r99.2.1.2.1, ())), ()))).bind fun r103 =>
(g19v0_31306 (((), ((), (y.1.2.2.1, (y.1.2.2.2.1, ((), (y.1.2.2.1, (y.1.2.2.2.1, (x102, ((), (r103.1.2.1, ((x102, (r103.1.2.1, ((), ((), ())))), ()))))))))))), ((r103.2.1.1, (r103.2.1.2.1, ())), (y.2.2.1, (([] : List Need), (([] : List Entry), ((x102, (r103.1.2.1, ((), ((), ())))), (([] : List Need), (([] : List Entry), ()))))))))).bind fun r104 =>
(apd 80 r104.2.2.1 ([(Pack.mk r104.2.2.2.2.2.1.1 r104.2.2.2.2.2.1.2.1 r104.2.2.2.1 r104.2.2.2.2.1)] : List Pack)).bind fun x105 =>
 some (.inl (((), ((), (r104.1.2.2.1, ((IntKind.i64.wrap (r104.1.2.2.2.1 + (1 : Int))), ())))), ((r104.2.1.1, (r104.2.1.2.1, ())), (x105, ()))))
else
 some (.inl (((), ((), (y.1.2.2.1, ((IntKind.i64.wrap (y.1.2.2.2.1 + (1 : Int))), ())))), ((r99.2.1.1, (r99.2.1.2.1, ())), (y.2.2.1, ()))))
else
 some (.inr ((((), ((), ())), ((y.2.1.1, (y.2.1.2.1, ())), (y.2.2.1, ())))))
noncomputable def l19v0_122 : s19v0_122.Y → Option (YS t19v0_122) := jjC g19v0_122
@[reducible] noncomputable def i19v0 : Shape := ⟨[(0, .lf (.ptr 500000 0))], [(500000, .box [.d (.sl .u8), .d (.int .i64)], .same)], 47⟩
@[reducible] noncomputable def o19v0 : Shape := ⟨[(0, .lf (.ptr 500000 0)), (2, .lf (.own 3000128))], [(500000, .box [.d (.sl .u8), .d (.int .i64)], .same), (3000128, .row .pack, .slot 2 0)], 47⟩
noncomputable def f19v0 (a : i19v0.Y) : Option o19v0.Y :=
(l19v0_122 (((), ((), (([([111, 110, 101] : Str), ([116, 119, 111] : Str), ([116, 104, 114, 101, 101] : Str), ([122, 105, 112] : Str)] : List Str), ((0 : Int), ())))), ((a.2.1.1, (a.2.1.2.1, ())), (([] : List Pack), ())))).bind fun r903 =>
(jq3 (((), ((10 : Int), ())), ((r903.2.1.1, (r903.2.1.2.1, ())), ()))).bind fun r905 =>
 bif (r905.1.2.1 == (0 : Int)) then
(f33v0 (((), ()), ((r905.2.1.1, (r905.2.1.2.1, ())), ()))).bind fun r906 =>
(apd 80 r903.2.2.1 ([(Pack.mk r906.2.2.2.2.1.1 r906.2.2.2.2.1.2.1 r906.2.2.1 r906.2.2.2.1)] : List Pack)).bind fun x907 =>
 some (((), ((), ())), ((r906.2.1.1, (r906.2.1.2.1, ())), (x907, ())))
else
 some (((), ((), ())), ((r905.2.1.1, (r905.2.1.2.1, ())), (r903.2.2.1, ())))
noncomputable def S19v0 : jjF := jjf tt 47 i19v0 o19v0 [.tmp 2] [0] f19v0
noncomputable def c7 : Ctx := { tt := tt, fs := fun n => match n with | 17 => some jqa | 18 => some jqt | 19 => some S19v0 | _ => none, op := fun n => match n with | 16 => true | _ => false }
theorem k7 (h : ∀ T, (tt T).ok Pz T) (h17v0 : jja Pz 17 jqa) (h18v0 : jja Pz 18 jqt) (h19v0 : jja Pz 19 S19v0) (hO : OpenOk Pz 16) : CtxGood Pz c7 := ⟨⟨h⟩, fun g S hg => (by
 simp only [c7] at hg
 split at hg
 ·cases hg; exact h17v0
 ·cases hg; exact h18v0
 ·cases hg; exact h19v0
 ·cases hg), jjp, fun _ _ h => (by cases h), fun g hg => (by
 simp only [c7] at hg
 split at hg
 ·exact hO
 ·cases hg)⟩
noncomputable def b7 : Code := jji Tryz.f7
@[reducible] noncomputable def s7_122 : Shape := ⟨[(4, .lf (.ptr 4000008 0)), (5, .lf (.own 3000320)), (6, .lf (.d (.int .i64)))], [(4000008, .box [.d (.sl .u8), .d (.int .i64)], .same), (3000320, .row .str, .slot 5 0)], 25⟩
@[reducible] noncomputable def t7_122 : List OSh := [(.exit 0, ⟨[(4, .lf (.ptr 4000008 0)), (5, .lf (.own 3000320))], [(4000008, .box [.d (.sl .u8), .d (.int .i64)], .same), (3000320, .row .str, .slot 5 0)], 25⟩)]
noncomputable def g7_122 (y : s7_122.Y) : Option (Sum s7_122.Y (YS t7_122)) :=
 bif (decide (y.1.2.2.1 > (0 : Int))) then
(jzZ (((), (([([111, 110, 101] : Str), ([116, 119, 111] : Str), ([116, 104, 114, 101, 101] : Str), ([122, 105, 112] : Str), ([110, 111, 110, 101] : Str)] : List Str), ())), ((y.2.1.1, (y.2.1.2.1, ())), ()))).bind fun r49 =>
(apd 16 y.2.2.1 ([r49.1.2.1] : List Str)).bind fun x50 =>
 some (.inl (((), ((), ((IntKind.i64.wrap (y.1.2.2.1 - (1 : Int))), ()))), ((r49.2.1.1, (r49.2.1.2.1, ())), (x50, ()))))
else
 some (.inr ((((), ((), ())), ((y.2.1.1, (y.2.1.2.1, ())), (y.2.2.1, ())))))
theorem r7_122 : ∀ y, g7_122 y = jjz (jjd c7 []) (jjl (jjc b7 1 122)) 122 s7_122 t7_122 y := fun y => by kernel_rfl
noncomputable def l7_122 : s7_122.Y → Option (YS t7_122) := jjC g7_122
theorem q7_122 (H : CtxGood Pz c7) : jjn Pz (jjc b7 1 122) (jjb s7_122 t7_122 l7_122) :=
 jjt (fr := []) H (by kernel_rfl) (by kernel_rfl) jje (fun y => jjh r7_122 y)
@[reducible] noncomputable def i7 : Shape := ⟨[(0, .lf (.d (.sl .u8)))], [], 25⟩
@[reducible] noncomputable def o7 : Shape := ⟨[(2, .lf (.own 3000128)), (3, .lf (.own 3000192))], [(3000128, .row .pack, .slot 2 0), (3000192, .row .str, .slot 3 0)], 25⟩
noncomputable def f7 (a : i7.Y) : Option o7.Y :=
(jq3 (((), ((4 : Int), ())), (((a.1.1.take 2000), ((0 : Int), ())), ()))).bind fun r913 =>
(l7_122 (((), ((), (r913.1.2.1, ()))), ((r913.2.1.1, (r913.2.1.2.1, ())), (([] : List Str), ())))).bind fun r914 =>
(f19v0 (((), ()), ((r914.2.1.1, (r914.2.1.2.1, ())), ()))).bind fun r915 =>
 some (((), ((), ())), (r915.2.2.1, (r914.2.2.1, ())))
theorem e7 : ∀ a, f7 a = jjo (jjd c7 [(122, jjb s7_122 t7_122 l7_122)]) b7 i7 o7 a := fun a => by kernel_rfl
noncomputable def S7 : jjF := jjf tt 25 i7 o7 [.tmp 2, .tmp 3] [] f7
theorem z7 (h : ∀ T, (tt T).ok Pz T) (h17v0 : jja Pz 17 jqa) (h18v0 : jja Pz 18 jqt) (h19v0 : jja Pz 19 S19v0) (hO : OpenOk Pz 16) : jja Pz 7 S7 :=
 have H := k7 h h17v0 h18v0 h19v0 hO
 jjk (fn := Tryz.f7) (fr := [(122, jjb s7_122 t7_122 l7_122)]) H (by kernel_rfl) (by kernel_rfl) (by kernel_rfl) (by kernel_rfl) (by kernel_rfl) ⟨q7_122 H, trivial⟩ (by kernel_rfl) (fun y => ⟨_, _, rfl, rfl, rfl⟩) e7
abbrev ShQ (k : Nat) (ps : List Pack) : Prop := ps.length ≤ k ∧ ∀ p, p ∈ ps → ShP p
noncomputable def c3 : Ctx := { tt := tt, fs := fun n => match n with | 7 => some S7 | 8 => some S8 | 9 => some S9 | 10 => some S10 | _ => none }
theorem k3 (h : ∀ T, (tt T).ok Pz T) (h7 : jja Pz 7 S7) (h8 : jja Pz 8 S8) (h9 : jja Pz 9 S9) (h10 : jja Pz 10 S10) : CtxGood Pz c3 := ⟨⟨h⟩, fun g S hg => (by
 simp only [c3] at hg
 split at hg
 ·cases hg; exact h7
 ·cases hg; exact h8
 ·cases hg; exact h9
 ·cases hg; exact h10
 ·cases hg), jjp, fun _ _ h => (by cases h), fun _ h => (by cases h)⟩
noncomputable def b3 : Code := jji Tryz.f3
@[reducible] noncomputable def s3_252 : Shape := ⟨[(3, .lf (.d (.sl .pack))), (5, .lf (.own 3000320)), (6, .lf (.d (.int .i64))), (7, .lf (.d (.sl .str))), (8, .lf (.d (.int .i64)))], [(3000320, .row .str, .slot 5 0)], 83⟩
@[reducible] noncomputable def t3_252 : List OSh := [(.norm, ⟨[(3, .lf (.d (.sl .pack))), (6, .lf (.d (.int .i64))), (41, .lf (.d (.bool)))], [], 83⟩)]
noncomputable def g3_252 (y : s3_252.Y) : Option (YS t3_252) :=
 bif (!(y.1.2.2.1 != y.1.2.2.2.2.1)) then
(f10 ((y.2.1, (y.1.2.2.2.1, ())), ())).bind fun r1835 =>
 some (((y.1.1, (y.1.2.2.1, ((!r1835.1.1), ()))), ()))
else
 some (((y.1.1, (y.1.2.2.1, (true, ()))), ()))
theorem r3_252 : ∀ y, g3_252 y = jjK (jjd c3 []) (jjc b3 1 252) 252 s3_252 t3_252 y := fun y => by kernel_rfl
theorem q3_252 (H : CtxGood Pz c3) : jjn Pz (jjc b3 1 252) (jjb s3_252 t3_252 g3_252) :=
 jjw (fr := []) H (by kernel_rfl) jje r3_252
@[reducible] noncomputable def s3_2044 : Shape := ⟨[(6, .lf (.d (.int .i64))), (9, .lf (.own 3000576)), (10, .lf (.d (.int .i64))), (12, .lf (.d (.int .i64)))], [(3000576, .row .str, .slot 9 0)], 83⟩
@[reducible] noncomputable def t3_2044 : List OSh := [(.norm, ⟨[(6, .lf (.d (.int .i64))), (9, .lf (.own 3000576)), (10, .lf (.d (.int .i64))), (12, .lf (.d (.int .i64))), (58, .lf (.d (.bool)))], [(3000576, .row .str, .slot 9 0)], 83⟩)]
noncomputable def g3_2044 (y : s3_2044.Y) : Option (YS t3_2044) :=
 bif (!(y.1.1 == (1 : Int))) then
 some (((y.1.1, ((), (y.1.2.2.1, (y.1.2.2.2.1, ((y.1.1 == (2 : Int)), ()))))), (y.2.1, ())))
else
 some (((y.1.1, ((), (y.1.2.2.1, (y.1.2.2.2.1, (true, ()))))), (y.2.1, ())))
theorem r3_2044 : ∀ y, g3_2044 y = jjK (jjd c3 []) (jjc b3 1 2044) 2044 s3_2044 t3_2044 y := fun y => by kernel_rfl
theorem q3_2044 (H : CtxGood Pz c3) : jjn Pz (jjc b3 1 2044) (jjb s3_2044 t3_2044 g3_2044) :=
 jjw (fr := []) H (by kernel_rfl) jje r3_2044
@[reducible] noncomputable def i3 : Shape := ⟨[(0, .lf (.d (.sl .u8)))], [], 83⟩
@[reducible] noncomputable def o3 : Shape := ⟨[(2, .lf (.d (.bool)))], [], 83⟩
noncomputable def f3 (a : i3.Y) : Option o3.Y :=
 bif (decide ((a.1.1.length : Int) > (1048576 : Int))) then
 some ((true, ()), ())
else
(f7 ((a.1.1, ()), ())).bind fun r1843 =>
(f8 ((r1843.2.1, (r1843.2.2.1, ())), ())).bind fun r1845 =>
(f9 ((r1843.2.1, (r1843.2.2.1, ())), ())).bind fun r1847 =>
(g3_252 ((r1843.2.1, ((), (r1845.1.2.1, (r1847.1.1, (r1847.1.2.1, ()))))), (r1845.2.1, ()))).bind fun r1849 =>
 bif r1849.1.2.2.1 then
 some ((false, ()), ())
else
(f8 ((r1849.1.1, (([] : List Str), ())), ())).bind fun r1851 =>
(f8 ((r1849.1.1, (([([110, 111, 98, 111, 100, 121, 115] : Str)] : List Str), ())), ())).bind fun r1853 =>
(g3_2044 ((r1849.1.2.1, ((), (r1851.1.2.1, (r1853.1.2.1, ())))), (r1851.2.1, ()))).bind fun r1855 =>
 bif r1855.1.2.2.2.2.1 then
 bif (r1855.1.2.2.1 == r1855.1.1) then
 bif (r1855.1.2.2.2.1 == r1855.1.1) then
 some ((((r1855.2.1.length : Int) == (0 : Int)), ()), ())
else
 some ((false, ()), ())
else
 some ((false, ()), ())
else
 bif (r1855.1.2.2.1 == (0 : Int)) then
 bif ((r1855.2.1.length : Int) == (0 : Int)) then
 some (((r1855.1.2.2.2.1 == (3 : Int)), ()), ())
else
 some ((false, ()), ())
else
 some ((false, ()), ())
theorem e3 : ∀ a, f3 a = jjo (jjd c3 [(252, jjb s3_252 t3_252 g3_252), (2044, jjb s3_2044 t3_2044 g3_2044)]) b3 i3 o3 a := fun a => by kernel_rfl
noncomputable def S3 : jjF := jjf tt 83 i3 o3 [.tmp 2] [] f3
theorem z3 (h : ∀ T, (tt T).ok Pz T) (h7 : jja Pz 7 S7) (h8 : jja Pz 8 S8) (h9 : jja Pz 9 S9) (h10 : jja Pz 10 S10) : jja Pz 3 S3 :=
 have H := k3 h h7 h8 h9 h10
 jjk (fn := Tryz.f3) (fr := [(252, jjb s3_252 t3_252 g3_252), (2044, jjb s3_2044 t3_2044 g3_2044)]) H (by kernel_rfl) (by kernel_rfl) (by kernel_rfl) (by kernel_rfl) (by kernel_rfl) ⟨q3_252 H, q3_2044 H, trivial⟩ (by kernel_rfl) (fun y => ⟨_, _, rfl, rfl, rfl⟩) e3
theorem ShQ.bd {k : Nat} {ps : List Pack} (h : ShQ k ps) (hk : k ≤ 1000) : BdPs ps := ⟨Nat.le_trans h.1 (Nat.le_trans hk (by decide)), fun p hp => (h.2 p hp).ok.1⟩
theorem ShQ.vs {k : Nat} {ps : List Pack} (h : ShQ k ps) : VS ps := fun p hp => (h.2 p hp).ok.2
theorem closeL_len {ps : List Pack} (hb : BdPs ps) (hv : VS ps) (hl : ps.length ≤ 1000000) : ∀ (names out : List Str), Nms ps out ∧ Dis [] out → ∀ o, jxW ps (ps.length + 1) names out = .inl o → Nms ps o := by
 intro names
 induction names with
 | nil => intro out ho o h; simp only [jxW] at h; cases h; exact ho.1
 | cons n r ih =>
  intro out ho o h
  simp only [jxW] at h
  rcases v_l8Close ps hb hv hl (ps.length + 1) [] (Nms.nil ps) (by simp) jzL (fuel_big (by omega)) n out ho with ⟨o', g1, g2, _⟩ | ⟨c, o', g1, g2, _⟩
  ·rw [g1] at h; exact ih o' g2 o h
  ·rw [g1] at h; cases h
noncomputable def c11 : Ctx := { tt := tt, fs := fun n => match n with | _ => none }
noncomputable def b11 : Code := jji Tryz.f11
@[reducible] noncomputable def s11_26 : Shape := ⟨[(0, .lf (.d (.sl .str))), (1, .lf (.d (.str))), (5, .lf (.d (.int .i64)))], [], 18⟩
@[reducible] noncomputable def t11_26 : List OSh := [(.ret, ⟨[(4, .lf (.d (.bool)))], [], 18⟩), (.exit 0, ⟨[], [], 18⟩)]
noncomputable def g11_26 (y : s11_26.Y) : Option (Sum s11_26.Y (YS t11_26)) :=
 bif (decide (y.1.2.2.1 < (y.1.1.length : Int))) then
(ix y.1.1 y.1.2.2.1).bind fun x1889 =>
 bif (x1889 == y.1.2.1) then
 some (.inr (.inl ((true, ()), ())))
else
 some (.inl ((y.1.1, (y.1.2.1, ((IntKind.i64.wrap (y.1.2.2.1 + (1 : Int))), ()))), ()))
else
 some (.inr (.inr ((), ())))
noncomputable def l11_26 : s11_26.Y → Option (YS t11_26) := jjC g11_26
@[reducible] noncomputable def i11 : Shape := ⟨[(0, .lf (.d (.sl .str))), (1, .lf (.d (.str)))], [], 18⟩
@[reducible] noncomputable def o11 : Shape := ⟨[(4, .lf (.d (.bool)))], [], 18⟩
noncomputable def f11 (a : i11.Y) : Option o11.Y :=
(l11_26 ((a.1.1, (a.1.2.1, ((0 : Int), ()))), ())).bind fun r1893 =>
(match r1893 with
| .inl r1894 =>
 some ((r1894.1.1, ()), ())
| .inr r1895 =>
 some ((false, ()), ()))
theorem e11 : ∀ a, f11 a = jjo (jjd c11 [(26, jjb s11_26 t11_26 l11_26)]) b11 i11 o11 a := fun a => by kernel_rfl
noncomputable def S11 : jjF := jjf tt 18 i11 o11 [.tmp 4] [] f11
def Fit (ps : List Pack) (o : List Str) (n : Need) : Prop := n.name ∈ o ∧ ∃ q, ps.find? (fun q => q.name == n.name) = some q ∧ jJV n q.version = true
def Good (ps : List Pack) (o : List Str) : Prop := ∀ (i : Nat) (s : Str), o[i]? = some s → ∃ p, ps.find? (fun q => q.name == s) = some p ∧ ∀ n, n ∈ p.needs → Fit ps (o.take i) n
theorem Good.app {ps : List Pack} {o : List Str} {s : Str} {p : Pack} (h : Good ps o) (hp : ps.find? (fun q => q.name == s) = some p) (hn : ∀ n, n ∈ p.needs → Fit ps o n) : Good ps (o ++ [s]) := by
 intro i x hx
 by_cases hi : i < o.length
 ·rw [List.getElem?_append_left hi] at hx
  rw [List.take_append_of_le_length (Nat.le_of_lt hi)]
  exact h i x hx
 ·have hlt := jjv hx
  simp only [List.length_append, List.length_cons, List.length_nil] at hlt
  have : i = o.length := by omega
  subst this
  rw [List.getElem?_append_right (Nat.le_refl _)] at hx
  simp only [Nat.sub_self, List.getElem?_cons_zero, Option.some.injEq] at hx
  subst hx
  refine ⟨p, hp, ?_⟩
  rw [List.take_left' rfl]
  exact hn
theorem Fit.mono {ps : List Pack} {o o' : List Str} {n : Need} (h : Fit ps o n) (hp : o <+: o') : Fit ps o' n := ⟨hp.subset h.1, h.2⟩
theorem cloNs_good {rec : Str → List Str → Sum (List Str) Int} {ps : List Pack} (hr : ∀ n out o, rec n out = .inl o → Good ps out → Good ps o ∧ out <+: o ∧ n ∈ o) : ∀ (ns : List Need) (out o : List Str), jJW rec ps ns out = .inl o → Good ps out →
  Good ps o ∧ out <+: o ∧ ∀ n, n ∈ ns → Fit ps o n := by
 intro ns
 induction ns with
 | nil => intro out o h hg; simp only [jJW, Sum.inl.injEq] at h; subst h; exact ⟨hg, List.prefix_refl _, fun n hn => by cases hn⟩
 | cons n r ih =>
  intro out o h hg
  simp only [jJW] at h
  split at h
  ·cases h
  ·rename_i q hq
   cases hf : jJV n q.version with
   | false => rw [hf] at h; cases h
   | true =>
    rw [hf] at h
    simp only [cond_true] at h
    split at h
    ·rename_i o1 h1
     obtain ⟨g1, g2, g3⟩ := hr _ _ _ h1 hg
     obtain ⟨k1, k2, k3⟩ := ih o1 o h g1
     refine ⟨k1, g2.trans k2, fun x hx => ?_⟩
     rcases List.mem_cons.1 hx with rfl | hx
     ·exact ⟨k2.subset g3, q, hq, hf⟩
     ·exact k3 x hx
    ·cases h
theorem clo_good (ps : List Pack) : ∀ (m : Nat) (op : List Str) (n : Str) (out o : List Str), clo ps m op n out = .inl o → Good ps out → Good ps o ∧ out <+: o ∧ n ∈ o := by
 intro m
 induction m with
 | zero => intro op n out o h; cases h
 | succ m ih =>
  intro op n out o h hg
  simp only [clo] at h
  cases h1 : out.contains n with
  | true =>
   rw [h1] at h
   cases h
   exact ⟨hg, List.prefix_refl _, by simpa using h1⟩
  | false =>
   rw [h1] at h
   simp only [cond_false] at h
   split at h
   ·cases h
   ·rename_i p hp
    cases h2 : op.contains n with
    | true => rw [h2] at h; cases h
    | false =>
     rw [h2] at h
     simp only [cond_false] at h
     split at h
     ·rename_i o1 hc
      cases h
      obtain ⟨g1, g2, g3⟩ := cloNs_good (fun n out o h => ih _ n out o h) _ _ _ hc hg
      exact ⟨g1.app hp g3, g2.trans (List.prefix_append _ _), by simp⟩
     ·cases h
theorem cloAll_good (ps : List Pack) (m : Nat) : ∀ (ns out o : List Str), jxW ps m ns out = .inl o → Good ps out → Good ps o ∧ out <+: o ∧ ∀ n, n ∈ ns → n ∈ o := by
 intro ns
 induction ns with
 | nil => intro out o h hg; simp only [jxW, Sum.inl.injEq] at h; subst h; exact ⟨hg, List.prefix_refl _, fun n hn => by cases hn⟩
 | cons n r ih =>
  intro out o h hg
  simp only [jxW] at h
  split at h
  ·rename_i o1 h1
   obtain ⟨g1, g2, g3⟩ := clo_good ps m _ _ _ _ h1 hg
   obtain ⟨k1, k2, k3⟩ := ih o1 o h g1
   refine ⟨k1, g2.trans k2, fun x hx => ?_⟩
   rcases List.mem_cons.1 hx with rfl | hx
   ·exact k2.subset g3
   ·exact k3 x hx
  ·cases h
noncomputable def c4 : Ctx := { tt := tt, fs := fun n => match n with | 7 => some S7 | 8 => some S8 | 9 => some S9 | 10 => some S10 | 11 => some S11 | _ => none }
theorem k4 (h : ∀ T, (tt T).ok Pz T) (h7 : jja Pz 7 S7) (h8 : jja Pz 8 S8) (h9 : jja Pz 9 S9) (h10 : jja Pz 10 S10) (h11 : jja Pz 11 S11) : CtxGood Pz c4 := ⟨⟨h⟩, fun g S hg => (by
 simp only [c4] at hg
 split at hg
 ·cases hg; exact h7
 ·cases hg; exact h8
 ·cases hg; exact h9
 ·cases hg; exact h10
 ·cases hg; exact h11
 ·cases hg), jjp, fun _ _ h => (by cases h), fun _ h => (by cases h)⟩
noncomputable def b4 : Code := jji Tryz.f4
@[reducible] noncomputable def s4_252 : Shape := ⟨[(3, .lf (.d (.sl .pack))), (4, .lf (.d (.sl .str))), (5, .lf (.own 3000320)), (6, .lf (.d (.int .i64))), (7, .lf (.d (.sl .str))), (8, .lf (.d (.int .i64)))], [(3000320, .row .str, .slot 5 0)], 138⟩
@[reducible] noncomputable def t4_252 : List OSh := [(.norm, ⟨[(3, .lf (.d (.sl .pack))), (4, .lf (.d (.sl .str))), (5, .lf (.own 3000320)), (6, .lf (.d (.int .i64))), (7, .lf (.d (.sl .str))), (8, .lf (.d (.int .i64))), (47, .lf (.d (.bool)))], [(3000320, .row .str, .slot 5 0)], 138⟩)]
noncomputable def g4_252 (y : s4_252.Y) : Option (YS t4_252) :=
 bif (!(y.1.2.2.2.1 != y.1.2.2.2.2.2.1)) then
(f10 ((y.2.1, (y.1.2.2.2.2.1, ())), ())).bind fun r1870 =>
 bif (!(!r1870.1.1)) then
 some (((y.1.1, (y.1.2.1, ((), (y.1.2.2.2.1, (y.1.2.2.2.2.1, (y.1.2.2.2.2.2.1, ((y.1.2.2.2.1 != (0 : Int)), ()))))))), (y.2.1, ())))
else
 some (((y.1.1, (y.1.2.1, ((), (y.1.2.2.2.1, (y.1.2.2.2.2.1, (y.1.2.2.2.2.2.1, (true, ()))))))), (y.2.1, ())))
else
 some (((y.1.1, (y.1.2.1, ((), (y.1.2.2.2.1, (y.1.2.2.2.2.1, (y.1.2.2.2.2.2.1, (true, ()))))))), (y.2.1, ())))
@[reducible] noncomputable def s4_1018 : Shape := ⟨[(3, .lf (.d (.sl .pack))), (4, .lf (.d (.sl .str))), (5, .lf (.own 3000320)), (9, .lf (.d (.int .i64)))], [(3000320, .row .str, .slot 5 0)], 138⟩
@[reducible] noncomputable def t4_1018 : List OSh := [(.ret, ⟨[(2, .lf (.d (.bool)))], [], 138⟩), (.exit 0, ⟨[(3, .lf (.d (.sl .pack))), (5, .lf (.own 3000320))], [(3000320, .row .str, .slot 5 0)], 138⟩)]
noncomputable def g4_1018 (y : s4_1018.Y) : Option (Sum s4_1018.Y (YS t4_1018)) :=
 bif (decide (y.1.2.2.2.1 < (y.1.2.1.length : Int))) then
(ix y.1.2.1 y.1.2.2.2.1).bind fun x1901 =>
(f11 ((y.2.1, (x1901, ())), ())).bind fun r1902 =>
 bif (!r1902.1.1) then
 some (.inr (.inl ((false, ()), ())))
else
 some (.inl ((y.1.1, (y.1.2.1, ((), ((IntKind.i64.wrap (y.1.2.2.2.1 + (1 : Int))), ())))), (y.2.1, ())))
else
 some (.inr (.inr ((y.1.1, ((), ())), (y.2.1, ()))))
noncomputable def l4_1018 : s4_1018.Y → Option (YS t4_1018) := jjC g4_1018
@[reducible] noncomputable def s4_16730514 : Shape := ⟨[(3, .lf (.d (.sl .pack))), (5, .lf (.d (.sl .str))), (10, .lf (.d (.int .i64))), (11, .lf (.d (.int .i64))), (12, .lf (.d (.int .i64))), (75, .lf (.d (.sl .str))), (76, .lf (.d (.int .i64))), (77, .lf (.d (.sl .str))), (78, .lf (.d (.sl .str))), (79, .lf (.d (.int .i64))), (81, .lf (.d (.str))), (82, .lf (.d (.bool)))], [], 138⟩
@[reducible] noncomputable def t4_16730514 : List OSh := [(.ret, ⟨[(2, .lf (.d (.bool)))], [], 138⟩), (.exit 6, ⟨[(3, .lf (.d (.sl .pack))), (5, .lf (.d (.sl .str))), (10, .lf (.d (.int .i64))), (11, .lf (.d (.int .i64))), (75, .lf (.d (.sl .str))), (76, .lf (.d (.int .i64))), (77, .lf (.d (.sl .str))), (78, .lf (.d (.sl .str))), (79, .lf (.d (.int .i64))), (81, .lf (.d (.str))), (82, .lf (.d (.bool))), (89, .lf (.d (.int .i64))), (90, .lf (.d (.sl .pack))), (91, .lf (.d (.int .i64))), (92, .lf (.rptr [.str, .str, .sl .need, .sl .entry] 0)), (93, .lf (.rptr [.str, .str, .sl .need, .sl .entry] 2)), (94, .lf (.d (.sl .need))), (95, .lf (.d (.int .i64))), (96, .lf (.d (.bool))), (97, .lf (.d (.bool))), (108, .lf (.d (.bool)))], [], 138⟩)]
noncomputable def g4_16730514 (y : s4_16730514.Y) : Option (Sum s4_16730514.Y (YS t4_16730514)) :=
(ix y.1.1 y.1.2.2.2.1).bind fun x1974 =>
 bif (decide (y.1.2.2.2.2.1 < (x1974.needs.length : Int))) then
(ix y.1.1 y.1.2.2.2.1).bind fun x1975 =>
(ix y.1.2.1 y.1.2.2.1).bind fun x1976 =>
 bif (x1975.name == x1976) then
(jqJ y.1.2.1 (0 : Int) y.1.2.2.1).bind fun x1981 =>
(ix y.1.1 y.1.2.2.2.1).bind fun x1982 =>
(ix x1982.needs y.1.2.2.2.2.1).bind fun x1983 =>
(f11 ((x1981, (x1983.name, ())), ())).bind fun r1984 =>
 bif (!r1984.1.1) then
 some (.inr (.inl ((false, ()), ())))
else
 some (.inl ((y.1.1, (y.1.2.1, (y.1.2.2.1, (y.1.2.2.2.1, ((IntKind.i64.wrap (y.1.2.2.2.2.1 + (1 : Int))), (y.1.2.2.2.2.2.1, (y.1.2.2.2.2.2.2.1, (y.1.2.2.2.2.2.2.2.1, (y.1.2.2.2.2.2.2.2.2.1, (y.1.2.2.2.2.2.2.2.2.2.1, (y.1.2.2.2.2.2.2.2.2.2.2.1, (y.1.2.2.2.2.2.2.2.2.2.2.2.1, ())))))))))))), ()))
else
 some (.inr (.inr ((y.1.1, (y.1.2.1, (y.1.2.2.1, (y.1.2.2.2.1, (y.1.2.2.2.2.2.1, (y.1.2.2.2.2.2.2.1, (y.1.2.2.2.2.2.2.2.1, (y.1.2.2.2.2.2.2.2.2.1, (y.1.2.2.2.2.2.2.2.2.2.1, (y.1.2.2.2.2.2.2.2.2.2.2.1, (y.1.2.2.2.2.2.2.2.2.2.2.2.1, (y.1.2.2.2.2.1, (y.1.1, (y.1.2.2.2.1, ((x1974.name, (x1974.version, (x1974.needs, (x1974.tree, ())))), ((x1974.name, (x1974.version, (x1974.needs, (x1974.tree, ())))), (x1974.needs, ((x1974.needs.length : Int), ((decide (y.1.2.2.2.2.1 < (x1974.needs.length : Int))), (true, ((x1975.name == x1976), ()))))))))))))))))))))), ())))
else
 some (.inr (.inr ((y.1.1, (y.1.2.1, (y.1.2.2.1, (y.1.2.2.2.1, (y.1.2.2.2.2.2.1, (y.1.2.2.2.2.2.2.1, (y.1.2.2.2.2.2.2.2.1, (y.1.2.2.2.2.2.2.2.2.1, (y.1.2.2.2.2.2.2.2.2.2.1, (y.1.2.2.2.2.2.2.2.2.2.2.1, (y.1.2.2.2.2.2.2.2.2.2.2.2.1, (y.1.2.2.2.2.1, (y.1.1, (y.1.2.2.2.1, ((x1974.name, (x1974.version, (x1974.needs, (x1974.tree, ())))), ((x1974.name, (x1974.version, (x1974.needs, (x1974.tree, ())))), (x1974.needs, ((x1974.needs.length : Int), ((decide (y.1.2.2.2.2.1 < (x1974.needs.length : Int))), (false, (false, ()))))))))))))))))))))), ())))
noncomputable def l4_16730514 : s4_16730514.Y → Option (YS t4_16730514) := jjC g4_16730514
@[reducible] noncomputable def s4_261414 : Shape := ⟨[(3, .lf (.d (.sl .pack))), (5, .lf (.d (.sl .str))), (10, .lf (.d (.int .i64))), (11, .lf (.d (.int .i64))), (75, .lf (.d (.sl .str))), (76, .lf (.d (.int .i64))), (77, .lf (.d (.sl .str))), (78, .lf (.d (.sl .str))), (79, .lf (.d (.int .i64))), (81, .lf (.d (.str))), (82, .lf (.d (.bool)))], [], 138⟩
@[reducible] noncomputable def t4_261414 : List OSh := [(.ret, ⟨[(2, .lf (.d (.bool)))], [], 138⟩), (.exit 4, ⟨[(3, .lf (.d (.sl .pack))), (5, .lf (.d (.sl .str))), (10, .lf (.d (.int .i64))), (75, .lf (.d (.sl .str))), (76, .lf (.d (.int .i64))), (77, .lf (.d (.sl .str))), (78, .lf (.d (.sl .str))), (79, .lf (.d (.int .i64))), (81, .lf (.d (.str))), (82, .lf (.d (.bool)))], [], 138⟩)]
noncomputable def g4_261414 (y : s4_261414.Y) : Option (Sum s4_261414.Y (YS t4_261414)) :=
 bif (decide (y.1.2.2.2.1 < (y.1.1.length : Int))) then
(l4_16730514 ((y.1.1, (y.1.2.1, (y.1.2.2.1, (y.1.2.2.2.1, ((0 : Int), (y.1.2.2.2.2.1, (y.1.2.2.2.2.2.1, (y.1.2.2.2.2.2.2.1, (y.1.2.2.2.2.2.2.2.1, (y.1.2.2.2.2.2.2.2.2.1, (y.1.2.2.2.2.2.2.2.2.2.1, (y.1.2.2.2.2.2.2.2.2.2.2.1, ())))))))))))), ())).bind fun r1988 =>
(match r1988 with
| .inl r1989 =>
 some (.inr (.inl ((r1989.1.1, ()), ())))
| .inr r1990 =>
 some (.inl ((r1990.1.1, (r1990.1.2.1, (r1990.1.2.2.1, ((IntKind.i64.wrap (r1990.1.2.2.2.1 + (1 : Int))), (r1990.1.2.2.2.2.1, (r1990.1.2.2.2.2.2.1, (r1990.1.2.2.2.2.2.2.1, (r1990.1.2.2.2.2.2.2.2.1, (r1990.1.2.2.2.2.2.2.2.2.1, (r1990.1.2.2.2.2.2.2.2.2.2.1, (r1990.1.2.2.2.2.2.2.2.2.2.2.1, ()))))))))))), ())))
else
 some (.inr (.inr ((y.1.1, (y.1.2.1, (y.1.2.2.1, (y.1.2.2.2.2.1, (y.1.2.2.2.2.2.1, (y.1.2.2.2.2.2.2.1, (y.1.2.2.2.2.2.2.2.1, (y.1.2.2.2.2.2.2.2.2.1, (y.1.2.2.2.2.2.2.2.2.2.1, (y.1.2.2.2.2.2.2.2.2.2.2.1, ())))))))))), ())))
noncomputable def l4_261414 : s4_261414.Y → Option (YS t4_261414) := jjC g4_261414
@[reducible] noncomputable def s4_2042 : Shape := ⟨[(3, .lf (.d (.sl .pack))), (5, .lf (.d (.sl .str))), (10, .lf (.d (.int .i64)))], [], 138⟩
@[reducible] noncomputable def t4_2042 : List OSh := [(.ret, ⟨[(2, .lf (.d (.bool)))], [], 138⟩), (.exit 2, ⟨[(3, .lf (.d (.sl .pack))), (5, .lf (.d (.sl .str)))], [], 138⟩)]
noncomputable def g4_2042 (y : s4_2042.Y) : Option (Sum s4_2042.Y (YS t4_2042)) :=
 bif (decide (y.1.2.2.1 < (y.1.2.1.length : Int))) then
(jqJ y.1.2.1 (0 : Int) y.1.2.2.1).bind fun x2018 =>
(ix y.1.2.1 y.1.2.2.1).bind fun x2019 =>
(f11 ((x2018, (x2019, ())), ())).bind fun r2020 =>
 bif r2020.1.1 then
 some (.inr (.inl ((false, ()), ())))
else
(l4_261414 ((y.1.1, (y.1.2.1, (y.1.2.2.1, ((0 : Int), (y.1.2.1, (y.1.2.2.1, (x2018, (y.1.2.1, (y.1.2.2.1, (x2019, (r2020.1.1, ()))))))))))), ())).bind fun r2021 =>
(match r2021 with
| .inl r2022 =>
 some (.inr (.inl ((r2022.1.1, ()), ())))
| .inr r2023 =>
 some (.inl ((r2023.1.1, (r2023.1.2.1, ((IntKind.i64.wrap (r2023.1.2.2.1 + (1 : Int))), ()))), ())))
else
 some (.inr (.inr ((y.1.1, (y.1.2.1, ())), ())))
noncomputable def l4_2042 : s4_2042.Y → Option (YS t4_2042) := jjC g4_2042
@[reducible] noncomputable def i4 : Shape := ⟨[(0, .lf (.d (.sl .u8)))], [], 138⟩
@[reducible] noncomputable def o4 : Shape := ⟨[(2, .lf (.d (.bool)))], [], 138⟩
noncomputable def f4 (a : i4.Y) : Option o4.Y :=
 bif (decide ((a.1.1.length : Int) > (1048576 : Int))) then
 some ((true, ()), ())
else
(f7 ((a.1.1, ()), ())).bind fun r1910 =>
(f8 ((r1910.2.1, (r1910.2.2.1, ())), ())).bind fun r1912 =>
(f9 ((r1910.2.1, (r1910.2.2.1, ())), ())).bind fun r1914 =>
(g4_252 ((r1910.2.1, (r1910.2.2.1, ((), (r1912.1.2.1, (r1914.1.1, (r1914.1.2.1, ())))))), (r1912.2.1, ()))).bind fun r1917 =>
 bif r1917.1.2.2.2.2.2.2.1 then
 bif (r1917.1.2.2.2.1 == r1917.1.2.2.2.2.2.1) then
(f10 ((r1917.2.1, (r1917.1.2.2.2.2.1, ())), ())).bind fun r1918 =>
 some ((r1918.1.1, ()), ())
else
 some ((false, ()), ())
else
(l4_1018 ((r1917.1.1, (r1917.1.2.1, ((), ((0 : Int), ())))), (r1917.2.1, ()))).bind fun r1922 =>
(match r1922 with
| .inl r1923 =>
 some ((r1923.1.1, ()), ())
| .inr r1924 =>
(l4_2042 ((r1924.1.1, (r1924.2.1, ((0 : Int), ()))), ())).bind fun r2027 =>
(match r2027 with
| .inl r2028 =>
 some ((r2028.1.1, ()), ())
| .inr r2029 =>
(f8 ((r2029.1.1, (r2029.1.2.1, ())), ())).bind fun r2031 =>
 bif (r2031.1.2.1 == (0 : Int)) then
(f10 ((r2031.2.1, (r2029.1.2.1, ())), ())).bind fun r2032 =>
 some ((r2032.1.1, ()), ())
else
 some ((false, ()), ())))
theorem e4 : ∀ a, f4 a = jjo (jjd c4 [(252, jjb s4_252 t4_252 g4_252), (1018, jjb s4_1018 t4_1018 l4_1018), (2042, jjb s4_2042 t4_2042 l4_2042)]) b4 i4 o4 a := fun a => by kernel_rfl
noncomputable def S4 : jjF := jjf tt 138 i4 o4 [.tmp 2] [] f4
noncomputable def c101 : Ctx := { tt := tt, fs := fun n => match n with | 26 => some S26 | _ => none }
theorem k101 (h : ∀ T, (tt T).ok Pz T) (h26 : jja Pz 26 S26) : CtxGood Pz c101 := ⟨⟨h⟩, fun g S hg => (by
 simp only [c101] at hg
 split at hg
 ·cases hg; exact h26
 ·cases hg), jjp, fun _ _ h => (by cases h), fun _ h => (by cases h)⟩
noncomputable def b101 : Code := jji Tryz.f101
@[reducible] noncomputable def i101 : Shape := ⟨[(0, .agg [.d (.sl .pack)]), (1, .lf (.d (.sl .pack)))], [], 15⟩
@[reducible] noncomputable def o101 : Shape := ⟨[(4, .lf (.ptr 4 0)), (5, .lf (.d (.int .i64)))], [(4, .box [.d (.sl .pack)], .same)], 15⟩
noncomputable def f101 (a : i101.Y) : Option o101.Y :=
(f26 ((a.1.2.1, ()), ())).bind fun r2347 =>
 bif (r2347.1.1 != (0 : Int)) then
 some (((), (r2347.1.1, ())), ((a.1.1.1, ()), ()))
else
 some (((), ((0 : Int), ())), ((a.1.2.1, ()), ()))
theorem e101 : ∀ a, f101 a = jjo (jjd c101 []) b101 i101 o101 a := fun a => by kernel_rfl
noncomputable def S101 : jjF := jjf tt 15 i101 o101 [.cell 4 39, .tmp 5] [] f101
theorem z101 (h : ∀ T, (tt T).ok Pz T) (h26 : jja Pz 26 S26) : jja Pz 101 S101 :=
 have H := k101 h h26
 jjk (fn := Tryz.f101) (fr := []) H (by kernel_rfl) (by kernel_rfl) (by kernel_rfl) (by kernel_rfl) (by kernel_rfl) jje (by kernel_rfl) (fun y => ⟨_, _, rfl, rfl, rfl⟩) e101
noncomputable def c75 : Ctx := { tt := tt, fs := fun n => match n with | 86 => some S86 | _ => none }
theorem k75 (h : ∀ T, (tt T).ok Pz T) (h86 : jja Pz 86 S86) : CtxGood Pz c75 := ⟨⟨h⟩, fun g S hg => (by
 simp only [c75] at hg
 split at hg
 ·cases hg; exact h86
 ·cases hg), jjp, fun _ _ h => (by cases h), fun _ h => (by cases h)⟩
noncomputable def b75 : Code := jji Tryz.f75
@[reducible] noncomputable def i75 : Shape := ⟨[(0, .agg [.d (.str), .d (.str), .d (.sl .need), .d (.sl .entry)])], [], 13⟩
@[reducible] noncomputable def o75 : Shape := ⟨[(2, .lf (.ptr 2 0))], [(5000130, .row .need, .cell 2 2), (5000131, .row .entry, .cell 2 3), (2, .box [.d (.str), .d (.str), .own 5000130, .own 5000131], .same)], 13⟩
noncomputable def f75 (a : i75.Y) : Option o75.Y :=
(apd 40 ([] : List Need) a.1.1.2.2.1).bind fun x2169 =>
(f86 ((a.1.1.2.2.2.1, ()), ())).bind fun r2170 =>
 some (((), ()), (x2169, (r2170.2.1, ((a.1.1.1, (a.1.1.2.1, ((), ((), ())))), ()))))
theorem e75 : ∀ a, f75 a = jjo (jjd c75 []) b75 i75 o75 a := fun a => by kernel_rfl
noncomputable def S75 : jjF := jjf tt 13 i75 o75 [.cell 2 35] [] f75
theorem z75 (h : ∀ T, (tt T).ok Pz T) (h86 : jja Pz 86 S86) : jja Pz 75 S75 :=
 have H := k75 h h86
 jjk (fn := Tryz.f75) (fr := []) H (by kernel_rfl) (by kernel_rfl) (by kernel_rfl) (by kernel_rfl) (by kernel_rfl) jje (by kernel_rfl) (fun y => ⟨_, _, rfl, rfl, rfl⟩) e75
noncomputable def c102 : Ctx := { tt := tt, fs := fun n => match n with | 75 => some S75 | _ => none }
theorem k102 (h : ∀ T, (tt T).ok Pz T) (h75 : jja Pz 75 S75) : CtxGood Pz c102 := ⟨⟨h⟩, fun g S hg => (by
 simp only [c102] at hg
 split at hg
 ·cases hg; exact h75
 ·cases hg), jjp, fun _ _ h => (by cases h), fun _ h => (by cases h)⟩
noncomputable def b102 : Code := jji Tryz.f102
@[reducible] noncomputable def s102_28 : Shape := ⟨[(0, .lf (.d (.sl .pack))), (3, .lf (.ptr 3 0)), (4, .lf (.own 3000256)), (5, .lf (.d (.int .i64)))], [(3, .box [.d (.str), .d (.str), .d (.sl .need), .d (.sl .entry)], .same), (3000256, .row .pack, .slot 4 0)], 35⟩
@[reducible] noncomputable def t102_28 : List OSh := [(.exit 0, ⟨[(0, .lf (.d (.sl .pack))), (3, .lf (.ptr 3 0)), (4, .lf (.own 3000256)), (5, .lf (.d (.int .i64)))], [(3, .box [.d (.str), .d (.str), .d (.sl .need), .d (.sl .entry)], .same), (3000256, .row .pack, .slot 4 0)], 35⟩)]
noncomputable def g102_28 (y : s102_28.Y) : Option (Sum s102_28.Y (YS t102_28)) :=
 bif (decide (y.1.2.2.2.1 < (y.1.1.length : Int))) then
(ix y.1.1 y.1.2.2.2.1).bind fun x2161 =>
 bif (Op.bytesLess x2161.name y.2.1.1) then
 some (.inl ((y.1.1, ((), ((), ((IntKind.i64.wrap (y.1.2.2.2.1 + (1 : Int))), ())))), ((y.2.1.1, (y.2.1.2.1, (y.2.1.2.2.1, (y.2.1.2.2.2.1, ())))), (y.2.2.1, ()))))
else
 some (.inr (((y.1.1, ((), ((), (y.1.2.2.2.1, ())))), ((y.2.1.1, (y.2.1.2.1, (y.2.1.2.2.1, (y.2.1.2.2.2.1, ())))), (y.2.2.1, ())))))
else
 some (.inr (((y.1.1, ((), ((), (y.1.2.2.2.1, ())))), ((y.2.1.1, (y.2.1.2.1, (y.2.1.2.2.1, (y.2.1.2.2.2.1, ())))), (y.2.2.1, ())))))
theorem r102_28 : ∀ y, g102_28 y = jjz (jjd c102 []) (jjl (jjc b102 1 28)) 28 s102_28 t102_28 y := fun y => by kernel_rfl
noncomputable def l102_28 : s102_28.Y → Option (YS t102_28) := jjC g102_28
theorem q102_28 (H : CtxGood Pz c102) : jjn Pz (jjc b102 1 28) (jjb s102_28 t102_28 l102_28) :=
 jjt (fr := []) H (by kernel_rfl) (by kernel_rfl) jje (fun y => jjh r102_28 y)
@[reducible] noncomputable def i102 : Shape := ⟨[(0, .lf (.d (.sl .pack))), (1, .agg [.d (.str), .d (.str), .d (.sl .need), .d (.sl .entry)])], [], 35⟩
@[reducible] noncomputable def o102 : Shape := ⟨[(4, .lf (.own 3000256))], [(3000256, .row .pack, .slot 4 0)], 35⟩
noncomputable def f102 (a : i102.Y) : Option o102.Y :=
(l102_28 ((a.1.1, ((), ((), ((0 : Int), ())))), ((a.1.2.1.1, (a.1.2.1.2.1, (a.1.2.1.2.2.1, (a.1.2.1.2.2.2.1, ())))), (([] : List Pack), ())))).bind fun r2175 =>
(jqJ r2175.1.1 (0 : Int) r2175.1.2.2.2.1).bind fun x2176 =>
(apd 80 ([] : List Pack) x2176).bind fun x2177 =>
(f75 (((r2175.2.1.1, (r2175.2.1.2.1, (r2175.2.1.2.2.1, (r2175.2.1.2.2.2.1, ())))), ()), ())).bind fun r2178 =>
(apd 80 x2177 ([(Pack.mk r2178.2.2.2.1.1 r2178.2.2.2.1.2.1 r2178.2.1 r2178.2.2.1)] : List Pack)).bind fun x2179 =>
(jqJ r2175.1.1 r2175.1.2.2.2.1 (r2175.1.1.length : Int)).bind fun x2180 =>
(apd 80 x2179 x2180).bind fun x2181 =>
 some (((), ()), (x2181, ()))
theorem e102 : ∀ a, f102 a = jjo (jjd c102 [(28, jjb s102_28 t102_28 l102_28)]) b102 i102 o102 a := fun a => by kernel_rfl
noncomputable def S102 : jjF := jjf tt 35 i102 o102 [.tmp 4] [] f102
theorem z102 (h : ∀ T, (tt T).ok Pz T) (h75 : jja Pz 75 S75) : jja Pz 102 S102 :=
 have H := k102 h h75
 jjk (fn := Tryz.f102) (fr := [(28, jjb s102_28 t102_28 l102_28)]) H (by kernel_rfl) (by kernel_rfl) (by kernel_rfl) (by kernel_rfl) (by kernel_rfl) ⟨q102_28 H, trivial⟩ (by kernel_rfl) (fun y => ⟨_, _, rfl, rfl, rfl⟩) e102
noncomputable def c42 : Ctx := { tt := tt, fs := fun n => match n with | 75 => some S75 | _ => none }
theorem k42 (h : ∀ T, (tt T).ok Pz T) (h75 : jja Pz 75 S75) : CtxGood Pz c42 := ⟨⟨h⟩, fun g S hg => (by
 simp only [c42] at hg
 split at hg
 ·cases hg; exact h75
 ·cases hg), jjp, fun _ _ h => (by cases h), fun _ h => (by cases h)⟩
noncomputable def b42 : Code := jji Tryz.f42
@[reducible] noncomputable def s42_58 : Shape := ⟨[(1, .lf (.ptr 1 0)), (2, .lf (.ptr 2 0)), (3, .lf (.ptr 3 0)), (4, .lf (.d (.int .i64)))], [(1, .box [.d (.sl .pack)], .same), (5000128, .row .pack, .cell 2 0), (2, .box [.own 5000128], .same), (5000192, .row .pack, .cell 3 0), (3, .box [.own 5000192], .same)], 25⟩
@[reducible] noncomputable def t42_58 : List OSh := [(.exit 0, ⟨[(2, .lf (.ptr 2 0)), (3, .lf (.ptr 3 0))], [(5000128, .row .pack, .cell 2 0), (2, .box [.own 5000128], .same), (5000192, .row .pack, .cell 3 0), (3, .box [.own 5000192], .same)], 25⟩)]
noncomputable def g42_58 (y : s42_58.Y) : Option (Sum s42_58.Y (YS t42_58)) :=
 bif (decide (y.1.2.2.2.1 < (y.2.1.1.length : Int))) then
(ix y.2.1.1 y.1.2.2.2.1).bind fun x2370 =>
(f75 (((x2370.name, (x2370.version, (x2370.needs, (x2370.tree, ())))), ()), ())).bind fun r2371 =>
(apd 80 y.2.2.2.2.1 ([(Pack.mk r2371.2.2.2.1.1 r2371.2.2.2.1.2.1 r2371.2.1 r2371.2.2.1)] : List Pack)).bind fun x2372 =>
 some (.inl (((), ((), ((), ((IntKind.i64.wrap (y.1.2.2.2.1 + (1 : Int))), ())))), ((y.2.1.1, ()), (y.2.2.1, (((), ()), (x2372, (((), ()), ())))))))
else
 some (.inr ((((), ((), ())), (y.2.2.1, (((), ()), (y.2.2.2.2.1, (((), ()), ())))))))
theorem r42_58 : ∀ y, g42_58 y = jjz (jjd c42 []) (jjl (jjc b42 1 58)) 58 s42_58 t42_58 y := fun y => by kernel_rfl
noncomputable def l42_58 : s42_58.Y → Option (YS t42_58) := jjC g42_58
theorem q42_58 (H : CtxGood Pz c42) : jjn Pz (jjc b42 1 58) (jjb s42_58 t42_58 l42_58) :=
 jjt (fr := []) H (by kernel_rfl) (by kernel_rfl) jje (fun y => jjh r42_58 y)
@[reducible] noncomputable def i42 : Shape := ⟨[(0, .agg [.d (.sl .pack)])], [], 25⟩
@[reducible] noncomputable def o42 : Shape := ⟨[(2, .lf (.ptr 2 0))], [(5000128, .row .pack, .cell 2 0), (2, .box [.own 5000128], .same)], 25⟩
noncomputable def f42 (a : i42.Y) : Option o42.Y :=
(l42_58 (((), ((), ((), ((0 : Int), ())))), ((a.1.1.1, ()), (([] : List Pack), (((), ()), (([] : List Pack), (((), ()), ()))))))).bind fun r2374 =>
 some (((), ()), (r2374.2.2.2.1, (((), ()), ())))
theorem e42 : ∀ a, f42 a = jjo (jjd c42 [(58, jjb s42_58 t42_58 l42_58)]) b42 i42 o42 a := fun a => by kernel_rfl
noncomputable def S42 : jjF := jjf tt 25 i42 o42 [.cell 2 39] [] f42
theorem z42 (h : ∀ T, (tt T).ok Pz T) (h75 : jja Pz 75 S75) : jja Pz 42 S42 :=
 have H := k42 h h75
 jjk (fn := Tryz.f42) (fr := [(58, jjb s42_58 t42_58 l42_58)]) H (by kernel_rfl) (by kernel_rfl) (by kernel_rfl) (by kernel_rfl) (by kernel_rfl) ⟨q42_58 H, trivial⟩ (by kernel_rfl) (fun y => ⟨_, _, rfl, rfl, rfl⟩) e42
noncomputable def c76 : Ctx := { tt := tt, fs := fun n => match n with | 37 => some S37 | 39 => some S39 | 101 => some S101 | 102 => some S102 | _ => none }
theorem k76 (h : ∀ T, (tt T).ok Pz T) (h37 : jja Pz 37 S37) (h39 : jja Pz 39 S39) (h101 : jja Pz 101 S101) (h102 : jja Pz 102 S102) : CtxGood Pz c76 := ⟨⟨h⟩, fun g S hg => (by
 simp only [c76] at hg
 split at hg
 ·cases hg; exact h37
 ·cases hg; exact h39
 ·cases hg; exact h101
 ·cases hg; exact h102
 ·cases hg), jjp, fun _ _ h => (by cases h), fun _ h => (by cases h)⟩
noncomputable def b76 : Code := jji Tryz.f76
@[reducible] noncomputable def i76 : Shape := ⟨[(0, .agg [.d (.sl .pack)]), (1, .agg [.d (.str), .d (.str), .d (.sl .need), .d (.sl .entry)])], [], 27⟩
@[reducible] noncomputable def o76 : Shape := ⟨[(4, .lf (.ptr 4 0)), (5, .lf (.d (.int .i64)))], [(4, .box [.d (.sl .pack)], .same)], 27⟩
noncomputable def f76 (a : i76.Y) : Option o76.Y :=
(f37 (((a.1.2.1.1, (a.1.2.1.2.1, (a.1.2.1.2.2.1, (a.1.2.1.2.2.2.1, ())))), ()), ())).bind fun r2350 =>
 bif (!r2350.1.1) then
 some (((), ((1 : Int), ())), ((a.1.1.1, ()), ()))
else
(f39 ((a.1.1.1, (a.1.2.1.1, ())), ())).bind fun r2352 =>
 bif (decide (r2352.1.1 ≥ (0 : Int))) then
 some (((), ((2 : Int), ())), ((a.1.1.1, ()), ()))
else
(f102 ((a.1.1.1, ((a.1.2.1.1, (a.1.2.1.2.1, (a.1.2.1.2.2.1, (a.1.2.1.2.2.2.1, ())))), ())), ())).bind fun r2353 =>
(f101 (((a.1.1.1, ()), (r2353.2.1, ())), ())).bind fun r2354 =>
 some (((), (r2354.1.2.1, ())), ((r2354.2.1.1, ()), ()))
theorem e76 : ∀ a, f76 a = jjo (jjd c76 []) b76 i76 o76 a := fun a => by kernel_rfl
noncomputable def S76 : jjF := jjf tt 27 i76 o76 [.cell 4 39, .tmp 5] [] f76
theorem z76 (h : ∀ T, (tt T).ok Pz T) (h37 : jja Pz 37 S37) (h39 : jja Pz 39 S39) (h101 : jja Pz 101 S101) (h102 : jja Pz 102 S102) : jja Pz 76 S76 :=
 have H := k76 h h37 h39 h101 h102
 jjk (fn := Tryz.f76) (fr := []) H (by kernel_rfl) (by kernel_rfl) (by kernel_rfl) (by kernel_rfl) (by kernel_rfl) jje (by kernel_rfl) (fun y => ⟨_, _, rfl, rfl, rfl⟩) e76
noncomputable def c43v0 : Ctx := { tt := tt, fs := fun n => match n with | 17 => some jqa | 18 => some jqt | 57 => some S57v0 | 76 => some S76 | _ => none }
theorem k43v0 (h : ∀ T, (tt T).ok Pz T) (h17v0 : jja Pz 17 jqa) (h18v0 : jja Pz 18 jqt) (h57v0 : jja Pz 57 S57v0) (h76 : jja Pz 76 S76) : CtxGood Pz c43v0 := ⟨⟨h⟩, fun g S hg => (by
 simp only [c43v0] at hg
 split at hg
 ·cases hg; exact h17v0
 ·cases hg; exact h18v0
 ·cases hg; exact h57v0
 ·cases hg; exact h76
 ·cases hg), jjp, fun _ _ h => (by cases h), fun _ h => (by cases h)⟩
noncomputable def b43v0 : Code := jji Tryz.f43
@[reducible] noncomputable def s43v0_58 : Shape := ⟨[(0, .lf (.ptr 500000 0)), (2, .lf (.ptr 2 0)), (3, .lf (.ptr 3 0)), (4, .lf (.d (.int .i64)))], [(500000, .box [.d (.sl .u8), .d (.int .i64)], .same), (5000128, .row .pack, .cell 2 0), (2, .box [.own 5000128], .same), (3, .box [.d (.sl .pack)], .same)], 23⟩
@[reducible] noncomputable def jJw : List OSh := [(.exit 0, ⟨[(0, .lf (.ptr 500000 0)), (2, .lf (.ptr 2 0)), (3, .lf (.ptr 3 0))], [(500000, .box [.d (.sl .u8), .d (.int .i64)], .same), (5000128, .row .pack, .cell 2 0), (2, .box [.own 5000128], .same), (3, .box [.d (.sl .pack)], .same)], 23⟩)]
noncomputable def g43v0_58 (y : s43v0_58.Y) : Option (Sum s43v0_58.Y (YS jJw)) :=
 bif (decide (y.1.2.2.2.1 > (0 : Int))) then
(jzZ (((), (([([111, 110, 101] : Str), ([116, 119, 111] : Str), ([116, 104, 114, 101, 101] : Str), ([122, 105, 112] : Str)] : List Str), ())), ((y.2.1.1, (y.2.1.2.1, ())), ()))).bind fun r2359 =>
(f57v0 (((), (r2359.1.2.1, ())), ((r2359.2.1.1, (r2359.2.1.2.1, ())), ()))).bind fun r2360 =>
(f76 (((y.2.2.2.2.1.1, ()), ((r2360.2.2.2.2.1.1, (r2360.2.2.2.2.1.2.1, (r2360.2.2.1, (r2360.2.2.2.1, ())))), ())), ())).bind fun r2361 =>
 some (.inl (((), ((), ((), ((IntKind.i64.wrap (y.1.2.2.2.1 - (1 : Int))), ())))), ((r2360.2.1.1, (r2360.2.1.2.1, ())), (y.2.2.1, (((), ()), ((r2361.2.1.1, ()), ()))))))
else
 some (.inr ((((), ((), ((), ()))), ((y.2.1.1, (y.2.1.2.1, ())), (y.2.2.1, (((), ()), ((y.2.2.2.2.1.1, ()), ())))))))
theorem r43v0_58 : ∀ y, g43v0_58 y = jjz (jjd c43v0 []) (jjl (jjc b43v0 1 58)) 58 s43v0_58 jJw y := fun y => by kernel_rfl
noncomputable def l43v0_58 : s43v0_58.Y → Option (YS jJw) := jjC g43v0_58
theorem q43v0_58 (H : CtxGood Pz c43v0) : jjn Pz (jjc b43v0 1 58) (jjb s43v0_58 jJw l43v0_58) :=
 jjt (fr := []) H (by kernel_rfl) (by kernel_rfl) jje (fun y => jjh r43v0_58 y)
@[reducible] noncomputable def i43v0 : Shape := ⟨[(0, .lf (.ptr 500000 0))], [(500000, .box [.d (.sl .u8), .d (.int .i64)], .same)], 23⟩
@[reducible] noncomputable def o43v0 : Shape := ⟨[(0, .lf (.ptr 500000 0)), (2, .lf (.ptr 2 0))], [(500000, .box [.d (.sl .u8), .d (.int .i64)], .same), (2, .box [.d (.sl .pack)], .same)], 23⟩
noncomputable def f43v0 (a : i43v0.Y) : Option o43v0.Y :=
(jq3 (((), ((5 : Int), ())), ((a.2.1.1, (a.2.1.2.1, ())), ()))).bind fun r2364 =>
(l43v0_58 (((), ((), ((), (r2364.1.2.1, ())))), ((r2364.2.1.1, (r2364.2.1.2.1, ())), (([] : List Pack), (((), ()), ((([] : List Pack), ()), ())))))).bind fun r2365 =>
 some (((), ((), ())), ((r2365.2.1.1, (r2365.2.1.2.1, ())), ((r2365.2.2.2.2.1.1, ()), ())))
theorem e43v0 : ∀ a, f43v0 a = jjo (jjd c43v0 [(58, jjb s43v0_58 jJw l43v0_58)]) b43v0 i43v0 o43v0 a := fun a => by kernel_rfl
noncomputable def S43v0 : jjF := jjf tt 23 i43v0 o43v0 [.cell 2 39] [0] f43v0
theorem z43v0 (h : ∀ T, (tt T).ok Pz T) (h17v0 : jja Pz 17 jqa) (h18v0 : jja Pz 18 jqt) (h57v0 : jja Pz 57 S57v0) (h76 : jja Pz 76 S76) : jja Pz 43 S43v0 :=
 have H := k43v0 h h17v0 h18v0 h57v0 h76
 jjk (fn := Tryz.f43) (fr := [(58, jjb s43v0_58 jJw l43v0_58)]) H (by kernel_rfl) (by kernel_rfl) (by kernel_rfl) (by kernel_rfl) (by kernel_rfl) ⟨q43v0_58 H, trivial⟩ (by kernel_rfl) (fun y => ⟨_, _, rfl, rfl, rfl⟩) e43v0
noncomputable def c24v0 : Ctx := { tt := tt, fs := fun n => match n with | 17 => some jqa | 33 => some S33v0 | 42 => some S42 | 43 => some S43v0 | _ => none }
theorem k24v0 (h : ∀ T, (tt T).ok Pz T) (h17v0 : jja Pz 17 jqa) (h33v0 : jja Pz 33 S33v0) (h42 : jja Pz 42 S42) (h43v0 : jja Pz 43 S43v0) : CtxGood Pz c24v0 := ⟨⟨h⟩, fun g S hg => (by
 simp only [c24v0] at hg
 split at hg
 ·cases hg; exact h17v0
 ·cases hg; exact h33v0
 ·cases hg; exact h42
 ·cases hg; exact h43v0
 ·cases hg), jjp, fun _ _ h => (by cases h), fun _ h => (by cases h)⟩
noncomputable def b24v0 : Code := jji Tryz.f24
@[reducible] noncomputable def i24v0 : Shape := ⟨[(0, .lf (.ptr 500000 0))], [(500000, .box [.d (.sl .u8), .d (.int .i64)], .same)], 29⟩
@[reducible] noncomputable def o24v0 : Shape := ⟨[(0, .lf (.ptr 500000 0)), (2, .lf (.ptr 2 0))], [(500000, .box [.d (.sl .u8), .d (.int .i64)], .same), (2, .box [.d (.sl .pack)], .same)], 29⟩
noncomputable def f24v0 (a : i24v0.Y) : Option o24v0.Y :=
(f43v0 (((), ()), ((a.2.1.1, (a.2.1.2.1, ())), ()))).bind fun r2385 =>
(f42 (((r2385.2.2.1.1, ()), ()), ())).bind fun r2386 =>
(jq3 (((), ((12 : Int), ())), ((r2385.2.1.1, (r2385.2.1.2.1, ())), ()))).bind fun r2388 =>
 bif (r2388.1.2.1 == (0 : Int)) then
(f33v0 (((), ()), ((r2388.2.1.1, (r2388.2.1.2.1, ())), ()))).bind fun r2389 =>
(apd 80 r2386.2.1 ([(Pack.mk r2389.2.2.2.2.1.1 r2389.2.2.2.2.1.2.1 r2389.2.2.1 r2389.2.2.2.1)] : List Pack)).bind fun x2390 =>
 some (((), ((), ())), ((r2389.2.1.1, (r2389.2.1.2.1, ())), ((x2390, ()), ())))
else
 bif (r2388.1.2.1 == (1 : Int)) then
 bif (decide ((r2386.2.1.length : Int) > (0 : Int))) then
(jqJ r2386.2.1 (1 : Int) (r2386.2.1.length : Int)).bind fun x2391 =>
 some (((), ((), ())), ((r2388.2.1.1, (r2388.2.1.2.1, ())), ((x2391, ()), ())))
else
 some (((), ((), ())), ((r2388.2.1.1, (r2388.2.1.2.1, ())), ((r2386.2.1, ()), ())))
else
 some (((), ((), ())), ((r2388.2.1.1, (r2388.2.1.2.1, ())), ((r2386.2.1, ()), ())))
theorem e24v0 : ∀ a, f24v0 a = jjo (jjd c24v0 []) b24v0 i24v0 o24v0 a := fun a => by kernel_rfl
noncomputable def S24v0 : jjF := jjf tt 29 i24v0 o24v0 [.cell 2 39] [0] f24v0
theorem z24v0 (h : ∀ T, (tt T).ok Pz T) (h17v0 : jja Pz 17 jqa) (h33v0 : jja Pz 33 S33v0) (h42 : jja Pz 42 S42) (h43v0 : jja Pz 43 S43v0) : jja Pz 24 S24v0 :=
 have H := k24v0 h h17v0 h33v0 h42 h43v0
 jjk (fn := Tryz.f24) (fr := []) H (by kernel_rfl) (by kernel_rfl) (by kernel_rfl) (by kernel_rfl) (by kernel_rfl) jje (by kernel_rfl) (fun y => ⟨_, _, rfl, rfl, rfl⟩) e24v0
theorem v_l9Check (a) (hb : BdPs a.1.1) (hv : VS a.1.1) : f26 a = some ((jxj a.1.1, ()), ()) := by
 obtain ⟨⟨ps, u⟩, u'⟩ := a
 have hl : ps.length ≤ 2097152 := hb.1
 have key : l26_26 ((ps, ((0 : Int), ())), ()) = some (bif jqz (okP ps) 0 ps then .inr ((ps, ()), ()) else .inl (((1 : Int), ()), ())) := by
  refine jjU g26_26 ps (fun i => ((ps, ((i : Int), ())), ())) _ _ _ (fun i x hx => ?_) ?_
  ·have hi := jjv hx
   have hw : Sm i := by unfold Sm; omega
   have hbx := hb.2 x (List.mem_of_getElem? hx)
   simp only [g26_26, jjA hi, cond_true, jQf, jjs, hx, Option.bind_some]
   rw [v_PackOk _ hbx]
   simp only [Option.bind_some, okP, dgt0]
   cases jxP x with
   | false => rfl
   | true =>
    simp only [Bool.not_true, cond_false, Bool.true_and, lessP]
    cases i with
    | zero => simp only [beq_self_eq_true, Bool.not_true, cond_false, Option.bind_some, Bool.true_or, cond_true, jjj hw]
    | succ i =>
     have h0 : (i + 1 == 0) = false := rfl
     have hi' : i < ps.length := by omega
     obtain ⟨q, hq⟩ : ∃ q, ps[i]? = some q := ⟨ps[i], List.getElem?_eq_getElem hi'⟩
     simp only [h0, Bool.not_false, cond_true, jz2 (i := i) (by unfold Sm; omega), jjs, hq, hx, Option.bind_some, Bool.false_or, Nat.add_sub_cancel]
     cases Op.bytesLess q.name x.name with
     | false => rfl
     | true => simp only [Bool.not_true, cond_false, cond_true, jjj hw]
  ·simp only [g26_26, jjI, cond_false]
 rw [okP_all] at key
 have h5 : decide ((ps.length : Int) > 5) = !decide (ps.length ≤ 5) := by by_cases h : ps.length ≤ 5 <;> simp only [h, decide_true, decide_false, Bool.not_true, Bool.not_false, decide_eq_true_eq, decide_eq_false_iff_not] <;> omega
 simp only [f26, key, Option.bind_some, jxj]
 cases hA : (ps.all jxP && ascP ps) with
 | false => rfl
 | true =>
  have hk : ps.all jxP = true := by simp only [Bool.and_eq_true] at hA; exact hA.1
  obtain ⟨out, ht⟩ := v_l9Tree ((ps, ()), ()) hb hk
  have hn := v_l9Needs ((ps, ()), ()) hb hv
  simp only [cond_true, Option.bind_some, ht, h5]
  cases decide (ps.length ≤ 5) with
  | false => rfl
  | true =>
   simp only [Bool.not_true, cond_false, hn, Option.bind_some]
   cases ps.all (fun p => p.needs.all (jxr ps)) <;> cases (jj8 [] ps).isSome <;> rfl
theorem v_l9Pack (a) (h : BdP ⟨a.1.1.1, a.1.1.2.1, a.1.1.2.2.1, a.1.1.2.2.2.1⟩) : f75 a = some (((), ()), (a.1.1.2.2.1, (a.1.1.2.2.2.1, ((a.1.1.1, (a.1.1.2.1, ((), ((), ())))), ())))) := by
 obtain ⟨⟨⟨name, version, needs, tree, u⟩, u'⟩, u''⟩ := a
 have h1 : needs.length ≤ 2097152 := h.2.2.1.1
 have h2 := v_l2Copy ((tree, ()), ()) h.2.2.2.1
 simp only [f75, jj0 (show (40 : Nat) ≤ 100 by decide) (show Sm (([] : List Need).length + needs.length) by unfold Sm; simp; omega), List.nil_append, Option.bind_some, h2]
def jzs (ps : List Pack) (n : Str) : Nat := (ps.takeWhile fun p => Op.bytesLess p.name n).length
theorem posP_le (ps : List Pack) (n : Str) : jzs ps n ≤ ps.length := (List.takeWhile_prefix _).length_le
def withL (ps : List Pack) (p : Pack) : List Pack := ps.take (jzs ps p.name) ++ [p] ++ ps.drop (jzs ps p.name)
theorem withL_len (ps : List Pack) (p : Pack) : (withL ps p).length = ps.length + 1 := by
 have := posP_le ps p.name
 unfold withL
 simp only [List.length_append, List.length_take, List.length_drop, List.length_cons, List.length_nil]; omega
theorem withL_mem {ps : List Pack} {p x : Pack} (h : x ∈ withL ps p) : x = p ∨ x ∈ ps := by
 unfold withL at h
 simp only [List.mem_append, List.mem_singleton] at h
 rcases h with (h | h) | h
 ·exact .inr (List.mem_of_mem_take h)
 ·exact .inl h
 ·exact .inr (List.mem_of_mem_drop h)
theorem withL_ok {k : Nat} {ps : List Pack} {p : Pack} (h : OkR k ps) (hp : OkP p) : OkR (k + 1) (withL ps p) :=
 ⟨by rw [withL_len]; exact Nat.succ_le_succ h.1, fun x hx => by
  rcases withL_mem hx with rfl | hx
  ·exact hp
  ·exact h.2 x hx⟩
theorem v_l9With (a) (h1 : a.1.1.length ≤ 2097151) (hp : BdP ⟨a.1.2.1.1, a.1.2.1.2.1, a.1.2.1.2.2.1, a.1.2.1.2.2.2.1⟩) : f102 a = some (((), ()), (withL a.1.1 ⟨a.1.2.1.1, a.1.2.1.2.1, a.1.2.1.2.2.1, a.1.2.1.2.2.2.1⟩, ())) := by
 obtain ⟨⟨ps, ⟨name, version, needs, tree, u0⟩, u⟩, u'⟩ := a
 have h1 : ps.length ≤ 2097151 := h1
 have key : ∀ (r : List Pack) (k : Nat), ps.drop k = r → k ≤ ps.length → l102_28 ((ps, ((), ((), ((k : Int), ())))), ((name, (version, (needs, (tree, ())))), (([] : List Pack), ()))) =
   some ((ps, ((), ((), (((k + (r.takeWhile fun p => Op.bytesLess p.name name).length : Nat) : Int), ())))), ((name, (version, (needs, (tree, ())))), (([] : List Pack), ()))) := by
  intro r
  induction r with
  | nil =>
   intro k hr hk
   have := drop_nil hr
   obtain rfl : k = ps.length := by omega
   refine jjE ?_
   simp only [g102_28, jjI, cond_false, List.takeWhile_nil, List.length_nil, Nat.add_zero]
  | cons q r ih =>
   intro k hr hk
   obtain ⟨c1, c2, c3⟩ := jqg hr
   have hw : Sm k := by unfold Sm; omega
   rw [List.takeWhile_cons]
   cases hq : Op.bytesLess q.name name with
   | false =>
    refine jjE ?_
    simp only [g102_28, jjA c3, cond_true, jjs, c1, Option.bind_some, hq, cond_false]
    rfl
   | true =>
    have step : g102_28 ((ps, ((), ((), ((k : Int), ())))), ((name, (version, (needs, (tree, ())))), (([] : List Pack), ()))) = some (.inl ((ps, ((), ((), (((k + 1 : Nat) : Int), ())))), ((name, (version, (needs, (tree, ())))), (([] : List Pack), ())))) := by
     simp only [g102_28, jjA c3, cond_true, jjs, c1, Option.bind_some, hq, jjj hw]
    refine Eq.trans (jqc step) (Eq.trans (ih (k + 1) c2 c3) ?_)
    simp only [if_true, List.length_cons]
    have e : k + 1 + (r.takeWhile fun p => Op.bytesLess p.name name).length = k + ((r.takeWhile fun p => Op.bytesLess p.name name).length + 1) := by omega
    rw [e]
 have key := key ps 0 rfl (Nat.zero_le _)
 rw [Nat.zero_add] at key
 have hk : (ps.takeWhile fun p => Op.bytesLess p.name name).length = jzs ps name := rfl
 rw [hk] at key
 have key : l102_28 ((ps, ((), ((), ((0 : Int), ())))), ((name, (version, (needs, (tree, ())))), (([] : List Pack), ()))) = _ := key
 have hle := posP_le ps name
 have e2 := v_l9Pack (((name, (version, (needs, (tree, ())))), ()), ()) hp
 simp only [f102, key, Option.bind_some, jzw hle, jxG hle, e2]
 rw [jj0 (show (80 : Nat) ≤ 100 by decide) (by unfold Sm; simp; omega)]
 simp only [List.nil_append, Option.bind_some]
 rw [jj0 (show (80 : Nat) ≤ 100 by decide) (by unfold Sm; simp; omega)]
 simp only [Option.bind_some]
 rw [jj0 (show (80 : Nat) ≤ 100 by decide) (by unfold Sm; simp; omega)]
 rfl
theorem v_l9Try (a) (hb : BdPs a.1.2.1) (hv : VS a.1.2.1) : f101 a = some (((), (jxj a.1.2.1, ())), (((bif jxj a.1.2.1 == 0 then a.1.2.1 else a.1.1.1), ()), ())) := by
 obtain ⟨⟨⟨r, u0⟩, list, u⟩, u'⟩ := a
 have e := v_l9Check ((list, ()), ()) hb hv
 simp only [f101, e, Option.bind_some]
 have z : (jxj list != 0) = !(jxj list == 0) := rfl
 rw [z]
 cases hc : (jxj list == 0) with
 | false => rfl
 | true =>
  have hc : jxj list = 0 := by simpa using hc
  simp only [Bool.not_true, cond_false, cond_true]
  rw [hc]
def inL (ps : List Pack) (p : Pack) : List Pack × Int := bif jxP p then (match ps.find? (fun q => q.name == p.name) with
 | some _ => (ps, 2)
 | none => (bif jxj (withL ps p) == 0 then withL ps p else ps, jxj (withL ps p))) else (ps, 1)
theorem v_l9In (a) (k : Nat) (hk : k ≤ 2000000) (h : OkR k a.1.1.1) (hp : OkP ⟨a.1.2.1.1, a.1.2.1.2.1, a.1.2.1.2.2.1, a.1.2.1.2.2.2.1⟩) : f76 a = some (((), ((inL a.1.1.1 ⟨a.1.2.1.1, a.1.2.1.2.1, a.1.2.1.2.2.1, a.1.2.1.2.2.2.1⟩).2, ())), (((inL a.1.1.1 ⟨a.1.2.1.1, a.1.2.1.2.1, a.1.2.1.2.2.1, a.1.2.1.2.2.2.1⟩).1, ()), ())) := by
 obtain ⟨⟨⟨ps, u0⟩, ⟨name, version, needs, tree, u1⟩, u⟩, u'⟩ := a
 have h : OkR k ps := h
 have hp : OkP ⟨name, version, needs, tree⟩ := hp
 have hl : ps.length ≤ 2000000 := Nat.le_trans h.1 hk
 have e1 := v_PackOk (((name, (version, (needs, (tree, ())))), ()), ()) hp.1
 simp only [f76, e1, Option.bind_some, inL]
 cases jxP ⟨name, version, needs, tree⟩ with
 | false => rfl
 | true =>
  simp only [Bool.not_true, cond_false, cond_true]
  rcases v_l8Pack ((ps, (name, ())), ()) (show ps.length ≤ 2097152 by omega) with ⟨j, q, g1, g2, g3⟩ | ⟨g1, g2⟩
  ·have g3 : ps.find? (fun p => p.name == name) = some q := g3
   have hj : decide ((j : Int) ≥ 0) = true := by simp
   simp only [g1, Option.bind_some, hj, cond_true, g3]
  ·have g2 : ps.find? (fun p => p.name == name) = none := g2
   have hj : decide ((-1 : Int) ≥ 0) = false := rfl
   have hw := withL_ok h hp
   have e2 := v_l9With ((ps, ((name, (version, (needs, (tree, ())))), ())), ()) (show ps.length ≤ 2097151 by omega) hp.1
   have e3 := v_l9Try (((ps, ()), (withL ps ⟨name, version, needs, tree⟩, ())), ()) (hw.bd (by omega)) hw.vs
   simp only [g1, Option.bind_some, hj, cond_false, g2, e2, e3]
theorem v_l9Copy (a) (h : BdPs a.1.1.1) : f42 a = some (((), ()), (a.1.1.1, (((), ()), ()))) := by
 obtain ⟨⟨⟨ps, u0⟩, u⟩, u'⟩ := a
 have hl : ps.length ≤ 2097152 := h.1
 have key := loop_fold (S := List Pack) g42_58 ps (fun i acc => (((), ((), ((), ((i : Int), ())))), ((ps, ()), (([] : List Pack), (((), ()), (acc, (((), ()), ()))))))) (fun x acc => acc ++ [x]) (fun acc => (((), ((), ())), (([] : List Pack), (((), ()), (acc, (((), ()), ())))))) (fun i acc => acc.length = i) [] rfl (fun i x acc hx hI => ?_) (fun acc hI => ?_)
 ·have key : l42_58 (((), ((), ((), ((0 : Int), ())))), ((ps, ()), (([] : List Pack), (((), ()), (([] : List Pack), (((), ()), ())))))) = _ := key
  have e : ∀ (l acc : List Pack), l.foldl (fun s x => s ++ [x]) acc = acc ++ l := by
   intro l
   induction l with
   | nil => intro acc; simp
   | cons x l ih => intro acc; simp only [List.foldl_cons]; rw [ih]; simp
  simp only [f42, key, Option.bind_some]
  rw [e]; rfl
 ·have hi := jjv hx
  have hw : Sm i := by unfold Sm; omega
  have e2 := v_l9Pack (((x.name, (x.version, (x.needs, (x.tree, ())))), ()), ()) (h.2 x (List.mem_of_getElem? hx))
  have ha : apd 80 acc [x] = some (acc ++ [x]) := jj0 (by decide) (by unfold Sm; simp; omega)
  simp only [g42_58, jjA hi, cond_true, jjs, hx, Option.bind_some, e2, ha, jjj hw]
  exact ⟨trivial, by simp [hI]⟩
 ·simp only [g42_58, jjI, cond_false]
abbrev ShR (k : Nat) (ps : List Pack) : Prop := ps.length ≤ k ∧ ∀ p, p ∈ ps → ShP p
theorem ShR.ok {k : Nat} {ps : List Pack} (h : ShR k ps) : OkR k ps := ⟨h.1, fun p hp => (h.2 p hp).ok⟩
theorem inL_sh {k : Nat} {ps : List Pack} {p : Pack} (h : ShR k ps) (hp : ShP p) : ShR (k + 1) (inL ps p).1 := by
 have h' : ShR (k + 1) ps := ⟨Nat.le_succ_of_le h.1, h.2⟩
 unfold inL
 cases jxP p with
 | false => exact h'
 | true =>
  simp only [cond_true]
  cases ps.find? (fun q => q.name == p.name) with
  | some q => exact h'
  | none =>
   simp only
   cases jxj (withL ps p) == 0 with
   | false => exact h'
   | true =>
    refine ⟨by show (withL ps p).length ≤ k + 1; rw [withL_len]; exact Nat.succ_le_succ h.1, fun x hx => ?_⟩
    rcases withL_mem hx with rfl | hx
    ·exact hp
    ·exact h.2 x hx
theorem v_l11Root (a) (m : Nat) (h : RD a.2.1.1 a.2.1.2.1 m) (hm : 300 ≤ m) : Ev (f43v0 a) (fun r => RD r.2.1.1 r.2.1.2.1 (m - 300) ∧ ShR 4 r.2.2.1.1) := by
 unfold f43v0
 refine Ev.bind (jqK _ m h (by omega)) fun r1 h1 => ?_
 obtain ⟨⟨v1, (q : Int), v2⟩, ⟨⟨(b1 : List Int), (p1 : Int), v3⟩, v4⟩⟩ := r1
 have hn : q < 5 := h1.2.2 (by show (1 : Int) ≤ 5; decide)
 have h0 : 0 ≤ q := h1.2.1
 refine Ev.bind (P := fun r => RD r.2.1.1 r.2.1.2.1 (m - 300) ∧ ShR 4 r.2.2.2.2.1.1) ?_ fun r hr => Ev.ret hr
 refine Ev.loop (fun (k : Nat) y => k ≤ 4 ∧ (y.1.2.2.2.1 : Int) = k ∧ RD y.2.1.1 y.2.1.2.1 (m - 300 + 55 * k) ∧ ShR (4 - k) y.2.2.2.2.1.1) (fun k y hy => ?_) q.toNat _ ⟨by omega, by show q = _; omega, h1.1.less (by omega), by show (0 : Nat) ≤ _; omega, fun p hp => by cases hp⟩
 obtain ⟨⟨w1, w2, w3, (i : Int), w4⟩, ⟨⟨(b' : List Int), (p' : Int), w5⟩, w6, w7, ⟨(ps : List Pack), w8⟩, w9⟩⟩ := y
 obtain ⟨y1, y3, y5, y6⟩ := hy
 have y3 : i = k := y3
 subst y3
 have y5 : RD b' p' (m - 300 + 55 * k) := y5
 have y6 : ShR (4 - k) ps := y6
 unfold g43v0_58
 refine Ev.ite (fun hc => ?_) fun hc => Ev.ret ⟨y5.less (by omega), Nat.le_trans y6.1 (by omega), y6.2⟩
 have hc : (k : Int) > 0 := of_decide_eq_true hc
 have hw : IntKind.i64.wrap ((k : Int) - 1) = ((k - 1 : Nat) : Int) := by rw [jjG (by omega) (by omega)]; omega
 refine Ev.bind (v_of _ _ y5 (by omega) (by simp)) fun r2 h2 => ?_
 refine Ev.bind (v_l11Pack _ _ h2.1 (by omega) (nm_all (by rfl) h2.2)) fun r3 h3 => ?_
 refine Ev.eq (v_l9In (((ps, ()), ((r3.2.2.2.2.1.1, (r3.2.2.2.2.1.2.1, (r3.2.2.1, (r3.2.2.2.1, ())))), ())), ()) (4 - k) (by omega) y6.ok h3.2.1.ok) ?_
 refine Ev.ret ⟨k - 1, by omega, by omega, hw, h3.1.less (by omega), ?_⟩
 have := inL_sh y6 h3.2.1
 exact ⟨Nat.le_trans this.1 (by omega), this.2⟩
theorem v_l11AnyRoot (a) (m : Nat) (h : RD a.2.1.1 a.2.1.2.1 m) (hm : 500 ≤ m) : Ev (f24v0 a) (fun r => RD r.2.1.1 r.2.1.2.1 (m - 500) ∧ ShR 5 r.2.2.1.1) := by
 unfold f24v0
 refine Ev.bind (v_l11Root _ m h (by omega)) fun r1 h1 => ?_
 obtain ⟨u0, ⟨u1, ⟨(ps : List Pack), u2⟩, u3⟩⟩ := r1
 have hr : ShR 4 ps := h1.2
 have hrl := hr.1
 refine Ev.eq (v_l9Copy (((ps, ()), ()), ()) (hr.ok.bd (by decide))) ?_
 refine Ev.bind (jqK _ _ h1.1 (by omega)) fun r2 h2 => ?_
 have hr' : ShR 5 ps := ⟨Nat.le_succ_of_le hr.1, hr.2⟩
 refine Ev.ite (fun _ => ?_) fun _ => Ev.ite (fun _ => ?_) fun _ => Ev.ret ⟨h2.1.less (by omega), hr'⟩
 ·refine Ev.bind (v_l11AnyPack _ _ h2.1 (by omega)) fun r3 h3 => ?_
  refine Ev.eq (jj0 (xs := ps) (by decide) (by unfold Sm; simp; omega)) ?_
  refine Ev.ret ⟨h3.1.less (by omega), by show (ps ++ [_]).length ≤ 5; simp; omega, fun e he => ?_⟩
  have he : e ∈ ps ++ [_] := he
  rcases List.mem_append.1 he with he | he
  ·exact hr.2 e he
  ·rw [List.mem_singleton.1 he]; exact h3.2
 ·refine Ev.ite (fun hc => ?_) fun _ => Ev.ret ⟨h2.1.less (by omega), hr'⟩
  have hc : (ps.length : Int) > 0 := of_decide_eq_true hc
  refine Ev.eq (jxG (xs := ps) (a := 1) (by omega)) ?_
  exact Ev.ret ⟨h2.1.less (by omega), by show (ps.drop 1).length ≤ 5; rw [List.length_drop]; omega, fun e he => hr.2 e (List.mem_of_mem_drop he)⟩
def getL (t : List Entry) (p : Str) : Option Entry := match t[jj4 t p]? with
 | some e => bif e.path == p then some e else none
 | none => none
theorem getL_at {t : List Entry} {p : Str} {e : Entry} (h : getL t p = some e) : t[jj4 t p]? = some e ∧ e.path = p := by
 unfold getL at h
 cases ht : t[jj4 t p]? with
 | none => rw [ht] at h; cases h
 | some x =>
  rw [ht] at h
  cases hx : (x.path == p) with
  | false => simp [hx] at h
  | true => simp only [hx, cond_true, Option.some.injEq] at h; subst h; exact ⟨rfl, eq_of_beq hx⟩
theorem pos_of {t : List Entry} (ha : Asc t) {k : Nat} {e : Entry} (h : t[k]? = some e) : jj4 t e.path = k := by
 have h1 := jqu (p := e.path) ha k e h
 have h2 : Op.bytesLess e.path e.path = false := jzm _
 rw [h1] at h2
 have h2 : ¬ k < jj4 t e.path := of_decide_eq_false h2
 rcases Nat.lt_or_ge (jj4 t e.path) k with h3 | h3
 ·exfalso
  have h4 : jj4 t e.path < t.length := Nat.lt_trans h3 (jjv h)
  have h5 := List.getElem?_eq_getElem h4
  have h6 := jqu (p := e.path) ha (jj4 t e.path) t[jj4 t e.path] h5
  have h7 : Op.bytesLess (t[jj4 t e.path]).path e.path = true := by
   have hp := List.pairwise_iff_getElem.1 ha (jj4 t e.path) k h4 (jjv h) h3
   have : t[k]'(jjv h) = e := by
    have := List.getElem?_eq_getElem (jjv h)
    rw [h] at this
    exact (Option.some.inj this).symm
   rw [this] at hp
   exact hp
  rw [h7] at h6
  have := of_decide_eq_true h6.symm
  omega
 ·omega
theorem jqR {t : List Entry} (ha : Asc t) {p : Str} {e : Entry} : getL t p = some e ↔ e ∈ t ∧ e.path = p := by
 constructor
 ·intro h
  obtain ⟨h1, h2⟩ := getL_at h
  exact ⟨List.mem_of_getElem? h1, h2⟩
 ·rintro ⟨h1, rfl⟩
  obtain ⟨k, hk⟩ := List.mem_iff_getElem?.1 h1
  have := pos_of ha hk
  unfold getL
  rw [this, hk]
  simp
theorem eqE_eq {a b : Entry} (h : eqE a b = true) : a = b := by
 unfold eqE at h
 simp only [Bool.and_eq_true, beq_iff_eq] at h
 obtain ⟨h1, h2, h3, h4⟩ := h
 cases a; cases b
 simp only at h1 h2 h3 h4
 subst h1 h2 h3 h4
 rfl
theorem eqE_refl (a : Entry) : eqE a a = true := by unfold eqE; simp
theorem insAt_in {t : List Entry} {k : Nat} {e x : Entry} : x ∈ jQd t k e ↔ x = e ∨ x ∈ t := by
 constructor
 ·exact insAt_mem
 ·unfold jQd
  intro h
  rcases h with rfl | h
  ·simp
  ·have : x ∈ t.take k ++ t.drop k := by rw [List.take_append_drop]; exact h
   simp only [List.mem_append, List.mem_singleton] at this ⊢
   rcases this with h | h
   ·exact .inl (.inl h)
   ·exact .inr h
theorem stepJ_in {out o : List Entry} {e : Entry} (h : jxH out e = some o) (x : Entry) : x ∈ o ↔ x = e ∨ x ∈ out := by
 unfold jxH at h
 split at h
 ·rename_i q hq
  cases hp : (q.path == e.path) with
  | true =>
   rw [hp] at h
   cases hc : conf e q with
   | true => rw [hc] at h; cases h
   | false =>
    rw [hc] at h
    cases h
    have : eqE e q = true := by
     unfold conf at hc
     simp only [Bool.or_eq_false_iff, Bool.not_eq_false'] at hc
     exact hc.2
    have := eqE_eq this
    subst this
    constructor
    ·exact .inr
    ·rintro (rfl | h)
     ·exact List.mem_of_getElem? hq
     ·exact h
  | false => rw [hp] at h; cases h; exact insAt_in
 ·cases h; exact insAt_in
theorem joinL_in : ∀ {es out o : List Entry}, jq9 out es = some o → ∀ x, x ∈ o ↔ x ∈ out ∨ x ∈ es := by
 intro es
 induction es with
 | nil => intro out o h x; simp only [jq9, Option.some.injEq] at h; subst h; simp
 | cons e r ih =>
  intro out o h x
  rw [jqI] at h
  obtain ⟨o1, h1, h2⟩ := Option.bind_eq_some_iff.1 h
  rw [ih h2, stepJ_in h1, List.mem_cons]
  constructor
  ·rintro ((h | h) | h)
   ·exact .inr (.inl h)
   ·exact .inl h
   ·exact .inr (.inr h)
  ·rintro (h | h | h)
   ·exact .inl (.inr h)
   ·exact .inl (.inl h)
   ·exact .inr h
theorem joinL_dir : ∀ {es out o : List Entry}, Asc out → jq9 out es = some o → ∀ x, x ∈ es → ∀ y, y ∈ out → y.path = x.path → x.kind = 1 := by
 intro es
 induction es with
 | nil => intro out o _ _ x hx; cases hx
 | cons e r ih =>
  intro out o ha h x hx y hy hp
  rw [jqI] at h
  obtain ⟨o1, h1, h2⟩ := Option.bind_eq_some_iff.1 h
  rcases List.mem_cons.1 hx with rfl | hx
  ·have hg : getL out x.path = some y := (jqR ha).2 ⟨hy, hp⟩
   have hq := (getL_at hg).1
   unfold jxH at h1
   rw [hq] at h1
   simp only [hp, beq_self_eq_true, cond_true] at h1
   cases hc : conf x y with
   | true => rw [hc] at h1; cases h1
   | false =>
    unfold conf at hc
    simp only [Bool.or_eq_false_iff, bne_eq_false_iff_eq] at hc
    exact hc.1
  ·exact ih (stepJ_asc ha h1) h2 x hx y ((stepJ_in h1 y).2 (.inr hy)) hp
theorem joinL_asc : ∀ {es out o : List Entry}, Asc out → jq9 out es = some o → Asc o := by
 intro es
 induction es with
 | nil => intro out o ha h; simp only [jq9, Option.some.injEq] at h; subst h; exact ha
 | cons e r ih =>
  intro out o ha h
  rw [jqI] at h
  obtain ⟨o1, h1, h2⟩ := Option.bind_eq_some_iff.1 h
  exact ih (stepJ_asc ha h1) h2
theorem treesL_in : ∀ {ps : List Pack} {out t : List Entry}, jj8 out ps = some t → ∀ x, x ∈ t ↔ x ∈ out ∨ ∃ p, p ∈ ps ∧ x ∈ p.tree := by
 intro ps
 induction ps with
 | nil => intro out t h x; simp only [jj8, Option.some.injEq] at h; subst h; simp
 | cons p r ih =>
  intro out t h x
  rw [jqW] at h
  obtain ⟨o, h1, h2⟩ := Option.bind_eq_some_iff.1 h
  rw [ih h2, joinL_in (stepT_ok h1).2]
  constructor
  ·rintro ((h | h) | ⟨q, h, h'⟩)
   ·exact .inl h
   ·exact .inr ⟨p, List.mem_cons_self, h⟩
   ·exact .inr ⟨q, List.mem_cons_of_mem _ h, h'⟩
  ·rintro (h | ⟨q, h, h'⟩)
   ·exact .inl (.inl h)
   ·rcases List.mem_cons.1 h with rfl | h
    ·exact .inl (.inr h')
    ·exact .inr ⟨q, h, h'⟩
theorem treesL_ok : ∀ {ps : List Pack} {out t : List Entry}, jjS out = true → jj8 out ps = some t → jjS t = true := by
 intro ps
 induction ps with
 | nil => intro out t ho h; simp only [jj8, Option.some.injEq] at h; subst h; exact ho
 | cons p r ih =>
  intro out t ho h
  rw [jqW] at h
  obtain ⟨o, h1, h2⟩ := Option.bind_eq_some_iff.1 h
  exact ih (stepT_ok h1).1 h2
def cntP (path : Str) (ps : List Pack) : Nat := (ps.filter fun p => (getL p.tree path).isSome).length
theorem cntP_cons (path : Str) (p : Pack) (ps : List Pack) : cntP path (p :: ps) = (if (getL p.tree path).isSome then 1 else 0) + cntP path ps := by
 unfold cntP
 rw [List.filter_cons]
 by_cases h : (getL p.tree path).isSome = true
 ·simp [h]; omega
 ·simp [h]
theorem treesL_dir : ∀ {ps : List Pack} {out t : List Entry} {path : Str} {e : Entry}, (∀ p, p ∈ ps → Asc p.tree) → jjS out = true → jj8 out ps = some t → getL t path = some e →
  ((∃ y, y ∈ out ∧ y.path = path) → 1 ≤ cntP path ps → e.kind = 1) ∧ (2 ≤ cntP path ps → e.kind = 1) := by
 intro ps
 induction ps with
 | nil => intro out t path e _ _ _ _; exact ⟨fun _ h => by simp [cntP] at h, fun h => by simp [cntP] at h⟩
 | cons p r ih =>
  intro out t path e hA ho h he
  have h' := h
  rw [jqW] at h
  obtain ⟨o, h1, h2⟩ := Option.bind_eq_some_iff.1 h
  obtain ⟨g1, g2⟩ := stepT_ok h1
  have hAt := jj6 (treesL_ok ho h')
  obtain ⟨i1, i2⟩ := ih (fun q hq => hA q (List.mem_cons_of_mem _ hq)) g1 h2 he
  rw [cntP_cons]
  have same : ∀ x, getL p.tree path = some x → x = e ∧ x ∈ p.tree ∧ x.path = path := fun x hx => by
   obtain ⟨k1, k2⟩ := (jqR (hA p List.mem_cons_self)).1 hx
   have : getL t path = some x := (jqR hAt).2 ⟨(treesL_in h' x).2 (.inr ⟨p, List.mem_cons_self, k1⟩), k2⟩
   rw [he] at this
   exact ⟨(Option.some.inj this).symm, k1, k2⟩
  cases hg : getL p.tree path with
  | none =>
   simp only [Option.isSome_none, Bool.false_eq_true, if_false, Nat.zero_add]
   exact ⟨fun ⟨y, hy, hyp⟩ hc => i1 ⟨y, (joinL_in g2 y).2 (.inl hy), hyp⟩ hc, i2⟩
  | some x =>
   obtain ⟨rfl, k1, k2⟩ := same x hg
   simp only [Option.isSome_some, if_true]
   exact ⟨fun ⟨y, hy, hyp⟩ _ => joinL_dir (jj6 ho) g2 x k1 y hy (hyp.trans k2.symm), fun hc => i1 ⟨x, (joinL_in g2 x).2 (.inr k1), k2⟩ (by omega)⟩
structure Rt (ps : List Pack) (t : List Entry) : Prop where
 tree : jj8 [] ps = some t
 packs : ps.all jxP = true
 asc : ps.Pairwise fun p q => Op.bytesLess p.name q.name = true
theorem rt_of {ps : List Pack} (h : jqA ps = true) : ∃ t, Rt ps t := by
 unfold jqA at h
 simp only [Bool.and_eq_true] at h
 obtain ⟨⟨⟨⟨h1, h2⟩, h3⟩, h4⟩, h5⟩ := h
 obtain ⟨t, ht⟩ := Option.isSome_iff_exists.1 h5
 exact ⟨t, ht, h1, ascP_of h2⟩
section
variable {ps : List Pack} {t : List Entry} (R : Rt ps t)
include R
theorem Rt.ok : jjS t = true := treesL_ok (by rfl) R.tree
theorem Rt.pk {p : Pack} (h : p ∈ ps) : jzU p.name = true ∧ jjS p.tree = true := by
 have := List.all_eq_true.1 R.packs p h
 unfold jxP at this
 simp only [Bool.and_eq_true] at this
 exact ⟨this.1.1.1, this.2⟩
theorem Rt.tr {p : Pack} (h : p ∈ ps) : Asc p.tree := jj6 (R.pk h).2
theorem Rt.up {p : Pack} (h : p ∈ ps) {path : Str} {e : Entry} (he : getL p.tree path = some e) : getL t path = some e := by
 obtain ⟨k1, k2⟩ := (jqR (R.tr h)).1 he
 exact (jqR (jj6 R.ok)).2 ⟨(treesL_in R.tree e).2 (.inr ⟨p, h, k1⟩), k2⟩
theorem Rt.dir {path : Str} {e : Entry} (he : getL t path = some e) (hc : 2 ≤ cntP path ps) : e.kind = 1 := (treesL_dir (fun p hp => R.tr hp) (by rfl) R.tree he).2 hc
end
noncomputable def c12 : Ctx := { tt := tt, fs := fun n => match n with | 24 => some S24v0 | _ => none, op := fun n => match n with | 16 => true | _ => false }
theorem k12 (h : ∀ T, (tt T).ok Pz T) (h24v0 : jja Pz 24 S24v0) (hO : OpenOk Pz 16) : CtxGood Pz c12 := ⟨⟨h⟩, fun g S hg => (by
 simp only [c12] at hg
 split at hg
 ·cases hg; exact h24v0
 ·cases hg), jjp, fun _ _ h => (by cases h), fun g hg => (by
 simp only [c12] at hg
 split at hg
 ·exact hO
 ·cases hg)⟩
noncomputable def b12 : Code := jji Tryz.f12
@[reducible] noncomputable def i12 : Shape := ⟨[(0, .lf (.d (.sl .u8)))], [], 6⟩
@[reducible] noncomputable def o12 : Shape := ⟨[(2, .lf (.ptr 2 0))], [(2, .box [.d (.sl .pack)], .same)], 6⟩
noncomputable def f12 (a : i12.Y) : Option o12.Y :=
(f24v0 (((), ()), (((a.1.1.take 2000), ((0 : Int), ())), ()))).bind fun r2393 =>
 some (((), ()), ((r2393.2.2.1.1, ()), ()))
theorem e12 : ∀ a, f12 a = jjo (jjd c12 []) b12 i12 o12 a := fun a => by kernel_rfl
noncomputable def S12 : jjF := jjf tt 6 i12 o12 [.cell 2 39] [] f12
theorem z12 (h : ∀ T, (tt T).ok Pz T) (h24v0 : jja Pz 24 S24v0) (hO : OpenOk Pz 16) : jja Pz 12 S12 :=
 have H := k12 h h24v0 hO
 jjk (fn := Tryz.f12) (fr := []) H (by kernel_rfl) (by kernel_rfl) (by kernel_rfl) (by kernel_rfl) (by kernel_rfl) jje (by kernel_rfl) (fun y => ⟨_, _, rfl, rfl, rfl⟩) e12
theorem wf_sl {t : Ty} {xs : List (den t)} (h : WfD (.sl t xs)) : xs.length ≤ maxLen ∧ ∀ x, x ∈ xs → ∀ d, d ∈ enc t x → WfD d := by cases h; exact ⟨by assumption, by assumption⟩
theorem wf_bytes {xs : List Int} (h : WfD (.sl .u8 xs)) : ∀ x, x ∈ xs → 0 ≤ x ∧ x ≤ 255 := by
 intro x hx
 have := (wf_sl h).2 x hx (.int .u8 x) (by simp [enc])
 cases this with
 | int k n hw =>
  simp only [Lit.wf, Bool.and_eq_true, decide_eq_true_eq] at hw
  have h1 : (0 : Int) ≤ x := hw.1
  have h2 : x ≤ (255 : Int) := hw.2
  exact ⟨h1, h2⟩
theorem rd_code {code : List Int} (h : ∀ x, x ∈ code → 0 ≤ x ∧ x ≤ 255) : RD (code.take 2000) 0 1000000 :=
 ⟨by rw [List.length_take]; omega, fun x hx => h x (List.mem_of_mem_take hx), Int.le_refl _, by decide⟩
theorem allI_true' {α : Type} : ∀ (xs : List α) (i : Nat), jqz (fun _ _ => true) i xs = true := by
 intro xs
 induction xs with
 | nil => intro i; rfl
 | cons x r ih => intro i; simp only [jqz, ih, Bool.and_self]
theorem v_DrawRootTree (a) (h : RD (a.1.1.take 2000) 0 1000000) : Ev (f12 a) (fun r => ShR 5 r.2.1.1) := by
 unfold f12
 exact Ev.bind (v_l11AnyRoot _ 1000000 h (by decide)) fun r hr => Ev.ret hr.2
noncomputable def c54 : Ctx := { tt := tt, fs := fun n => match n with | 55 => some S55 | _ => none }
theorem k54 (h : ∀ T, (tt T).ok Pz T) (h55 : jja Pz 55 S55) : CtxGood Pz c54 := ⟨⟨h⟩, fun g S hg => (by
 simp only [c54] at hg
 split at hg
 ·cases hg; exact h55
 ·cases hg), jjp, fun _ _ h => (by cases h), fun _ h => (by cases h)⟩
noncomputable def b54 : Code := jji Tryz.f54
@[reducible] noncomputable def i54 : Shape := ⟨[(0, .agg [.d (.str), .d (.str), .d (.sl .need), .d (.sl .entry)]), (1, .lf (.d (.str)))], [], 9⟩
@[reducible] noncomputable def o54 : Shape := ⟨[(4, .lf (.d (.int .i64)))], [], 9⟩
noncomputable def f54 (a : i54.Y) : Option o54.Y :=
(f55 ((a.1.1.1, (a.1.2.1, ())), ())).bind fun r2596 =>
 some ((r2596.1.1, ()), ())
theorem e54 : ∀ a, f54 a = jjo (jjd c54 []) b54 i54 o54 a := fun a => by kernel_rfl
noncomputable def S54 : jjF := jjf tt 9 i54 o54 [.tmp 4] [] f54
theorem z54 (h : ∀ T, (tt T).ok Pz T) (h55 : jja Pz 55 S55) : jja Pz 54 S54 :=
 have H := k54 h h55
 jjk (fn := Tryz.f54) (fr := []) H (by kernel_rfl) (by kernel_rfl) (by kernel_rfl) (by kernel_rfl) (by kernel_rfl) jje (by kernel_rfl) (fun y => ⟨_, _, rfl, rfl, rfl⟩) e54
noncomputable def c53v0 : Ctx := { tt := tt, fs := fun n => match n with | 54 => some S54 | _ => none }
theorem k53v0 (h : ∀ T, (tt T).ok Pz T) (h54 : jja Pz 54 S54) : CtxGood Pz c53v0 := ⟨⟨h⟩, fun g S hg => (by
 simp only [c53v0] at hg
 split at hg
 ·cases hg; exact h54
 ·cases hg), jjp, fun _ _ h => (by cases h), fun _ h => (by cases h)⟩
noncomputable def b53v0 : Code := jji Tryz.f53
@[reducible] noncomputable def s53v0_60 : Shape := ⟨[(0, .lf (.d (.sl .pack))), (1, .lf (.d (.str))), (2, .lf (.fn 54 [])), (8, .lf (.d (.int .i64))), (9, .lf (.d (.int .i64))), (10, .lf (.d (.int .i64)))], [], 49⟩
@[reducible] noncomputable def jJt : List OSh := [(.exit 0, ⟨[(0, .lf (.d (.sl .pack))), (1, .lf (.d (.str))), (2, .lf (.fn 54 [])), (8, .lf (.d (.int .i64))), (9, .lf (.d (.int .i64)))], [], 49⟩)]
noncomputable def g53v0_60 (y : s53v0_60.Y) : Option (Sum s53v0_60.Y (YS jJt)) :=
 bif (decide (y.1.2.2.2.2.1 < y.1.2.2.2.2.2.1)) then
(shrI .u64 (IntKind.u64.wrap (IntKind.i64.wrap (y.1.2.2.2.2.1 + y.1.2.2.2.2.2.1))) (1 : Int)).bind fun x2601 =>
(ix y.1.1 (IntKind.i64.wrap x2601)).bind fun x2604 =>
(f54 (((x2604.name, (x2604.version, (x2604.needs, (x2604.tree, ())))), (y.1.2.1, ())), ())).bind fun r2605 =>
 bif (decide (r2605.1.1 < (0 : Int))) then
 some (.inl ((y.1.1, (y.1.2.1, ((), (y.1.2.2.2.1, ((IntKind.i64.wrap ((IntKind.i64.wrap x2601) + (1 : Int))), (y.1.2.2.2.2.2.1, ())))))), ()))
else
 some (.inl ((y.1.1, (y.1.2.1, ((), (y.1.2.2.2.1, (y.1.2.2.2.2.1, ((IntKind.i64.wrap x2601), ())))))), ()))
else
 some (.inr (((y.1.1, (y.1.2.1, ((), (y.1.2.2.2.1, (y.1.2.2.2.2.1, ()))))), ())))
theorem r53v0_60 : ∀ y, g53v0_60 y = jjz (jjd c53v0 []) (jjl (jjc b53v0 1 60)) 60 s53v0_60 jJt y := fun y => by kernel_rfl
noncomputable def jJE : s53v0_60.Y → Option (YS jJt) := jjC g53v0_60
theorem q53v0_60 (H : CtxGood Pz c53v0) : jjn Pz (jjc b53v0 1 60) (jjb s53v0_60 jJt jJE) :=
 jjt (fr := []) H (by kernel_rfl) (by kernel_rfl) jje (fun y => jjh r53v0_60 y)
@[reducible] noncomputable def i53v0 : Shape := ⟨[(0, .lf (.d (.sl .pack))), (1, .lf (.d (.str))), (2, .lf (.fn 54 []))], [], 49⟩
@[reducible] noncomputable def o53v0 : Shape := ⟨[(6, .lf (.d (.int .i64))), (7, .lf (.d (.bool)))], [], 49⟩
noncomputable def f53v0 (a : i53v0.Y) : Option o53v0.Y :=
(jJE ((a.1.1, (a.1.2.1, ((), ((a.1.1.length : Int), ((0 : Int), ((a.1.1.length : Int), ())))))), ())).bind fun r2609 =>
 bif (decide (r2609.1.2.2.2.2.1 < r2609.1.2.2.2.1)) then
(ix r2609.1.1 r2609.1.2.2.2.2.1).bind fun x2610 =>
(f54 (((x2610.name, (x2610.version, (x2610.needs, (x2610.tree, ())))), (r2609.1.2.1, ())), ())).bind fun r2611 =>
 some ((r2609.1.2.2.2.2.1, ((r2611.1.1 == (0 : Int)), ())), ())
else
 some ((r2609.1.2.2.2.2.1, (false, ())), ())
theorem e53v0 : ∀ a, f53v0 a = jjo (jjd c53v0 [(60, jjb s53v0_60 jJt jJE)]) b53v0 i53v0 o53v0 a := fun a => by kernel_rfl
noncomputable def S53v0 : jjF := jjf tt 49 i53v0 o53v0 [.tmp 6, .tmp 7] [] f53v0
theorem z53v0 (h : ∀ T, (tt T).ok Pz T) (h54 : jja Pz 54 S54) : jja Pz 53 S53v0 :=
 have H := k53v0 h h54
 jjk (fn := Tryz.f53) (fr := [(60, jjb s53v0_60 jJt jJE)]) H (by kernel_rfl) (by kernel_rfl) (by kernel_rfl) (by kernel_rfl) (by kernel_rfl) ⟨q53v0_60 H, trivial⟩ (by kernel_rfl) (fun y => ⟨_, _, rfl, rfl, rfl⟩) e53v0
noncomputable def c27 : Ctx := { tt := tt, fs := fun n => match n with | 53 => some S53v0 | _ => none }
theorem k27 (h : ∀ T, (tt T).ok Pz T) (h53v0 : jja Pz 53 S53v0) : CtxGood Pz c27 := ⟨⟨h⟩, fun g S hg => (by
 simp only [c27] at hg
 split at hg
 ·cases hg; exact h53v0
 ·cases hg), jjp, fun _ _ h => (by cases h), fun _ h => (by cases h)⟩
noncomputable def b27 : Code := jji Tryz.f27
@[reducible] noncomputable def i27 : Shape := ⟨[(0, .lf (.d (.sl .pack))), (1, .lf (.d (.str)))], [], 11⟩
@[reducible] noncomputable def o27 : Shape := ⟨[(4, .lf (.d (.int .i64))), (5, .lf (.d (.bool)))], [], 11⟩
noncomputable def f27 (a : i27.Y) : Option o27.Y :=
(f53v0 ((a.1.1, (a.1.2.1, ((), ()))), ())).bind fun r2613 =>
 some ((r2613.1.1, (r2613.1.2.1, ())), ())
theorem e27 : ∀ a, f27 a = jjo (jjd c27 []) b27 i27 o27 a := fun a => by kernel_rfl
noncomputable def S27 : jjF := jjf tt 11 i27 o27 [.tmp 4, .tmp 5] [] f27
theorem z27 (h : ∀ T, (tt T).ok Pz T) (h53v0 : jja Pz 53 S53v0) : jja Pz 27 S27 :=
 have H := k27 h h53v0
 jjk (fn := Tryz.f27) (fr := []) H (by kernel_rfl) (by kernel_rfl) (by kernel_rfl) (by kernel_rfl) (by kernel_rfl) jje (by kernel_rfl) (fun y => ⟨_, _, rfl, rfl, rfl⟩) e27
noncomputable def c82 : Ctx := { tt := tt, fs := fun n => match n with | _ => none }
theorem k82 (h : ∀ T, (tt T).ok Pz T) : CtxGood Pz c82 := ⟨⟨h⟩, fun g S hg => (by cases hg), jjp, fun _ _ h => (by cases h), fun _ h => (by cases h)⟩
noncomputable def b82 : Code := jji Tryz.f82
@[reducible] noncomputable def i82 : Shape := ⟨[(0, .lf (.d (.sl .need)))], [], 8⟩
@[reducible] noncomputable def o82 : Shape := ⟨[(2, .lf (.own 3000128))], [(3000128, .row .need, .slot 2 0)], 8⟩
noncomputable def f82 (a : i82.Y) : Option o82.Y :=
 jxn (t := .need) a.1.1 (some (((), ()), (([] : List Need), ()))) ((apd 40 ([] : List Need) a.1.1).bind fun x2619 =>
 some (((), ()), (x2619, ())))
theorem e82 : ∀ a, f82 a = jjo (jjd c82 []) b82 i82 o82 a := fun a => by kernel_rfl
noncomputable def S82 : jjF := jjf tt 8 i82 o82 [.tmp 2] [] f82
theorem z82 (h : ∀ T, (tt T).ok Pz T) : jja Pz 82 S82 :=
 have H := k82 h
 jjk (fn := Tryz.f82) (fr := []) H (by kernel_rfl) (by kernel_rfl) (by kernel_rfl) (by kernel_rfl) (by kernel_rfl) jje (by kernel_rfl) (fun y => ⟨_, _, rfl, rfl, rfl⟩) e82
noncomputable def c56 : Ctx := { tt := tt, fs := fun n => match n with | 82 => some S82 | 83 => some S83 | _ => none }
theorem k56 (h : ∀ T, (tt T).ok Pz T) (h82 : jja Pz 82 S82) (h83 : jja Pz 83 S83) : CtxGood Pz c56 := ⟨⟨h⟩, fun g S hg => (by
 simp only [c56] at hg
 split at hg
 ·cases hg; exact h82
 ·cases hg; exact h83
 ·cases hg), jjp, fun _ _ h => (by cases h), fun _ h => (by cases h)⟩
noncomputable def b56 : Code := jji Tryz.f56
@[reducible] noncomputable def i56 : Shape := ⟨[(0, .agg [.d (.str), .d (.str), .d (.sl .need), .d (.sl .entry)])], [], 12⟩
@[reducible] noncomputable def o56 : Shape := ⟨[(2, .lf (.ptr 2 0))], [(5000130, .row .need, .cell 2 2), (5000131, .row .entry, .cell 2 3), (2, .box [.d (.str), .d (.str), .own 5000130, .own 5000131], .same)], 12⟩
noncomputable def f56 (a : i56.Y) : Option o56.Y :=
(f82 ((a.1.1.2.2.1, ()), ())).bind fun r2624 =>
(f83 ((a.1.1.2.2.2.1, ()), ())).bind fun r2625 =>
 some (((), ()), (r2624.2.1, (r2625.2.1, ((a.1.1.1, (a.1.1.2.1, ((), ((), ())))), ()))))
theorem e56 : ∀ a, f56 a = jjo (jjd c56 []) b56 i56 o56 a := fun a => by kernel_rfl
noncomputable def S56 : jjF := jjf tt 12 i56 o56 [.cell 2 35] [] f56
theorem z56 (h : ∀ T, (tt T).ok Pz T) (h82 : jja Pz 82 S82) (h83 : jja Pz 83 S83) : jja Pz 56 S56 :=
 have H := k56 h h82 h83
 jjk (fn := Tryz.f56) (fr := []) H (by kernel_rfl) (by kernel_rfl) (by kernel_rfl) (by kernel_rfl) (by kernel_rfl) jje (by kernel_rfl) (fun y => ⟨_, _, rfl, rfl, rfl⟩) e56
noncomputable def c29 : Ctx := { tt := tt, fs := fun n => match n with | 56 => some S56 | _ => none }
theorem k29 (h : ∀ T, (tt T).ok Pz T) (h56 : jja Pz 56 S56) : CtxGood Pz c29 := ⟨⟨h⟩, fun g S hg => (by
 simp only [c29] at hg
 split at hg
 ·cases hg; exact h56
 ·cases hg), jjp, fun _ _ h => (by cases h), fun _ h => (by cases h)⟩
noncomputable def b29 : Code := jji Tryz.f29
@[reducible] noncomputable def s29_58 : Shape := ⟨[(3, .lf (.own 3000192)), (6, .lf (.d (.sl .pack))), (7, .lf (.d (.int .i64))), (8, .lf (.d (.int .i64)))], [(3000192, .row .pack, .slot 3 0)], 19⟩
@[reducible] noncomputable def t29_58 : List OSh := [(.exit 0, ⟨[(3, .lf (.own 3000192))], [(3000192, .row .pack, .slot 3 0)], 19⟩)]
noncomputable def g29_58 (y : s29_58.Y) : Option (Sum s29_58.Y (YS t29_58)) :=
 bif (decide (y.1.2.2.2.1 < y.1.2.2.1)) then
(ix y.1.2.1 y.1.2.2.2.1).bind fun x2629 =>
(f56 (((x2629.name, (x2629.version, (x2629.needs, (x2629.tree, ())))), ()), ())).bind fun r2630 =>
(apd 80 y.2.1 ([(Pack.mk r2630.2.2.2.1.1 r2630.2.2.2.1.2.1 r2630.2.1 r2630.2.2.1)] : List Pack)).bind fun x2631 =>
 some (.inl (((), (y.1.2.1, (y.1.2.2.1, ((IntKind.i64.wrap (y.1.2.2.2.1 + (1 : Int))), ())))), (x2631, ())))
else
 some (.inr ((((), ()), (y.2.1, ()))))
theorem r29_58 : ∀ y, g29_58 y = jjz (jjd c29 []) (jjl (jjc b29 1 58)) 58 s29_58 t29_58 y := fun y => by kernel_rfl
noncomputable def l29_58 : s29_58.Y → Option (YS t29_58) := jjC g29_58
theorem q29_58 (H : CtxGood Pz c29) : jjn Pz (jjc b29 1 58) (jjb s29_58 t29_58 l29_58) :=
 jjt (fr := []) H (by kernel_rfl) (by kernel_rfl) jje (fun y => jjh r29_58 y)
@[reducible] noncomputable def i29 : Shape := ⟨[(0, .lf (.d (.sl .pack)))], [], 19⟩
@[reducible] noncomputable def o29 : Shape := ⟨[(2, .lf (.own 3000128))], [(3000128, .row .pack, .slot 2 0)], 19⟩
noncomputable def f29 (a : i29.Y) : Option o29.Y :=
(l29_58 (((), (a.1.1, ((a.1.1.length : Int), ((0 : Int), ())))), (([] : List Pack), ()))).bind fun r2633 =>
 some (((), ()), (r2633.2.1, ()))
theorem e29 : ∀ a, f29 a = jjo (jjd c29 [(58, jjb s29_58 t29_58 l29_58)]) b29 i29 o29 a := fun a => by kernel_rfl
noncomputable def S29 : jjF := jjf tt 19 i29 o29 [.tmp 2] [] f29
theorem z29 (h : ∀ T, (tt T).ok Pz T) (h56 : jja Pz 56 S56) : jja Pz 29 S29 :=
 have H := k29 h h56
 jjk (fn := Tryz.f29) (fr := [(58, jjb s29_58 t29_58 l29_58)]) H (by kernel_rfl) (by kernel_rfl) (by kernel_rfl) (by kernel_rfl) (by kernel_rfl) ⟨q29_58 H, trivial⟩ (by kernel_rfl) (fun y => ⟨_, _, rfl, rfl, rfl⟩) e29
noncomputable def c28 : Ctx := { tt := tt, fs := fun n => match n with | 29 => some S29 | _ => none }
theorem k28 (h : ∀ T, (tt T).ok Pz T) (h29 : jja Pz 29 S29) : CtxGood Pz c28 := ⟨⟨h⟩, fun g S hg => (by
 simp only [c28] at hg
 split at hg
 ·cases hg; exact h29
 ·cases hg), jjp, fun _ _ h => (by cases h), fun _ h => (by cases h)⟩
noncomputable def b28 : Code := jji Tryz.f28
@[reducible] noncomputable def i28 : Shape := ⟨[(0, .agg [.d (.sl .pack)])], [], 7⟩
@[reducible] noncomputable def o28 : Shape := ⟨[(2, .lf (.ptr 2 0))], [(5000128, .row .pack, .cell 2 0), (2, .box [.own 5000128], .same)], 7⟩
noncomputable def f28 (a : i28.Y) : Option o28.Y :=
(f29 ((a.1.1.1, ()), ())).bind fun r2635 =>
 some (((), ()), (r2635.2.1, (((), ()), ())))
theorem e28 : ∀ a, f28 a = jjo (jjd c28 []) b28 i28 o28 a := fun a => by kernel_rfl
noncomputable def S28 : jjF := jjf tt 7 i28 o28 [.cell 2 39] [] f28
theorem z28 (h : ∀ T, (tt T).ok Pz T) (h29 : jja Pz 29 S29) : jja Pz 28 S28 :=
 have H := k28 h h29
 jjk (fn := Tryz.f28) (fr := []) H (by kernel_rfl) (by kernel_rfl) (by kernel_rfl) (by kernel_rfl) (by kernel_rfl) jje (by kernel_rfl) (fun y => ⟨_, _, rfl, rfl, rfl⟩) e28
noncomputable def c30 : Ctx := { tt := tt, fs := fun n => match n with | 25 => some S25 | 28 => some S28 | _ => none }
theorem k30 (h : ∀ T, (tt T).ok Pz T) (h25 : jja Pz 25 S25) (h28 : jja Pz 28 S28) : CtxGood Pz c30 := ⟨⟨h⟩, fun g S hg => (by
 simp only [c30] at hg
 split at hg
 ·cases hg; exact h25
 ·cases hg; exact h28
 ·cases hg), jjp, fun _ _ h => (by cases h), fun _ h => (by cases h)⟩
noncomputable def b30 : Code := jji Tryz.f30
@[reducible] noncomputable def i30 : Shape := ⟨[(0, .lf (.d (.sl .pack))), (1, .agg [.d (.sl .pack)])], [], 16⟩
@[reducible] noncomputable def o30 : Shape := ⟨[(4, .lf (.ptr 4 0)), (5, .lf (.d (.int .i64)))], [(4, .box [.d (.sl .pack)], .same)], 16⟩
noncomputable def f30 (a : i30.Y) : Option o30.Y :=
(f25 ((a.1.1, ()), ())).bind fun r2651 =>
 bif (r2651.1.1 != (0 : Int)) then
(f28 (((a.1.2.1.1, ()), ()), ())).bind fun r2652 =>
 some (((), (r2651.1.1, ())), ((r2652.2.1, ()), ()))
else
 some (((), ((0 : Int), ())), ((a.1.1, ()), ()))
theorem e30 : ∀ a, f30 a = jjo (jjd c30 []) b30 i30 o30 a := fun a => by kernel_rfl
noncomputable def S30 : jjF := jjf tt 16 i30 o30 [.cell 4 39, .tmp 5] [] f30
theorem z30 (h : ∀ T, (tt T).ok Pz T) (h25 : jja Pz 25 S25) (h28 : jja Pz 28 S28) : jja Pz 30 S30 :=
 have H := k30 h h25 h28
 jjk (fn := Tryz.f30) (fr := []) H (by kernel_rfl) (by kernel_rfl) (by kernel_rfl) (by kernel_rfl) (by kernel_rfl) jje (by kernel_rfl) (fun y => ⟨_, _, rfl, rfl, rfl⟩) e30
theorem v_CloneN (a) (hs : Bd a.1.1.length) : f82 a = some (((), ()), (a.1.1, ())) := by
 obtain ⟨⟨xs, u⟩, u'⟩ := a
 have hs : xs.length ≤ 2097152 := hs
 have h2 : (apd 40 ([] : List Need) xs).bind (fun x => some (((), ()), (x, ()))) = (some (((), ()), (xs, ())) : Option o82.Y) := by
  rw [jj0 (by decide) (by unfold Sm; simp only [List.length_nil]; omega)]; rfl
 simp only [f82]
 rw [h2]
 unfold jxn
 split
 ·rfl
 ·rename_i h
  exact absurd (fun he : xs = [] => by subst he; rfl) h
theorem v_clonePack (a) (h : BdP ⟨a.1.1.1, a.1.1.2.1, a.1.1.2.2.1, a.1.1.2.2.2.1⟩) : f56 a = some (((), ()), (a.1.1.2.2.1, (a.1.1.2.2.2.1, ((a.1.1.1, (a.1.1.2.1, ((), ((), ())))), ())))) := by
 obtain ⟨⟨⟨name, version, needs, tree, u⟩, u'⟩, u''⟩ := a
 have e1 := v_CloneN ((needs, ()), ()) h.2.2.1.1
 have e2 := v_CloneE ((tree, ()), ()) h.2.2.2.1
 simp only [f56, e1, e2, Option.bind_some]
theorem v_clonePacks (a) (h : BdPs a.1.1) : f29 a = some (((), ()), (a.1.1, ())) := by
 obtain ⟨⟨ps, u⟩, u'⟩ := a
 have hl : ps.length ≤ 2097152 := h.1
 have key := loop_fold (S := List Pack) g29_58 ps (fun i acc => (((), (ps, ((ps.length : Int), ((i : Int), ())))), (acc, ()))) (fun x acc => acc ++ [x]) (fun acc => (((), ()), (acc, ()))) (fun i acc => acc.length = i) [] rfl (fun i x acc hx hI => ?_) (fun acc hI => ?_)
 ·have key : l29_58 (((), (ps, ((ps.length : Int), ((0 : Int), ())))), (([] : List Pack), ())) = _ := key
  have e : ∀ (l acc : List Pack), l.foldl (fun s x => s ++ [x]) acc = acc ++ l := by
   intro l
   induction l with
   | nil => intro acc; simp
   | cons x l ih => intro acc; simp only [List.foldl_cons]; rw [ih]; simp
  simp only [f29, key, Option.bind_some]
  rw [e]; rfl
 ·have hi := jjv hx
  have hw : Sm i := by unfold Sm; omega
  have e2 := v_clonePack (((x.name, (x.version, (x.needs, (x.tree, ())))), ()), ()) (h.2 x (List.mem_of_getElem? hx))
  have ha : apd 80 acc [x] = some (acc ++ [x]) := jj0 (by decide) (by unfold Sm; simp; omega)
  simp only [g29_58, jjA hi, cond_true, jjs, hx, Option.bind_some, e2, ha, jjj hw]
  exact ⟨trivial, by simp [hI]⟩
 ·simp only [g29_58, jjI, cond_false]
theorem v_cloneRoot (a) (h : BdPs a.1.1.1) : f28 a = some (((), ()), (a.1.1.1, (((), ()), ()))) := by
 obtain ⟨⟨⟨ps, u0⟩, u⟩, u'⟩ := a
 have e := v_clonePacks ((ps, ()), ()) h
 simp only [f28, e, Option.bind_some]
abbrev AscN (ps : List Pack) : Prop := ps.Pairwise fun p q => Op.bytesLess p.name q.name = true
def asE (p : Pack) : Entry := ⟨p.name, 0, 0, []⟩
theorem posP_E (ps : List Pack) (n : Str) : jj4 (ps.map asE) n = jzs ps n := by
 unfold jj4 jzs
 rw [List.takeWhile_map, List.length_map]; rfl
theorem ascE {ps : List Pack} (h : AscN ps) : Asc (ps.map asE) := by
 unfold Asc
 rw [List.pairwise_map]; exact h
theorem posP_spec {ps : List Pack} {n : Str} (ha : AscN ps) (h : Nat) (p : Pack) (hp : ps[h]? = some p) : Op.bytesLess p.name n = decide (h < jzs ps n) := by
 have := jqu (p := n) (ascE ha) h (asE p) (by rw [List.getElem?_map, hp]; rfl)
 rw [posP_E] at this
 exact this
def hasP (ps : List Pack) (n : Str) : Bool := match ps[jzs ps n]? with
 | some q => q.name == n
 | none => false
theorem v_findPack (a) (hs : Bd a.1.1.length) (ha : AscN a.1.1) : f27 a = some (((jzs a.1.1 a.1.2.1 : Int), (hasP a.1.1 a.1.2.1, ())), ()) := by
 obtain ⟨⟨t, p, u⟩, u'⟩ := a
 have hs : t.length ≤ 2097152 := hs
 have hP := posP_le t p
 have hc : ∀ x : Pack, f54 (((x.name, (x.version, (x.needs, (x.tree, ())))), (p, ())), ()) = some ((cmpI x.name p, ()), ()) := by
  intro x
  have h1 : (x.name == x.name) = true := by simp
  have h2 : (p == p) = true := by simp
  simp only [f54, f55, f81, Option.bind_some, h1, h2, Bool.not_true, cond_false, cmpI]
  cases Op.bytesLess x.name p <;> cases (x.name == p) <;> rfl
 have key : ∀ d i j : Nat, j - i = d → i ≤ jzs t p → jzs t p ≤ j → j ≤ t.length →
   jJE ((t, (p, ((), ((t.length : Int), ((i : Int), ((j : Int), ())))))), ()) =
    some (((t, (p, ((), ((t.length : Int), ((jzs t p : Int), ()))))), ())) := by
  intro d
  induction d using Nat.strongRecOn with
  | _ d ih =>
   intro i j hd hi hj hl
   by_cases hij : i < j
   ·have hh : (i + j) / 2 < t.length := by omega
    obtain ⟨e, he⟩ : ∃ e, t[(i + j) / 2]? = some e := ⟨t[(i + j) / 2], List.getElem?_eq_getElem hh⟩
    have hsh : shrI .u64 (IntKind.u64.wrap (IntKind.i64.wrap ((i : Int) + (j : Int)))) 1 = some ((((i + j) / 2 : Nat)) : Int) := by
     rw [← shr1 (n := i + j) (by omega)]; rw [Int.natCast_add]
    have hwh : IntKind.i64.wrap (((i + j) / 2 : Nat) : Int) = (((i + j) / 2 : Nat) : Int) := jjG (by omega) (by omega)
    have hps := posP_spec (n := p) ha ((i + j) / 2) e he
    cases hb : Op.bytesLess e.name p with
    | true =>
     rw [hb] at hps
     have hlt : (i + j) / 2 < jzs t p := by simpa using hps.symm
     refine (jqc ?_).trans (ih (j - ((i + j) / 2 + 1)) (by omega) ((i + j) / 2 + 1) j rfl (by omega) hj hl)
     simp only [g53v0_60, jjA hij, cond_true, hsh, hwh, jjs, he, Option.bind_some, hc, cmpI_neg, hb, jjj (i := (i + j) / 2) (by unfold Sm; omega)]
    | false =>
     rw [hb] at hps
     have hge : ¬ (i + j) / 2 < jzs t p := by simpa using hps.symm
     refine (jqc ?_).trans (ih ((i + j) / 2 - i) (by omega) i ((i + j) / 2) rfl hi (by omega) (by omega))
     simp only [g53v0_60, jjA hij, cond_true, hsh, hwh, jjs, he, Option.bind_some, hc, cmpI_neg, hb, cond_false]
   ·have hi' : i = jzs t p := by omega
    have hlt : decide ((i : Int) < (j : Int)) = false := by simp only [decide_eq_false_iff_not]; omega
    refine jjE ?_
    simp only [g53v0_60, hlt, cond_false]
    rw [hi']
 have k0 : jJE ((t, (p, ((), ((t.length : Int), ((0 : Int), ((t.length : Int), ())))))), ()) = _ := key t.length 0 t.length (Nat.sub_zero _) (Nat.zero_le _) hP (Nat.le_refl _)
 have fb : f53v0 ((t, (p, ((), ()))), ()) = some (((jzs t p : Int), (hasP t p, ())), ()) := by
  simp only [f53v0, k0, Option.bind_some, hasP, jjs, hc, cmpI_zero]
  cases ht : t[jzs t p]? with
  | none =>
   have := List.getElem?_eq_none_iff.1 ht
   have : decide ((jzs t p : Int) < (t.length : Int)) = false := by simp only [decide_eq_false_iff_not]; omega
   rw [this]; rfl
  | some e => rw [jjA (jjv ht)]; rfl
 simp only [f27, fb, Option.bind_some]
theorem find_pos {ps : List Pack} (ha : AscN ps) (n : Str) : ps.find? (fun q => q.name == n) = bif hasP ps n then ps[jzs ps n]? else none := by
 have hu : ∀ (k : Nat) (q : Pack), ps[k]? = some q → q.name = n → k = jzs ps n := by
  intro k q hk hq
  have h1 := posP_spec (n := n) ha k q hk
  have h2 : Op.bytesLess q.name n = false := by rw [hq]; exact jzm _
  rw [h1] at h2
  have h2 : ¬ k < jzs ps n := of_decide_eq_false h2
  rcases Nat.lt_or_ge (jzs ps n) k with h3 | h3
  ·have h4 : jzs ps n < ps.length := Nat.lt_trans h3 (jjv hk)
   have h5 := List.getElem?_eq_getElem h4
   have h6 := posP_spec (n := n) ha (jzs ps n) ps[jzs ps n] h5
   have h7 := List.pairwise_iff_getElem.1 ha (jzs ps n) k h4 (jjv hk) h3
   have h8 : ps[k]'(jjv hk) = q := by
    have := List.getElem?_eq_getElem (jjv hk)
    rw [hk] at this
    exact (Option.some.inj this).symm
   rw [h8, hq] at h7
   rw [h7] at h6
   have := of_decide_eq_true h6.symm
   omega
  ·omega
 cases hf : ps.find? (fun q => q.name == n) with
 | none =>
  have h0 := List.find?_eq_none.1 hf
  unfold hasP
  cases hq : ps[jzs ps n]? with
  | none => rfl
  | some q =>
   have := h0 q (List.mem_of_getElem? hq)
   simp only [Bool.not_eq_true] at this
   simp only [this, cond_false]
 | some q =>
  have h1 : q.name = n := by have := List.find?_some hf; simpa using this
  obtain ⟨k, hk⟩ := List.mem_iff_getElem?.1 (List.mem_of_find?_eq_some hf)
  have := hu k q hk h1
  subst this
  unfold hasP
  simp only [hk, h1, beq_self_eq_true, cond_true]
theorem v_rootOr (a) (hb : BdPs a.1.1) (hv : VS a.1.1) (hr : BdPs a.1.2.1.1) : f30 a = some (((), (jxj a.1.1, ())), (((bif jxj a.1.1 == 0 then a.1.1 else a.1.2.1.1), ()), ())) := by
 obtain ⟨⟨list, ⟨r, u0⟩, u⟩, u'⟩ := a
 have e := v_rootCode ((list, ()), ()) hb hv
 have e2 := v_cloneRoot (((r, ()), ()), ()) hr
 simp only [f30, e, Option.bind_some]
 have z : (jxj list != 0) = !(jxj list == 0) := rfl
 rw [z]
 cases hc : (jxj list == 0) with
 | false => simp only [Bool.not_false, cond_true, cond_false, e2, Option.bind_some]
 | true =>
  have hc : jxj list = 0 := by simpa using hc
  simp only [Bool.not_true, cond_false, cond_true]
  rw [hc]
def inR (ps : List Pack) (p : Pack) : List Pack × Int := bif jqA ps then inL ps p else ([], 1)
theorem jq0 {ps : List Pack} (h : jqA ps = true) : AscN ps := by
 obtain ⟨t, R⟩ := rt_of h
 exact R.asc
theorem rootOk_len {ps : List Pack} (h : jqA ps = true) : ps.length ≤ 5 := by
 unfold jqA at h
 simp only [Bool.and_eq_true, decide_eq_true_eq] at h
 exact h.1.1.2
theorem asc_sub {α : Type} {key : α → Str} : ∀ {b a : List α}, a.Pairwise (fun x y => Op.bytesLess (key x) (key y) = true) → b.Pairwise (fun x y => Op.bytesLess (key x) (key y) = true) → (∀ x, x ∈ a → x ∈ b) → a.Sublist b := by
 intro b
 induction b with
 | nil =>
  intro a _ _ h
  cases a with
  | nil => exact List.Sublist.refl _
  | cons x r => exact absurd (h x List.mem_cons_self) (by simp)
 | cons y b ih =>
  intro a ha hb h
  cases a with
  | nil => exact List.nil_sublist _
  | cons x a =>
   obtain ⟨a1, a2⟩ := List.pairwise_cons.1 ha
   obtain ⟨b1, b2⟩ := List.pairwise_cons.1 hb
   have later : ∀ z, Op.bytesLess (key y) (key z) = true → z ∈ y :: b → z ∈ b := by
    intro z hz hm
    rcases List.mem_cons.1 hm with rfl | hm
    ·rw [jzm] at hz; cases hz
    ·exact hm
   rcases List.mem_cons.1 (h x List.mem_cons_self) with rfl | hx
   ·exact List.Sublist.cons_cons _ (ih a2 b2 fun z hz => later z (a1 z hz) (h z (List.mem_cons_of_mem _ hz)))
   ·refine List.Sublist.cons _ (ih ha b2 fun z hz => ?_)
    rcases List.mem_cons.1 hz with rfl | hz'
    ·exact hx
    ·exact later z (jJR _ _ _ (b1 x hx) (a1 z hz')) (h z hz)
theorem asc_eq {α : Type} {key : α → Str} {a b : List α} (ha : a.Pairwise fun x y => Op.bytesLess (key x) (key y) = true) (hb : b.Pairwise fun x y => Op.bytesLess (key x) (key y) = true) (h : ∀ x, x ∈ a ↔ x ∈ b) : a = b :=
 (asc_sub ha hb fun x hx => (h x).1 hx).eq_of_length_le (asc_sub hb ha fun x hx => (h x).2 hx).length_le
theorem find_in {ps : List Pack} (ha : AscN ps) {n : Str} {q : Pack} : ps.find? (fun q => q.name == n) = some q ↔ q ∈ ps ∧ q.name = n := by
 constructor
 ·intro h
  exact ⟨List.mem_of_find?_eq_some h, by have := List.find?_some h; simpa using this⟩
 ·rintro ⟨h, rfl⟩
  cases hf : ps.find? (fun x => x.name == q.name) with
  | none => have := List.find?_eq_none.1 hf q h; simp at this
  | some x =>
   have h1 := List.mem_of_find?_eq_some hf
   have h2 : x.name = q.name := by have := List.find?_some hf; simpa using this
   obtain ⟨i, hi⟩ := List.mem_iff_getElem?.1 h1
   obtain ⟨j, hj⟩ := List.mem_iff_getElem?.1 h
   have e1 := List.getElem?_eq_some_iff.1 hi
   have e2 := List.getElem?_eq_some_iff.1 hj
   obtain ⟨i1, i2⟩ := e1
   obtain ⟨j1, j2⟩ := e2
   rcases Nat.lt_trichotomy i j with h3 | h3 | h3
   ·have := List.pairwise_iff_getElem.1 ha i j i1 j1 h3
    rw [i2, j2, h2, jzm] at this; cases this
   ·subst h3; rw [hi] at hj; exact hj
   ·have := List.pairwise_iff_getElem.1 ha j i j1 i1 h3
    rw [i2, j2, h2, jzm] at this; cases this
theorem find_no {ps : List Pack} {n : Str} : ps.find? (fun q => q.name == n) = none ↔ ∀ q, q ∈ ps → q.name ≠ n := by
 rw [List.find?_eq_none]
 constructor
 ·intro h q hq he; exact h q hq (by simpa using he)
 ·intro h q hq he; exact h q hq (by simpa using he)
structure InOk (ps : List Pack) (p : Pack) : Prop where
 ok : jqA ps = true
 pk : jxP p = true
 new : ∀ q, q ∈ ps → q.name ≠ p.name
 code : jxj (withL ps p) = 0
theorem InOk.out {ps : List Pack} {p : Pack} (h : InOk ps p) : inR ps p = (withL ps p, 0) := by
 unfold inR inL
 rw [h.ok, h.pk, find_no.2 h.new, h.code]
 rfl
theorem del_none (w : World) : Calls Pz 31 #[.slice none 0 0, .int .i64 0, .int .i64 0] w fun e w' => e = .returned (.slice none 0 0) ∧ w' = w := by
 go_enter Tryz.func31, Tryz.ntmps31
 go_wp2
 all_goals (go_ret; exact ⟨rfl, rfl⟩)
theorem del_same (g n c i : Nat) (w : World) (hi : i ≤ n) (hnc : n ≤ c) (hc63 : c ≤ 9223372036854775807) : Calls Pz 31 #[.slice (some ⟨g, 0, none⟩) n c, .int .i64 i, .int .i64 i] w fun e w' => e = .returned (.slice (some ⟨g, 0, none⟩) n c) ∧ w' = w := by
 go_enter Tryz.func31, Tryz.ntmps31
 go_wp2
 all_goals (go_ret; exact ⟨rfl, rfl⟩)
theorem del_cut (g n c i j : Nat) (cur : Array Value) (te : TypeId) (w : World) (hij : i < j) (hj : j ≤ n) (hnc : n ≤ c) (hc63 : c ≤ 9223372036854775807) (hg : w.heap[g]? = some (.cells cur te (0, 0))) (hcs : cur.size = c * 4)
  (h1c : ∀ v ∈ cur.toList.take (n * 4), v.oneCell' = true) : ∃ ROW : Array Value, ROW.size = c * 4 ∧ ROW.toList.take ((i + (n - j)) * 4) = cur.toList.take (i * 4) ++ (cur.toList.take (n * 4)).drop (j * 4) ∧
  Calls Pz 31 #[.slice (some ⟨g, 0, none⟩) n c, .int .i64 i, .int .i64 j] w fun e w' => e = .returned (.slice (some ⟨g, 0, none⟩) (i + (n - j)) c) ∧ w'.os = w.os ∧ w'.tape = w.tape ∧ w'.output = w.output ∧ w'.heap = (w.setRow g ROW).heap := by
 have tT : Pz.underlying 23 = some (.slice 35) := by kernel_rfl
 have hinfo : (Pz.info? 35).map (fun i => (i.zero.map (fun z => (z.cells.size, z.cells.toList.all fun v => v.oneCell')), i.size)) = some (some (4, true), 4) := by kernel_rfl
 obtain ⟨i0, hi0, hzz⟩ := Option.map_eq_some_iff.1 hinfo
 simp only [Prod.mk.injEq] at hzz
 obtain ⟨hz0, hzs⟩ := hzz
 obtain ⟨z, hz, hzc⟩ := Option.map_eq_some_iff.1 hz0
 simp only [Prod.mk.injEq] at hzc
 obtain ⟨hzc, hz1⟩ := hzc
 have hz1 : ∀ v ∈ z.cells, v.oneCell' = true := fun v hv => List.all_eq_true.1 hz1 v (by simpa using hv)
 have hzv : ∀ w, (zeroValue 35).run Pz w = .ok z w := fun w => by simp [zeroValue, typeInfo, hi0, hz]
 obtain ⟨news, hnews⟩ : ∃ news, news = (cur.toList.take (n * 4)).drop (j * 4) := ⟨_, rfl⟩
 have hlen : news.length = (n - j) * 4 := by rw [hnews]; simp only [List.length_drop, List.length_take, Array.length_toList, hcs]; rw [Nat.min_eq_left (by omega), Nat.sub_mul]
 have hone : ∀ v ∈ news, v.oneCell' = true := fun v hv => h1c v (by rw [hnews] at hv; exact List.mem_of_mem_drop hv)
 obtain ⟨A, hA, hsrc⟩ : ∃ A : Addr, (if c = j then some (⟨g, 0, none⟩ : Addr) else some ⟨g, j * 4, none⟩) = some A ∧ ∀ t u, news[t]? = some u → w.drew.cell? (A.add t) = some u := by
  by_cases h : c = j
  ·refine ⟨⟨g, 0, none⟩, by simp [h], fun t u hu => ?_⟩
   have h0 : news.length = 0 := by rw [hlen]; omega
   rw [List.length_eq_zero_iff.1 h0] at hu
   simp at hu
  ·refine ⟨⟨g, j * 4, none⟩, by simp [h], fun t u hu => ?_⟩
   rw [hnews, List.getElem?_drop, List.getElem?_take] at hu
   split at hu
   ·rw [Addr.add_lit]
    show w.cell? _ = _
    simpa [World.cell?, hg] using hu
   ·cases hu
 obtain ⟨cur1, hcur1⟩ : ∃ cur1, cur1 = (splice cur.toList (i * 4) news).toArray := ⟨_, rfl⟩
 have hc1s : cur1.size = c * 4 := by rw [hcur1]; simp only [splice, List.size_toArray, List.length_append, List.length_drop, List.length_take, Array.length_toList, hcs, hlen]; omega
 have hap : ∀ ty, (Builtin.append_ #[23, 23] ty #[.slice (some ⟨g, 0, none⟩) i c, .slice (some A) (n - j) (c - j)]).run Pz w.drew = .ok (.slice (some ⟨g, 0, none⟩) (i + (n - j)) c) (w.drew.setRow g cur1) := fun ty => by
  rw [hcur1]
  exact run_append_k w.drew 23 35 ty 4 i0 tT hi0 hzs g i c A (n - j) (c - j) cur te news hg hsrc hlen (by omega) (by rw [hlen]; omega) hone
 obtain ⟨ROW, hROW⟩ : ∃ ROW, ROW = (splice cur1.toList ((i + (n - j)) * 4) (Builtin.zeroCells z.cells (n - (i + (n - j)))).toList).toArray := ⟨_, rfl⟩
 have hcl : ∀ ty, (Builtin.clear_ #[23] ty #[.slice (some ⟨g, (i + (n - j)) * 4, none⟩) (n - (i + (n - j))) (c - (i + (n - j)))]).run Pz (w.drew.setRow g cur1) = .ok (.tuple #[]) ((w.drew.setRow g cur1).setRow g ROW) := fun ty => by
  rw [hROW]
  exact run_clear_k _ 23 35 ty z tT hzv g ((i + (n - j)) * 4) (n - (i + (n - j))) _ (by omega) cur1 te (setRow_heap w.drew g cur cur1 te (0, 0) hg) (by rw [hzc, hc1s]; omega) hz1
 have hzl : ∀ m, (Builtin.zeroCells z.cells m).size = 4 * m := fun m => by have := zeroCells_len z.cells m; rw [Array.length_toList, hzc] at this; exact this
 have hRs : ROW.size = c * 4 := by rw [hROW]; simp only [splice, List.size_toArray, List.length_append, List.length_drop, List.length_take, Array.length_toList, hc1s, hzl]; omega
 refine ⟨ROW, hRs, ?_, ?_⟩
 ·rw [hROW, hcur1]
  have hl1 : (splice cur.toList (i * 4) news).length = c * 4 := by have := hc1s; rw [hcur1] at this; simpa using this
  simp only [splice] at hl1 ⊢
  have hcl' : cur.toList.length = c * 4 := by rw [Array.length_toList, hcs]
  rw [← hnews]
  apply List.ext_getElem?
  intro q
  simp only [List.getElem?_take, List.getElem?_append, List.getElem?_drop, List.length_append, List.length_take, List.length_drop, hlen, hcl']
  repeat' split
  all_goals first | rfl | omega | (congr 1; omega) | (symm; apply List.getElem?_eq_none; omega) | (apply List.getElem?_eq_none; omega)
 ·have hE : (w.drew.setRow g cur1).setRow g ROW = w.drew.setRow g ROW := by rw [setRow_setRow]
  have hb2 : ¬ ((i : Int) = (j : Int)) := by omega
  have hin : i ≤ c := by omega
  have hjc : j ≤ c := by omega
  have hlc : i + (n - j) ≤ n := by omega
  have hlc2 : n ≤ c := hnc
  have hne : ¬ (c = i + (n - j)) := by omega
  obtain ⟨W1, hW1⟩ : ∃ W1, W1 = w.drew.setRow g cur1 := ⟨_, rfl⟩
  rw [← hW1] at hap hcl hE
  clear hW1 hROW hcur1 hnews
  go_enter Tryz.func31, Tryz.ntmps31
  go_wp2_with fail
  go_region_law (refine step_append_k rfl _ _ 23 23 rfl (.slice (some ⟨g, 0, none⟩) i c) (.slice (some A) (n - j) (c - j)) (by simp [Act.eval, Act.put]) (by simp [Act.eval, Act.put, hA]) (hap _) ?_)
  go_wp2_with (at_builtin; refine wpList_clear_k _ rfl _ 23 rfl _ rfl (hcl _) ?_)
  go_ret
  exact ⟨rfl, rfl, rfl, rfl, rfl⟩
noncomputable def SH31 : jjF := delSumm .pack
theorem zH31 (h : ∀ T, (tt T).ok Pz T) : jja Pz 31 SH31 := delete_ok rfl ⟨del_none, del_same, del_cut⟩ (fun vs w => enters_of Tryz.func31 (by kernel_rfl) rfl _ _)
noncomputable def c15 : Ctx := { tt := tt, fs := fun n => match n with | 13 => some S13 | 27 => some S27 | 28 => some S28 | 29 => some S29 | 30 => some S30 | 31 => some SH31 | _ => none, gv := fun n => match n with | 31 => true | _ => false }
theorem k15 (h : ∀ T, (tt T).ok Pz T) (h13 : jja Pz 13 S13) (h27 : jja Pz 27 S27) (h28 : jja Pz 28 S28) (h29 : jja Pz 29 S29) (h30 : jja Pz 30 S30) (hH31 : jja Pz 31 SH31) : CtxGood Pz c15 := ⟨⟨h⟩, fun g S hg => (by
 simp only [c15] at hg
 split at hg
 ·cases hg; exact h13
 ·cases hg; exact h27
 ·cases hg; exact h28
 ·cases hg; exact h29
 ·cases hg; exact h30
 ·cases hg; exact hH31
 ·cases hg), jjp, fun _ _ h => (by cases h), fun _ h => (by cases h)⟩
noncomputable def b15 : Code := jji Tryz.f15
@[reducible] noncomputable def i15 : Shape := ⟨[(0, .agg [.d (.sl .pack)]), (1, .lf (.d (.str)))], [], 36⟩
@[reducible] noncomputable def o15 : Shape := ⟨[(4, .lf (.ptr 4 0)), (5, .lf (.d (.int .i64)))], [(4, .box [.d (.sl .pack)], .same)], 36⟩
noncomputable def f15 (a : i15.Y) : Option o15.Y :=
(f13 (((a.1.1.1, ()), ()), ())).bind fun r2657 =>
 bif (!r2657.1.1) then
 some (((), ((1 : Int), ())), ((([] : List Pack), ()), ()))
else
(f27 ((a.1.1.1, (a.1.2.1, ())), ())).bind fun r2659 =>
 bif (!r2659.1.2.1) then
(f28 (((a.1.1.1, ()), ()), ())).bind fun r2661 =>
 some (((), ((3 : Int), ())), ((r2661.2.1, ()), ()))
else
(f29 ((a.1.1.1, ()), ())).bind fun r2663 =>
(delL r2663.2.1 r2659.1.1 (IntKind.i64.wrap (r2659.1.1 + (1 : Int)))).bind fun r2664 =>
(f30 ((r2664, ((a.1.1.1, ()), ())), ())).bind fun r2665 =>
 some (((), (r2665.1.2.1, ())), ((r2665.2.1.1, ()), ()))
theorem e15 : ∀ a, f15 a = jjo (jjd c15 []) b15 i15 o15 a := fun a => by kernel_rfl
noncomputable def S15 : jjF := jjf tt 36 i15 o15 [.cell 4 39, .tmp 5] [] f15
theorem z15 (h : ∀ T, (tt T).ok Pz T) (h13 : jja Pz 13 S13) (h27 : jja Pz 27 S27) (h28 : jja Pz 28 S28) (h29 : jja Pz 29 S29) (h30 : jja Pz 30 S30) (hH31 : jja Pz 31 SH31) : jja Pz 15 S15 :=
 have H := k15 h h13 h27 h28 h29 h30 hH31
 jjk (fn := Tryz.f15) (fr := []) H (by kernel_rfl) (by kernel_rfl) (by kernel_rfl) (by kernel_rfl) (by kernel_rfl) jje (by kernel_rfl) (fun y => ⟨_, _, rfl, rfl, rfl⟩) e15
def woL (ps : List Pack) (n : Str) : List Pack := ps.filter fun p => !(p.name == n)
theorem woL_in {ps : List Pack} {n : Str} {x : Pack} : x ∈ woL ps n ↔ x ∈ ps ∧ x.name ≠ n := by
 unfold woL
 rw [List.mem_filter]
 simp
theorem woL_asc {ps : List Pack} (n : Str) (h : AscN ps) : AscN (woL ps n) := List.Pairwise.sublist List.filter_sublist h
theorem woL_del {ps : List Pack} {n : Str} (ha : AscN ps) (h : hasP ps n = true) : ps.take (jzs ps n) ++ ps.drop (jzs ps n + 1) = woL ps n := by
 unfold hasP at h
 cases hq : ps[jzs ps n]? with
 | none => rw [hq] at h; cases h
 | some q =>
  rw [hq] at h
  have hqn : q.name = n := by simpa using h
  have hsplit : ps = ps.take (jzs ps n) ++ (q :: ps.drop (jzs ps n + 1)) := by
   have h1 := List.drop_eq_getElem_cons (jjv hq)
   have h2 : ps[jzs ps n]'(jjv hq) = q := (List.getElem?_eq_some_iff.1 hq).2
   rw [h2] at h1
   rw [← h1, List.take_append_drop]
  have ha' := ha
  rw [hsplit] at ha'
  obtain ⟨a1, a2, a3⟩ := List.pairwise_append.1 ha'
  obtain ⟨a4, a5⟩ := List.pairwise_cons.1 a2
  generalize ps.take (jzs ps n) = A at *
  generalize ps.drop (jzs ps n + 1) = B at *
  have hA : A.filter (fun p => !(p.name == n)) = A := by
   rw [List.filter_eq_self]
   intro x hx
   have := bl_ne (a3 x hx q List.mem_cons_self)
   rw [hqn] at this
   rw [this]; rfl
  have hB : B.filter (fun p => !(p.name == n)) = B := by
   rw [List.filter_eq_self]
   intro x hx
   have := a4 x hx
   rw [hqn] at this
   cases hc : (x.name == n) with
   | false => rfl
   | true => rw [eq_of_beq hc, jzm] at this; cases this
  have hq0 : (!(q.name == n)) = false := by rw [hqn]; simp
  have : woL ps n = A ++ B := by
   unfold woL
   rw [hsplit, List.filter_append, List.filter_cons, hq0, hA, hB]
   rfl
  exact this.symm
theorem woL_ok {k : Nat} {ps : List Pack} (n : Str) (h : OkR k ps) : OkR k (woL ps n) :=
 ⟨Nat.le_trans List.filter_sublist.length_le h.1, fun x hx => h.2 x (woL_in.1 hx).1⟩
def outR (ps : List Pack) (n : Str) : List Pack × Int := bif jqA ps then (match ps.find? (fun q => q.name == n) with
 | some _ => (bif jxj (woL ps n) == 0 then woL ps n else ps, jxj (woL ps n))
 | none => (ps, 3)) else ([], 1)
theorem v_iRootOut (a) (k : Nat) (hk : k ≤ 1999999) (h : OkR k a.1.1.1) : f15 a = some (((), ((outR a.1.1.1 a.1.2.1).2, ())), (((outR a.1.1.1 a.1.2.1).1, ()), ())) := by
 obtain ⟨⟨⟨ps, u0⟩, name, u⟩, u'⟩ := a
 have h : OkR k ps := h
 have hb : BdPs ps := h.bd (by omega)
 have e0 := v_iRootOk (((ps, ()), ()), ()) hb h.vs
 simp only [f15, e0, Option.bind_some, outR]
 cases hr : jqA ps with
 | false => rfl
 | true =>
  have ha := jq0 hr
  have hl := rootOk_len hr
  have e2 := v_cloneRoot (((ps, ()), ()), ()) hb
  have e3 := v_findPack ((ps, (name, ())), ()) hb.1 ha
  have e4 := v_clonePacks ((ps, ()), ()) hb
  simp only [Bool.not_true, cond_false, cond_true, e3, Option.bind_some, find_pos ha]
  cases hh : hasP ps name with
  | false => simp only [Bool.not_false, cond_true, cond_false, e2, Option.bind_some]
  | true =>
   have hw := woL_ok name h
   have hd := woL_del ha hh
   have hh' := hh
   unfold hasP at hh'
   cases hq : ps[jzs ps name]? with
   | none => rw [hq] at hh'; cases hh'
   | some q =>
    have hlt := jjv hq
    have e5 := v_rootOr ((woL ps name, ((ps, ()), ())), ()) (hw.bd (by omega)) hw.vs hb
    have e6 : delL ps (jzs ps name : Int) (((jzs ps name + 1 : Nat)) : Int) = some (woL ps name) := by
     unfold delL
     rw [if_pos ⟨by omega, by omega, by omega⟩, Int.toNat_natCast, Int.toNat_natCast, hd]
    have hwr : IntKind.i64.wrap ((jzs ps name : Int) + 1) = (((jzs ps name + 1 : Nat)) : Int) := jjj (by unfold Sm; omega)
    simp only [Bool.not_true, cond_false, cond_true, e4, hwr, e6, e5, Option.bind_some]
theorem ascP_to {ps : List Pack} (h : AscN ps) : ascP ps = true := by
 unfold ascP
 refine (jQj (ok' := fun _ _ => true) ps.tail 0 (fun i x hx => ?_)).trans (allI_true' _ _)
 rw [List.getElem?_tail] at hx
 have hlt := jjv hx
 have hi : i < ps.length := by omega
 rw [Nat.zero_add]
 unfold lessP
 rw [List.getElem?_eq_getElem hi]
 have := List.pairwise_iff_getElem.1 h i (i + 1) hi hlt (by omega)
 rw [(List.getElem?_eq_some_iff.1 hx).2] at this
 exact this
theorem rootOk_all {ps : List Pack} (h : jqA ps = true) : ps.all jxP = true ∧ ps.all (fun p => p.needs.all (jxr ps)) = true ∧ (jj8 [] ps).isSome = true := by
 unfold jqA at h
 simp only [Bool.and_eq_true] at h
 exact ⟨h.1.1.1.1, h.1.2, h.2⟩
theorem needS_of {ps : List Pack} {n : Need} (h : jxr ps n = true) : ∃ q, ps.find? (fun q => q.name == n.name) = some q ∧ jJV n q.version = true := by
 unfold jxr at h
 split at h
 ·rename_i q hq; exact ⟨q, hq, h⟩
 ·cases h
theorem needS_to {ps : List Pack} {n : Need} {q : Pack} (h : ps.find? (fun q => q.name == n.name) = some q) : jxr ps n = jJV n q.version := by
 unfold jxr; rw [h]
theorem dirIn_iff {t : List Entry} (ha : Asc t) {p : Str} : jz1 t p = true ↔ p = [] ∨ ∃ d, d ∈ t ∧ d.path = p ∧ d.kind = 1 := by
 have e : jz1 t p = (p == [] || match getL t p with | some e => e.kind == 1 | none => false) := by
  unfold jz1 getL
  cases t[jj4 t p]? with
  | none => rfl
  | some e => cases h : (e.path == p) <;> simp [h]
 rw [e, Bool.or_eq_true]
 constructor
 ·rintro (h | h)
  ·exact .inl (eq_of_beq h)
  ·cases hg : getL t p with
   | none => rw [hg] at h; cases h
   | some d =>
    rw [hg] at h
    obtain ⟨h1, h2⟩ := (jqR ha).1 hg
    exact .inr ⟨d, h1, h2, eq_of_beq h⟩
 ·rintro (h | ⟨d, h1, h2, h3⟩)
  ·exact .inl (by rw [h]; rfl)
  ·refine .inr ?_
   rw [(jqR ha).2 ⟨h1, h2⟩]
   simp [h3]
theorem treeOk_to {t : List Entry} (h : jjS t = true) : (∀ e, e ∈ t → entOk e = true) ∧ ∀ e, e ∈ t → jz1 t (upL e.path) = true := by
 unfold jjS at h
 simp only [Bool.and_eq_true] at h
 obtain ⟨⟨h1, h2⟩, _⟩ := h
 refine ⟨fun e he => ?_, fun e he => List.all_eq_true.1 h2 e he⟩
 obtain ⟨i, hi⟩ := List.mem_iff_getElem?.1 he
 have := allI_get t 0 h1 i e hi
 unfold okAt at this
 simp only [Bool.and_eq_true] at this
 exact this.1
theorem treeOk_mk {t : List Entry} (ha : Asc t) (h1 : ∀ e, e ∈ t → entOk e = true) (h2 : ∀ e, e ∈ t → jz1 t (upL e.path) = true) (h3 : t.length ≤ 16) : jjS t = true := by
 unfold jjS
 simp only [Bool.and_eq_true, decide_eq_true_eq]
 refine ⟨⟨?_, List.all_eq_true.2 h2⟩, h3⟩
 refine (jQj (ok' := fun _ _ => true) t 0 (fun i x hx => ?_)).trans (allI_true' _ _)
 rw [Nat.zero_add]
 unfold okAt lessAt
 rw [h1 x (List.mem_of_getElem? hx), Bool.true_and]
 cases i with
 | zero => rfl
 | succ i =>
  have hlt := jjv hx
  have hi : i < t.length := by omega
  have := List.pairwise_iff_getElem.1 ha i (i + 1) hi hlt (by omega)
  rw [(List.getElem?_eq_some_iff.1 hx).2] at this
  simp only [Nat.add_sub_cancel, List.getElem?_eq_getElem hi, this, Bool.or_true]
def Cmp (a b : List Entry) : Prop := ∀ e, e ∈ b → ∀ y, y ∈ a → y.path = e.path → y = e ∧ e.kind = 1
theorem joinL_can : ∀ (es out : List Entry), Asc out → Asc es → Cmp out es → ∃ o, jq9 out es = some o := by
 intro es
 induction es with
 | nil => intro out _ _ _; exact ⟨out, rfl⟩
 | cons e r ih =>
  intro out ha he hc
  obtain ⟨he1, he2⟩ := List.pairwise_cons.1 he
  have step : ∃ o, jxH out e = some o := by
   unfold jxH
   cases hq : out[jj4 out e.path]? with
   | none => exact ⟨_, rfl⟩
   | some q =>
    simp only
    cases hp : (q.path == e.path) with
    | false => exact ⟨_, rfl⟩
    | true =>
     obtain ⟨rfl, h2⟩ := hc e List.mem_cons_self q (List.mem_of_getElem? hq) (eq_of_beq hp)
     have : conf q q = false := by unfold conf; rw [h2, eqE_refl]; rfl
     rw [this]
     exact ⟨_, rfl⟩
  obtain ⟨o, ho⟩ := step
  rw [jqI, ho]
  refine ih o (stepJ_asc ha ho) he2 fun e' he' y hy hp => ?_
  rcases (stepJ_in ho y).1 hy with rfl | hy
  ·have := he1 e' he'
   rw [hp, jzm] at this
   cases this
  ·exact hc e' (List.mem_cons_of_mem _ he') y hy hp
theorem trees_can : ∀ (ps : List Pack) (out T : List Entry), jjS out = true → (∀ p, p ∈ ps → jjS p.tree = true) → ps.Pairwise (fun p q => Cmp p.tree q.tree) → (∀ p, p ∈ ps → Cmp out p.tree) →
  Asc T → T.length ≤ 16 → (∀ e, e ∈ out → e ∈ T) → (∀ p, p ∈ ps → ∀ e, e ∈ p.tree → e ∈ T) → (jj8 out ps).isSome = true := by
 intro ps
 induction ps with
 | nil => intro out T _ _ _ _ _ _ _ _; rfl
 | cons p r ih =>
  intro out T ho hp hpw hc hT hl hoT hpT
  obtain ⟨w1, w2⟩ := List.pairwise_cons.1 hpw
  have hpt := hp p List.mem_cons_self
  obtain ⟨o, hj⟩ := joinL_can p.tree out (jj6 ho) (jj6 hpt) (hc p List.mem_cons_self)
  have hin := joinL_in hj
  have hao := joinL_asc (jj6 ho) hj
  have hoT' : ∀ e, e ∈ o → e ∈ T := fun e he => by
   rcases (hin e).1 he with h | h
   ·exact hoT e h
   ·exact hpT p List.mem_cons_self e h
  have hok : jjS o = true := by
   obtain ⟨k1, k2⟩ := treeOk_to ho
   obtain ⟨k3, k4⟩ := treeOk_to hpt
   refine treeOk_mk hao (fun e he => ?_) (fun e he => ?_) (Nat.le_trans (asc_sub (key := fun e : Entry => e.path) hao hT hoT').length_le hl)
   ·rcases (hin e).1 he with h | h
    ·exact k1 e h
    ·exact k3 e h
   ·rw [dirIn_iff hao]
    rcases (hin e).1 he with h | h
    ·rcases (dirIn_iff (jj6 ho)).1 (k2 e h) with h | ⟨d, d1, d2⟩
     ·exact .inl h
     ·exact .inr ⟨d, (hin d).2 (.inl d1), d2⟩
    ·rcases (dirIn_iff (jj6 hpt)).1 (k4 e h) with h | ⟨d, d1, d2⟩
     ·exact .inl h
     ·exact .inr ⟨d, (hin d).2 (.inr d1), d2⟩
  rw [jqW]
  have : jJT out p = some o := by unfold jJT; rw [hj]; simp only [hok, cond_true]
  rw [this, Option.bind_some]
  refine ih o T hok (fun q hq => hp q (List.mem_cons_of_mem _ hq)) w2 (fun q hq e he y hy hyp => ?_) hT hl hoT' (fun q hq => hpT q (List.mem_cons_of_mem _ hq))
  rcases (hin y).1 hy with h | h
  ·exact hc q (List.mem_cons_of_mem _ hq) e he y h hyp
  ·exact w1 q hq e he y h hyp
theorem two_in {α : Type} {l : List α} {a b : α} (ha : a ∈ l) (hb : b ∈ l) (hne : a ≠ b) : 2 ≤ l.length := by
 match l, ha, hb with
 | [x], ha, hb =>
  rw [List.mem_singleton] at ha hb
  exact absurd (ha.trans hb.symm) hne
 | _ :: _ :: _, _, _ => simp
theorem cnt_two {ps : List Pack} {p q : Pack} {path : Str} (hp : p ∈ ps) (hq : q ∈ ps) (hne : p.name ≠ q.name) (h1 : (getL p.tree path).isSome = true) (h2 : (getL q.tree path).isSome = true) : 2 ≤ cntP path ps := by
 unfold cntP
 exact two_in (a := p) (b := q) (List.mem_filter.2 ⟨hp, h1⟩) (List.mem_filter.2 ⟨hq, h2⟩) fun h => hne (by rw [h])
abbrev frS : Str := [102, 114, 101, 115, 104]
section
variable {ps : List Pack} (hr : jqA ps = true) (hl : ps.length < 5) (hn : ∀ q, q ∈ ps → q.name ≠ frS) {x : Pack} (hx : x ∈ ps)
include hr hl hn hx
end
noncomputable def c6 : Ctx := { tt := tt, fs := fun n => match n with | 8 => some S8 | 12 => some S12 | 13 => some S13 | 14 => some S14 | 15 => some S15 | _ => none }
theorem k6 (h : ∀ T, (tt T).ok Pz T) (h8 : jja Pz 8 S8) (h12 : jja Pz 12 S12) (h13 : jja Pz 13 S13) (h14 : jja Pz 14 S14) (h15 : jja Pz 15 S15) : CtxGood Pz c6 := ⟨⟨h⟩, fun g S hg => (by
 simp only [c6] at hg
 split at hg
 ·cases hg; exact h8
 ·cases hg; exact h12
 ·cases hg; exact h13
 ·cases hg; exact h14
 ·cases hg; exact h15
 ·cases hg), jjp, fun _ _ h => (by cases h), fun _ h => (by cases h)⟩
noncomputable def b6 : Code := jji Tryz.f6
@[reducible] noncomputable def s6_124 : Shape := ⟨[(3, .lf (.ptr 3 0)), (4, .lf (.d (.bool)))], [(3, .box [.d (.sl .pack)], .same)], 96⟩
@[reducible] noncomputable def t6_124 : List OSh := [(.norm, ⟨[(3, .lf (.ptr 3 0)), (4, .lf (.d (.bool))), (27, .lf (.d (.bool)))], [(3, .box [.d (.sl .pack)], .same)], 96⟩)]
noncomputable def g6_124 (y : s6_124.Y) : Option (YS t6_124) :=
(f14 (((y.2.1.1, ()), ()), ())).bind fun r2553 =>
 bif (!(!(y.1.2.1 == r2553.1.1))) then
 some ((((), (y.1.2.1, ((!y.1.2.1), ()))), ((y.2.1.1, ()), ())))
else
 some ((((), (y.1.2.1, (true, ()))), ((y.2.1.1, ()), ())))
theorem r6_124 : ∀ y, g6_124 y = jjK (jjd c6 []) (jjc b6 1 124) 124 s6_124 t6_124 y := fun y => by kernel_rfl
theorem q6_124 (H : CtxGood Pz c6) : jjn Pz (jjc b6 1 124) (jjb s6_124 t6_124 g6_124) :=
 jjw (fr := []) H (by kernel_rfl) jje r6_124
@[reducible] noncomputable def s6_1018 : Shape := ⟨[(3, .lf (.ptr 3 0)), (5, .lf (.own 3000320)), (6, .lf (.d (.int .i64)))], [(3, .box [.d (.sl .pack)], .same), (3000320, .row .str, .slot 5 0)], 96⟩
@[reducible] noncomputable def t6_1018 : List OSh := [(.exit 0, ⟨[(3, .lf (.ptr 3 0)), (5, .lf (.own 3000320))], [(3, .box [.d (.sl .pack)], .same), (3000320, .row .str, .slot 5 0)], 96⟩)]
noncomputable def g6_1018 (y : s6_1018.Y) : Option (Sum s6_1018.Y (YS t6_1018)) :=
 bif (decide (y.1.2.2.1 < (y.2.1.1.length : Int))) then
(ix y.2.1.1 y.1.2.2.1).bind fun x2568 =>
(apd 16 y.2.2.1 ([x2568.name] : List Str)).bind fun x2569 =>
 some (.inl (((), ((), ((IntKind.i64.wrap (y.1.2.2.1 + (1 : Int))), ()))), ((y.2.1.1, ()), (x2569, ()))))
else
 some (.inr ((((), ((), ())), ((y.2.1.1, ()), (y.2.2.1, ())))))
theorem r6_1018 : ∀ y, g6_1018 y = jjz (jjd c6 []) (jjl (jjc b6 1 1018)) 1018 s6_1018 t6_1018 y := fun y => by kernel_rfl
noncomputable def l6_1018 : s6_1018.Y → Option (YS t6_1018) := jjC g6_1018
theorem q6_1018 (H : CtxGood Pz c6) : jjn Pz (jjc b6 1 1018) (jjb s6_1018 t6_1018 l6_1018) :=
 jjt (fr := []) H (by kernel_rfl) (by kernel_rfl) jje (fun y => jjh r6_1018 y)
@[reducible] noncomputable def s6_2096420 : Shape := ⟨[(5, .lf (.own 3000320)), (7, .lf (.own 3000448)), (9, .lf (.ptr 9 0)), (10, .lf (.d (.int .i64))), (11, .lf (.ptr 11 0)), (12, .lf (.d (.int .i64))), (69, .agg [.d (.sl .pack)]), (70, .lf (.own 3000448)), (71, .lf (.d (.int .i64))), (73, .lf (.d (.str))), (75, .agg [.d (.sl .pack)]), (76, .lf (.d (.int .i64)))], [(3000320, .row .str, .slot 5 0), (3000448, .row .str, .slot 7 0), (9, .box [.d (.sl .pack)], .same), (11, .box [.d (.sl .pack)], .same)], 96⟩
@[reducible] noncomputable def jx9 : List OSh := [(.norm, ⟨[(5, .lf (.own 3000320)), (7, .lf (.own 3000448)), (9, .lf (.ptr 9 0)), (10, .lf (.d (.int .i64))), (11, .lf (.ptr 11 0)), (12, .lf (.d (.int .i64))), (69, .agg [.d (.sl .pack)]), (70, .lf (.own 3000448)), (71, .lf (.d (.int .i64))), (73, .lf (.d (.str))), (75, .agg [.d (.sl .pack)]), (76, .lf (.d (.int .i64))), (83, .lf (.d (.bool)))], [(3000320, .row .str, .slot 5 0), (3000448, .row .str, .slot 7 0), (9, .box [.d (.sl .pack)], .same), (11, .box [.d (.sl .pack)], .same)], 96⟩)]
noncomputable def jxB (y : s6_2096420.Y) : Option (YS jx9) :=
 bif (!(y.1.2.2.2.2.2.1 != (0 : Int))) then
(f13 (((y.2.2.2.2.1.1, ()), ()), ())).bind fun r2678 =>
 some ((((), ((), ((), (y.1.2.2.2.1, ((), (y.1.2.2.2.2.2.1, ((y.1.2.2.2.2.2.2.1.1, ()), ((), (y.1.2.2.2.2.2.2.2.2.1, (y.1.2.2.2.2.2.2.2.2.2.1, ((y.1.2.2.2.2.2.2.2.2.2.2.1.1, ()), (y.1.2.2.2.2.2.2.2.2.2.2.2.1, ((!r2678.1.1), ()))))))))))))), (y.2.1, (y.2.2.1, ((y.2.2.2.1.1, ()), ((y.2.2.2.2.1.1, ()), ()))))))
else
 some ((((), ((), ((), (y.1.2.2.2.1, ((), (y.1.2.2.2.2.2.1, ((y.1.2.2.2.2.2.2.1.1, ()), ((), (y.1.2.2.2.2.2.2.2.2.1, (y.1.2.2.2.2.2.2.2.2.2.1, ((y.1.2.2.2.2.2.2.2.2.2.2.1.1, ()), (y.1.2.2.2.2.2.2.2.2.2.2.2.1, (true, ()))))))))))))), (y.2.1, (y.2.2.1, ((y.2.2.2.1.1, ()), ((y.2.2.2.2.1.1, ()), ()))))))
theorem r6_2096420 : ∀ y, jxB y = jjK (jjd c6 []) (jjc (jjl (jjc b6 1 16378)) 32756 2096420) 2096420 s6_2096420 jx9 y := fun y => by kernel_rfl
theorem q6_2096420 (H : CtxGood Pz c6) : jjn Pz (jjc (jjl (jjc b6 1 16378)) 32756 2096420) (jjb s6_2096420 jx9 jxB) :=
 jjw (fr := []) H (by kernel_rfl) jje r6_2096420
@[reducible] noncomputable def s6_16378 : Shape := ⟨[(5, .lf (.own 3000320)), (7, .lf (.own 3000448)), (9, .lf (.ptr 9 0)), (10, .lf (.d (.int .i64)))], [(3000320, .row .str, .slot 5 0), (3000448, .row .str, .slot 7 0), (9, .box [.d (.sl .pack)], .same)], 96⟩
@[reducible] noncomputable def jJr : List OSh := [(.ret, ⟨[(2, .lf (.d (.bool)))], [], 96⟩), (.exit 2, ⟨[(5, .lf (.own 3000320)), (7, .lf (.own 3000448)), (9, .lf (.ptr 9 0))], [(3000320, .row .str, .slot 5 0), (3000448, .row .str, .slot 7 0), (9, .box [.d (.sl .pack)], .same)], 96⟩)]
noncomputable def g6_16378 (y : s6_16378.Y) : Option (Sum s6_16378.Y (YS jJr)) :=
 bif (decide (y.1.2.2.2.1 ≥ (0 : Int))) then
(inb y.2.2.1.length y.1.2.2.2.1).bind fun x2683 =>
(y.2.2.1[x2683]?).bind fun x2684 =>
(f15 (((y.2.2.2.1.1, ()), (x2684, ())), ())).bind fun r2685 =>
(jxB (((), ((), ((), (y.1.2.2.2.1, ((), (r2685.1.2.1, ((y.2.2.2.1.1, ()), ((), (y.1.2.2.2.1, (x2684, ((r2685.2.1.1, ()), (r2685.1.2.1, ())))))))))))), (y.2.1, (y.2.2.1, ((y.2.2.2.1.1, ()), ((r2685.2.1.1, ()), ())))))).bind fun r2686 =>
 bif r2686.1.2.2.2.2.2.2.2.2.2.2.2.2.1 then
 some (.inr (.inl ((false, ()), ())))
else
 some (.inl (((), ((), ((), ((IntKind.i64.wrap (r2686.1.2.2.2.1 - (1 : Int))), ())))), (r2686.2.1, (r2686.2.2.1, ((r2686.2.2.2.2.1.1, ()), ())))))
else
 some (.inr (.inr (((), ((), ((), ()))), (y.2.1, (y.2.2.1, ((y.2.2.2.1.1, ()), ()))))))
theorem r6_16378 : ∀ y, g6_16378 y = jjz (jjd c6 [(2096420, jjb s6_2096420 jx9 jxB)]) (jjl (jjc b6 1 16378)) 16378 s6_16378 jJr y := fun y => by kernel_rfl
noncomputable def l6_16378 : s6_16378.Y → Option (YS jJr) := jjC g6_16378
theorem q6_16378 (H : CtxGood Pz c6) : jjn Pz (jjc b6 1 16378) (jjb s6_16378 jJr l6_16378) :=
 jjt (fr := [(2096420, jjb s6_2096420 jx9 jxB)]) H (by kernel_rfl) (by kernel_rfl) ⟨q6_2096420 H, trivial⟩ (fun y => jjh r6_16378 y)
@[reducible] noncomputable def i6 : Shape := ⟨[(0, .lf (.d (.sl .u8)))], [], 96⟩
@[reducible] noncomputable def o6 : Shape := ⟨[(2, .lf (.d (.bool)))], [], 96⟩
noncomputable def f6 (a : i6.Y) : Option o6.Y :=
 bif (decide ((a.1.1.length : Int) > (1048576 : Int))) then
 some ((true, ()), ())
else
(f12 ((a.1.1, ()), ())).bind fun r2575 =>
(f13 (((r2575.2.1.1, ()), ()), ())).bind fun r2577 =>
(g6_124 (((), (r2577.1.1, ())), ((r2575.2.1.1, ()), ()))).bind fun r2580 =>
 bif r2580.1.2.2.1 then
(f14 (((r2580.2.1.1, ()), ()), ())).bind fun r2581 =>
 some (((r2580.1.2.1 == r2581.1.1), ()), ())
else
(l6_1018 (((), ((), ((0 : Int), ()))), ((r2580.2.1.1, ()), (([] : List Str), ())))).bind fun r2583 =>
(f8 ((r2583.2.1.1, (r2583.2.2.1, ())), ())).bind fun r2585 =>
 bif (r2585.1.2.1 != (0 : Int)) then
 some (((r2585.1.2.1 == (4 : Int)), ()), ())
else
(l6_16378 (((), ((), ((), ((IntKind.i64.wrap ((r2585.2.1.length : Int) - (1 : Int))), ())))), (r2583.2.2.1, (r2585.2.1, ((r2583.2.1.1, ()), ()))))).bind fun r2690 =>
(match r2690 with
| .inl r2691 =>
 some ((r2691.1.1, ()), ())
| .inr r2692 =>
 bif ((r2692.2.2.2.1.1.length : Int) == (0 : Int)) then
 some ((((r2692.2.2.1.length : Int) == (r2692.2.1.length : Int)), ()), ())
else
 some ((false, ()), ()))
theorem e6 : ∀ a, f6 a = jjo (jjd c6 [(124, jjb s6_124 t6_124 g6_124), (1018, jjb s6_1018 t6_1018 l6_1018), (16378, jjb s6_16378 jJr l6_16378)]) b6 i6 o6 a := fun a => by kernel_rfl
noncomputable def S6 : jjF := jjf tt 96 i6 o6 [.tmp 2] [] f6
theorem z6 (h : ∀ T, (tt T).ok Pz T) (h8 : jja Pz 8 S8) (h12 : jja Pz 12 S12) (h13 : jja Pz 13 S13) (h14 : jja Pz 14 S14) (h15 : jja Pz 15 S15) : jja Pz 6 S6 :=
 have H := k6 h h8 h12 h13 h14 h15
 jjk (fn := Tryz.f6) (fr := [(124, jjb s6_124 t6_124 g6_124), (1018, jjb s6_1018 t6_1018 l6_1018), (16378, jjb s6_16378 jJr l6_16378)]) H (by kernel_rfl) (by kernel_rfl) (by kernel_rfl) (by kernel_rfl) (by kernel_rfl) ⟨q6_124 H, q6_1018 H, q6_16378 H, trivial⟩ (by kernel_rfl) (fun y => ⟨_, _, rfl, rfl, rfl⟩) e6
def AllFit (ps : List Pack) : Prop := ∀ p, p ∈ ps → ∀ n, n ∈ p.needs → ∃ q, ps.find? (fun q => q.name == n.name) = some q ∧ jJV n q.version = true
theorem clo_four (ps : List Pack) (ha : AllFit ps) : ∀ (m : Nat) (op : List Str) (n : Str) (out : List Str) (c : Int), clo ps m op n out = .inr c → (∃ q, ps.find? (fun q => q.name == n) = some q) → c = 4 := by
 intro m
 induction m with
 | zero => intro op n out c h _; cases h; rfl
 | succ m ih =>
  intro op n out c h hq
  obtain ⟨p, hp⟩ := hq
  simp only [clo] at h
  cases h1 : out.contains n with
  | true => rw [h1] at h; cases h
  | false =>
   rw [h1] at h
   simp only [cond_false, hp] at h
   cases h2 : op.contains n with
   | true => rw [h2] at h; cases h; rfl
   | false =>
    rw [h2] at h
    simp only [cond_false] at h
    have go : ∀ (ns : List Need), (∀ x, x ∈ ns → ∃ q, ps.find? (fun q => q.name == x.name) = some q ∧ jJV x q.version = true) → ∀ (b : List Str) (c : Int), jJW (clo ps m (op ++ [n])) ps ns b = .inr c → c = 4 := by
     intro ns
     induction ns with
     | nil => intro _ b c h; cases h
     | cons x r ih2 =>
      intro hx b c h
      obtain ⟨q, hq, hf⟩ := hx x List.mem_cons_self
      simp only [jJW, hq, hf, cond_true] at h
      cases hc : clo ps m (op ++ [n]) x.name b with
      | inl o1 => rw [hc] at h; exact ih2 (fun y hy => hx y (List.mem_cons_of_mem _ hy)) o1 c h
      | inr c' => rw [hc] at h; cases h; exact ih _ _ _ _ hc ⟨q, hq⟩
    cases hc : jJW (clo ps m (op ++ [n])) ps p.needs out with
    | inl o1 => rw [hc] at h; cases h
    | inr c' => rw [hc] at h; cases h; exact go p.needs (ha p (List.mem_of_find?_eq_some hp)) out _ hc
theorem cloAll_four (ps : List Pack) (ha : AllFit ps) (m : Nat) : ∀ (ns out : List Str) (c : Int), (∀ n, n ∈ ns → ∃ q, ps.find? (fun q => q.name == n) = some q) → jxW ps m ns out = .inr c → c = 4 := by
 intro ns
 induction ns with
 | nil => intro out c _ h; cases h
 | cons n r ih =>
  intro out c hq h
  simp only [jxW] at h
  cases hc : clo ps m [] n out with
  | inl o1 => rw [hc] at h; exact ih o1 c (fun x hx => hq x (List.mem_cons_of_mem _ hx)) h
  | inr c' => rw [hc] at h; cases h; exact clo_four ps ha m _ _ _ _ hc (hq n List.mem_cons_self)
theorem dup_no : ∀ (r acc : List Str), (acc ++ r).Nodup → dupA acc r = false := by
 intro r
 induction r with
 | nil => intro acc _; rfl
 | cons x r ih =>
  intro acc h
  have hx : x ∉ acc := fun hm => (List.nodup_append.1 h).2.2 x hm x List.mem_cons_self rfl
  have hc : acc.contains x = false := by simpa using hx
  simp only [dupA, hc, Bool.false_or]
  exact ih (acc ++ [x]) (by simpa using h)
theorem names_nodup {ps : List Pack} (ha : AscN ps) : (ps.map (·.name)).Nodup := by
 unfold List.Nodup
 rw [List.pairwise_map]
 refine ha.imp fun {p q} h e => ?_
 rw [e, jzm] at h; cases h
section
variable {ps : List Pack} (hr : jqA ps = true)
include hr
theorem root_fit : AllFit ps := fun p hp n hn => by
 obtain ⟨_, h2, _⟩ := rootOk_all hr
 exact needS_of (List.all_eq_true.1 (List.all_eq_true.1 h2 p hp) n hn)
theorem root_packsC : jJg ps = 0 := by
 unfold jJg
 have := dup_no (ps.map (·.name)) [] (by simpa using names_nodup (jq0 hr))
 rw [(rootOk_all hr).1, this]
 rfl
def keep (ps : List Pack) (o : List Str) : List Pack := ps.filter fun p => o.contains p.name
omit hr in
theorem jxh {ps : List Pack} {o : List Str} {p : Pack} : p ∈ keep ps o ↔ p ∈ ps ∧ p.name ∈ o := by
 unfold keep
 rw [List.mem_filter]
 simp
theorem keep_ok {o : List Str} (hg : Good ps o) (k : Nat) (hk : k ≤ o.length) : jqA (keep ps (o.take k)) = true := by
 have ha := jq0 hr
 have hl := rootOk_len hr
 obtain ⟨h1, h2, h3⟩ := rootOk_all hr
 have hka : AscN (keep ps (o.take k)) := List.Pairwise.sublist List.filter_sublist ha
 obtain ⟨t, R⟩ := rt_of hr
 have inT : ∀ q, q ∈ keep ps (o.take k) → ∀ e, e ∈ q.tree → e ∈ t := fun q hq e he => (treesL_in R.tree e).2 (.inr ⟨q, (jxh.1 hq).1, he⟩)
 have ht : (jj8 [] (keep ps (o.take k))).isSome = true := by
  refine trees_can _ [] t (by rfl) (fun q hq => (R.pk (jxh.1 hq).1).2) ?_ (fun q _ e _ y hy => by cases hy) (jj6 R.ok) (jxw R.ok) (fun e he => by cases he) inT
  refine List.Pairwise.imp_of_mem ?_ hka
  intro p q hp hq hlt e he y hy hyp
  have hye : y = e := by
   have g1 := (jqR (jj6 R.ok)).2 ⟨inT p hp y hy, hyp⟩
   have g2 := (jqR (jj6 R.ok)).2 ⟨inT q hq e he, rfl⟩
   rw [g1] at g2
   exact Option.some.inj g2
  have hne : p.name ≠ q.name := fun h => by rw [h, jzm] at hlt; cases hlt
  have hp' := (jxh.1 hp).1
  have hq' := (jxh.1 hq).1
  have g1 := (jqR (R.tr hp')).2 ⟨hy, hyp⟩
  have g2 := (jqR (R.tr hq')).2 ⟨he, rfl⟩
  exact ⟨hye, R.dir (R.up hq' g2) (cnt_two hp' hq' hne (by rw [g1]; rfl) (by rw [g2]; rfl))⟩
 have hneeds : (keep ps (o.take k)).all (fun p => p.needs.all (jxr (keep ps (o.take k)))) = true := by
  rw [List.all_eq_true]
  intro p hp
  rw [List.all_eq_true]
  intro n hn
  obtain ⟨hp1, hp2⟩ := jxh.1 hp
  obtain ⟨i, hi⟩ := List.mem_iff_getElem?.1 hp2
  have hik : i < k := by have := jjv hi; rw [List.length_take] at this; omega
  rw [List.getElem?_take, if_pos hik] at hi
  obtain ⟨p', hp', hf⟩ := hg i p.name hi
  have : p' = p := by
   have := (find_in ha).2 ⟨hp1, rfl⟩
   rw [hp'] at this
   exact Option.some.inj this
  subst this
  obtain ⟨hnm, q, hq, hfit⟩ := hf n hn
  obtain ⟨hq1, hq2⟩ := (find_in ha).1 hq
  have hqk : q ∈ keep ps (o.take k) := jxh.2 ⟨hq1, by
   rw [hq2]
   have hsub : o.take i <+: o.take k := by
    have := List.take_prefix i (o.take k)
    rwa [List.take_take, Nat.min_eq_left (Nat.le_of_lt hik)] at this
   exact hsub.subset hnm⟩
  rw [needS_to ((find_in hka).2 ⟨hqk, hq2⟩)]
  exact hfit
 unfold jqA
 simp only [Bool.and_eq_true, decide_eq_true_eq]
 refine ⟨⟨⟨⟨?_, ascP_to hka⟩, ?_⟩, hneeds⟩, ht⟩
 ·rw [List.all_eq_true]
  exact fun q hq => List.all_eq_true.1 h1 q (jxh.1 hq).1
 ·have : (keep ps (o.take k)).length ≤ ps.length := List.filter_sublist.length_le
  omega
theorem keep_out {o : List Str} (hg : Good ps o) (hn : o.Nodup) (k : Nat) (s : Str) (hk : o[k]? = some s) : outR (keep ps (o.take (k + 1))) s = (keep ps (o.take k), 0) := by
 have hlt := jjv hk
 have h1 := keep_ok hr hg (k + 1) hlt
 have h0 := keep_ok hr hg k (Nat.le_of_lt hlt)
 have ha := jq0 hr
 have hka := jq0 h1
 obtain ⟨p, hp, _⟩ := hg k s hk
 obtain ⟨hp1, hp2⟩ := (find_in ha).1 hp
 have htk : o.take (k + 1) = o.take k ++ [s] := by rw [List.take_add_one, hk]; rfl
 have hf : (keep ps (o.take (k + 1))).find? (fun q => q.name == s) = some p := (find_in hka).2 ⟨jxh.2 ⟨hp1, by rw [hp2, htk]; simp⟩, hp2⟩
 have hns : s ∉ o.take k := by
  intro hm
  obtain ⟨i, hi⟩ := List.mem_iff_getElem?.1 hm
  have hik : i < k := by have := jjv hi; rw [List.length_take] at this; omega
  rw [List.getElem?_take, if_pos hik] at hi
  have hpw := List.pairwise_iff_getElem.1 hn i k (jjv hi) hlt hik
  rw [(List.getElem?_eq_some_iff.1 hi).2, (List.getElem?_eq_some_iff.1 hk).2] at hpw
  exact absurd rfl hpw
 have hwo : woL (keep ps (o.take (k + 1))) s = keep ps (o.take k) := by
  refine asc_eq (key := fun p : Pack => p.name) (woL_asc _ hka) (jq0 h0) fun x => ?_
  rw [woL_in, jxh, jxh, htk]
  constructor
  ·rintro ⟨⟨x1, x2⟩, x3⟩
   rcases List.mem_append.1 x2 with x2 | x2
   ·exact ⟨x1, x2⟩
   ·exact absurd (List.mem_singleton.1 x2) x3
  ·rintro ⟨x1, x2⟩
   exact ⟨⟨x1, List.mem_append.2 (.inl x2)⟩, fun e => hns (e ▸ x2)⟩
 have hc : jxj (keep ps (o.take k)) = 0 := by rw [rootOk_code] at h0; simpa using h0
 unfold outR
 rw [h1, hf]
 simp only [hwo, hc]
 rfl
end
theorem v_FnRootOutAll (a) (h : ∀ x, x ∈ (a.1.1 : List Int) → 0 ≤ x ∧ x ≤ 255) : Ev (f6 a) (fun r => r.1.1 = true) := by
 unfold f6
 refine Ev.ite (fun _ => Ev.ret rfl) fun _ => ?_
 refine Ev.bind (v_DrawRootTree _ (rd_code h)) fun r hr => ?_
 obtain ⟨u0, ⟨⟨(ps : List Pack), u1⟩, u2⟩⟩ := r
 have hr : ShR 5 ps := hr
 have hb := hr.ok.bd (by decide)
 have hv := hr.ok.vs
 have hpl : ps.length ≤ 5 := hr.1
 have e3 := v_RootOk (((ps, ()), ()), ()) hb hv
 have e4 := v_iRootOk (((ps, ()), ()), ()) hb hv
 refine Ev.eq e4 ?_
 have z : ∀ b : Bool, (b == b) = true := by decide
 simp only [g6_124, e3, Option.bind_some, z, Bool.not_true, Bool.not_false, cond_true]
 cases hk : jqA ps with
 | false => simp only [Bool.not_false, Bool.not_true, cond_true, cond_false, Option.bind_some, e3, hk]; exact Ev.ret rfl
 | true =>
  simp only [Bool.not_false, Bool.not_true, cond_true, cond_false, Option.bind_some]
  have l1 : l6_1018 (((), ((), ((0 : Int), ()))), ((ps, ()), (([] : List Str), ()))) = some (((), ((), ())), ((ps, ()), (ps.map (·.name), ()))) := by
   have kk := loop_fold (S := List Str) g6_1018 ps (fun k s => (((), ((), ((k : Int), ()))), ((ps, ()), (s, ())))) (fun x s => s ++ [x.name])
    (fun s => (((), ((), ())), ((ps, ()), (s, ())))) (fun k s => s.length = k) [] rfl (fun k x s hx hI => ?_) (fun s hI => ?_)
   ·have e : ∀ (l : List Pack) (acc : List Str), l.foldl (fun s x => s ++ [x.name]) acc = acc ++ l.map (·.name) := by
     intro l
     induction l with
     | nil => intro acc; simp
     | cons x l ih => intro acc; simp only [List.foldl_cons]; rw [ih]; simp
    rw [e, List.nil_append] at kk
    exact kk
   ·have hk := jjv hx
    have hw2 : Sm k := by unfold Sm; omega
    have ha : apd 16 s [x.name] = some (s ++ [x.name]) := jj0 (by decide) (by unfold Sm; simp; omega)
    simp only [g6_1018, jjA hk, cond_true, jjs, hx, Option.bind_some, ha, jjj hw2]
    exact ⟨trivial, by simp [hI]⟩
   ·simp only [g6_1018, jjI, cond_false]
  have hnl : (ps.map (·.name)).length ≤ 1000000 := by rw [List.length_map]; omega
  have e5 := v_iClosure ((ps, (ps.map (·.name), ())), ()) hb hv (show ps.length ≤ 1000000 by omega) hnl
  refine Ev.eq l1 (Ev.eq e5 ?_)
  have hz := root_packsC hk
  have hasc := jq0 hk
  have hfound : ∀ n, n ∈ ps.map (·.name) → ∃ q, ps.find? (fun q => q.name == n) = some q := fun n hn => by
   obtain ⟨p, hp, rfl⟩ := List.mem_map.1 hn
   exact ⟨p, (find_in hasc).2 ⟨hp, rfl⟩⟩
  cases hc : jxW ps (ps.length + 1) (ps.map (·.name)) [] with
  | inr c =>
   have h4 := cloAll_four ps (root_fit hk) _ _ _ _ hfound hc
   subst h4
   have hcl : closeL ps (ps.map (·.name)) = ([], 4) := by unfold closeL; rw [hz, hc]; rfl
   simp only [hcl]
   exact Ev.ret rfl
  | inl o =>
   have hcl : closeL ps (ps.map (·.name)) = (o, 0) := by unfold closeL; rw [hz, hc]; rfl
   have hnm := closeL_len hb hv (show ps.length ≤ 1000000 by omega) (ps.map (·.name)) [] ⟨Nms.nil ps, fun s hs => by cases hs⟩ o hc
   obtain ⟨hg, _, hall⟩ := cloAll_good ps _ _ _ _ hc (fun i s hs => by simp at hs)
   have hol := hnm.len
   have hlen : o.length = (ps.map (·.name)).length := Nat.le_antisymm (by rw [List.length_map]; exact hol) (nodup_le _ _ (names_nodup hasc) hall)
   have hkeep : keep ps (o.take o.length) = ps := by
    unfold keep
    rw [List.take_length, List.filter_eq_self]
    intro p hp
    simpa using hall p.name (List.mem_map.2 ⟨p, hp, rfl⟩)
   simp only [hcl, bne_self_eq_false, cond_false]
   have loop : ∀ k : Nat, k ≤ o.length → l6_16378 (((), ((), ((), (((k : Int) - 1), ())))), (ps.map (·.name), (o, ((keep ps (o.take k), ()), ())))) = some (.inr (((), ((), ((), ()))), (ps.map (·.name), (o, (([], ()), ()))))) := by
    intro k
    induction k with
    | zero =>
     intro _
     have hk0 : keep ps (o.take 0) = [] := by unfold keep; simp
     rw [hk0]
     have d1 : decide (((0 : Nat) : Int) - 1 ≥ 0) = false := by decide
     refine jjE ?_
     simp only [g6_16378, d1, cond_false]
    | succ k ih =>
     intro hk1
     have hko : o[k]? = some o[k] := List.getElem?_eq_getElem hk1
     have hout := keep_out hk hg hnm.1 k o[k] hko
     have hR : OkR 5 (keep ps (o.take (k + 1))) := ⟨Nat.le_trans List.filter_sublist.length_le hr.ok.1, fun p hp => hr.ok.2 p (jxh.1 hp).1⟩
     have hR0 : OkR 5 (keep ps (o.take k)) := ⟨Nat.le_trans List.filter_sublist.length_le hr.ok.1, fun p hp => hr.ok.2 p (jxh.1 hp).1⟩
     have c1 := v_iRootOut (((keep ps (o.take (k + 1)), ()), (o[k], ())), ()) 5 (by decide) hR
     simp only [hout] at c1
     have c2 := v_iRootOk (((keep ps (o.take k), ()), ()), ()) (hR0.bd (by decide)) hR0.vs
     simp only [keep_ok hk hg k (by omega)] at c2
     have hkk : (((k + 1 : Nat) : Int) - 1) = (k : Int) := by omega
     have d1 : decide ((k : Int) ≥ 0) = true := by simp
     have hw : IntKind.i64.wrap ((k : Int) - 1) = (k : Int) - 1 := jjG (by omega) (by omega)
     rw [hkk]
     refine (jqc ?_).trans (ih (by omega))
     simp only [g6_16378, d1, cond_true, jqQ hk1, hko, Option.bind_some, c1, jxB, bne_self_eq_false, Bool.not_false, c2, Bool.not_true, cond_false, hw]
   have hw0 : IntKind.i64.wrap ((o.length : Int) - 1) = (o.length : Int) - 1 := jjG (by omega) (by omega)
   have l2 := loop o.length (Nat.le_refl _)
   rw [hkeep] at l2
   rw [hw0]
   refine Ev.eq l2 ?_
   have hee : ((o.length : Int) == ((ps.map (·.name)).length : Int)) = true := by rw [hlen]; simp
   simp only [List.length_nil, Int.natCast_zero, beq_self_eq_true, cond_true]
   exact Ev.ret hee
theorem pure_FnRootOutAll : LawOk S6 [(false, [.sl .u8])] := by
 rintro ⟨⟨code, u⟩, u'⟩ ⟨h, _⟩
 obtain ⟨r, hr, hq⟩ := v_FnRootOutAll ((code, ()), ()) (wf_bytes (h (.sl .u8 code) (by simp [mkDs, SD.mk])))
 obtain ⟨⟨b, v⟩, v'⟩ := r
 have hq : b = true := hq
 subst hq
 exact ⟨((true, ()), ()), hr, rfl⟩
noncomputable def SH162 : jjF := indexSumm
theorem zH162 (h : ∀ T, (tt T).ok Pz T) : jja Pz 162 SH162 := indexByte_ok (fn := Tryz.f162) (by kernel_rfl) (by kernel_rfl) (by kernel_rfl) (by kernel_rfl) (by kernel_rfl)
noncomputable def c158 : Ctx := { tt := tt, fs := fun n => match n with | 162 => some SH162 | _ => none }
theorem k158 (h : ∀ T, (tt T).ok Pz T) (hH162 : jja Pz 162 SH162) : CtxGood Pz c158 := ⟨⟨h⟩, fun g S hg => (by
 simp only [c158] at hg
 split at hg
 ·cases hg; exact hH162
 ·cases hg), jjp, fun _ _ h => (by cases h), fun _ h => (by cases h)⟩
noncomputable def b158 : Code := jji Tryz.f158
@[reducible] noncomputable def i158 : Shape := ⟨[(0, .lf (.d (.str))), (1, .lf (.d (.int .u8)))], [], 8⟩
@[reducible] noncomputable def o158 : Shape := ⟨[(4, .lf (.d (.int .i64)))], [], 8⟩
noncomputable def f158 (a : i158.Y) : Option o158.Y :=
(some ()).bind fun r2696 =>
 some (((Lib.indexByte a.1.1 (a.1.2.1).toNat.toUInt8), ()), ())
theorem e158 : ∀ a, f158 a = jjo (jjd c158 []) b158 i158 o158 a := fun a => by kernel_rfl
noncomputable def S158 : jjF := jjf tt 8 i158 o158 [.tmp 4] [] f158
theorem z158 (h : ∀ T, (tt T).ok Pz T) (hH162 : jja Pz 162 SH162) : jja Pz 158 S158 :=
 have H := k158 h hH162
 jjk (fn := Tryz.f158) (fr := []) H (by kernel_rfl) (by kernel_rfl) (by kernel_rfl) (by kernel_rfl) (by kernel_rfl) jje (by kernel_rfl) (fun y => ⟨_, _, rfl, rfl, rfl⟩) e158
noncomputable def c156 : Ctx := { tt := tt, fs := fun n => match n with | 158 => some S158 | _ => none }
theorem k156 (h : ∀ T, (tt T).ok Pz T) (h158 : jja Pz 158 S158) : CtxGood Pz c156 := ⟨⟨h⟩, fun g S hg => (by
 simp only [c156] at hg
 split at hg
 ·cases hg; exact h158
 ·cases hg), jjp, fun _ _ h => (by cases h), fun _ h => (by cases h)⟩
noncomputable def b156 : Code := jji Tryz.f156
@[reducible] noncomputable def s156_56 : Shape := ⟨[(0, .lf (.d (.str))), (1, .lf (.d (.str))), (5, .lf (.d (.int .i64)))], [], 143⟩
@[reducible] noncomputable def t156_56 : List OSh := [(.norm, ⟨[(0, .lf (.d (.str))), (1, .lf (.d (.str))), (5, .lf (.d (.int .i64))), (16, .lf (.d (.bool)))], [], 143⟩)]
noncomputable def g156_56 (y : s156_56.Y) : Option (YS t156_56) :=
 bif (!(y.1.2.2.1 == (0 : Int))) then
 some (((y.1.1, (y.1.2.1, (y.1.2.2.1, ((y.1.2.1 == y.1.1), ())))), ()))
else
 some (((y.1.1, (y.1.2.1, (y.1.2.2.1, (true, ())))), ()))
theorem r156_56 : ∀ y, g156_56 y = jjK (jjd c156 []) (jjc b156 1 56) 56 s156_56 t156_56 y := fun y => by kernel_rfl
theorem q156_56 (H : CtxGood Pz c156) : jjn Pz (jjc b156 1 56) (jjb s156_56 t156_56 g156_56) :=
 jjw (fr := []) H (by kernel_rfl) jje r156_56
@[reducible] noncomputable def i156 : Shape := ⟨[(0, .lf (.d (.str))), (1, .lf (.d (.str)))], [], 143⟩
@[reducible] noncomputable def o156 : Shape := ⟨[(4, .lf (.d (.int .i64)))], [], 143⟩
noncomputable def f156 (a : i156.Y) : Option o156.Y :=
(g156_56 ((a.1.1, (a.1.2.1, ((a.1.2.1.length : Int), ()))), ())).bind fun r2698 =>
 bif r2698.1.2.2.2.1 then
 some (((0 : Int), ()), ())
else
 bif (r2698.1.2.2.1 == (1 : Int)) then
(ix r2698.1.2.1 (0 : Int)).bind fun x2699 =>
(f158 ((r2698.1.1, ((x2699.toNat : Int), ())), ())).bind fun r2700 =>
 some ((r2700.1.1, ()), ())
else
 bif (decide (r2698.1.2.2.1 ≥ (r2698.1.1.length : Int))) then
 some ((((-1) : Int), ()), ())
else
 none
theorem e156 : ∀ a, f156 a = jjo (jjd c156 [(56, jjb s156_56 t156_56 g156_56)]) b156 i156 o156 a := fun a => by kernel_rfl
noncomputable def S156 : jjF := jjf tt 143 i156 o156 [.tmp 4] [] f156
theorem z156 (h : ∀ T, (tt T).ok Pz T) (h158 : jja Pz 158 S158) : jja Pz 156 S156 :=
 have H := k156 h h158
 jjk (fn := Tryz.f156) (fr := [(56, jjb s156_56 t156_56 g156_56)]) H (by kernel_rfl) (by kernel_rfl) (by kernel_rfl) (by kernel_rfl) (by kernel_rfl) ⟨q156_56 H, trivial⟩ (by kernel_rfl) (fun y => ⟨_, _, rfl, rfl, rfl⟩) e156
noncomputable def c147 : Ctx := { tt := tt, fs := fun n => match n with | 156 => some S156 | _ => none }
theorem k147 (h : ∀ T, (tt T).ok Pz T) (h156 : jja Pz 156 S156) : CtxGood Pz c147 := ⟨⟨h⟩, fun g S hg => (by
 simp only [c147] at hg
 split at hg
 ·cases hg; exact h156
 ·cases hg), jjp, fun _ _ h => (by cases h), fun _ h => (by cases h)⟩
noncomputable def b147 : Code := jji Tryz.f147
@[reducible] noncomputable def i147 : Shape := ⟨[(0, .lf (.d (.str))), (1, .lf (.d (.str)))], [], 8⟩
@[reducible] noncomputable def o147 : Shape := ⟨[(4, .lf (.d (.int .i64)))], [], 8⟩
noncomputable def f147 (a : i147.Y) : Option o147.Y :=
(f156 ((a.1.1, (a.1.2.1, ())), ())).bind fun r2702 =>
 some ((r2702.1.1, ()), ())
theorem e147 : ∀ a, f147 a = jjo (jjd c147 []) b147 i147 o147 a := fun a => by kernel_rfl
noncomputable def S147 : jjF := jjf tt 8 i147 o147 [.tmp 4] [] f147
theorem z147 (h : ∀ T, (tt T).ok Pz T) (h156 : jja Pz 156 S156) : jja Pz 147 S147 :=
 have H := k147 h h156
 jjk (fn := Tryz.f147) (fr := []) H (by kernel_rfl) (by kernel_rfl) (by kernel_rfl) (by kernel_rfl) (by kernel_rfl) jje (by kernel_rfl) (fun y => ⟨_, _, rfl, rfl, rfl⟩) e147
theorem sp136 (s p : ByteArray) (k : Int) (w : World) : Calls Pz 136 #[.string s, .string p, .int .i64 k] w fun e w' =>
  e = .returned (.func (.func 145) #[] #[.pointer (some ⟨w.heap.size + 1, 0, none⟩), .pointer (some ⟨w.heap.size, 0, none⟩), .pointer (some ⟨w.heap.size + 2, 0, none⟩)]) ∧
  w' = ((w.alloc (.cells #[.string s] 9)).alloc (.cells #[.string p] 9)).alloc (.cells #[.int .i64 k] 3) := by
 go_enter Tryz.func136, Tryz.ntmps136
 go_wp2
 go_ret
 exact ⟨rfl, rfl⟩
theorem sp115 (s p : ByteArray) (w : World) : Calls Pz 115 #[.string s, .string p] w fun e w' =>
  e = .returned (.func (.func 145) #[] #[.pointer (some ⟨w.heap.size + 1, 0, none⟩), .pointer (some ⟨w.heap.size, 0, none⟩), .pointer (some ⟨w.heap.size + 2, 0, none⟩)]) ∧
  w' = ((w.alloc (.cells #[.string s] 9)).alloc (.cells #[.string p] 9)).alloc (.cells #[.int .i64 0] 3) := by
 go_enter Tryz.func115, Tryz.ntmps115
 go_wp2_with (go_at_call 136; refine (sp136 _ _ _ _).mono ?_; rintro e w' ⟨rfl, rfl⟩)
 go_ret
 exact ⟨rfl, rfl⟩
theorem y115 : jQk Pz 115 145 := fun a b w => .inl ⟨enters_of Tryz.func115 (by kernel_rfl) rfl _ _, (sp115 a b w).mono fun e w' h => by obtain ⟨rfl, rfl⟩ := h; exact ⟨9, 3, rfl, rfl⟩⟩
noncomputable def c145 : Ctx := { tt := tt, fs := fun n => match n with | 147 => some S147 | _ => none }
theorem k145 (h : ∀ T, (tt T).ok Pz T) (h147 : jja Pz 147 S147) : CtxGood Pz c145 := ⟨⟨h⟩, fun g S hg => (by
 simp only [c145] at hg
 split at hg
 ·cases hg; exact h147
 ·cases hg), jjp, fun _ _ h => (by cases h), fun _ h => (by cases h)⟩
noncomputable def b145 : Code := jji Tryz.f145
noncomputable def l145 : Code := jjl (jjc b145 1 12)
noncomputable def op145 (p j : Nat) : Oper := (jJ9 (jjc l145 24 p)).getD j default
def ridOf : Code → Nat
 | .region i _ _ => i
 | _ => 0
noncomputable def oq145 (j : Nat) : Oper := (jJ9 (jjc b145 1 7)).getD j default
theorem idx147 (c : UInt8) (r : Str) : f147 ((r, ([c], ())), ()) = some ((Lib.indexByte r c, ()), ()) := by
 have h0 : ix ([c] : Str) (0 : Int) = some c := rfl
 have h1 : ((([c] : Str).length : Int) == 0) = false := rfl
 have h2 : ((([c] : Str).length : Int) == 1) = true := rfl
 have h3 : ((c.toNat : Int)).toNat.toUInt8 = c := by simp
 simp only [f147, f156, g156_56, f158, h0, h1, h2, h3, Bool.not_false, cond_true, cond_false, Option.bind_some, Option.bind]
 by_cases h : (([c] : Str) == r) = true
 ·have : r = [c] := (by simpa using h : [c] = r).symm
  subst this
  simp [Lib.indexByte] <;> rfl
 ·simp [h] <;> rfl
theorem e145B (c : UInt8) (r : Str) : jJP (jjd c145 []) (jjc l145 24 96) 96 (ist 52 c r) (kIdx (jjd c145 []) 52 7 8 (jjc l145 24 194) (jjc l145 24 390) 194 390) =
 (f147 ((r, ([c], ())), ())).bind fun q => bif decide (q.1.1 < 0) then some (.inl (iy 52 c r)) else (jqJ r 0 (IntKind.i64.wrap (q.1.1 + 0))).bind fun x => some (.inr ((q.1.1, x), iy 52 c r)) := by kernel_rfl
theorem x145 (h : ∀ T, (tt T).ok Pz T) (h147 : jja Pz 147 S147) : jzq Pz 145 :=
 iter_ok (C := jjd c145 []) (k145 h h147) (fn := Tryz.f145) (k := 52) (A := jjc b145 1 2) (r5 := jjc l145 24 96) (c6 := jjc l145 24 194) (r7 := jjc l145 24 390) (r9 := jjc l145 24 783)
  (o0 := op145 1564 0) (o1 := op145 1564 1) (o2 := op145 1564 2) (o3 := op145 1564 3) (q0 := oq145 0) (q1 := oq145 1) (q2 := oq145 2) (pA := 2) (p5 := 96) (p6 := 194) (p7 := 390) (p9 := 783) (t7 := 7) (t8 := 8) (a1 := 39) (a2 := 40)
  (t41 := 41) (t42 := 42) (u1 := 49) (u2 := 50) (ty := #[9]) (ty' := #[9])
  {isFn := (by kernel_rfl), nt := (by kernel_rfl), k4 := (by decide), res := (by kernel_rfl), ent := enters_of Tryz.func145 (by kernel_rfl) rfl, body := ⟨ridOf (jjc l145 24 1564), ridOf (jjc b145 1 7), (by kernel_rfl)⟩, nr := (by kernel_rfl), wr := (by kernel_rfl),
   gd := ⟨(by kernel_rfl), (by kernel_rfl), (by kernel_rfl), (by kernel_rfl), (by kernel_rfl), (by kernel_rfl), (by kernel_rfl)⟩, wo := (by kernel_rfl), wq := (by kernel_rfl), d2 := (by kernel_rfl), lt41 := (by decide), c2 := (by kernel_rfl), d5 := (by kernel_rfl),
   orcs := ⟨jqd (by kernel_rfl) jje, jqd (by kernel_rfl) jje, jqd (by kernel_rfl) jje, jqd (by kernel_rfl) jje, jqd (by kernel_rfl) jje⟩,
   hA := fun c r => (by kernel_rfl), hB := fun c r => (e145B c r).trans (by rw [idx147]; rfl), hT := fun c r i x v => (by kernel_rfl), h3 := fun c r b => (by kernel_rfl), h30 := (by kernel_rfl), hC := fun c r i => (by kernel_rfl), hQ := fun c r v => (by kernel_rfl) }
  (by kernel_rfl) (by decide)
theorem oqn (w : World) : Calls Pz 16 #[.slice none 0 0] w fun e w' => e = .returned (.pointer (some ⟨w.heap.size, 0, none⟩)) ∧ w' = w.alloc (.cells #[.slice none 0 0, .int .i64 0] 66) := by
 go_enter Tryz.func16, Tryz.ntmps16
 go_wp2
 go_ret
 exact ⟨rfl, rfl⟩
theorem oqs (w : World) (a : Addr) (n c : Nat) (h : n ≤ 2000) : Calls Pz 16 #[.slice (some a) n c] w fun e w' => e = .returned (.pointer (some ⟨w.heap.size, 0, none⟩)) ∧ w' = w.alloc (.cells #[.slice (some a) n c, .int .i64 0] 66) := by
 have h1 : ¬ ((n : Int) > 2000) := by omega
 go_enter Tryz.func16, Tryz.ntmps16
 go_wp2
 go_ret
 exact ⟨rfl, rfl⟩
theorem oqb (w : World) (a : Addr) (n c : Nat) (h : 2000 < n) (hc : n ≤ c) : Calls Pz 16 #[.slice (some a) n c] w fun e w' => e = .returned (.pointer (some ⟨w.heap.size, 0, none⟩)) ∧ w' = w.alloc (.cells #[.slice (some a) 2000 c, .int .i64 0] 66) := by
 have h1 : ((n : Int) > 2000) := by omega
 go_enter Tryz.func16, Tryz.ntmps16
 go_wp2
 go_ret
 exact ⟨rfl, rfl⟩
theorem op16 : OpenOk Pz 16 := fun xs v w av hr => .inl ⟨enters_of Tryz.func16 (by kernel_rfl) rfl _ _, by
 have fin : ∀ {v : Value} {u : Value}, Rd w av (.sl .u8 (xs.take 2000)) u → Calls Pz 16 #[v] w (fun e w' => e = .returned (.pointer (some ⟨w.heap.size, 0, none⟩)) ∧ w' = w.alloc (.cells #[u, .int .i64 0] 66)) →
   Calls Pz 16 #[v] w fun e w' => match e, w' with
    | .returned v', w' => ∃ u T, Rd w av (.sl .u8 (xs.take 2000)) u ∧ v' = .pointer (some ⟨w.heap.size, 0, none⟩) ∧ w' = w.alloc (.cells #[u, .int .i64 0] T)
    | _, _ => False := fun hu hc => hc.mono fun e w' h => by obtain ⟨rfl, rfl⟩ := h; exact ⟨_, _, hu, rfl, rfl⟩
 cases hr with
 | nil => exact fin (.nil .u8) (oqn w)
 | sl t xs a cap cs n hn hcap hb hl hc hr =>
  by_cases h : 2000 < n
  ·refine fin (u := .slice (some a) 2000 cap) ?_ (oqb w a n cap h hcap)
   have hlen : (xs.take 2000).length = 2000 := by simp only [List.length_take]; omega
   have hf : jj2 .u8 (xs.take 2000) = (jj2 .u8 xs).take 2000 := by rw [flat_take]; rfl
   refine .sl .u8 (xs.take 2000) a cap (cs.take 2000) 2000 hlen.symm (by omega) (fun hx => hb (fun e => hx (by rw [e]; rfl))) (by rw [hf, List.length_take, List.length_take, hl]) (fun j u hu => ?_) (fun j h1 h2 => ?_)
   ·rw [List.getElem?_take] at hu
    split at hu
    ·exact hc j u hu
    ·cases hu
   ·have h1' : j < (jj2 .u8 xs).length := by rw [hf, List.length_take] at h1; omega
    have h2' : j < cs.length := by rw [List.length_take] at h2; omega
    have e1 : (jj2 .u8 (xs.take 2000))[j] = (jj2 .u8 xs)[j] := by simp only [hf, List.getElem_take]
    have e2 : (cs.take 2000)[j] = cs[j] := List.getElem_take
    rw [e1, e2]
    exact hr j h1' h2'
  ·refine fin (u := .slice (some a) n cap) ?_ (oqs w a n cap (by omega))
   rw [List.take_of_length_le (by omega)]
   exact .sl .u8 xs a cap cs n hn hcap hb hl hc hr⟩
theorem xH162 : jja Pz 162 SH162 := zH162 jjq
theorem x158 : jja Pz 158 S158 := z158 jjq xH162
theorem x156 : jja Pz 156 S156 := z156 jjq x158
theorem x147 : jja Pz 147 S147 := z147 jjq x156
theorem it145 : jzq Pz 145 := x145 jjq x147
theorem x17v0 : jja Pz 17 jqa := z17v0 jjq
theorem x18v0 : jja Pz 18 jqt := z18v0 jjq x17v0
theorem x32v0 : jja Pz 32 S32v0 := z32v0 jjq x18v0
theorem x60v0 : jja Pz 60 S60v0 := z60v0 jjq x17v0 x18v0 x32v0
theorem x122 : jja Pz 122 S122 := z122 jjq
theorem x151 : jja Pz 151 S151 := z151 jjq
theorem x94 : jja Pz 94 S94 := z94 jjq
theorem x141 : jja Pz 141 S141 := z141 jjq x94 x151
theorem x125 : jja Pz 125 S125 := z125 jjq x122 x141
theorem x153 : jja Pz 153 S153 := z153 jjq x151
theorem x143 : jja Pz 143 S143 := z143 jjq x151 x153
theorem x131 : jja Pz 131 S131 := z131 jjq x122 x143
theorem x154 : jja Pz 154 S154 := z154 jjq
theorem x144 : jja Pz 144 S144 := z144 jjq x153 x154
theorem x132 : jja Pz 132 S132 := z132 jjq x144
theorem x107 : jja Pz 107 S107 := z107 jjq x122 x125 x131 x132
theorem x133 : jja Pz 133 S133 := z133 jjq
theorem x108 : jja Pz 108 S108 := z108 jjq x107 x133
theorem x126 : jja Pz 126 S126 := z126 jjq x94
theorem x97 : jja Pz 97 S97 := z97 jjq x94 x125 x126
theorem x106 : jja Pz 106 S106 := z106 jjq
theorem x98 : jja Pz 98 S98 := z98 jjq x106
theorem x99 : jja Pz 99 S99 := z99 jjq
theorem x73 : jja Pz 73 S73 := z73 jjq x97 x98 x99
theorem x84 : jja Pz 84 S84 := z84 jjq x73 x107 x108
theorem x86 : jja Pz 86 S86 := z86 jjq
theorem x109 : jja Pz 109 S109 := z109 jjq x86 x97 x98 x99 x106
theorem x113v0 : jja Pz 113 S113v0 := z113v0 jjq x17v0
theorem x134v0 : jja Pz 134 S134v0 := z134v0 jjq x18v0
theorem x114 : jja Pz 114 S114 := z114 jjq
theorem x135v0 : jja Pz 135 S135v0 := z135v0 jjq x18v0 x114
theorem x110v0 : jja Pz 110 S110v0 := z110v0 jjq x17v0 x113v0 x134v0 x135v0
theorem x111 : jja Pz 111 S111 := z111 jjq
theorem x85v0 : jja Pz 85 S85v0 := z85v0 jjq x17v0 x109 x110v0 x111
theorem x57v0 : jja Pz 57 S57v0 := z57v0 jjq x17v0 x18v0 x32v0 x60v0 x84 x85v0
theorem x58v0 : jja Pz 58 S58v0 := z58v0 jjq x17v0 x18v0 x32v0
theorem x59v0 : jja Pz 59 S59v0 := z59v0 jjq x17v0 x18v0 x58v0 x60v0
theorem x112v0 : jja Pz 112 S112v0 := z112v0 jjq x17v0 x18v0 x134v0
theorem x87v0 : jja Pz 87 S87v0 := z87v0 jjq x17v0 x18v0 x110v0 x112v0 x113v0 x114
theorem x61v0 : jja Pz 61 S61v0 := z61v0 jjq x17v0 x85v0 x86 x87v0
theorem x33v0 : jja Pz 33 S33v0 := z33v0 jjq x17v0 x18v0 x57v0 x58v0 x59v0 x60v0 x61v0
theorem x75 : jja Pz 75 S75 := z75 jjq x86
theorem x42 : jja Pz 42 S42 := z42 jjq x75
theorem x70 : jja Pz 70 S70 := z70 jjq x94
theorem x123 : jja Pz 123 S123 := z123 jjq
theorem x95 : jja Pz 95 S95 := z95 jjq x94 x122 x123
theorem x71 : jja Pz 71 S71 := z71 jjq x95
theorem x38 : jja Pz 38 S38 := z38 jjq
theorem x124 : jja Pz 124 S124 := z124 jjq x70 x71 x94
theorem x96 : jja Pz 96 S96 := z96 jjq x124
theorem x72 : jja Pz 72 S72 := z72 jjq x38 x96
theorem x37 : jja Pz 37 S37 := z37 jjq x70 x71 x72 x73
theorem x80 : jja Pz 80 S80 := z80 jjq x73 x86 x106
theorem x51 : jja Pz 51 S51 := z51 jjq x80
theorem x39 : jja Pz 39 S39 := z39 jjq
theorem x100 : jja Pz 100 S100 := z100 jjq
theorem x74 : jja Pz 74 S74 := z74 jjq x95 x100
theorem x41 : jja Pz 41 S41 := z41 jjq x74
theorem x52 : jja Pz 52 S52 := z52 jjq x39 x41
theorem x26 : jja Pz 26 S26 := z26 jjq x37 x51 x52
theorem x101 : jja Pz 101 S101 := z101 jjq x26
theorem x102 : jja Pz 102 S102 := z102 jjq x75
theorem x76 : jja Pz 76 S76 := z76 jjq x37 x39 x101 x102
theorem x43v0 : jja Pz 43 S43v0 := z43v0 jjq x17v0 x18v0 x57v0 x76
theorem x24v0 : jja Pz 24 S24v0 := z24v0 jjq x17v0 x33v0 x42 x43v0
theorem x12 : jja Pz 12 S12 := z12 jjq x24v0 op16
theorem x62 : jja Pz 62 S62 := z62 jjq
theorem x116 : jja Pz 116 S116 := z116 jjq
theorem x88 : jja Pz 88 S88 := z88 jjq x116 y115 it145
theorem x63 : jja Pz 63 S63 := z63 jjq x88
theorem x65 : jja Pz 65 S65 := z65 jjq x62 x63
theorem x64v0 : jja Pz 64 S64v0 := z64v0 jjq x65
theorem x67 : jja Pz 67 S67 := z67 jjq
theorem x89 : jja Pz 89 S89 := z89 jjq
theorem x117 : jja Pz 117 S117 := z117 jjq
theorem x90 : jja Pz 90 S90 := z90 jjq x117
theorem x66v0 : jja Pz 66 S66v0 := z66v0 jjq x67 x89 x90
theorem x157 : jja Pz 157 S157 := z157 jjq
theorem x148 : jja Pz 148 S148 := z148 jjq x157
theorem x137 : jja Pz 137 S137 := z137 jjq x148
theorem x118 : jja Pz 118 S118 := z118 jjq x137 y115 it145
theorem x138 : jja Pz 138 S138 := z138 jjq
theorem x119 : jja Pz 119 S119 := z119 jjq x138
theorem x91 : jja Pz 91 S91 := z91 jjq x118 x119
theorem x81 : jja Pz 81 S81 := z81 jjq
theorem x55 : jja Pz 55 S55 := z55 jjq x81
theorem x128 : jja Pz 128 S128 := z128 jjq x55
theorem x127v0 : jja Pz 127 S127v0 := z127v0 jjq x128
theorem x104 : jja Pz 104 S104 := z104 jjq x127v0
theorem x149 : jja Pz 149 S149 := z149 jjq
theorem x139 : jja Pz 139 S139 := z139 jjq x149
theorem x120 : jja Pz 120 S120 := z120 jjq x118 x139
theorem x92 : jja Pz 92 S92 := z92 jjq x104 x120
theorem x68 : jja Pz 68 S68 := z68 jjq x91 x92
theorem x35 : jja Pz 35 S35 := z35 jjq x62 x63 x64v0 x66v0 x68
theorem x34v0 : jja Pz 34 S34v0 := z34v0 jjq x35
theorem x45 : jja Pz 45 S45 := z45 jjq
theorem x44v0 : jja Pz 44 S44v0 := z44v0 jjq x34v0 x45
theorem x46v0 : jja Pz 46 S46v0 := z46v0 jjq
theorem x150 : jja Pz 150 S150 := z150 jjq
theorem x140 : jja Pz 140 S140 := z140 jjq x150
theorem x121 : jja Pz 121 S121 := z121 jjq x140
theorem x93 : jja Pz 93 S93 := z93 jjq x121
theorem x69 : jja Pz 69 S69 := z69 jjq x88 x93
theorem x36 : jja Pz 36 S36 := z36 jjq x63 x65 x69
theorem x77v0 : jja Pz 77 S77v0 := z77v0 jjq x36
theorem x103v0 : jja Pz 103 S103v0 := z103v0 jjq x77v0
theorem x78v0 : jja Pz 78 S78v0 := z78v0 jjq x103v0
theorem x48 : jja Pz 48 S48 := z48 jjq x78v0
theorem x47v0 : jja Pz 47 S47v0 := z47v0 jjq x48
theorem x83 : jja Pz 83 S83 := z83 jjq
theorem xH105 : jja Pz 105 SH105 := zH105 jjq
theorem x79 : jja Pz 79 S79 := z79 jjq x68 x83 x104 xH105
theorem x50 : jja Pz 50 S50 := z50 jjq x79
theorem x49v0 : jja Pz 49 S49v0 := z49v0 jjq x50
theorem x25 : jja Pz 25 S25 := z25 jjq x44v0 x46v0 x47v0 x49v0
theorem x13 : jja Pz 13 S13 := z13 jjq x25
theorem x14 : jja Pz 14 S14 := z14 jjq x26
theorem x54 : jja Pz 54 S54 := z54 jjq x55
theorem x53v0 : jja Pz 53 S53v0 := z53v0 jjq x54
theorem x27 : jja Pz 27 S27 := z27 jjq x53v0
theorem x82 : jja Pz 82 S82 := z82 jjq
theorem x56 : jja Pz 56 S56 := z56 jjq x82 x83
theorem x29 : jja Pz 29 S29 := z29 jjq x56
theorem x28 : jja Pz 28 S28 := z28 jjq x29
theorem x30 : jja Pz 30 S30 := z30 jjq x25 x28
theorem xH31 : jja Pz 31 SH31 := zH31 jjq
theorem x15 : jja Pz 15 S15 := z15 jjq x13 x27 x28 x29 x30 xH31
theorem x20 : jja Pz 20 S20 := z20 jjq x34v0
theorem x21v0 : jja Pz 21 S21v0 := z21v0 jjq x36
theorem x8 : jja Pz 8 S8 := z8 jjq x20 x21v0
theorem x6 : jja Pz 6 S6 := z6 jjq x8 x12 x13 x14 x15
end Go.Proofs
