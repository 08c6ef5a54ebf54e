/- It is proved that closures can be combined (FnClosureOne). (part 5 of 7: JkEF36, JkEF74, JkEF41, JkEPuJ, JkEF77v0, JkEF103v0, JkEF44v0, JkEF46v0, JkEF78v0, JkEF48, JkEF47v0, JkEF49v0, JkEF25, JkEF13, JkEF39, JkEF52, JkEF26, JkEF14, JkEPuK, JkEF109, JkEF17v0, JkEF113v0, JkE) Conditions: none beyond the statement. -/
import Derived.Test.YtbkkbojncgpkkaaGreatDoorZFnClosureOne3
import Derived.Tactics
import Derived.Deep.RegionLaw
import Derived.Shelf.Abstract
import Derived.Test.YtbkkbojncgpkkaaGreatDoorProg
import Derived.KernelRfl
set_option linter.unusedSimpArgs false
set_option maxRecDepth 100000
set_option linter.unusedVariables false
namespace Go.Proofs
open Go.Jk
noncomputable def c36 : Ctx := { tt := tt, fs := fun n => match n with | 63 => some S63 | 65 => some S65 | 69 => some S69 | _ => none }
theorem k36 (h : ∀ T, (tt T).ok Tryz.prog T) (h63 : jja Tryz.prog 63 S63) (h65 : jja Tryz.prog 65 S65) (h69 : jja Tryz.prog 69 S69) : CtxGood Tryz.prog c36 := ⟨⟨h⟩, fun g S hg => (by
 simp only [c36] at hg
 split at hg
 ·cases hg; exact h63
 ·cases hg; exact h65
 ·cases hg; exact h69
 ·cases hg), jjv, fun _ _ h => (by cases h), fun _ h => (by cases h)⟩
noncomputable def b36 : Code := jjl Tryz.f36
@[reducible] noncomputable def s36_12 : Shape := ⟨[(1, .lf (.d (.str))), (2, .lf (.d (.str))), (3, .lf (.ptr 3 0))], [(3, .box [.d (.str), .d (.int .i64), .d (.str)], .same)], 44⟩
@[reducible] noncomputable def t36_12 : List OSh := [(.norm, ⟨[(2, .lf (.d (.str))), (3, .lf (.ptr 3 0)), (20, .lf (.d (.bool)))], [(3, .box [.d (.str), .d (.int .i64), .d (.str)], .same)], 44⟩)]
noncomputable def g36_12 (y : s36_12.Y) : Option (YS t36_12) :=
(f65 (((y.2.1.1, (y.2.1.2.1, (y.2.1.2.2.1, ()))), ()), ())).bind fun r1316 =>
 bif (!(!r1316.1.1)) then
(f63 ((y.1.2.1, ()), ())).bind fun r1317 =>
 bif (!(!r1317.1.1)) then
 some (((y.1.2.1, ((), ((!(y.1.1 == y.2.1.1)), ()))), ((y.2.1.1, (y.2.1.2.1, (y.2.1.2.2.1, ()))), ())))
else
 some (((y.1.2.1, ((), (true, ()))), ((y.2.1.1, (y.2.1.2.1, (y.2.1.2.2.1, ()))), ())))
else
 some (((y.1.2.1, ((), (true, ()))), ((y.2.1.1, (y.2.1.2.1, (y.2.1.2.2.1, ()))), ())))
theorem r36_12 : ∀ y, g36_12 y = jjL (jjd c36 []) (jjc b36 1 12) 12 s36_12 t36_12 y := fun y => by kernel_rfl
theorem q36_12 (H : CtxGood Tryz.prog c36) : jjj Tryz.prog (jjc b36 1 12) (jjb s36_12 t36_12 g36_12) :=
 jjs (fr := []) H (by kernel_rfl) jje r36_12
@[reducible] noncomputable def i36 : Shape := ⟨[(0, .agg [.d (.str), .d (.int .i64), .d (.str)]), (1, .lf (.d (.str))), (2, .lf (.d (.str)))], [], 44⟩
@[reducible] noncomputable def o36 : Shape := ⟨[(6, .lf (.d (.bool)))], [], 44⟩
noncomputable def f36 (a : i36.Y) : Option o36.Y :=
(g36_12 ((a.1.2.1, (a.1.2.2.1, ((), ()))), ((a.1.1.1, (a.1.1.2.1, (a.1.1.2.2.1, ()))), ()))).bind fun r1376 =>
 bif r1376.1.2.2.1 then
 some ((false, ()), ())
else
 bif (r1376.2.1.2.1 == (1 : Int)) then
(f69 ((r1376.1.1, (r1376.2.1.2.2.1, ())), ())).bind fun r1377 =>
 some (((r1377.1.1 == (0 : Int)), ()), ())
else
 bif (r1376.2.1.2.1 == (2 : Int)) then
(f69 ((r1376.1.1, (r1376.2.1.2.2.1, ())), ())).bind fun r1378 =>
 some (((decide (r1378.1.1 ≥ (0 : Int))), ()), ())
else
 bif (r1376.2.1.2.1 == (3 : Int)) then
(f69 ((r1376.1.1, (r1376.2.1.2.2.1, ())), ())).bind fun r1379 =>
 some (((decide (r1379.1.1 < (0 : Int))), ()), ())
else
 some ((true, ()), ())
theorem e36 : ∀ a, f36 a = jjt (jjd c36 [(12, jjb s36_12 t36_12 g36_12)]) b36 i36 o36 a := fun a => by kernel_rfl
noncomputable def S36 : jjM := jjg tt 44 i36 o36 [.tmp 6] [] f36
theorem z36 (h : ∀ T, (tt T).ok Tryz.prog T) (h63 : jja Tryz.prog 63 S63) (h65 : jja Tryz.prog 65 S65) (h69 : jja Tryz.prog 69 S69) : jja Tryz.prog 36 S36 :=
 have H := k36 h h63 h65 h69
 jjm (fn := Tryz.f36) (fr := [(12, jjb s36_12 t36_12 g36_12)]) H (by kernel_rfl) (by kernel_rfl) (by kernel_rfl) (by kernel_rfl) (by kernel_rfl) ⟨q36_12 H, trivial⟩ (by kernel_rfl) (fun y => ⟨_, _, rfl, rfl, rfl⟩) e36
noncomputable def c74 : Ctx := { tt := tt, fs := fun n => match n with | 95 => some S95 | 100 => some S100 | _ => none }
theorem k74 (h : ∀ T, (tt T).ok Tryz.prog T) (h95 : jja Tryz.prog 95 S95) (h100 : jja Tryz.prog 100 S100) : CtxGood Tryz.prog c74 := ⟨⟨h⟩, fun g S hg => (by
 simp only [c74] at hg
 split at hg
 ·cases hg; exact h95
 ·cases hg; exact h100
 ·cases hg), jjv, fun _ _ h => (by cases h), fun _ h => (by cases h)⟩
noncomputable def b74 : Code := jjl Tryz.f74
@[reducible] noncomputable def s74_60 : Shape := ⟨[(5, .lf (.own 3000320)), (6, .lf (.d (.bool))), (7, .lf (.own 3000448)), (8, .lf (.d (.bool)))], [(3000320, .row .i64, .slot 5 0), (3000448, .row .i64, .slot 7 0)], 28⟩
@[reducible] noncomputable def t74_60 : List OSh := [(.norm, ⟨[(5, .lf (.own 3000320)), (7, .lf (.own 3000448)), (24, .lf (.d (.bool)))], [(3000320, .row .i64, .slot 5 0), (3000448, .row .i64, .slot 7 0)], 28⟩)]
noncomputable def g74_60 (y : s74_60.Y) : Option (YS t74_60) :=
 bif (!(!y.1.2.1)) then
 some ((((), ((), ((!y.1.2.2.2.1), ()))), (y.2.1, (y.2.2.1, ()))))
else
 some ((((), ((), (true, ()))), (y.2.1, (y.2.2.1, ()))))
theorem r74_60 : ∀ y, g74_60 y = jjL (jjd c74 []) (jjc b74 1 60) 60 s74_60 t74_60 y := fun y => by kernel_rfl
theorem q74_60 (H : CtxGood Tryz.prog c74) : jjj Tryz.prog (jjc b74 1 60) (jjb s74_60 t74_60 g74_60) :=
 jjs (fr := []) H (by kernel_rfl) jje r74_60
@[reducible] noncomputable def i74 : Shape := ⟨[(0, .lf (.d (.str))), (1, .lf (.d (.str)))], [], 28⟩
@[reducible] noncomputable def o74 : Shape := ⟨[(4, .lf (.d (.int .i64)))], [], 28⟩
noncomputable def f74 (a : i74.Y) : Option o74.Y :=
(f95 ((a.1.1, ()), ())).bind fun r1726 =>
(f95 ((a.1.2.1, ()), ())).bind fun r1728 =>
(g74_60 (((), (r1726.1.2.1, ((), (r1728.1.2.1, ())))), (r1726.2.1, (r1728.2.1, ())))).bind fun r1730 =>
 bif r1730.1.2.2.1 then
 some (((0 : Int), ()), ())
else
(f100 ((r1730.2.1, (r1730.2.2.1, ())), ())).bind fun r1731 =>
 some ((r1731.1.1, ()), ())
theorem e74 : ∀ a, f74 a = jjt (jjd c74 [(60, jjb s74_60 t74_60 g74_60)]) b74 i74 o74 a := fun a => by kernel_rfl
noncomputable def S74 : jjM := jjg tt 28 i74 o74 [.tmp 4] [] f74
theorem z74 (h : ∀ T, (tt T).ok Tryz.prog T) (h95 : jja Tryz.prog 95 S95) (h100 : jja Tryz.prog 100 S100) : jja Tryz.prog 74 S74 :=
 have H := k74 h h95 h100
 jjm (fn := Tryz.f74) (fr := [(60, jjb s74_60 t74_60 g74_60)]) H (by kernel_rfl) (by kernel_rfl) (by kernel_rfl) (by kernel_rfl) (by kernel_rfl) ⟨q74_60 H, trivial⟩ (by kernel_rfl) (fun y => ⟨_, _, rfl, rfl, rfl⟩) e74
noncomputable def c41 : Ctx := { tt := tt, fs := fun n => match n with | 74 => some S74 | _ => none }
theorem k41 (h : ∀ T, (tt T).ok Tryz.prog T) (h74 : jja Tryz.prog 74 S74) : CtxGood Tryz.prog c41 := ⟨⟨h⟩, fun g S hg => (by
 simp only [c41] at hg
 split at hg
 ·cases hg; exact h74
 ·cases hg), jjv, fun _ _ h => (by cases h), fun _ h => (by cases h)⟩
noncomputable def b41 : Code := jjl Tryz.f41
@[reducible] noncomputable def i41 : Shape := ⟨[(0, .agg [.d (.str), .d (.int .i64), .d (.str)]), (1, .lf (.d (.str))), (2, .lf (.d (.str)))], [], 30⟩
@[reducible] noncomputable def o41 : Shape := ⟨[(6, .lf (.d (.bool)))], [], 30⟩
noncomputable def f41 (a : i41.Y) : Option o41.Y :=
 bif (!(a.1.1.1 == a.1.2.1)) then
 some ((false, ()), ())
else
(f74 ((a.1.2.2.1, (a.1.1.2.2.1, ())), ())).bind fun r1735 =>
 bif (a.1.1.2.1 == (1 : Int)) then
 some (((r1735.1.1 == (0 : Int)), ()), ())
else
 bif (a.1.1.2.1 == (2 : Int)) then
 some (((decide (r1735.1.1 ≥ (0 : Int))), ()), ())
else
 bif (a.1.1.2.1 == (3 : Int)) then
 some (((decide (r1735.1.1 < (0 : Int))), ()), ())
else
 some ((true, ()), ())
theorem e41 : ∀ a, f41 a = jjt (jjd c41 []) b41 i41 o41 a := fun a => by kernel_rfl
noncomputable def S41 : jjM := jjg tt 30 i41 o41 [.tmp 6] [] f41
theorem z41 (h : ∀ T, (tt T).ok Tryz.prog T) (h74 : jja Tryz.prog 74 S74) : jja Tryz.prog 41 S41 :=
 have H := k41 h h74
 jjm (fn := Tryz.f41) (fr := []) H (by kernel_rfl) (by kernel_rfl) (by kernel_rfl) (by kernel_rfl) (by kernel_rfl) jje (by kernel_rfl) (fun y => ⟨_, _, rfl, rfl, rfl⟩) e41
def ordL : List Int → List Int → Int
 | [], [] => 0
 | [], _ :: _ => -1
 | _ :: _, [] => 1
 | x :: a, y :: b => bif decide (x < y) then -1 else bif decide (x > y) then 1 else ordL a b
theorem jj1 {α : Type} {xs : List α} {k : Nat} {x : α} {r : List α} (h : xs.drop k = x :: r) : xs[k]? = some x ∧ xs.drop (k + 1) = r ∧ k < xs.length := by
 have h1 : xs[k]? = some x := by
  have := congrArg (fun l => l[0]?) h
  simpa using this
 refine ⟨h1, ?_, jjH h1⟩
 have := congrArg List.tail h
 simpa using this
theorem drop_nil {α : Type} {xs : List α} {k : Nat} (h : xs.drop k = []) : xs.length ≤ k := by
 have := congrArg List.length h
 simp at this; omega
theorem v_l3Order (a) (h1 : Bd a.1.1.length) (h2 : Bd a.1.2.1.length) (p1 : ∀ x, x ∈ a.1.1 → 0 ≤ x) (p2 : ∀ x, x ∈ a.1.2.1 → 0 ≤ x) : f100 a = some ((ordL a.1.1 a.1.2.1, ()), ()) := by
 obtain ⟨⟨xs, ys, u⟩, u'⟩ := a
 have h1 : xs.length ≤ 2097152 := h1
 have h2 : ys.length ≤ 2097152 := h2
 have p1 : ∀ x : Int, x ∈ xs → 0 ≤ x := p1
 have p2 : ∀ x : Int, x ∈ ys → 0 ≤ x := p2
 have key : ∀ (n : Nat) (us ws : List Int) (k : Nat), us.length + ws.length = n → xs.drop k = us → ys.drop k = ws → k ≤ 2097152 →
   (jxi ((xs, (ys, ((k : Int), ()))), ())).bind (fun r625 => (match r625 with | .inl r626 => some ((r626.1.1, ()), ()) | .inr r627 => some (((0 : Int), ()), ()) : Option o100.Y)) = some ((ordL us ws, ()), ()) := by
  intro n
  induction n using Nat.strongRecOn with
  | _ n ih =>
   intro us ws k hn ha hb hk
   have hw : Sm k := by unfold Sm; omega
   match us, ws with
   | [], [] =>
    have c1 := drop_nil ha
    have c2 := drop_nil hb
    have d1 : decide ((k : Int) < (xs.length : Int)) = false := by simp only [decide_eq_false_iff_not]; omega
    have d2 : decide ((k : Int) < (ys.length : Int)) = false := by simp only [decide_eq_false_iff_not]; omega
    have : jxi ((xs, (ys, ((k : Int), ()))), ()) = some (.inr ((), ())) := by
     refine jjC ?_
     simp only [jJv, jq4, d1, d2, Bool.not_false, cond_true, cond_false, Option.bind_some]
    rw [this]; rfl
   | [], y :: ws =>
    have c1 := drop_nil ha
    obtain ⟨c2, c3, c4⟩ := jj1 hb
    have hy := p2 y (List.mem_of_getElem? c2)
    have d1 : decide ((k : Int) < (xs.length : Int)) = false := by simp only [decide_eq_false_iff_not]; omega
    have d3 : decide ((-1 : Int) < y) = true := by simp only [decide_eq_true_eq]; omega
    have : jxi ((xs, (ys, ((k : Int), ()))), ()) = some (.inl ((((-1) : Int), ()), ())) := by
     refine jjC ?_
     simp only [jJv, jq4, jqU, jqT, d1, jjB c4, jjx, c2, Bool.not_false, cond_true, cond_false, Option.bind_some, d3]
    rw [this]; rfl
   | x :: us, [] =>
    have c1 := drop_nil hb
    obtain ⟨c2, c3, c4⟩ := jj1 ha
    have hx := p1 x (List.mem_of_getElem? c2)
    have d1 : decide ((k : Int) < (ys.length : Int)) = false := by simp only [decide_eq_false_iff_not]; omega
    have d3 : decide (x < (-1 : Int)) = false := by simp only [decide_eq_false_iff_not]; omega
    have d4 : decide (x > (-1 : Int)) = true := by simp only [decide_eq_true_eq]; omega
    have : jxi ((xs, (ys, ((k : Int), ()))), ()) = some (.inl (((1 : Int), ()), ())) := by
     refine jjC ?_
     simp only [jJv, jq4, jqU, jqT, d1, jjB c4, jjx, c2, Bool.not_true, cond_true, cond_false, Option.bind_some, d3, d4]
    rw [this]; rfl
   | x :: us, y :: ws =>
    obtain ⟨c2, c3, c4⟩ := jj1 ha
    obtain ⟨e2, e3, e4⟩ := jj1 hb
    have step : jJv ((xs, (ys, ((k : Int), ()))), ()) = some (bif decide (x < y) then .inr (.inl ((((-1) : Int), ()), ())) else bif decide (x > y) then .inr (.inl (((1 : Int), ()), ())) else .inl ((xs, (ys, (((k + 1 : Nat) : Int), ()))), ())) := by
     simp only [jJv, jq4, jqU, jqT, jjB c4, jjB e4, jjx, c2, e2, Bool.not_true, cond_true, cond_false, Option.bind_some, jjn hw]
     cases decide (x < y) <;> cases decide (x > y) <;> rfl
    rw [ordL]
    cases hlt : decide (x < y) with
    | true => rw [hlt, cond_true] at step; rw [show jxi ((xs, (ys, ((k : Int), ()))), ()) = _ from jjC step]; rfl
    | false =>
     rw [hlt, cond_false] at step
     cases hgt : decide (x > y) with
     | true => rw [hgt, cond_true] at step; rw [show jxi ((xs, (ys, ((k : Int), ()))), ()) = _ from jjC step]; rfl
     | false =>
      rw [hgt, cond_false] at step
      rw [show jxi ((xs, (ys, ((k : Int), ()))), ()) = _ from jqc step]
      exact ih (us.length + ws.length) (by simp only [List.length_cons] at hn; omega) us ws (k + 1) rfl c3 e3 (by omega)
 have := key _ xs ys 0 rfl rfl rfl (Nat.zero_le _)
 simp only [f100]
 exact this
theorem v_cmpInt (a) : f140 a = some ((bif decide (a.1.1 < a.1.2.1) then -1 else bif decide (a.1.1 > a.1.2.1) then 1 else 0, ()), ()) := by
 obtain ⟨⟨x, y, u⟩, u'⟩ := a
 have hx : (x != x) = false := by simp
 have hy : (y != y) = false := by simp
 simp only [f140, f150, Option.bind_some, hx, hy, cond_false]
 cases decide (x < y) <;> cases decide (x > y) <;> rfl
theorem v_Compare (a) (h1 : Bd a.1.1.length) (h2 : Bd a.1.2.1.length) : f121 a = some ((ordL a.1.1 a.1.2.1, ()), ()) := by
 obtain ⟨⟨xs, ys, u⟩, u'⟩ := a
 have h1 : xs.length ≤ 2097152 := h1
 have h2 : ys.length ≤ 2097152 := h2
 have key : ∀ (us ws : List Int) (k : Nat), xs.drop k = us → ys.drop k = ws → k ≤ xs.length →
   (jxC ((xs, (ys, (xs, ((xs.length : Int), ((k : Int), ()))))), ())).bind (fun r1113 => (match r1113 with
    | .inl r1114 => some ((r1114.1.1, ()), ())
    | .inr r1115 => bif (decide ((r1115.1.1.length : Int) < (r1115.1.2.1.length : Int))) then some ((((-1) : Int), ()), ()) else some (((0 : Int), ()), ()) : Option o121.Y)) = some ((ordL us ws, ()), ()) := by
  intro us
  induction us with
  | nil =>
   intro ws k ha hb hk
   have c1 := drop_nil ha
   have d1 : decide ((k : Int) < (xs.length : Int)) = false := by simp only [decide_eq_false_iff_not]; omega
   have : jxC ((xs, (ys, (xs, ((xs.length : Int), ((k : Int), ()))))), ()) = some (.inr ((xs, (ys, ())), ())) := by
    refine jjC ?_
    simp only [g121_26, d1, cond_false]
   rw [this]
   simp only [Option.bind_some]
   cases ws with
   | nil =>
    have c2 := drop_nil hb
    have : decide ((xs.length : Int) < (ys.length : Int)) = false := by simp only [decide_eq_false_iff_not]; omega
    rw [this]; rfl
   | cons y ws =>
    obtain ⟨_, _, c4⟩ := jj1 hb
    rw [jjB (show xs.length < ys.length by omega)]; rfl
  | cons x us ih =>
   intro ws k ha hb hk
   obtain ⟨c2, c3, c4⟩ := jj1 ha
   have hw : Sm k := by unfold Sm; omega
   cases ws with
   | nil =>
    have c1 := drop_nil hb
    have d1 : decide ((k : Int) ≥ (ys.length : Int)) = true := by simp only [decide_eq_true_eq]; omega
    have : jxC ((xs, (ys, (xs, ((xs.length : Int), ((k : Int), ()))))), ()) = some (.inl (((1 : Int), ()), ())) := by
     refine jjC ?_
     simp only [g121_26, jjB c4, cond_true, jjx, c2, Option.bind_some, d1]
    rw [this]; rfl
   | cons y ws =>
    obtain ⟨e2, e3, e4⟩ := jj1 hb
    have d1 : decide ((k : Int) ≥ (ys.length : Int)) = false := by simp only [decide_eq_false_iff_not]; omega
    have step : g121_26 ((xs, (ys, (xs, ((xs.length : Int), ((k : Int), ()))))), ()) = some (bif decide (x < y) then .inr (.inl ((((-1) : Int), ()), ())) else bif decide (x > y) then .inr (.inl (((1 : Int), ()), ())) else .inl ((xs, (ys, (xs, ((xs.length : Int), (((k + 1 : Nat) : Int), ()))))), ())) := by
     simp only [g121_26, jjB c4, jjx, c2, e2, d1, cond_true, cond_false, Option.bind_some, v_cmpInt, jjn hw]
     cases decide (x < y) <;> cases decide (x > y) <;> rfl
    rw [ordL]
    cases hlt : decide (x < y) with
    | true => rw [hlt, cond_true] at step; rw [show jxC ((xs, (ys, (xs, ((xs.length : Int), ((k : Int), ()))))), ()) = _ from jjC step]; rfl
    | false =>
     rw [hlt, cond_false] at step
     cases hgt : decide (x > y) with
     | true => rw [hgt, cond_true] at step; rw [show jxC ((xs, (ys, (xs, ((xs.length : Int), ((k : Int), ()))))), ()) = _ from jjC step]; rfl
     | false =>
      rw [hgt, cond_false] at step
      rw [show jxC ((xs, (ys, (xs, ((xs.length : Int), ((k : Int), ()))))), ()) = _ from jqc step]
      exact ih ws (k + 1) c3 e3 (by omega)
 have := key xs ys 0 rfl rfl (Nat.zero_le _)
 simp only [f121]
 exact this
def ordV (a b : Str) : Int := bif jj8 a && jj8 b then ordL (jxH a) (jxH b) else 0
theorem versL_nonneg {s : Str} (h : jj8 s = true) : ∀ x, x ∈ jxH s → 0 ≤ x := by
 intro x hx
 unfold jxH at hx
 obtain ⟨p, hp, rfl⟩ := List.mem_map.1 hx
 unfold jj8 at h
 simp only [Bool.and_eq_true] at h
 have := List.all_eq_true.1 h.1 p hp
 unfold numB at this
 simp only [Bool.and_eq_true] at this
 exact val_nonneg p 0 this.1.1.1.1 (Int.le_refl _)
theorem versL_len (s : Str) : (jxH s).length ≤ s.length + 1 := by
 unfold jxH jqH
 rw [List.length_map]
 exact jqN 46 s
theorem v_VersionOrder (a) (h1 : a.1.1.length ≤ 2097151) (h2 : a.1.2.1.length ≤ 2097151) : f74 a = some ((ordV a.1.1 a.1.2.1, ()), ()) := by
 obtain ⟨⟨x, y, u⟩, u'⟩ := a
 have h1 : x.length ≤ 2097151 := h1
 have h2 : y.length ≤ 2097151 := h2
 obtain ⟨o1, e1, q1⟩ := v_l3Parts ((x, ()), ()) (show x.length ≤ 2097152 by omega)
 obtain ⟨o2, e2, q2⟩ := v_l3Parts ((y, ()), ()) (show y.length ≤ 2097152 by omega)
 simp only [f74, e1, e2, Option.bind_some, g74_60, ordV, Bool.not_not]
 cases hx : jj8 x with
 | false => rfl
 | true =>
  cases hy : jj8 y with
  | false => rfl
  | true =>
   have hx1 := versL_len x
   have hy1 := versL_len y
   have w1 : o1 = jxH x := q1 hx
   have w2 : o2 = jxH y := q2 hy
   subst w1 w2
   have e3 := v_l3Order ((jxH x, (jxH y, ())), ()) (show (jxH x).length ≤ 2097152 by omega) (show (jxH y).length ≤ 2097152 by omega) (versL_nonneg hx) (versL_nonneg hy)
   simp only [cond_true, Bool.not_true, Option.bind_some, cond_false, e3, Bool.and_self]
theorem v_iVersionOrder (a) (h1 : a.1.1.length ≤ 2097151) (h2 : a.1.2.1.length ≤ 2097151) : f69 a = some ((ordV a.1.1 a.1.2.1, ()), ()) := by
 obtain ⟨⟨x, y, u⟩, u'⟩ := a
 have h1 : x.length ≤ 2097151 := h1
 have h2 : y.length ≤ 2097151 := h2
 have e1 := jx4 ((x, ()), ()) (show x.length ≤ 2097152 by omega)
 have e2 := jx4 ((y, ()), ()) (show y.length ≤ 2097152 by omega)
 simp only [f69, e1, e2, Option.bind_some, g69_60, ordV, Bool.not_not]
 cases hx : jj8 x with
 | false => rfl
 | true =>
  cases hy : jj8 y with
  | false => rfl
  | true =>
   have hx1 := versL_len x
   have hy1 := versL_len y
   have e3 := v_Compare ((jxH x, (jxH y, ())), ()) (show (jxH x).length ≤ 2097152 by omega) (show (jxH y).length ≤ 2097152 by omega)
   simp only [cond_true, Bool.not_true, Option.bind_some, cond_false, f93, e3, Bool.and_self]
def fitsV (n : Need) (v : Str) : Bool := bif n.kind == 1 then ordV v n.version == 0 else bif n.kind == 2 then decide (ordV v n.version ≥ 0) else bif n.kind == 3 then decide (ordV v n.version < 0) else true
theorem v_l3Fits (a) (h1 : a.1.1.2.2.1.length ≤ 2097151) (h2 : a.1.2.2.1.length ≤ 2097151) (hn : a.1.2.1 = a.1.1.1) : f41 a = some ((fitsV ⟨a.1.1.1, a.1.1.2.1, a.1.1.2.2.1⟩ a.1.2.2.1, ()), ()) := by
 obtain ⟨⟨⟨n, k, v, u⟩, m, w, u'⟩, u''⟩ := a
 obtain rfl : m = n := hn
 have e1 := v_VersionOrder ((w, (v, ())), ()) h2 h1
 have e0 : (m == m) = true := by simp
 simp only [f41, e0, e1, Bool.not_true, cond_false, Option.bind_some, fitsV]
 cases (k == 1) <;> cases (k == 2) <;> cases (k == 3) <;> rfl
def fitsB (n : Need) (name v : Str) : Bool := jqA n && jj8 v && (name == n.name) && fitsV n v
theorem v_NeedFits (a) (h0 : Bd a.1.1.1.length) (h1 : a.1.1.2.2.1.length ≤ 2097151) (h2 : a.1.2.2.1.length ≤ 2097151) : f36 a = some ((fitsB ⟨a.1.1.1, a.1.1.2.1, a.1.1.2.2.1⟩ a.1.2.1 a.1.2.2.1, ()), ()) := by
 obtain ⟨⟨⟨n, k, v, u⟩, m, w, u'⟩, u''⟩ := a
 have h1 : v.length ≤ 2097151 := h1
 have h2 : w.length ≤ 2097151 := h2
 have e1 := v_iVersionOrder ((w, (v, ())), ()) h2 h1
 have e2 := v_iNeedOk (((n, (k, (v, ()))), ()), ()) h0 (show v.length ≤ 2097152 by omega)
 have e3 := jzy ((w, ()), ()) (show w.length ≤ 2097152 by omega)
 simp only [f36, g36_12, e1, e2, e3, Bool.not_not, Option.bind_some, fitsB, fitsV]
 cases jqA ⟨n, k, v⟩ with
 | false => rfl
 | true =>
  cases jj8 w with
  | false => rfl
  | true =>
   cases (m == n) with
   | false => rfl
   | true =>
    simp only [cond_true, Bool.not_true, Option.bind_some, cond_false, Bool.true_and]
    cases (k == 1) <;> cases (k == 2) <;> cases (k == 3) <;> simp only [cond_true, cond_false, Option.bind_some, e1]
noncomputable def c39 : Ctx := { tt := tt, fs := fun n => match n with | _ => none }
theorem k39 (h : ∀ T, (tt T).ok Tryz.prog T) : CtxGood Tryz.prog c39 := ⟨⟨h⟩, fun g S hg => (by cases hg), jjv, fun _ _ h => (by cases h), fun _ h => (by cases h)⟩
noncomputable def b39 : Code := jjl Tryz.f39
@[reducible] noncomputable def s39_26 : Shape := ⟨[(0, .lf (.d (.sl .pack))), (1, .lf (.d (.str))), (5, .lf (.d (.int .i64)))], [], 20⟩
@[reducible] noncomputable def t39_26 : List OSh := [(.ret, ⟨[(4, .lf (.d (.int .i64)))], [], 20⟩), (.exit 0, ⟨[], [], 20⟩)]
noncomputable def g39_26 (y : s39_26.Y) : Option (Sum s39_26.Y (YS t39_26)) :=
 bif (decide (y.1.2.2.1 < (y.1.1.length : Int))) then
(ix y.1.1 y.1.2.2.1).bind fun x1639 =>
 bif (x1639.name == y.1.2.1) then
 some (.inr (.inl ((y.1.2.2.1, ()), ())))
else
 some (.inl ((y.1.1, (y.1.2.1, ((IntKind.i64.wrap (y.1.2.2.1 + (1 : Int))), ()))), ()))
else
 some (.inr (.inr ((), ())))
theorem r39_26 : ∀ y, g39_26 y = jjz (jjd c39 []) (jjk (jjc b39 1 26)) 26 s39_26 t39_26 y := fun y => by kernel_rfl
noncomputable def l39_26 : s39_26.Y → Option (YS t39_26) := jjF g39_26
theorem q39_26 (H : CtxGood Tryz.prog c39) : jjj Tryz.prog (jjc b39 1 26) (jjb s39_26 t39_26 l39_26) :=
 jjr (fr := []) H (by kernel_rfl) (by kernel_rfl) jje (fun y => jjh r39_26 y)
@[reducible] noncomputable def i39 : Shape := ⟨[(0, .lf (.d (.sl .pack))), (1, .lf (.d (.str)))], [], 20⟩
@[reducible] noncomputable def o39 : Shape := ⟨[(4, .lf (.d (.int .i64)))], [], 20⟩
noncomputable def f39 (a : i39.Y) : Option o39.Y :=
(l39_26 ((a.1.1, (a.1.2.1, ((0 : Int), ()))), ())).bind fun r1643 =>
(match r1643 with
| .inl r1644 =>
 some ((r1644.1.1, ()), ())
| .inr r1645 =>
 some ((((-1) : Int), ()), ()))
theorem e39 : ∀ a, f39 a = jjt (jjd c39 [(26, jjb s39_26 t39_26 l39_26)]) b39 i39 o39 a := fun a => by kernel_rfl
noncomputable def S39 : jjM := jjg tt 20 i39 o39 [.tmp 4] [] f39
theorem z39 (h : ∀ T, (tt T).ok Tryz.prog T) : jja Tryz.prog 39 S39 :=
 have H := k39 h
 jjm (fn := Tryz.f39) (fr := [(26, jjb s39_26 t39_26 l39_26)]) H (by kernel_rfl) (by kernel_rfl) (by kernel_rfl) (by kernel_rfl) (by kernel_rfl) ⟨q39_26 H, trivial⟩ (by kernel_rfl) (fun y => ⟨_, _, rfl, rfl, rfl⟩) e39
theorem v_l8Pack (a) (hs : Bd a.1.1.length) : (∃ (k : Nat) (q : Pack), f39 a = some (((k : Int), ()), ()) ∧ a.1.1[k]? = some q ∧ a.1.1.find? (fun p => p.name == a.1.2.1) = some q) ∨
  (f39 a = some ((((-1) : Int), ()), ()) ∧ a.1.1.find? (fun p => p.name == a.1.2.1) = none) := by
 obtain ⟨⟨ps, name, u⟩, u'⟩ := a
 have hs : ps.length ≤ 2097152 := hs
 have key : ∀ (r : List Pack) (k : Nat), ps.drop k = r → k ≤ ps.length → (∃ (j : Nat) (q : Pack), l39_26 ((ps, (name, ((k : Int), ()))), ()) = some (.inl (((j : Int), ()), ())) ∧ ps[j]? = some q ∧ r.find? (fun p => p.name == name) = some q) ∨
   (l39_26 ((ps, (name, ((k : Int), ()))), ()) = some (.inr ((), ())) ∧ r.find? (fun p => p.name == name) = none) := by
  intro r
  induction r with
  | nil =>
   intro k hr hk
   have := drop_nil hr
   have d1 : decide ((k : Int) < (ps.length : Int)) = false := by simp only [decide_eq_false_iff_not]; omega
   refine .inr ⟨jjC ?_, rfl⟩
   simp only [g39_26, d1, cond_false]
  | cons q r ih =>
   intro k hr hk
   obtain ⟨c1, c2, c3⟩ := jj1 hr
   have hw : Sm k := by unfold Sm; omega
   have step : g39_26 ((ps, (name, ((k : Int), ()))), ()) = some (bif q.name == name then .inr (.inl (((k : Int), ()), ())) else .inl ((ps, (name, (((k + 1 : Nat) : Int), ()))), ())) := by
    simp only [g39_26, jjB c3, cond_true, jjx, c1, Option.bind_some, jjn hw]
    cases (q.name == name) <;> rfl
   cases hq : (q.name == name) with
   | true =>
    rw [hq, cond_true] at step
    exact .inl ⟨k, q, jjC step, c1, by simp [List.find?_cons, hq]⟩
   | false =>
    rw [hq, cond_false] at step
    rcases ih (k + 1) c2 c3 with ⟨j, q', h1, h2, h3⟩ | ⟨h1, h2⟩
    ·exact .inl ⟨j, q', (jqc step).trans h1, h2, by simp [List.find?_cons, hq]; exact h3⟩
    ·exact .inr ⟨(jqc step).trans h1, by simp only [List.find?_cons, hq]; exact h2⟩
 rcases key ps 0 rfl (Nat.zero_le _) with ⟨j, q, h1, h2, h3⟩ | ⟨h1, h2⟩
 ·have h1 : l39_26 ((ps, (name, ((0 : Int), ()))), ()) = some (.inl (((j : Int), ()), ())) := h1
  exact .inl ⟨j, q, by simp only [f39, h1, Option.bind_some], h2, h3⟩
 ·have h1 : l39_26 ((ps, (name, ((0 : Int), ()))), ()) = some (.inr ((), ())) := h1
  exact .inr ⟨by simp only [f39, h1, Option.bind_some], h2⟩
abbrev VS (ps : List Pack) : Prop := ∀ p, p ∈ ps → p.version.length ≤ 2097151 ∧ ∀ n, n ∈ p.needs → n.version.length ≤ 2097151
noncomputable def c109 : Ctx := { tt := tt, fs := fun n => match n with | 86 => some S86 | 97 => some S97 | 98 => some S98 | 99 => some S99 | 106 => some S106 | _ => none }
theorem k109 (h : ∀ T, (tt T).ok Tryz.prog T) (h86 : jja Tryz.prog 86 S86) (h97 : jja Tryz.prog 97 S97) (h98 : jja Tryz.prog 98 S98) (h99 : jja Tryz.prog 99 S99) (h106 : jja Tryz.prog 106 S106) : CtxGood Tryz.prog c109 := ⟨⟨h⟩, fun g S hg => (by
 simp only [c109] at hg
 split at hg
 ·cases hg; exact h86
 ·cases hg; exact h97
 ·cases hg; exact h98
 ·cases hg; exact h99
 ·cases hg; exact h106
 ·cases hg), jjv, fun _ _ h => (by cases h), fun _ h => (by cases h)⟩
noncomputable def b109 : Code := jjl Tryz.f109
@[reducible] noncomputable def s109_120 : Shape := ⟨[(0, .lf (.d (.sl .entry))), (3, .lf (.ptr 3 0)), (4, .lf (.own 3000256)), (5, .lf (.d (.bool))), (6, .lf (.d (.int .i64))), (7, .lf (.d (.bool))), (8, .lf (.own 3000512))], [(3, .box [.d (.str), .d (.int .i64), .d (.int .i64), .d (.str)], .same), (3000256, .row .entry, .slot 4 0), (3000512, .row .entry, .slot 8 0)], 68⟩
@[reducible] noncomputable def t109_120 : List OSh := [(.norm, ⟨[(0, .lf (.d (.sl .entry))), (3, .lf (.ptr 3 0)), (4, .lf (.own 3000256)), (5, .lf (.d (.bool))), (6, .lf (.d (.int .i64))), (7, .lf (.d (.bool))), (8, .lf (.own 3000512)), (18, .lf (.d (.bool)))], [(3, .box [.d (.str), .d (.int .i64), .d (.int .i64), .d (.str)], .same), (3000256, .row .entry, .slot 4 0), (3000512, .row .entry, .slot 8 0)], 68⟩)]
noncomputable def jzi (y : s109_120.Y) : Option (YS t109_120) :=
(f97 (((y.2.1.1, (y.2.1.2.1, (y.2.1.2.2.1, (y.2.1.2.2.2.1, ())))), ()), ())).bind fun r275 =>
 bif (!(!r275.1.1)) then
(f99 ((y.2.1.1, ()), ())).bind fun r276 =>
(f98 ((y.1.1, (r276.1.1, ())), ())).bind fun r277 =>
 some (((y.1.1, ((), ((), (y.1.2.2.2.1, (y.1.2.2.2.2.1, (y.1.2.2.2.2.2.1, ((), ((!r277.1.1), ())))))))), ((y.2.1.1, (y.2.1.2.1, (y.2.1.2.2.1, (y.2.1.2.2.2.1, ())))), (y.2.2.1, (y.2.2.2.1, ())))))
else
 some (((y.1.1, ((), ((), (y.1.2.2.2.1, (y.1.2.2.2.2.1, (y.1.2.2.2.2.2.1, ((), (true, ())))))))), ((y.2.1.1, (y.2.1.2.1, (y.2.1.2.2.1, (y.2.1.2.2.2.1, ())))), (y.2.2.1, (y.2.2.2.1, ())))))
theorem r109_120 : ∀ y, jzi y = jjL (jjd c109 []) (jjc b109 1 120) 120 s109_120 t109_120 y := fun y => by kernel_rfl
theorem q109_120 (H : CtxGood Tryz.prog c109) : jjj Tryz.prog (jjc b109 1 120) (jjb s109_120 t109_120 jzi) :=
 jjs (fr := []) H (by kernel_rfl) jje r109_120
@[reducible] noncomputable def s109_486 : Shape := ⟨[(0, .lf (.d (.sl .entry))), (3, .lf (.ptr 3 0)), (4, .lf (.own 3000256)), (5, .lf (.d (.bool))), (6, .lf (.d (.int .i64))), (7, .lf (.d (.bool))), (8, .lf (.own 3000512))], [(3, .box [.d (.str), .d (.int .i64), .d (.int .i64), .d (.str)], .same), (3000256, .row .entry, .slot 4 0), (3000512, .row .entry, .slot 8 0)], 68⟩
@[reducible] noncomputable def t109_486 : List OSh := [(.norm, ⟨[(0, .lf (.d (.sl .entry))), (3, .lf (.ptr 3 0)), (4, .lf (.own 3000256)), (5, .lf (.d (.bool))), (6, .lf (.d (.int .i64))), (7, .lf (.d (.bool))), (8, .lf (.own 3000512)), (31, .lf (.d (.bool)))], [(3, .box [.d (.str), .d (.int .i64), .d (.int .i64), .d (.str)], .same), (3000256, .row .entry, .slot 4 0), (3000512, .row .entry, .slot 8 0)], 68⟩)]
noncomputable def jzh (y : s109_486.Y) : Option (YS t109_486) :=
 bif y.1.2.2.2.2.2.1 then
(ix y.1.1 y.1.2.2.2.2.1).bind fun x286 =>
 some (((y.1.1, ((), ((), (y.1.2.2.2.1, (y.1.2.2.2.2.1, (y.1.2.2.2.2.2.1, ((), ((x286.kind != y.2.1.2.1), ())))))))), ((y.2.1.1, (y.2.1.2.1, (y.2.1.2.2.1, (y.2.1.2.2.2.1, ())))), (y.2.2.1, (y.2.2.2.1, ())))))
else
 some (((y.1.1, ((), ((), (y.1.2.2.2.1, (y.1.2.2.2.2.1, (y.1.2.2.2.2.2.1, ((), (false, ())))))))), ((y.2.1.1, (y.2.1.2.1, (y.2.1.2.2.1, (y.2.1.2.2.2.1, ())))), (y.2.2.1, (y.2.2.2.1, ())))))
theorem r109_486 : ∀ y, jzh y = jjL (jjd c109 []) (jjc b109 1 486) 486 s109_486 t109_486 y := fun y => by kernel_rfl
theorem q109_486 (H : CtxGood Tryz.prog c109) : jjj Tryz.prog (jjc b109 1 486) (jjb s109_486 t109_486 jzh) :=
 jjs (fr := []) H (by kernel_rfl) jje r109_486
@[reducible] noncomputable def i109 : Shape := ⟨[(0, .lf (.d (.sl .entry))), (1, .agg [.d (.str), .d (.int .i64), .d (.int .i64), .d (.str)])], [], 68⟩
@[reducible] noncomputable def o109 : Shape := ⟨[(4, .lf (.own 3000256)), (5, .lf (.d (.bool)))], [(3000256, .row .entry, .slot 4 0)], 68⟩
noncomputable def f109 (a : i109.Y) : Option o109.Y :=
(f106 ((a.1.1, (a.1.2.1.1, ())), ())).bind fun r281 =>
(f86 ((a.1.1, ()), ())).bind fun r283 =>
(jzi ((a.1.1, ((), ((), (false, (r281.1.1, (r281.1.2.1, ((), ()))))))), ((a.1.2.1.1, (a.1.2.1.2.1, (a.1.2.1.2.2.1, (a.1.2.1.2.2.2.1, ())))), (([] : List Entry), (r283.2.1, ()))))).bind fun r284 =>
 bif r284.1.2.2.2.2.2.2.2.1 then
 some (((), (false, ())), (r284.2.2.2.1, ()))
else
(jzh ((r284.1.1, ((), ((), (r284.1.2.2.2.1, (r284.1.2.2.2.2.1, (r284.1.2.2.2.2.2.1, ((), ()))))))), ((r284.2.1.1, (r284.2.1.2.1, (r284.2.1.2.2.1, (r284.2.1.2.2.2.1, ())))), (r284.2.2.1, (r284.2.2.2.1, ()))))).bind fun r287 =>
 bif r287.1.2.2.2.2.2.2.2.1 then
 some (((), (false, ())), (r287.2.2.2.1, ()))
else
 bif r287.1.2.2.2.2.2.1 then
(inb r287.2.2.2.1.length r287.1.2.2.2.2.1).bind fun x290 =>
((r287.2.2.2.1[x290]?).bind fun q => some (Entry.mk r287.2.1.1 r287.2.1.2.1 r287.2.1.2.2.1 r287.2.1.2.2.2.1)).bind fun x291 =>
 some (((), (true, ())), ((r287.2.2.2.1.set x290 x291), ()))
else
 bif (decide ((r287.1.1.length : Int) ≥ (16 : Int))) then
 some (((), (false, ())), (r287.2.2.2.1, ()))
else
(jqE r287.1.1 (0 : Int) r287.1.2.2.2.2.1).bind fun x292 =>
(apd 48 ([] : List Entry) x292).bind fun x293 =>
(apd 48 x293 ([(Entry.mk r287.2.1.1 r287.2.1.2.1 r287.2.1.2.2.1 r287.2.1.2.2.2.1)] : List Entry)).bind fun x294 =>
(jqE r287.1.1 r287.1.2.2.2.2.1 (r287.1.1.length : Int)).bind fun x295 =>
(apd 48 x294 x295).bind fun x296 =>
 some (((), (true, ())), (x296, ()))
theorem e109 : ∀ a, f109 a = jjt (jjd c109 [(120, jjb s109_120 t109_120 jzi), (486, jjb s109_486 t109_486 jzh)]) b109 i109 o109 a := fun a => by kernel_rfl
noncomputable def S109 : jjM := jjg tt 68 i109 o109 [.tmp 4, .tmp 5] [] f109
theorem z109 (h : ∀ T, (tt T).ok Tryz.prog T) (h86 : jja Tryz.prog 86 S86) (h97 : jja Tryz.prog 97 S97) (h98 : jja Tryz.prog 98 S98) (h99 : jja Tryz.prog 99 S99) (h106 : jja Tryz.prog 106 S106) : jja Tryz.prog 109 S109 :=
 have H := k109 h h86 h97 h98 h99 h106
 jjm (fn := Tryz.f109) (fr := [(120, jjb s109_120 t109_120 jzi), (486, jjb s109_486 t109_486 jzh)]) H (by kernel_rfl) (by kernel_rfl) (by kernel_rfl) (by kernel_rfl) (by kernel_rfl) ⟨q109_120 H, q109_486 H, trivial⟩ (by kernel_rfl) (fun y => ⟨_, _, rfl, rfl, rfl⟩) e109
noncomputable def c17v0 : Ctx := { tt := tt, fs := fun n => match n with | _ => none }
theorem k17v0 (h : ∀ T, (tt T).ok Tryz.prog T) : CtxGood Tryz.prog c17v0 := ⟨⟨h⟩, fun g S hg => (by cases hg), jjv, fun _ _ h => (by cases h), fun _ h => (by cases h)⟩
noncomputable def b17v0 : Code := jjl Tryz.f17
@[reducible] noncomputable def s17v0_28 : Shape := ⟨[(0, .lf (.ptr 500000 0)), (1, .lf (.d (.int .i64)))], [(500000, .box [.d (.sl .u8), .d (.int .i64)], .same)], 99⟩
@[reducible] noncomputable def t17v0_28 : List OSh := [(.norm, ⟨[(0, .lf (.ptr 500000 0)), (1, .lf (.d (.int .i64))), (24, .lf (.d (.bool)))], [(500000, .box [.d (.sl .u8), .d (.int .i64)], .same)], 99⟩)]
noncomputable def jze (y : s17v0_28.Y) : Option (YS t17v0_28) :=
 bif (!(decide (y.1.2.1 < (1 : Int)))) then
 some ((((), (y.1.2.1, (((y.2.1.1.length : Int) == (0 : Int)), ()))), ((y.2.1.1, (y.2.1.2.1, ())), ())))
else
 some ((((), (y.1.2.1, (true, ()))), ((y.2.1.1, (y.2.1.2.1, ())), ())))
theorem r17v0_28 : ∀ y, jze y = jjL (jjd c17v0 []) (jjc b17v0 1 28) 28 s17v0_28 t17v0_28 y := fun y => by kernel_rfl
theorem q17v0_28 (H : CtxGood Tryz.prog c17v0) : jjj Tryz.prog (jjc b17v0 1 28) (jjb s17v0_28 t17v0_28 jze) :=
 jjs (fr := []) H (by kernel_rfl) jje r17v0_28
@[reducible] noncomputable def i17v0 : Shape := ⟨[(0, .lf (.ptr 500000 0)), (1, .lf (.d (.int .i64)))], [(500000, .box [.d (.sl .u8), .d (.int .i64)], .same)], 99⟩
@[reducible] noncomputable def o17v0 : Shape := ⟨[(0, .lf (.ptr 500000 0)), (4, .lf (.d (.int .i64)))], [(500000, .box [.d (.sl .u8), .d (.int .i64)], .same)], 99⟩
noncomputable def jqY (a : i17v0.Y) : Option o17v0.Y :=
(jze (((), (a.1.2.1, ())), ((a.2.1.1, ((IntKind.i64.wrap (a.2.1.2.1 + (1 : Int))), ())), ()))).bind fun r21 =>
 bif r21.1.2.2.1 then
 some (((), ((0 : Int), ())), ((r21.2.1.1, (r21.2.1.2.1, ())), ()))
else
 bif (decide ((IntKind.i64.wrap (r21.2.1.2.1 - (1 : Int))) < (r21.2.1.1.length : Int))) then
(ix r21.2.1.1 (IntKind.i64.wrap (r21.2.1.2.1 - (1 : Int)))).bind fun x24 =>
(remI (IntKind.i64.wrap x24) r21.1.2.1).bind fun x25 =>
 some (((), (x25, ())), ((r21.2.1.1, (r21.2.1.2.1, ())), ()))
else
(remI (IntKind.i64.wrap (r21.2.1.2.1 - (1 : Int))) (r21.2.1.1.length : Int)).bind fun x31 =>
(ix r21.2.1.1 x31).bind fun x32 =>
(remI (IntKind.i64.wrap ((IntKind.i64.wrap ((IntKind.i64.wrap (r21.2.1.2.1 - (1 : Int))) * (7 : Int))) + (3 : Int))) (r21.2.1.1.length : Int)).bind fun x33 =>
(ix r21.2.1.1 x33).bind fun x34 =>
(quoI .i64 (IntKind.i64.wrap (r21.2.1.2.1 - (1 : Int))) (r21.2.1.1.length : Int)).bind fun x35 =>
(quoI .i64 (IntKind.i64.wrap ((IntKind.i64.wrap ((IntKind.i64.wrap ((IntKind.i64.wrap ((IntKind.i64.wrap x32) * (131 : Int))) + (IntKind.i64.wrap ((IntKind.i64.wrap x34) * (1117 : Int))))) + (IntKind.i64.wrap ((IntKind.i64.wrap (r21.2.1.2.1 - (1 : Int))) * (29 : Int))))) + (IntKind.i64.wrap (x35 * (53 : Int))))) (64 : Int)).bind fun x37 =>
(remI (xorI .i64 (IntKind.i64.wrap ((IntKind.i64.wrap ((IntKind.i64.wrap ((IntKind.i64.wrap ((IntKind.i64.wrap x32) * (131 : Int))) + (IntKind.i64.wrap ((IntKind.i64.wrap x34) * (1117 : Int))))) + (IntKind.i64.wrap ((IntKind.i64.wrap (r21.2.1.2.1 - (1 : Int))) * (29 : Int))))) + (IntKind.i64.wrap (x35 * (53 : Int))))) x37) r21.1.2.1).bind fun x38 =>
 some (((), (x38, ())), ((r21.2.1.1, (r21.2.1.2.1, ())), ()))
theorem e17v0 : ∀ a, jqY a = jjt (jjd c17v0 [(28, jjb s17v0_28 t17v0_28 jze)]) b17v0 i17v0 o17v0 a := fun a => by kernel_rfl
noncomputable def jj6 : jjM := jjg tt 99 i17v0 o17v0 [.tmp 4] [0] jqY
theorem z17v0 (h : ∀ T, (tt T).ok Tryz.prog T) : jja Tryz.prog 17 jj6 :=
 have H := k17v0 h
 jjm (fn := Tryz.f17) (fr := [(28, jjb s17v0_28 t17v0_28 jze)]) H (by kernel_rfl) (by kernel_rfl) (by kernel_rfl) (by kernel_rfl) (by kernel_rfl) ⟨q17v0_28 H, trivial⟩ (by kernel_rfl) (fun y => ⟨_, _, rfl, rfl, rfl⟩) e17v0
noncomputable def c113v0 : Ctx := { tt := tt, fs := fun n => match n with | 17 => some jj6 | _ => none }
theorem k113v0 (h : ∀ T, (tt T).ok Tryz.prog T) (h17v0 : jja Tryz.prog 17 jj6) : CtxGood Tryz.prog c113v0 := ⟨⟨h⟩, fun g S hg => (by
 simp only [c113v0] at hg
 split at hg
 ·cases hg; exact h17v0
 ·cases hg), jjv, fun _ _ h => (by cases h), fun _ h => (by cases h)⟩
noncomputable def b113v0 : Code := jjl Tryz.f113
@[reducible] noncomputable def i113v0 : Shape := ⟨[(0, .lf (.ptr 500000 0)), (1, .lf (.d (.sl .i64)))], [(500000, .box [.d (.sl .u8), .d (.int .i64)], .same)], 12⟩
@[reducible] noncomputable def o113v0 : Shape := ⟨[(0, .lf (.ptr 500000 0)), (4, .lf (.d (.int .i64)))], [(500000, .box [.d (.sl .u8), .d (.int .i64)], .same)], 12⟩
noncomputable def f113v0 (a : i113v0.Y) : Option o113v0.Y :=
(jqY (((), ((a.1.2.1.length : Int), ())), ((a.2.1.1, (a.2.1.2.1, ())), ()))).bind fun r316 =>
(ix a.1.2.1 r316.1.2.1).bind fun x317 =>
 some (((), (x317, ())), ((r316.2.1.1, (r316.2.1.2.1, ())), ()))
theorem e113v0 : ∀ a, f113v0 a = jjt (jjd c113v0 []) b113v0 i113v0 o113v0 a := fun a => by kernel_rfl
noncomputable def S113v0 : jjM := jjg tt 12 i113v0 o113v0 [.tmp 4] [0] f113v0
theorem z113v0 (h : ∀ T, (tt T).ok Tryz.prog T) (h17v0 : jja Tryz.prog 17 jj6) : jja Tryz.prog 113 S113v0 :=
 have H := k113v0 h h17v0
 jjm (fn := Tryz.f113) (fr := []) H (by kernel_rfl) (by kernel_rfl) (by kernel_rfl) (by kernel_rfl) (by kernel_rfl) jje (by kernel_rfl) (fun y => ⟨_, _, rfl, rfl, rfl⟩) e113v0
noncomputable def c18v0 : Ctx := { tt := tt, fs := fun n => match n with | 17 => some jj6 | _ => none }
theorem k18v0 (h : ∀ T, (tt T).ok Tryz.prog T) (h17v0 : jja Tryz.prog 17 jj6) : CtxGood Tryz.prog c18v0 := ⟨⟨h⟩, fun g S hg => (by
 simp only [c18v0] at hg
 split at hg
 ·cases hg; exact h17v0
 ·cases hg), jjv, fun _ _ h => (by cases h), fun _ h => (by cases h)⟩
noncomputable def b18v0 : Code := jjl Tryz.f18
@[reducible] noncomputable def i18v0 : Shape := ⟨[(0, .lf (.ptr 500000 0)), (1, .lf (.d (.sl .str)))], [(500000, .box [.d (.sl .u8), .d (.int .i64)], .same)], 12⟩
@[reducible] noncomputable def o18v0 : Shape := ⟨[(0, .lf (.ptr 500000 0)), (4, .lf (.d (.str)))], [(500000, .box [.d (.sl .u8), .d (.int .i64)], .same)], 12⟩
noncomputable def jzU (a : i18v0.Y) : Option o18v0.Y :=
(jqY (((), ((a.1.2.1.length : Int), ())), ((a.2.1.1, (a.2.1.2.1, ())), ()))).bind fun r45 =>
(ix a.1.2.1 r45.1.2.1).bind fun x46 =>
 some (((), (x46, ())), ((r45.2.1.1, (r45.2.1.2.1, ())), ()))
theorem e18v0 : ∀ a, jzU a = jjt (jjd c18v0 []) b18v0 i18v0 o18v0 a := fun a => by kernel_rfl
noncomputable def jqj : jjM := jjg tt 12 i18v0 o18v0 [.tmp 4] [0] jzU
theorem z18v0 (h : ∀ T, (tt T).ok Tryz.prog T) (h17v0 : jja Tryz.prog 17 jj6) : jja Tryz.prog 18 jqj :=
 have H := k18v0 h h17v0
 jjm (fn := Tryz.f18) (fr := []) H (by kernel_rfl) (by kernel_rfl) (by kernel_rfl) (by kernel_rfl) (by kernel_rfl) jje (by kernel_rfl) (fun y => ⟨_, _, rfl, rfl, rfl⟩) e18v0
noncomputable def c134v0 : Ctx := { tt := tt, fs := fun n => match n with | 18 => some jqj | _ => none }
theorem k134v0 (h : ∀ T, (tt T).ok Tryz.prog T) (h18v0 : jja Tryz.prog 18 jqj) : CtxGood Tryz.prog c134v0 := ⟨⟨h⟩, fun g S hg => (by
 simp only [c134v0] at hg
 split at hg
 ·cases hg; exact h18v0
 ·cases hg), jjv, fun _ _ h => (by cases h), fun _ h => (by cases h)⟩
noncomputable def b134v0 : Code := jjl Tryz.f134
@[reducible] noncomputable def i134v0 : Shape := ⟨[(0, .lf (.ptr 500000 0))], [(500000, .box [.d (.sl .u8), .d (.int .i64)], .same)], 6⟩
@[reducible] noncomputable def o134v0 : Shape := ⟨[(0, .lf (.ptr 500000 0)), (2, .lf (.d (.str)))], [(500000, .box [.d (.sl .u8), .d (.int .i64)], .same)], 6⟩
noncomputable def f134v0 (a : i134v0.Y) : Option o134v0.Y :=
(jzU (((), (([([97] : Str), ([98] : Str), ([97, 47, 98] : Str), ([97, 47, 99] : Str), ([97, 47, 98, 47, 99] : Str), ([108, 105, 98] : Str), ([108, 105, 98, 47, 120] : Str), ([108, 105, 98, 47, 120, 46, 99] : Str), ([100, 111, 99, 47, 121] : Str), ([98, 105, 110] : Str), ([98, 105, 110, 47, 122] : Str), ([97, 47, 98, 47, 99, 47, 100, 47, 101] : Str)] : List Str), ())), ((a.2.1.1, (a.2.1.2.1, ())), ()))).bind fun r312 =>
 some (((), (r312.1.2.1, ())), ((r312.2.1.1, (r312.2.1.2.1, ())), ()))
theorem e134v0 : ∀ a, f134v0 a = jjt (jjd c134v0 []) b134v0 i134v0 o134v0 a := fun a => by kernel_rfl
noncomputable def S134v0 : jjM := jjg tt 6 i134v0 o134v0 [.tmp 2] [0] f134v0
theorem z134v0 (h : ∀ T, (tt T).ok Tryz.prog T) (h18v0 : jja Tryz.prog 18 jqj) : jja Tryz.prog 134 S134v0 :=
 have H := k134v0 h h18v0
 jjm (fn := Tryz.f134) (fr := []) H (by kernel_rfl) (by kernel_rfl) (by kernel_rfl) (by kernel_rfl) (by kernel_rfl) jje (by kernel_rfl) (fun y => ⟨_, _, rfl, rfl, rfl⟩) e134v0
noncomputable def c114 : Ctx := { tt := tt, fs := fun n => match n with | _ => none }
theorem k114 (h : ∀ T, (tt T).ok Tryz.prog T) : CtxGood Tryz.prog c114 := ⟨⟨h⟩, fun g S hg => (by cases hg), jjv, fun _ _ h => (by cases h), fun _ h => (by cases h)⟩
noncomputable def b114 : Code := jjl Tryz.f114
@[reducible] noncomputable def s114_452 : Shape := ⟨[(0, .lf (.d (.str))), (1, .lf (.d (.int .i64))), (5, .lf (.d (.str)))], [], 20⟩
@[reducible] noncomputable def t114_452 : List OSh := [(.norm, ⟨[(0, .lf (.d (.str))), (1, .lf (.d (.int .i64))), (5, .lf (.d (.str)))], [], 20⟩)]
noncomputable def jzg (y : s114_452.Y) : Option (YS t114_452) :=
(remI y.1.2.1 (2 : Int)).bind fun x330 =>
 bif (x330 == (1 : Int)) then
(cat y.1.2.2.1 y.1.1).bind fun x331 =>
 some (((y.1.1, (y.1.2.1, (x331, ()))), ()))
else
 some (((y.1.1, (y.1.2.1, (y.1.2.2.1, ()))), ()))
theorem r114_452 : ∀ y, jzg y = jjL (jjd c114 []) (jjc (jjk (jjc b114 1 28)) 56 452) 452 s114_452 t114_452 y := fun y => by kernel_rfl
theorem q114_452 (H : CtxGood Tryz.prog c114) : jjj Tryz.prog (jjc (jjk (jjc b114 1 28)) 56 452) (jjb s114_452 t114_452 jzg) :=
 jjs (fr := []) H (by kernel_rfl) jje r114_452
@[reducible] noncomputable def s114_28 : Shape := ⟨[(0, .lf (.d (.str))), (1, .lf (.d (.int .i64))), (5, .lf (.d (.str)))], [], 20⟩
@[reducible] noncomputable def t114_28 : List OSh := [(.exit 0, ⟨[(5, .lf (.d (.str)))], [], 20⟩)]
noncomputable def g114_28 (y : s114_28.Y) : Option (Sum s114_28.Y (YS t114_28)) :=
 bif (decide (y.1.2.1 > (0 : Int))) then
(jzg ((y.1.1, (y.1.2.1, (y.1.2.2.1, ()))), ())).bind fun r336 =>
(cat r336.1.1 r336.1.1).bind fun x338 =>
(quoI .i64 r336.1.2.1 (2 : Int)).bind fun x339 =>
 some (.inl ((x338, (x339, (r336.1.2.2.1, ()))), ()))
else
 some (.inr (((y.1.2.2.1, ()), ())))
theorem r114_28 : ∀ y, g114_28 y = jjz (jjd c114 [(452, jjb s114_452 t114_452 jzg)]) (jjk (jjc b114 1 28)) 28 s114_28 t114_28 y := fun y => by kernel_rfl
noncomputable def l114_28 : s114_28.Y → Option (YS t114_28) := jjF g114_28
theorem q114_28 (H : CtxGood Tryz.prog c114) : jjj Tryz.prog (jjc b114 1 28) (jjb s114_28 t114_28 l114_28) :=
 jjr (fr := [(452, jjb s114_452 t114_452 jzg)]) H (by kernel_rfl) (by kernel_rfl) ⟨q114_452 H, trivial⟩ (fun y => jjh r114_28 y)
@[reducible] noncomputable def i114 : Shape := ⟨[(0, .lf (.d (.str))), (1, .lf (.d (.int .i64)))], [], 20⟩
@[reducible] noncomputable def o114 : Shape := ⟨[(4, .lf (.d (.str)))], [], 20⟩
noncomputable def f114 (a : i114.Y) : Option o114.Y :=
(l114_28 ((a.1.1, (a.1.2.1, (([] : Str), ()))), ())).bind fun r341 =>
 some ((r341.1.1, ()), ())
theorem e114 : ∀ a, f114 a = jjt (jjd c114 [(28, jjb s114_28 t114_28 l114_28)]) b114 i114 o114 a := fun a => by kernel_rfl
noncomputable def S114 : jjM := jjg tt 20 i114 o114 [.tmp 4] [] f114
theorem z114 (h : ∀ T, (tt T).ok Tryz.prog T) : jja Tryz.prog 114 S114 :=
 have H := k114 h
 jjm (fn := Tryz.f114) (fr := [(28, jjb s114_28 t114_28 l114_28)]) H (by kernel_rfl) (by kernel_rfl) (by kernel_rfl) (by kernel_rfl) (by kernel_rfl) ⟨q114_28 H, trivial⟩ (by kernel_rfl) (fun y => ⟨_, _, rfl, rfl, rfl⟩) e114
noncomputable def c135v0 : Ctx := { tt := tt, fs := fun n => match n with | 18 => some jqj | 114 => some S114 | _ => none }
theorem k135v0 (h : ∀ T, (tt T).ok Tryz.prog T) (h18v0 : jja Tryz.prog 18 jqj) (h114 : jja Tryz.prog 114 S114) : CtxGood Tryz.prog c135v0 := ⟨⟨h⟩, fun g S hg => (by
 simp only [c135v0] at hg
 split at hg
 ·cases hg; exact h18v0
 ·cases hg; exact h114
 ·cases hg), jjv, fun _ _ h => (by cases h), fun _ h => (by cases h)⟩
noncomputable def b135v0 : Code := jjl Tryz.f135
@[reducible] noncomputable def i135v0 : Shape := ⟨[(0, .lf (.ptr 500000 0))], [(500000, .box [.d (.sl .u8), .d (.int .i64)], .same)], 7⟩
@[reducible] noncomputable def o135v0 : Shape := ⟨[(0, .lf (.ptr 500000 0)), (2, .lf (.d (.str)))], [(500000, .box [.d (.sl .u8), .d (.int .i64)], .same)], 7⟩
noncomputable def f135v0 (a : i135v0.Y) : Option o135v0.Y :=
(f114 ((([116] : Str), ((80 : Int), ())), ())).bind fun r344 =>
(jzU (((), (([([] : Str), ([111, 110, 101, 10] : Str), ([111, 110, 101, 10, 116, 119, 111, 10, 116, 104, 114, 101, 101, 10] : Str), ([110, 111, 32, 101, 110, 100] : Str), ([97, 10, 98, 10, 99, 10, 100, 10, 101, 10, 102, 10, 103, 10] : Str), r344.1.1] : List Str), ())), ((a.2.1.1, (a.2.1.2.1, ())), ()))).bind fun r345 =>
 some (((), (r345.1.2.1, ())), ((r345.2.1.1, (r345.2.1.2.1, ())), ()))
theorem e135v0 : ∀ a, f135v0 a = jjt (jjd c135v0 []) b135v0 i135v0 o135v0 a := fun a => by kernel_rfl
noncomputable def S135v0 : jjM := jjg tt 7 i135v0 o135v0 [.tmp 2] [0] f135v0
theorem z135v0 (h : ∀ T, (tt T).ok Tryz.prog T) (h18v0 : jja Tryz.prog 18 jqj) (h114 : jja Tryz.prog 114 S114) : jja Tryz.prog 135 S135v0 :=
 have H := k135v0 h h18v0 h114
 jjm (fn := Tryz.f135) (fr := []) H (by kernel_rfl) (by kernel_rfl) (by kernel_rfl) (by kernel_rfl) (by kernel_rfl) jje (by kernel_rfl) (fun y => ⟨_, _, rfl, rfl, rfl⟩) e135v0
noncomputable def c110v0 : Ctx := { tt := tt, fs := fun n => match n with | 17 => some jj6 | 113 => some S113v0 | 134 => some S134v0 | 135 => some S135v0 | _ => none }
theorem k110v0 (h : ∀ T, (tt T).ok Tryz.prog T) (h17v0 : jja Tryz.prog 17 jj6) (h113v0 : jja Tryz.prog 113 S113v0) (h134v0 : jja Tryz.prog 134 S134v0) (h135v0 : jja Tryz.prog 135 S135v0) : CtxGood Tryz.prog c110v0 := ⟨⟨h⟩, fun g S hg => (by
 simp only [c110v0] at hg
 split at hg
 ·cases hg; exact h17v0
 ·cases hg; exact h113v0
 ·cases hg; exact h134v0
 ·cases hg; exact h135v0
 ·cases hg), jjv, fun _ _ h => (by cases h), fun _ h => (by cases h)⟩
noncomputable def b110v0 : Code := jjl Tryz.f110
@[reducible] noncomputable def i110v0 : Shape := ⟨[(0, .lf (.ptr 500000 0))], [(500000, .box [.d (.sl .u8), .d (.int .i64)], .same)], 26⟩
@[reducible] noncomputable def o110v0 : Shape := ⟨[(0, .lf (.ptr 500000 0)), (2, .lf (.ptr 2 0))], [(500000, .box [.d (.sl .u8), .d (.int .i64)], .same), (2, .box [.d (.str), .d (.int .i64), .d (.int .i64), .d (.str)], .same)], 26⟩
noncomputable def f110v0 (a : i110v0.Y) : Option o110v0.Y :=
(f134v0 (((), ()), ((a.2.1.1, (a.2.1.2.1, ())), ()))).bind fun r351 =>
(f113v0 (((), (([(1 : Int), (1 : Int), (2 : Int), (2 : Int), (3 : Int)] : List Int), ())), ((r351.2.1.1, (r351.2.1.2.1, ())), ()))).bind fun r352 =>
(jqY (((), ((8 : Int), ())), ((r352.2.1.1, (r352.2.1.2.1, ())), ()))).bind fun r353 =>
 bif (r352.1.2.1 == (2 : Int)) then
(f135v0 (((), ()), ((r353.2.1.1, (r353.2.1.2.1, ())), ()))).bind fun r354 =>
 some (((), ((), ())), ((r354.2.1.1, (r354.2.1.2.1, ())), ((r351.1.2.1, (r352.1.2.1, (r353.1.2.1, (r354.1.2.1, ())))), ())))
else
 bif (r352.1.2.1 == (3 : Int)) then
(f134v0 (((), ()), ((r353.2.1.1, (r353.2.1.2.1, ())), ()))).bind fun r355 =>
 some (((), ((), ())), ((r355.2.1.1, (r355.2.1.2.1, ())), ((r351.1.2.1, (r352.1.2.1, ((0 : Int), (r355.1.2.1, ())))), ())))
else
 some (((), ((), ())), ((r353.2.1.1, (r353.2.1.2.1, ())), ((r351.1.2.1, (r352.1.2.1, (r353.1.2.1, (([] : Str), ())))), ())))
theorem e110v0 : ∀ a, f110v0 a = jjt (jjd c110v0 []) b110v0 i110v0 o110v0 a := fun a => by kernel_rfl
noncomputable def S110v0 : jjM := jjg tt 26 i110v0 o110v0 [.cell 2 100] [0] f110v0
theorem z110v0 (h : ∀ T, (tt T).ok Tryz.prog T) (h17v0 : jja Tryz.prog 17 jj6) (h113v0 : jja Tryz.prog 113 S113v0) (h134v0 : jja Tryz.prog 134 S134v0) (h135v0 : jja Tryz.prog 135 S135v0) : jja Tryz.prog 110 S110v0 :=
 have H := k110v0 h h17v0 h113v0 h134v0 h135v0
 jjm (fn := Tryz.f110) (fr := []) H (by kernel_rfl) (by kernel_rfl) (by kernel_rfl) (by kernel_rfl) (by kernel_rfl) jje (by kernel_rfl) (fun y => ⟨_, _, rfl, rfl, rfl⟩) e110v0
noncomputable def c32v0 : Ctx := { tt := tt, fs := fun n => match n with | 18 => some jqj | _ => none }
theorem k32v0 (h : ∀ T, (tt T).ok Tryz.prog T) (h18v0 : jja Tryz.prog 18 jqj) : CtxGood Tryz.prog c32v0 := ⟨⟨h⟩, fun g S hg => (by
 simp only [c32v0] at hg
 split at hg
 ·cases hg; exact h18v0
 ·cases hg), jjv, fun _ _ h => (by cases h), fun _ h => (by cases h)⟩
noncomputable def b32v0 : Code := jjl Tryz.f32
@[reducible] noncomputable def i32v0 : Shape := ⟨[(0, .lf (.ptr 500000 0))], [(500000, .box [.d (.sl .u8), .d (.int .i64)], .same)], 6⟩
@[reducible] noncomputable def o32v0 : Shape := ⟨[(0, .lf (.ptr 500000 0)), (2, .lf (.d (.str)))], [(500000, .box [.d (.sl .u8), .d (.int .i64)], .same)], 6⟩
noncomputable def f32v0 (a : i32v0.Y) : Option o32v0.Y :=
(jzU (((), (([([49] : Str), ([49, 46, 48] : Str), ([49, 46, 49] : Str), ([49, 46, 50] : Str), ([50] : Str), ([48, 46, 57, 46, 57] : Str), ([49, 46, 49, 48] : Str), ([57, 57, 57, 46, 57, 57, 57, 46, 57, 57, 57, 46, 57, 57, 57] : Str)] : List Str), ())), ((a.2.1.1, (a.2.1.2.1, ())), ()))).bind fun r60 =>
 some (((), (r60.1.2.1, ())), ((r60.2.1.1, (r60.2.1.2.1, ())), ()))
theorem e32v0 : ∀ a, f32v0 a = jjt (jjd c32v0 []) b32v0 i32v0 o32v0 a := fun a => by kernel_rfl
noncomputable def S32v0 : jjM := jjg tt 6 i32v0 o32v0 [.tmp 2] [0] f32v0
theorem z32v0 (h : ∀ T, (tt T).ok Tryz.prog T) (h18v0 : jja Tryz.prog 18 jqj) : jja Tryz.prog 32 S32v0 :=
 have H := k32v0 h h18v0
 jjm (fn := Tryz.f32) (fr := []) H (by kernel_rfl) (by kernel_rfl) (by kernel_rfl) (by kernel_rfl) (by kernel_rfl) jje (by kernel_rfl) (fun y => ⟨_, _, rfl, rfl, rfl⟩) e32v0
theorem jqs (a) (m : Nat) (h : RD a.2.1.1 a.2.1.2.1 m) (hm : 1 ≤ m) : Ev (jqY a) (fun r => RD r.2.1.1 r.2.1.2.1 (m - 1) ∧ (0 : Int) ≤ r.1.2.1 ∧ ((1 : Int) ≤ a.1.2.1 → (r.1.2.1 : Int) < a.1.2.1)) := by
 obtain ⟨⟨u1, (n : Int), u2⟩, ⟨⟨(b : List Int), (p : Int), u3⟩, u4⟩⟩ := a
 have h : RD b p m := h
 obtain ⟨h1, h2, h3, h4⟩ := h
 have e1 : IntKind.i64.wrap (p + 1) = p + 1 := jjE (by omega) (by omega)
 have e2 : IntKind.i64.wrap (p + 1 - 1) = p := by rw [show p + 1 - 1 = p by omega]; exact jjE (by omega) (by omega)
 have R : RD b (p + 1) (m - 1) := ⟨h1, h2, by omega, by omega⟩
 unfold jqY
 simp only [e1]
 have hg : jze (((), (n, ())), ((b, (p + 1, ())), ())) = some ((((), (n, ((decide (n < 1) || (b.length : Int) == 0), ()))), ((b, (p + 1, ())), ()))) := by
  unfold jze
  cases decide (n < 1) <;> rfl
 refine Ev.eq hg ?_
 refine Ev.ite (fun hc => Ev.ret ⟨R, Int.le_refl _, fun hn => hn⟩) fun hc => ?_
 have hc : (decide (n < 1) || (b.length : Int) == 0) = false := hc
 simp only [Bool.or_eq_false_iff, decide_eq_false_iff_not, beq_eq_false_iff_ne, ne_eq] at hc
 have hn : 1 ≤ n := by omega
 have hb : 0 < b.length := by omega
 simp only [e2]
 refine Ev.ite (fun hd => ?_) fun hd => ?_
 ·have hd : p < (b.length : Int) := of_decide_eq_true hd
  obtain ⟨x, k1, k2⟩ := ix_in (xs := b) h3 hd
  obtain ⟨k3, k4⟩ := h2 x k2
  refine Ev.eq k1 ?_
  have e3 : IntKind.i64.wrap x = x := jjE (by omega) (by omega)
  refine Ev.eq (x := x % n) (by show remI (IntKind.i64.wrap x) n = _; rw [e3]; exact rem_nn k3 (by omega)) ?_
  exact Ev.ret ⟨R, Int.emod_nonneg _ (by omega), fun _ => Int.emod_lt_of_pos _ (by omega)⟩
 ·have hl : 0 < (b.length : Int) := by omega
  have m7 : IntKind.i64.wrap (IntKind.i64.wrap (p * 7) + 3) = p * 7 + 3 := by rw [jjE (n := p * 7) (by omega) (by omega)]; exact jjE (by omega) (by omega)
  obtain ⟨x, k1, k2⟩ := ix_in (xs := b) (Int.emod_nonneg p (b := (b.length : Int)) (by omega)) (Int.emod_lt_of_pos p hl)
  obtain ⟨k3, k4⟩ := h2 x k2
  obtain ⟨y, l1, l2⟩ := ix_in (xs := b) (Int.emod_nonneg (p * 7 + 3) (b := (b.length : Int)) (by omega)) (Int.emod_lt_of_pos (p * 7 + 3) hl)
  obtain ⟨l3, l4⟩ := h2 y l2
  have q0 : 0 ≤ p / (b.length : Int) := Int.ediv_nonneg h3 (by omega)
  have q1 : p / (b.length : Int) ≤ p := Int.ediv_le_self _ h3
  refine Ev.eq (x := p % (b.length : Int)) (rem_nn h3 hl) ?_
  refine Ev.eq k1 ?_
  refine Ev.eq (x := (p * 7 + 3) % (b.length : Int)) (by show remI (IntKind.i64.wrap (IntKind.i64.wrap (p * 7) + 3)) (b.length : Int) = _; rw [m7]; exact rem_nn (by omega) hl) ?_
  refine Ev.eq l1 ?_
  refine Ev.eq (x := p / (b.length : Int)) (quo_nn rfl h3 (by omega) hl) ?_
  have w1 : IntKind.i64.wrap x = x := jjE (by omega) (by omega)
  have w2 : IntKind.i64.wrap y = y := jjE (by omega) (by omega)
  have w3 : IntKind.i64.wrap (x * 131) = x * 131 := jjE (by omega) (by omega)
  have w4 : IntKind.i64.wrap (y * 1117) = y * 1117 := jjE (by omega) (by omega)
  have w5 : IntKind.i64.wrap (x * 131 + y * 1117) = x * 131 + y * 1117 := jjE (by omega) (by omega)
  have w6 : IntKind.i64.wrap (p * 29) = p * 29 := jjE (by omega) (by omega)
  have w7 : IntKind.i64.wrap (x * 131 + y * 1117 + p * 29) = x * 131 + y * 1117 + p * 29 := jjE (by omega) (by omega)
  have w8 : IntKind.i64.wrap (p / (b.length : Int) * 53) = p / (b.length : Int) * 53 := jjE (by omega) (by omega)
  have w9 : IntKind.i64.wrap (x * 131 + y * 1117 + p * 29 + p / (b.length : Int) * 53) = x * 131 + y * 1117 + p * 29 + p / (b.length : Int) * 53 := jjE (by omega) (by omega)
  simp only [w1, w2, w3, w4, w5, w6, w7, w8, w9]
  have n0 : 0 ≤ x * 131 + y * 1117 + p * 29 + p / (b.length : Int) * 53 := by omega
  have n1 : x * 131 + y * 1117 + p * 29 + p / (b.length : Int) * 53 < 4611686018427387904 := by omega
  generalize x * 131 + y * 1117 + p * 29 + p / (b.length : Int) * 53 = X at n0 n1
  refine Ev.eq (x := X / 64) (quo_nn rfl n0 (by omega) (by decide)) ?_
  have hx := xor_nn n0 n1 (Int.ediv_nonneg n0 (by decide : (0 : Int) ≤ 64)) (Int.lt_of_le_of_lt (Int.ediv_le_self 64 n0) n1)
  refine Ev.eq (x := xorI .i64 X (X / 64) % n) (rem_nn hx (by omega)) ?_
  exact Ev.ret ⟨R, Int.emod_nonneg _ (by omega), fun _ => Int.emod_lt_of_pos _ (by omega)⟩
theorem v_of (a) (m : Nat) (h : RD a.2.1.1 a.2.1.2.1 m) (hm : 1 ≤ m) (hl : (1 : Int) ≤ (a.1.2.1 : List Str).length) : Ev (jzU a) (fun r => RD r.2.1.1 r.2.1.2.1 (m - 1) ∧ r.1.2.1 ∈ (a.1.2.1 : List Str)) := by
 unfold jzU
 refine Ev.bind (jqs _ m h hm) fun r hr => ?_
 obtain ⟨x, k1, k2⟩ := ix_in (xs := (a.1.2.1 : List Str)) hr.2.1 (hr.2.2 hl)
 exact Ev.eq k1 (Ev.ret ⟨hr.1, k2⟩)
theorem v_one (a) (m : Nat) (h : RD a.2.1.1 a.2.1.2.1 m) (hm : 1 ≤ m) (hl : (1 : Int) ≤ (a.1.2.1 : List Int).length) : Ev (f113v0 a) (fun r => RD r.2.1.1 r.2.1.2.1 (m - 1) ∧ r.1.2.1 ∈ (a.1.2.1 : List Int)) := by
 unfold f113v0
 refine Ev.bind (jqs _ m h hm) fun r hr => ?_
 obtain ⟨x, k1, k2⟩ := ix_in (xs := (a.1.2.1 : List Int)) hr.2.1 (hr.2.2 hl)
 exact Ev.eq k1 (Ev.ret ⟨hr.1, k2⟩)
abbrev Sh (s : Str) : Prop := s.length ≤ 200
theorem sh_all {L : List Str} (h : L.all (fun s => decide (s.length ≤ 200)) = true) {s : Str} (hs : s ∈ L) : Sh s := of_decide_eq_true (List.all_eq_true.1 h s hs)
theorem jxs (a) (m : Nat) (h : RD a.2.1.1 a.2.1.2.1 m) (hm : 1 ≤ m) : Ev (f32v0 a) (fun r => RD r.2.1.1 r.2.1.2.1 (m - 1) ∧ Sh r.1.2.1) := by
 unfold f32v0
 refine Ev.bind (v_of _ m h hm (by simp)) fun r hr => Ev.ret ⟨hr.1, sh_all (by rfl) hr.2⟩
theorem v_l11Path (a) (m : Nat) (h : RD a.2.1.1 a.2.1.2.1 m) (hm : 1 ≤ m) : Ev (f134v0 a) (fun r => RD r.2.1.1 r.2.1.2.1 (m - 1) ∧ Sh r.1.2.1) := by
 unfold f134v0
 refine Ev.bind (v_of _ m h hm (by simp)) fun r hr => Ev.ret ⟨hr.1, sh_all (by rfl) hr.2⟩
theorem v_l1Many (a) (hs : (a.1.1 : Str).length ≤ 1) (h0 : (0 : Int) ≤ a.1.2.1) (h1 : (a.1.2.1 : Int) ≤ 127) : Ev (f114 a) (fun r => Sh r.1.1) := by
 obtain ⟨⟨(s : Str), (n : Int), u⟩, u'⟩ := a
 unfold f114
 have key : Ev (l114_28 ((s, (n, (([] : Str), ()))), ())) (fun r => Sh r.1.1) := by
  refine Ev.loop (fun (k : Nat) y => (0 : Int) ≤ y.1.2.1 ∧ (y.1.2.1 : Int).toNat = k ∧ (y.1.2.1 : Int).toNat * (y.1.1 : Str).length + (y.1.2.2.1 : Str).length ≤ 127 ∧ (y.1.1 : Str).length ≤ 256 ∧ (y.1.2.1 : Int) ≤ 127) (fun k y hy => ?_) n.toNat _ ⟨h0, rfl, ?_, by show s.length ≤ 256; have : s.length ≤ 1 := hs; omega, h1⟩
  ·obtain ⟨⟨(s : Str), (n : Int), (out : Str), u⟩, u'⟩ := y
   obtain ⟨y1, y2, y3, y4, y5⟩ := hy
   have y5 : n ≤ 127 := y5
   have y1 : 0 ≤ n := y1
   have y3 : n.toNat * s.length + out.length ≤ 127 := y3
   have y4 : s.length ≤ 256 := y4
   unfold g114_28
   refine Ev.ite (fun hc => ?_) fun hc => ?_
   ·have hc : n > 0 := of_decide_eq_true hc
    have hN : 1 ≤ n.toNat := by omega
    have hsl : s.length ≤ 127 := by have := Nat.mul_le_mul_right s.length hN; omega
    have piece : Ev (jzg ((s, (n, (out, ()))), ())) (fun r => r.1.1 = s ∧ r.1.2.1 = n ∧ (n % 2 = 1 ∧ (r.1.2.2.1 : Str).length = out.length + s.length ∨ n % 2 = 0 ∧ (r.1.2.2.1 : Str).length = out.length)) := by
     unfold jzg
     refine Ev.eq (x := n % 2) (rem_nn y1 (by decide)) ?_
     refine Ev.ite (fun hd => ?_) fun hd => ?_
     ·have hd : n % 2 = 1 := by simpa using hd
      exact Ev.eq (ev_cat (s := out) (t := s) (by omega)) (Ev.ret ⟨rfl, rfl, .inl ⟨hd, by simp⟩⟩)
     ·have hd : ¬ n % 2 = 1 := by simpa using hd
      exact Ev.ret ⟨rfl, rfl, .inr ⟨by omega, rfl⟩⟩
    refine Ev.bind piece fun r hr => ?_
    obtain ⟨⟨(s' : Str), (n' : Int), (out' : Str), v⟩, v'⟩ := r
    obtain ⟨r1, r2, r3⟩ := hr
    have r1 : s' = s := r1
    have r2 : n' = n := r2
    subst r1 r2
    refine Ev.eq (ev_cat (s := s') (t := s') (by omega)) ?_
    refine Ev.eq (x := n' / 2) (quo_nn (x := n') rfl y1 (by omega) (by decide)) ?_
    refine Ev.ret ⟨(n' / 2).toNat, ?_, ?_⟩
    ·show (n' / 2).toNat < k
     have : n'.toNat = k := y2
     omega
    ·refine ⟨by show 0 ≤ n' / 2; omega, rfl, ?_, by show (s' ++ s').length ≤ 256; simp; omega, by show n' / 2 ≤ 127; omega⟩
     show (n' / 2).toNat * (s' ++ s').length + out'.length ≤ 127
     have r3 : n' % 2 = 1 ∧ out'.length = out.length + s'.length ∨ n' % 2 = 0 ∧ out'.length = out.length := r3
     obtain ⟨q, hq⟩ : ∃ q : Nat, (n' / 2).toNat = q := ⟨_, rfl⟩
     rw [hq, List.length_append]
     rcases r3 with ⟨r3, r4⟩ | ⟨r3, r4⟩
     ·have e : n'.toNat = 2 * q + 1 := by omega
      rw [e] at y3
      rw [r4]
      have : (2 * q + 1) * s'.length = q * (s'.length + s'.length) + s'.length := by rw [Nat.add_mul, Nat.one_mul, Nat.mul_assoc, Nat.mul_add]; omega
      omega
     ·have e : n'.toNat = 2 * q := by omega
      rw [e] at y3
      rw [r4]
      have : 2 * q * s'.length = q * (s'.length + s'.length) := by rw [Nat.mul_add, Nat.mul_assoc]; omega
      omega
   ·exact Ev.ret (show out.length ≤ 200 by omega)
  ·show n.toNat * s.length + 0 ≤ 127
   have hs : s.length ≤ 1 := hs
   have h1 : n ≤ 127 := h1
   have : n.toNat * s.length ≤ n.toNat * 1 := Nat.mul_le_mul_left _ hs
   omega
 exact Ev.bind key fun r hr => Ev.ret hr
theorem v_l11Text (a) (m : Nat) (h : RD a.2.1.1 a.2.1.2.1 m) (hm : 1 ≤ m) : Ev (f135v0 a) (fun r => RD r.2.1.1 r.2.1.2.1 (m - 1) ∧ Sh r.1.2.1) := by
 unfold f135v0
 refine Ev.bind (v_l1Many _ (by simp) (by show (0 : Int) ≤ 80; decide) (by show (80 : Int) ≤ 127; decide)) fun q hq => ?_
 refine Ev.bind (v_of _ m h hm (by simp)) fun r hr => Ev.ret ⟨hr.1, ?_⟩
 have := hr.2
 simp only [List.mem_cons, List.not_mem_nil, or_false] at this
 rcases this with e | e | e | e | e | e
 ·show (r.1.2.1 : Str).length ≤ 200; rw [e]; decide
 ·show (r.1.2.1 : Str).length ≤ 200; rw [e]; decide
 ·show (r.1.2.1 : Str).length ≤ 200; rw [e]; decide
 ·show (r.1.2.1 : Str).length ≤ 200; rw [e]; decide
 ·show (r.1.2.1 : Str).length ≤ 200; rw [e]; decide
 ·show (r.1.2.1 : Str).length ≤ 200; rw [e]; exact hq
abbrev ShE (e : Entry) : Prop := Sh e.path ∧ Sh e.text
theorem v_l11Entry (a) (m : Nat) (h : RD a.2.1.1 a.2.1.2.1 m) (hm : 4 ≤ m) : Ev (f110v0 a) (fun r => RD r.2.1.1 r.2.1.2.1 (m - 4) ∧ ShE ⟨r.2.2.1.1, r.2.2.1.2.1, r.2.2.1.2.2.1, r.2.2.1.2.2.2.1⟩) := by
 unfold f110v0
 refine Ev.bind (v_l11Path _ m h (by omega)) fun r1 h1 => ?_
 refine Ev.bind (v_one _ (m - 1) h1.1 (by omega) (by simp)) fun r2 h2 => ?_
 refine Ev.bind (jqs _ (m - 1 - 1) h2.1 (by omega)) fun r3 h3 => ?_
 refine Ev.ite (fun _ => ?_) fun _ => Ev.ite (fun _ => ?_) fun _ => ?_
 ·exact Ev.bind (v_l11Text _ _ h3.1 (by omega)) fun r4 h4 => Ev.ret ⟨h4.1.less (by omega), h1.2, h4.2⟩
 ·exact Ev.bind (v_l11Path _ _ h3.1 (by omega)) fun r4 h4 => Ev.ret ⟨h4.1.less (by omega), h1.2, h4.2⟩
 ·exact Ev.ret ⟨h3.1.less (by omega), h1.2, show (0 : Nat) ≤ 200 by decide⟩
theorem v_l2Copy (a) (h : Bd a.1.1.length) : f86 a = some (((), ()), (a.1.1, ())) := by
 obtain ⟨⟨t, u⟩, u'⟩ := a
 have h : t.length ≤ 2097152 := h
 simp only [f86, jqi (show (48 : Nat) ≤ 100 by decide) (show Sm (([] : List Entry).length + t.length) by unfold Sm; simp; omega), List.nil_append, Option.bind_some]
abbrev ShT (t : List Entry) : Prop := t.length ≤ 16 ∧ ∀ e, e ∈ t → ShE e
theorem shE_set {t : List Entry} {k : Nat} {e : Entry} (h : ∀ e, e ∈ t → ShE e) (he : ShE e) : ∀ x, x ∈ t.set k e → ShE x := by
 intro x hx
 rcases List.mem_or_eq_of_mem_set hx with hx | hx
 ·exact h x hx
 ·rw [hx]; exact he
theorem v_l2Put (a) (ht : ShT a.1.1) (he : ShE ⟨a.1.2.1.1, a.1.2.1.2.1, a.1.2.1.2.2.1, a.1.2.1.2.2.2.1⟩) : Ev (f109 a) (fun r => ShT r.2.1) := by
 obtain ⟨⟨t, ⟨path, kind, mode, text, u0⟩, u⟩, u'⟩ := a
 obtain ⟨h1, h2⟩ := ht
 have h1 : t.length ≤ 16 := h1
 have he : ShE ⟨path, kind, mode, text⟩ := he
 have hb : Bd t.length := by unfold Bd; omega
 unfold f109
 refine Ev.eq (v_l2At ((t, (path, ())), ()) hb) ?_
 refine Ev.eq (v_l2Copy ((t, ()), ()) hb) ?_
 have hp := posL_le t path
 have e1 := v_l2Entry (((path, (kind, (mode, (text, ())))), ()), ()) (Nat.le_trans he.1 (by decide)) (Nat.le_trans he.2 (by decide))
 have e2 := v_l1Up ((path, ()), ()) (Nat.le_trans he.1 (by decide))
 have e3 := v_l2Dir ((t, (upL path, ())), ()) hb
 obtain ⟨c, hc⟩ : ∃ c : Bool, jzi ((t, ((), ((), (false, ((jqw t path : Int), (jJt t path, ((), ()))))))), ((path, (kind, (mode, (text, ())))), (([] : List Entry), (t, ())))) =
   some ((t, ((), ((), (false, ((jqw t path : Int), (jJt t path, ((), (c, ())))))))), ((path, (kind, (mode, (text, ())))), (([] : List Entry), (t, ())))) := by
  unfold jzi
  simp only [e1, Option.bind_some, Bool.not_not]
  cases entOk ⟨path, kind, mode, text⟩ with
  | false => exact ⟨true, rfl⟩
  | true => simp only [cond_true, e2, Option.bind_some, e3]; exact ⟨_, rfl⟩
 refine Ev.eq hc ?_
 refine Ev.ite (fun _ => Ev.ret ⟨h1, h2⟩) fun _ => ?_
 obtain ⟨d, hd⟩ : ∃ d : Bool, jzh ((t, ((), ((), (false, ((jqw t path : Int), (jJt t path, ((), ()))))))), ((path, (kind, (mode, (text, ())))), (([] : List Entry), (t, ())))) =
   some ((t, ((), ((), (false, ((jqw t path : Int), (jJt t path, ((), (d, ())))))))), ((path, (kind, (mode, (text, ())))), (([] : List Entry), (t, ())))) := by
  unfold jzh
  cases hh : jJt t path with
  | false => exact ⟨false, rfl⟩
  | true =>
   unfold jJt at hh
   cases hq : t[jqw t path]? with
   | none => rw [hq] at hh; cases hh
   | some e => simp only [cond_true, jjx, hq, Option.bind_some]; exact ⟨_, rfl⟩
 refine Ev.eq hd ?_
 refine Ev.ite (fun _ => Ev.ret ⟨h1, h2⟩) fun _ => ?_
 refine Ev.ite (fun hh => ?_) fun _ => Ev.ite (fun _ => Ev.ret ⟨h1, h2⟩) fun hl => ?_
 ·have hh : jJt t path = true := hh
  unfold jJt at hh
  cases hq : t[jqw t path]? with
  | none => rw [hq] at hh; cases hh
  | some e =>
   refine Ev.eq (jqP (jjH hq)) ?_
   refine Ev.eq (x := Entry.mk path kind mode text) (by show (t[jqw t path]?).bind _ = _; rw [hq]; rfl) ?_
   exact Ev.ret ⟨by show (t.set _ _).length ≤ 16; rw [List.length_set]; exact h1, shE_set h2 he⟩
 ·have hl : ¬ ((t.length : Int) ≥ 16) := of_decide_eq_false hl
  refine Ev.eq (jJo hp) ?_
  refine Ev.eq (jqi (by decide) (by unfold Sm; simp; omega)) ?_
  refine Ev.eq (jqi (by decide) (by unfold Sm; simp; omega)) ?_
  refine Ev.eq (subl_from hp) ?_
  refine Ev.eq (jqi (by decide) (by unfold Sm; simp; omega)) ?_
  refine Ev.ret ⟨?_, fun x hx => ?_⟩
  ·show (([] ++ t.take (jqw t path) ++ [Entry.mk path kind mode text]) ++ t.drop (jqw t path)).length ≤ 16
   simp; omega
  ·have hx : x ∈ ([] ++ t.take (jqw t path) ++ [Entry.mk path kind mode text]) ++ t.drop (jqw t path) := hx
   simp only [List.nil_append, List.mem_append, List.mem_singleton] at hx
   rcases hx with (hx | hx) | hx
   ·exact h2 x (List.mem_of_mem_take hx)
   ·rw [hx]; exact he
   ·exact h2 x (List.mem_of_mem_drop hx)
noncomputable def c153 : Ctx := { tt := tt, fs := fun n => match n with | 151 => some S151 | _ => none }
theorem k153 (h : ∀ T, (tt T).ok Tryz.prog T) (h151 : jja Tryz.prog 151 S151) : CtxGood Tryz.prog c153 := ⟨⟨h⟩, fun g S hg => (by
 simp only [c153] at hg
 split at hg
 ·cases hg; exact h151
 ·cases hg), jjv, fun _ _ h => (by cases h), fun _ h => (by cases h)⟩
noncomputable def b153 : Code := jjl Tryz.f153
@[reducible] noncomputable def s153_28 : Shape := ⟨[(0, .lf (.d (.str))), (3, .lf (.d (.int .i64)))], [], 43⟩
@[reducible] noncomputable def t153_28 : List OSh := [(.norm, ⟨[(0, .lf (.d (.str))), (3, .lf (.d (.int .i64))), (12, .lf (.d (.bool)))], [], 43⟩)]
noncomputable def g153_28 (y : s153_28.Y) : Option (YS t153_28) :=
 bif (decide ((y.1.1.length : Int) > (1 : Int))) then
(ix y.1.1 (1 : Int)).bind fun x470 =>
 some (((y.1.1, (y.1.2.1, (((x470.toNat : Int) == (33 : Int)), ()))), ()))
else
 some (((y.1.1, (y.1.2.1, (false, ()))), ()))
theorem r153_28 : ∀ y, g153_28 y = jjL (jjd c153 []) (jjc (jjc b153 1 14) 14 28) 28 s153_28 t153_28 y := fun y => by kernel_rfl
theorem q153_28 (H : CtxGood Tryz.prog c153) : jjj Tryz.prog (jjc (jjc b153 1 14) 14 28) (jjb s153_28 t153_28 g153_28) :=
 jjs (fr := []) H (by kernel_rfl) jje r153_28
@[reducible] noncomputable def s153_14 : Shape := ⟨[(0, .lf (.d (.str))), (3, .lf (.d (.int .i64)))], [], 43⟩
@[reducible] noncomputable def t153_14 : List OSh := [(.norm, ⟨[(0, .lf (.d (.str))), (3, .lf (.d (.int .i64)))], [], 43⟩)]
noncomputable def g153_14 (y : s153_14.Y) : Option (YS t153_14) :=
(g153_28 ((y.1.1, (y.1.2.1, ())), ())).bind fun r473 =>
 bif r473.1.2.2.1 then
 some (((r473.1.1, ((2 : Int), ())), ()))
else
 some (((r473.1.1, (r473.1.2.1, ())), ()))
theorem r153_14 : ∀ y, g153_14 y = jjL (jjd c153 [(28, jjb s153_28 t153_28 g153_28)]) (jjc b153 1 14) 14 s153_14 t153_14 y := fun y => by kernel_rfl
theorem q153_14 (H : CtxGood Tryz.prog c153) : jjj Tryz.prog (jjc b153 1 14) (jjb s153_14 t153_14 g153_14) :=
 jjs (fr := [(28, jjb s153_28 t153_28 g153_28)]) H (by kernel_rfl) ⟨q153_28 H, trivial⟩ r153_14
@[reducible] noncomputable def s153_124 : Shape := ⟨[(0, .lf (.d (.str))), (3, .lf (.d (.int .i64))), (4, .lf (.d (.int .i64)))], [], 43⟩
@[reducible] noncomputable def jzZ : List OSh := [(.exit 0, ⟨[(0, .lf (.d (.str))), (3, .lf (.d (.int .i64))), (4, .lf (.d (.int .i64)))], [], 43⟩)]
noncomputable def g153_124 (y : s153_124.Y) : Option (Sum s153_124.Y (YS jzZ)) :=
 bif (decide (y.1.2.1 < (y.1.1.length : Int))) then
(ix y.1.1 y.1.2.1).bind fun x482 =>
(f151 (((x482.toNat : Int), ()), ())).bind fun r483 =>
 bif r483.1.1 then
 some (.inl ((y.1.1, ((IntKind.i64.wrap (y.1.2.1 + (1 : Int))), (y.1.2.2.1, ()))), ()))
else
 some (.inr (((y.1.1, (y.1.2.1, (y.1.2.2.1, ()))), ())))
else
 some (.inr (((y.1.1, (y.1.2.1, (y.1.2.2.1, ()))), ())))
theorem r153_124 : ∀ y, g153_124 y = jjz (jjd c153 []) (jjk (jjc b153 1 124)) 124 s153_124 jzZ y := fun y => by kernel_rfl
noncomputable def l153_124 : s153_124.Y → Option (YS jzZ) := jjF g153_124
theorem q153_124 (H : CtxGood Tryz.prog c153) : jjj Tryz.prog (jjc b153 1 124) (jjb s153_124 jzZ l153_124) :=
 jjr (fr := []) H (by kernel_rfl) (by kernel_rfl) jje (fun y => jjh r153_124 y)
@[reducible] noncomputable def s153_252 : Shape := ⟨[(0, .lf (.d (.str))), (3, .lf (.d (.int .i64))), (4, .lf (.d (.int .i64)))], [], 43⟩
@[reducible] noncomputable def t153_252 : List OSh := [(.norm, ⟨[(3, .lf (.d (.int .i64))), (40, .lf (.d (.bool)))], [], 43⟩)]
noncomputable def g153_252 (y : s153_252.Y) : Option (YS t153_252) :=
 bif (!(y.1.2.1 == y.1.2.2.1)) then
 bif (!(y.1.2.1 == (y.1.1.length : Int))) then
(ix y.1.1 y.1.2.1).bind fun x489 =>
 some (((y.1.2.1, (((x489.toNat : Int) != (93 : Int)), ())), ()))
else
 some (((y.1.2.1, (true, ())), ()))
else
 some (((y.1.2.1, (true, ())), ()))
theorem r153_252 : ∀ y, g153_252 y = jjL (jjd c153 []) (jjc b153 1 252) 252 s153_252 t153_252 y := fun y => by kernel_rfl
theorem q153_252 (H : CtxGood Tryz.prog c153) : jjj Tryz.prog (jjc b153 1 252) (jjb s153_252 t153_252 g153_252) :=
 jjs (fr := []) H (by kernel_rfl) jje r153_252
@[reducible] noncomputable def i153 : Shape := ⟨[(0, .lf (.d (.str)))], [], 43⟩
@[reducible] noncomputable def o153 : Shape := ⟨[(2, .lf (.d (.int .i64)))], [], 43⟩
noncomputable def f153 (a : i153.Y) : Option o153.Y :=
(g153_14 ((a.1.1, ((1 : Int), ())), ())).bind fun r492 =>
(l153_124 ((r492.1.1, (r492.1.2.1, (r492.1.2.1, ()))), ())).bind fun r493 =>
(g153_252 ((r493.1.1, (r493.1.2.1, (r493.1.2.2.1, ()))), ())).bind fun r495 =>
 bif r495.1.2.1 then
 some (((0 : Int), ()), ())
else
 some (((IntKind.i64.wrap (r495.1.1 + (1 : Int))), ()), ())
theorem e153 : ∀ a, f153 a = jjt (jjd c153 [(14, jjb s153_14 t153_14 g153_14), (124, jjb s153_124 jzZ l153_124), (252, jjb s153_252 t153_252 g153_252)]) b153 i153 o153 a := fun a => by kernel_rfl
noncomputable def S153 : jjM := jjg tt 43 i153 o153 [.tmp 2] [] f153
theorem z153 (h : ∀ T, (tt T).ok Tryz.prog T) (h151 : jja Tryz.prog 151 S151) : jja Tryz.prog 153 S153 :=
 have H := k153 h h151
 jjm (fn := Tryz.f153) (fr := [(14, jjb s153_14 t153_14 g153_14), (124, jjb s153_124 jzZ l153_124), (252, jjb s153_252 t153_252 g153_252)]) H (by kernel_rfl) (by kernel_rfl) (by kernel_rfl) (by kernel_rfl) (by kernel_rfl) ⟨q153_14 H, q153_124 H, q153_252 H, trivial⟩ (by kernel_rfl) (fun y => ⟨_, _, rfl, rfl, rfl⟩) e153
noncomputable def c143 : Ctx := { tt := tt, fs := fun n => match n with | 151 => some S151 | 153 => some S153 | _ => none }
theorem k143 (h : ∀ T, (tt T).ok Tryz.prog T) (h151 : jja Tryz.prog 151 S151) (h153 : jja Tryz.prog 153 S153) : CtxGood Tryz.prog c143 := ⟨⟨h⟩, fun g S hg => (by
 simp only [c143] at hg
 split at hg
 ·cases hg; exact h151
 ·cases hg; exact h153
 ·cases hg), jjv, fun _ _ h => (by cases h), fun _ h => (by cases h)⟩
noncomputable def b143 : Code := jjl Tryz.f143
@[reducible] noncomputable def s143_6726 : Shape := ⟨[(0, .lf (.d (.str))), (3, .lf (.d (.int .i64)))], [], 45⟩
@[reducible] noncomputable def jzC : List OSh := [(.norm, ⟨[(0, .lf (.d (.str))), (3, .lf (.d (.int .i64))), (26, .lf (.d (.bool)))], [], 45⟩)]
noncomputable def jxj (y : s143_6726.Y) : Option (YS jzC) :=
(ix y.1.1 y.1.2.1).bind fun x509 =>
 bif (!((x509.toNat : Int) == (42 : Int))) then
(ix y.1.1 y.1.2.1).bind fun x510 =>
 some (((y.1.1, (y.1.2.1, (((x510.toNat : Int) == (63 : Int)), ()))), ()))
else
 some (((y.1.1, (y.1.2.1, (true, ()))), ()))
theorem r143_6726 : ∀ y, jxj y = jjL (jjd c143 []) (jjc (jjk (jjc b143 1 26)) 52 6726) 6726 s143_6726 jzC y := fun y => by kernel_rfl
theorem q143_6726 (H : CtxGood Tryz.prog c143) : jjj Tryz.prog (jjc (jjk (jjc b143 1 26)) 52 6726) (jjb s143_6726 jzC jxj) :=
 jjs (fr := []) H (by kernel_rfl) jje r143_6726
@[reducible] noncomputable def s143_26 : Shape := ⟨[(0, .lf (.d (.str))), (3, .lf (.d (.int .i64)))], [], 45⟩
@[reducible] noncomputable def t143_26 : List OSh := [(.ret, ⟨[(2, .lf (.d (.bool)))], [], 45⟩), (.exit 0, ⟨[(0, .lf (.d (.str)))], [], 45⟩)]
noncomputable def g143_26 (y : s143_26.Y) : Option (Sum s143_26.Y (YS t143_26)) :=
 bif (decide (y.1.2.1 < (y.1.1.length : Int))) then
(ix y.1.1 y.1.2.1).bind fun x517 =>
 bif ((x517.toNat : Int) == (91 : Int)) then
(jqE y.1.1 y.1.2.1 (y.1.1.length : Int)).bind fun x520 =>
(f153 ((x520, ()), ())).bind fun r521 =>
 bif (r521.1.1 == (0 : Int)) then
 some (.inr (.inl ((false, ()), ())))
else
 some (.inl ((y.1.1, ((IntKind.i64.wrap ((IntKind.i64.wrap ((IntKind.i64.wrap (y.1.2.1 + r521.1.1)) - (1 : Int))) + (1 : Int))), ())), ()))
else
(jxj ((y.1.1, (y.1.2.1, ())), ())).bind fun r522 =>
 bif r522.1.2.2.1 then
 some (.inl ((r522.1.1, ((IntKind.i64.wrap (r522.1.2.1 + (1 : Int))), ())), ()))
else
(ix r522.1.1 r522.1.2.1).bind fun x525 =>
(f151 (((x525.toNat : Int), ()), ())).bind fun r526 =>
 bif (!r526.1.1) then
 some (.inr (.inl ((false, ()), ())))
else
 some (.inl ((r522.1.1, ((IntKind.i64.wrap (r522.1.2.1 + (1 : Int))), ())), ()))
else
 some (.inr (.inr ((y.1.1, ()), ())))
theorem r143_26 : ∀ y, g143_26 y = jjz (jjd c143 [(6726, jjb s143_6726 jzC jxj)]) (jjk (jjc b143 1 26)) 26 s143_26 t143_26 y := fun y => by kernel_rfl
noncomputable def l143_26 : s143_26.Y → Option (YS t143_26) := jjF g143_26
theorem q143_26 (H : CtxGood Tryz.prog c143) : jjj Tryz.prog (jjc b143 1 26) (jjb s143_26 t143_26 l143_26) :=
 jjr (fr := [(6726, jjb s143_6726 jzC jxj)]) H (by kernel_rfl) (by kernel_rfl) ⟨q143_6726 H, trivial⟩ (fun y => jjh r143_26 y)
@[reducible] noncomputable def i143 : Shape := ⟨[(0, .lf (.d (.str)))], [], 45⟩
@[reducible] noncomputable def o143 : Shape := ⟨[(2, .lf (.d (.bool)))], [], 45⟩
noncomputable def f143 (a : i143.Y) : Option o143.Y :=
(l143_26 ((a.1.1, ((0 : Int), ())), ())).bind fun r536 =>
(match r536 with
| .inl r537 =>
 some ((r537.1.1, ()), ())
| .inr r538 =>
 some (((!(r538.1.1 == ([] : Str))), ()), ()))
theorem e143 : ∀ a, f143 a = jjt (jjd c143 [(26, jjb s143_26 t143_26 l143_26)]) b143 i143 o143 a := fun a => by kernel_rfl
noncomputable def S143 : jjM := jjg tt 45 i143 o143 [.tmp 2] [] f143
theorem z143 (h : ∀ T, (tt T).ok Tryz.prog T) (h151 : jja Tryz.prog 151 S151) (h153 : jja Tryz.prog 153 S153) : jja Tryz.prog 143 S143 :=
 have H := k143 h h151 h153
 jjm (fn := Tryz.f143) (fr := [(26, jjb s143_26 t143_26 l143_26)]) H (by kernel_rfl) (by kernel_rfl) (by kernel_rfl) (by kernel_rfl) (by kernel_rfl) ⟨q143_26 H, trivial⟩ (by kernel_rfl) (fun y => ⟨_, _, rfl, rfl, rfl⟩) e143
noncomputable def c131 : Ctx := { tt := tt, fs := fun n => match n with | 122 => some S122 | 143 => some S143 | _ => none }
theorem k131 (h : ∀ T, (tt T).ok Tryz.prog T) (h122 : jja Tryz.prog 122 S122) (h143 : jja Tryz.prog 143 S143) : CtxGood Tryz.prog c131 := ⟨⟨h⟩, fun g S hg => (by
 simp only [c131] at hg
 split at hg
 ·cases hg; exact h122
 ·cases hg; exact h143
 ·cases hg), jjv, fun _ _ h => (by cases h), fun _ h => (by cases h)⟩
noncomputable def b131 : Code := jjl Tryz.f131
@[reducible] noncomputable def s131_58 : Shape := ⟨[(0, .lf (.d (.str))), (3, .lf (.own 3000192)), (4, .lf (.d (.int .i64)))], [(3000192, .row .str, .slot 3 0)], 30⟩
@[reducible] noncomputable def t131_58 : List OSh := [(.ret, ⟨[(2, .lf (.d (.bool)))], [], 30⟩), (.exit 0, ⟨[(0, .lf (.d (.str))), (3, .lf (.own 3000192))], [(3000192, .row .str, .slot 3 0)], 30⟩)]
noncomputable def g131_58 (y : s131_58.Y) : Option (Sum s131_58.Y (YS t131_58)) :=
 bif (decide (y.1.2.2.1 < (y.2.1.length : Int))) then
(inb y.2.1.length y.1.2.2.1).bind fun x546 =>
(y.2.1[x546]?).bind fun x547 =>
(f143 ((x547, ()), ())).bind fun r548 =>
 bif (!r548.1.1) then
 some (.inr (.inl ((false, ()), ())))
else
 some (.inl ((y.1.1, ((), ((IntKind.i64.wrap (y.1.2.2.1 + (1 : Int))), ()))), (y.2.1, ())))
else
 some (.inr (.inr ((y.1.1, ((), ())), (y.2.1, ()))))
theorem r131_58 : ∀ y, g131_58 y = jjz (jjd c131 []) (jjk (jjc b131 1 58)) 58 s131_58 t131_58 y := fun y => by kernel_rfl
noncomputable def l131_58 : s131_58.Y → Option (YS t131_58) := jjF g131_58
theorem q131_58 (H : CtxGood Tryz.prog c131) : jjj Tryz.prog (jjc b131 1 58) (jjb s131_58 t131_58 l131_58) :=
 jjr (fr := []) H (by kernel_rfl) (by kernel_rfl) jje (fun y => jjh r131_58 y)
@[reducible] noncomputable def i131 : Shape := ⟨[(0, .lf (.d (.str)))], [], 30⟩
@[reducible] noncomputable def o131 : Shape := ⟨[(2, .lf (.d (.bool)))], [], 30⟩
noncomputable def f131 (a : i131.Y) : Option o131.Y :=
(f122 ((a.1.1, ((47 : Int), ((IntKind.i64.wrap ((a.1.1.length : Int) + (1 : Int))), ()))), ())).bind fun r556 =>
(l131_58 ((a.1.1, ((), ((0 : Int), ()))), (r556.2.1, ()))).bind fun r560 =>
(match r560 with
| .inl r561 =>
 some ((r561.1.1, ()), ())
| .inr r562 =>
 bif (decide ((r562.2.1.length : Int) ≤ (5 : Int))) then
 some (((decide ((r562.1.1.length : Int) ≤ (40 : Int))), ()), ())
else
 some ((false, ()), ()))
theorem e131 : ∀ a, f131 a = jjt (jjd c131 [(58, jjb s131_58 t131_58 l131_58)]) b131 i131 o131 a := fun a => by kernel_rfl
noncomputable def S131 : jjM := jjg tt 30 i131 o131 [.tmp 2] [] f131
theorem z131 (h : ∀ T, (tt T).ok Tryz.prog T) (h122 : jja Tryz.prog 122 S122) (h143 : jja Tryz.prog 143 S143) : jja Tryz.prog 131 S131 :=
 have H := k131 h h122 h143
 jjm (fn := Tryz.f131) (fr := [(58, jjb s131_58 t131_58 l131_58)]) H (by kernel_rfl) (by kernel_rfl) (by kernel_rfl) (by kernel_rfl) (by kernel_rfl) ⟨q131_58 H, trivial⟩ (by kernel_rfl) (fun y => ⟨_, _, rfl, rfl, rfl⟩) e131
noncomputable def c154 : Ctx := { tt := tt, fs := fun n => match n with | _ => none }
theorem k154 (h : ∀ T, (tt T).ok Tryz.prog T) : CtxGood Tryz.prog c154 := ⟨⟨h⟩, fun g S hg => (by cases hg), jjv, fun _ _ h => (by cases h), fun _ h => (by cases h)⟩
noncomputable def b154 : Code := jjl Tryz.f154
@[reducible] noncomputable def s154_1864 : Shape := ⟨[(0, .lf (.d (.str))), (1, .lf (.d (.int .u8))), (5, .lf (.d (.bool))), (6, .lf (.d (.int .i64)))], [], 33⟩
@[reducible] noncomputable def jzB : List OSh := [(.norm, ⟨[(0, .lf (.d (.str))), (1, .lf (.d (.int .u8))), (5, .lf (.d (.bool))), (6, .lf (.d (.int .i64))), (29, .lf (.d (.bool)))], [], 33⟩)]
noncomputable def jzS (y : s154_1864.Y) : Option (YS jzB) :=
(ix y.1.1 y.1.2.2.2.1).bind fun x608 =>
 bif ((x608.toNat : Int) == y.1.2.1) then
 bif (!(decide (y.1.2.2.2.1 > (1 : Int)))) then
 some (((y.1.1, (y.1.2.1, (y.1.2.2.1, (y.1.2.2.2.1, ((!y.1.2.2.1), ()))))), ()))
else
 some (((y.1.1, (y.1.2.1, (y.1.2.2.1, (y.1.2.2.2.1, (true, ()))))), ()))
else
 some (((y.1.1, (y.1.2.1, (y.1.2.2.1, (y.1.2.2.2.1, (false, ()))))), ()))
theorem r154_1864 : ∀ y, jzS y = jjL (jjd c154 []) (jjc (jjk (jjc b154 1 58)) 116 1864) 1864 s154_1864 jzB y := fun y => by kernel_rfl
theorem q154_1864 (H : CtxGood Tryz.prog c154) : jjj Tryz.prog (jjc (jjk (jjc b154 1 58)) 116 1864) (jjb s154_1864 jzB jzS) :=
 jjs (fr := []) H (by kernel_rfl) jje r154_1864
@[reducible] noncomputable def s154_58 : Shape := ⟨[(0, .lf (.d (.str))), (1, .lf (.d (.int .u8))), (5, .lf (.d (.bool))), (6, .lf (.d (.int .i64)))], [], 33⟩
@[reducible] noncomputable def t154_58 : List OSh := [(.ret, ⟨[(4, .lf (.d (.bool)))], [], 33⟩), (.exit 0, ⟨[(5, .lf (.d (.bool)))], [], 33⟩)]
noncomputable def g154_58 (y : s154_58.Y) : Option (Sum s154_58.Y (YS t154_58)) :=
 bif (decide (y.1.2.2.2.1 < (IntKind.i64.wrap ((y.1.1.length : Int) - (1 : Int))))) then
(jzS ((y.1.1, (y.1.2.1, (y.1.2.2.1, (y.1.2.2.2.1, ())))), ())).bind fun r610 =>
 bif r610.1.2.2.2.2.1 then
 some (.inr (.inl (((!r610.1.2.2.1), ()), ())))
else
 some (.inl ((r610.1.1, (r610.1.2.1, (r610.1.2.2.1, ((IntKind.i64.wrap (r610.1.2.2.2.1 + (1 : Int))), ())))), ()))
else
 some (.inr (.inr ((y.1.2.2.1, ()), ())))
theorem r154_58 : ∀ y, g154_58 y = jjz (jjd c154 [(1864, jjb s154_1864 jzB jzS)]) (jjk (jjc b154 1 58)) 58 s154_58 t154_58 y := fun y => by kernel_rfl
noncomputable def l154_58 : s154_58.Y → Option (YS t154_58) := jjF g154_58
theorem q154_58 (H : CtxGood Tryz.prog c154) : jjj Tryz.prog (jjc b154 1 58) (jjb s154_58 t154_58 l154_58) :=
 jjr (fr := [(1864, jjb s154_1864 jzB jzS)]) H (by kernel_rfl) (by kernel_rfl) ⟨q154_1864 H, trivial⟩ (fun y => jjh r154_58 y)
@[reducible] noncomputable def i154 : Shape := ⟨[(0, .lf (.d (.str))), (1, .lf (.d (.int .u8)))], [], 33⟩
@[reducible] noncomputable def o154 : Shape := ⟨[(4, .lf (.d (.bool)))], [], 33⟩
noncomputable def f154 (a : i154.Y) : Option o154.Y :=
(ix a.1.1 (1 : Int)).bind fun x615 =>
(l154_58 ((a.1.1, (a.1.2.1, (((x615.toNat : Int) == (33 : Int)), ((1 : Int), ())))), ())).bind fun r616 =>
(match r616 with
| .inl r617 =>
 some ((r617.1.1, ()), ())
| .inr r618 =>
 some ((r618.1.1, ()), ()))
theorem e154 : ∀ a, f154 a = jjt (jjd c154 [(58, jjb s154_58 t154_58 l154_58)]) b154 i154 o154 a := fun a => by kernel_rfl
noncomputable def S154 : jjM := jjg tt 33 i154 o154 [.tmp 4] [] f154
theorem z154 (h : ∀ T, (tt T).ok Tryz.prog T) : jja Tryz.prog 154 S154 :=
 have H := k154 h
 jjm (fn := Tryz.f154) (fr := [(58, jjb s154_58 t154_58 l154_58)]) H (by kernel_rfl) (by kernel_rfl) (by kernel_rfl) (by kernel_rfl) (by kernel_rfl) ⟨q154_58 H, trivial⟩ (by kernel_rfl) (fun y => ⟨_, _, rfl, rfl, rfl⟩) e154
@[reducible] noncomputable def i144 : Shape := ⟨[(0, .lf (.d (.str))), (1, .lf (.d (.str)))], [], 68⟩
@[reducible] noncomputable def o144 : Shape := ⟨[(4, .lf (.d (.bool)))], [], 68⟩
noncomputable def SF144 (F : i144.Y → Option o144.Y) : jjM := jjg tt 68 i144 o144 [.tmp 4] [] F
noncomputable def c144 (F : i144.Y → Option o144.Y) : Ctx := { tt := tt, fs := fun n => match n with | 144 => some (SF144 F) | 153 => some S153 | 154 => some S154 | _ => none }
theorem k144 (F : i144.Y → Option o144.Y) (h : ∀ T, (tt T).ok Tryz.prog T) (h153 : jja Tryz.prog 153 S153) (h154 : jja Tryz.prog 154 S154) (hF : jja Tryz.prog 144 (SF144 F)) : CtxGood Tryz.prog (c144 F) := ⟨⟨h⟩, fun g S hg => (by
 simp only [c144] at hg
 split at hg
 ·cases hg; exact hF
 ·cases hg; exact h153
 ·cases hg; exact h154
 ·cases hg), jjv, fun _ _ h => (by cases h), fun _ h => (by cases h)⟩
noncomputable def b144 : Code := jjl Tryz.f144
noncomputable def ff144 (F : i144.Y → Option o144.Y) (a : i144.Y) : Option o144.Y :=
 bif (a.1.1 == ([] : Str)) then
 some (((a.1.2.1 == ([] : Str)), ()), ())
else
(ix a.1.1 (0 : Int)).bind fun x648 =>
 bif ((x648.toNat : Int) == (42 : Int)) then
(jqE a.1.1 (1 : Int) (a.1.1.length : Int)).bind fun x649 =>
(F ((x649, (a.1.2.1, ())), ())).bind fun r650 =>
 bif (!r650.1.1) then
 bif (!(a.1.2.1 == ([] : Str))) then
(jqE a.1.2.1 (1 : Int) (a.1.2.1.length : Int)).bind fun x651 =>
(F ((a.1.1, (x651, ())), ())).bind fun r652 =>
 some ((r652.1.1, ()), ())
else
 some ((false, ()), ())
else
 some ((true, ()), ())
else
 bif (a.1.2.1 == ([] : Str)) then
 some ((false, ()), ())
else
(ix a.1.1 (0 : Int)).bind fun x667 =>
 bif ((x667.toNat : Int) == (63 : Int)) then
(jqE a.1.1 (1 : Int) (a.1.1.length : Int)).bind fun x668 =>
(jqE a.1.2.1 (1 : Int) (a.1.2.1.length : Int)).bind fun x669 =>
(F ((x668, (x669, ())), ())).bind fun r670 =>
 some ((r670.1.1, ()), ())
else
 bif ((x667.toNat : Int) == (91 : Int)) then
(f153 ((a.1.1, ()), ())).bind fun r672 =>
(jqE a.1.1 (0 : Int) r672.1.1).bind fun x673 =>
(ix a.1.2.1 (0 : Int)).bind fun x674 =>
(f154 ((x673, ((x674.toNat : Int), ())), ())).bind fun r675 =>
 bif r675.1.1 then
(jqE a.1.1 r672.1.1 (a.1.1.length : Int)).bind fun x676 =>
(jqE a.1.2.1 (1 : Int) (a.1.2.1.length : Int)).bind fun x677 =>
(F ((x676, (x677, ())), ())).bind fun r678 =>
 some ((r678.1.1, ()), ())
else
 some ((false, ()), ())
else
(ix a.1.1 (0 : Int)).bind fun x679 =>
(ix a.1.2.1 (0 : Int)).bind fun x680 =>
 bif ((x679.toNat : Int) == (x680.toNat : Int)) then
(jqE a.1.1 (1 : Int) (a.1.1.length : Int)).bind fun x681 =>
(jqE a.1.2.1 (1 : Int) (a.1.2.1.length : Int)).bind fun x682 =>
(F ((x681, (x682, ())), ())).bind fun r683 =>
 some ((r683.1.1, ()), ())
else
 some ((false, ()), ())
theorem e144 (F : i144.Y → Option o144.Y) : ∀ a, (ff144 F) a = jjt (jjd (c144 F) []) b144 i144 o144 a := fun a => by kernel_rfl
theorem zz144 (F : i144.Y → Option o144.Y) (h : ∀ T, (tt T).ok Tryz.prog T) (h153 : jja Tryz.prog 153 S153) (h154 : jja Tryz.prog 154 S154) (hF : jja Tryz.prog 144 (SF144 F)) : jja Tryz.prog 144 (jjg tt 68 i144 o144 [.tmp 4] [] (ff144 F)) :=
 have H := (k144 F) h h153 h154 hF
 jjm (fn := Tryz.f144) (fr := []) H (by kernel_rfl) (by kernel_rfl) (by kernel_rfl) (by kernel_rfl) (by kernel_rfl) jje (by kernel_rfl) (fun y => ⟨_, _, rfl, rfl, rfl⟩) (e144 F)
noncomputable def f144 : i144.Y → Option o144.Y := jqX ff144 jxk
noncomputable def S144 : jjM := jjg tt 68 i144 o144 [.tmp 4] [] f144
theorem z144 (h : ∀ T, (tt T).ok Tryz.prog T) (h153 : jja Tryz.prog 153 S153) (h154 : jja Tryz.prog 154 S154) : jja Tryz.prog 144 S144 := rec_ok (ff := ff144) (fun F hF => zz144 F h h153 h154 hF) jxk
@[reducible] noncomputable def i132 : Shape := ⟨[(0, .lf (.d (.sl .str))), (1, .lf (.d (.sl .str)))], [], 49⟩
@[reducible] noncomputable def o132 : Shape := ⟨[(4, .lf (.d (.bool)))], [], 49⟩
noncomputable def SF132 (F : i132.Y → Option o132.Y) : jjM := jjg tt 49 i132 o132 [.tmp 4] [] F
noncomputable def c132 (F : i132.Y → Option o132.Y) : Ctx := { tt := tt, fs := fun n => match n with | 132 => some (SF132 F) | 144 => some S144 | _ => none }
theorem k132 (F : i132.Y → Option o132.Y) (h : ∀ T, (tt T).ok Tryz.prog T) (h144 : jja Tryz.prog 144 S144) (hF : jja Tryz.prog 132 (SF132 F)) : CtxGood Tryz.prog (c132 F) := ⟨⟨h⟩, fun g S hg => (by
 simp only [c132] at hg
 split at hg
 ·cases hg; exact hF
 ·cases hg; exact h144
 ·cases hg), jjv, fun _ _ h => (by cases h), fun _ h => (by cases h)⟩
noncomputable def b132 : Code := jjl Tryz.f132
noncomputable def ff132 (F : i132.Y → Option o132.Y) (a : i132.Y) : Option o132.Y :=
 bif ((a.1.1.length : Int) == (0 : Int)) then
 some ((((a.1.2.1.length : Int) == (0 : Int)), ()), ())
else
(ix a.1.1 (0 : Int)).bind fun x695 =>
 bif (x695 == ([42, 42] : Str)) then
(jqE a.1.1 (1 : Int) (a.1.1.length : Int)).bind fun x696 =>
(F ((x696, (a.1.2.1, ())), ())).bind fun r697 =>
 bif (!r697.1.1) then
 bif (decide ((a.1.2.1.length : Int) > (0 : Int))) then
(jqE a.1.2.1 (1 : Int) (a.1.2.1.length : Int)).bind fun x698 =>
(F ((a.1.1, (x698, ())), ())).bind fun r699 =>
 some ((r699.1.1, ()), ())
else
 some ((false, ()), ())
else
 some ((true, ()), ())
else
 bif (decide ((a.1.2.1.length : Int) > (0 : Int))) then
(ix a.1.1 (0 : Int)).bind fun x700 =>
(ix a.1.2.1 (0 : Int)).bind fun x701 =>
(f144 ((x700, (x701, ())), ())).bind fun r702 =>
 bif r702.1.1 then
(jqE a.1.1 (1 : Int) (a.1.1.length : Int)).bind fun x703 =>
(jqE a.1.2.1 (1 : Int) (a.1.2.1.length : Int)).bind fun x704 =>
(F ((x703, (x704, ())), ())).bind fun r705 =>
 some ((r705.1.1, ()), ())
else
 some ((false, ()), ())
else
 some ((false, ()), ())
theorem e132 (F : i132.Y → Option o132.Y) : ∀ a, (ff132 F) a = jjt (jjd (c132 F) []) b132 i132 o132 a := fun a => by kernel_rfl
theorem zz132 (F : i132.Y → Option o132.Y) (h : ∀ T, (tt T).ok Tryz.prog T) (h144 : jja Tryz.prog 144 S144) (hF : jja Tryz.prog 132 (SF132 F)) : jja Tryz.prog 132 (jjg tt 49 i132 o132 [.tmp 4] [] (ff132 F)) :=
 have H := (k132 F) h h144 hF
 jjm (fn := Tryz.f132) (fr := []) H (by kernel_rfl) (by kernel_rfl) (by kernel_rfl) (by kernel_rfl) (by kernel_rfl) jje (by kernel_rfl) (fun y => ⟨_, _, rfl, rfl, rfl⟩) (e132 F)
noncomputable def f132 : i132.Y → Option o132.Y := jqX ff132 jxk
noncomputable def S132 : jjM := jjg tt 49 i132 o132 [.tmp 4] [] f132
theorem z132 (h : ∀ T, (tt T).ok Tryz.prog T) (h144 : jja Tryz.prog 144 S144) : jja Tryz.prog 132 S132 := rec_ok (ff := ff132) (fun F hF => zz132 F h h144 hF) jxk
noncomputable def c107 : Ctx := { tt := tt, fs := fun n => match n with | 122 => some S122 | 125 => some S125 | 131 => some S131 | 132 => some S132 | _ => none }
theorem k107 (h : ∀ T, (tt T).ok Tryz.prog T) (h122 : jja Tryz.prog 122 S122) (h125 : jja Tryz.prog 125 S125) (h131 : jja Tryz.prog 131 S131) (h132 : jja Tryz.prog 132 S132) : CtxGood Tryz.prog c107 := ⟨⟨h⟩, fun g S hg => (by
 simp only [c107] at hg
 split at hg
 ·cases hg; exact h122
 ·cases hg; exact h125
 ·cases hg; exact h131
 ·cases hg; exact h132
 ·cases hg), jjv, fun _ _ h => (by cases h), fun _ h => (by cases h)⟩
noncomputable def b107 : Code := jjl Tryz.f107
@[reducible] noncomputable def i107 : Shape := ⟨[(0, .lf (.d (.str))), (1, .lf (.d (.str)))], [], 24⟩
@[reducible] noncomputable def o107 : Shape := ⟨[(4, .lf (.d (.bool)))], [], 24⟩
noncomputable def f107 (a : i107.Y) : Option o107.Y :=
(f131 ((a.1.1, ()), ())).bind fun r707 =>
 bif r707.1.1 then
(f125 ((a.1.2.1, ()), ())).bind fun r708 =>
 bif r708.1.1 then
(f122 ((a.1.1, ((47 : Int), ((IntKind.i64.wrap ((a.1.1.length : Int) + (1 : Int))), ()))), ())).bind fun r709 =>
(f122 ((a.1.2.1, ((47 : Int), ((IntKind.i64.wrap ((a.1.2.1.length : Int) + (1 : Int))), ()))), ())).bind fun r710 =>
(f132 ((r709.2.1, (r710.2.1, ())), ())).bind fun r711 =>
 some ((r711.1.1, ()), ())
else
 some ((false, ()), ())
else
 some ((false, ()), ())
theorem e107 : ∀ a, f107 a = jjt (jjd c107 []) b107 i107 o107 a := fun a => by kernel_rfl
noncomputable def S107 : jjM := jjg tt 24 i107 o107 [.tmp 4] [] f107
theorem z107 (h : ∀ T, (tt T).ok Tryz.prog T) (h122 : jja Tryz.prog 122 S122) (h125 : jja Tryz.prog 125 S125) (h131 : jja Tryz.prog 131 S131) (h132 : jja Tryz.prog 132 S132) : jja Tryz.prog 107 S107 :=
 have H := k107 h h122 h125 h131 h132
 jjm (fn := Tryz.f107) (fr := []) H (by kernel_rfl) (by kernel_rfl) (by kernel_rfl) (by kernel_rfl) (by kernel_rfl) jje (by kernel_rfl) (fun y => ⟨_, _, rfl, rfl, rfl⟩) e107
noncomputable def c133 : Ctx := { tt := tt, fs := fun n => match n with | _ => none }
theorem k133 (h : ∀ T, (tt T).ok Tryz.prog T) : CtxGood Tryz.prog c133 := ⟨⟨h⟩, fun g S hg => (by cases hg), jjv, fun _ _ h => (by cases h), fun _ h => (by cases h)⟩
noncomputable def b133 : Code := jjl Tryz.f133
@[reducible] noncomputable def i133 : Shape := ⟨[(0, .lf (.d (.str))), (1, .lf (.d (.str)))], [], 30⟩
@[reducible] noncomputable def o133 : Shape := ⟨[(4, .lf (.d (.bool)))], [], 30⟩
noncomputable def f133 (a : i133.Y) : Option o133.Y :=
 bif (!(a.1.2.1 == a.1.1)) then
 bif (decide ((a.1.2.1.length : Int) > (a.1.1.length : Int))) then
(jqE a.1.2.1 (0 : Int) (a.1.1.length : Int)).bind fun x718 =>
 bif (x718 == a.1.1) then
(ix a.1.2.1 (a.1.1.length : Int)).bind fun x719 =>
 some ((((x719.toNat : Int) == (47 : Int)), ()), ())
else
 some ((false, ()), ())
else
 some ((false, ()), ())
else
 some ((true, ()), ())
theorem e133 : ∀ a, f133 a = jjt (jjd c133 []) b133 i133 o133 a := fun a => by kernel_rfl
noncomputable def S133 : jjM := jjg tt 30 i133 o133 [.tmp 4] [] f133
theorem z133 (h : ∀ T, (tt T).ok Tryz.prog T) : jja Tryz.prog 133 S133 :=
 have H := k133 h
 jjm (fn := Tryz.f133) (fr := []) H (by kernel_rfl) (by kernel_rfl) (by kernel_rfl) (by kernel_rfl) (by kernel_rfl) jje (by kernel_rfl) (fun y => ⟨_, _, rfl, rfl, rfl⟩) e133
noncomputable def c108 : Ctx := { tt := tt, fs := fun n => match n with | 107 => some S107 | 133 => some S133 | _ => none }
theorem k108 (h : ∀ T, (tt T).ok Tryz.prog T) (h107 : jja Tryz.prog 107 S107) (h133 : jja Tryz.prog 133 S133) : CtxGood Tryz.prog c108 := ⟨⟨h⟩, fun g S hg => (by
 simp only [c108] at hg
 split at hg
 ·cases hg; exact h107
 ·cases hg; exact h133
 ·cases hg), jjv, fun _ _ h => (by cases h), fun _ h => (by cases h)⟩
noncomputable def b108 : Code := jjl Tryz.f108
@[reducible] noncomputable def s108_840 : Shape := ⟨[(0, .lf (.d (.sl .entry))), (1, .lf (.d (.str))), (2, .lf (.d (.str))), (7, .lf (.d (.int .i64)))], [], 30⟩
@[reducible] noncomputable def t108_840 : List OSh := [(.norm, ⟨[(0, .lf (.d (.sl .entry))), (1, .lf (.d (.str))), (2, .lf (.d (.str))), (7, .lf (.d (.int .i64))), (29, .lf (.d (.bool)))], [], 30⟩)]
noncomputable def jzj (y : s108_840.Y) : Option (YS t108_840) :=
(ix y.1.1 y.1.2.2.2.1).bind fun x727 =>
(f133 ((y.1.2.2.1, (x727.path, ())), ())).bind fun r728 =>
 bif r728.1.1 then
(ix y.1.1 y.1.2.2.2.1).bind fun x729 =>
(f107 ((y.1.2.1, (x729.path, ())), ())).bind fun r730 =>
 some (((y.1.1, (y.1.2.1, (y.1.2.2.1, (y.1.2.2.2.1, (r730.1.1, ()))))), ()))
else
 some (((y.1.1, (y.1.2.1, (y.1.2.2.1, (y.1.2.2.2.1, (false, ()))))), ()))
theorem r108_840 : ∀ y, jzj y = jjL (jjd c108 []) (jjc (jjk (jjc b108 1 26)) 52 840) 840 s108_840 t108_840 y := fun y => by kernel_rfl
theorem q108_840 (H : CtxGood Tryz.prog c108) : jjj Tryz.prog (jjc (jjk (jjc b108 1 26)) 52 840) (jjb s108_840 t108_840 jzj) :=
 jjs (fr := []) H (by kernel_rfl) jje r108_840
@[reducible] noncomputable def s108_26 : Shape := ⟨[(0, .lf (.d (.sl .entry))), (1, .lf (.d (.str))), (2, .lf (.d (.str))), (7, .lf (.d (.int .i64)))], [], 30⟩
@[reducible] noncomputable def t108_26 : List OSh := [(.ret, ⟨[(6, .lf (.d (.bool)))], [], 30⟩), (.exit 0, ⟨[], [], 30⟩)]
noncomputable def g108_26 (y : s108_26.Y) : Option (Sum s108_26.Y (YS t108_26)) :=
 bif (decide (y.1.2.2.2.1 < (y.1.1.length : Int))) then
(jzj ((y.1.1, (y.1.2.1, (y.1.2.2.1, (y.1.2.2.2.1, ())))), ())).bind fun r732 =>
 bif r732.1.2.2.2.2.1 then
 some (.inr (.inl ((true, ()), ())))
else
 some (.inl ((r732.1.1, (r732.1.2.1, (r732.1.2.2.1, ((IntKind.i64.wrap (r732.1.2.2.2.1 + (1 : Int))), ())))), ()))
else
 some (.inr (.inr ((), ())))
theorem r108_26 : ∀ y, g108_26 y = jjz (jjd c108 [(840, jjb s108_840 t108_840 jzj)]) (jjk (jjc b108 1 26)) 26 s108_26 t108_26 y := fun y => by kernel_rfl
noncomputable def l108_26 : s108_26.Y → Option (YS t108_26) := jjF g108_26
theorem q108_26 (H : CtxGood Tryz.prog c108) : jjj Tryz.prog (jjc b108 1 26) (jjb s108_26 t108_26 l108_26) :=
 jjr (fr := [(840, jjb s108_840 t108_840 jzj)]) H (by kernel_rfl) (by kernel_rfl) ⟨q108_840 H, trivial⟩ (fun y => jjh r108_26 y)
@[reducible] noncomputable def i108 : Shape := ⟨[(0, .lf (.d (.sl .entry))), (1, .lf (.d (.str))), (2, .lf (.d (.str)))], [], 30⟩
@[reducible] noncomputable def o108 : Shape := ⟨[(6, .lf (.d (.bool)))], [], 30⟩
noncomputable def f108 (a : i108.Y) : Option o108.Y :=
(l108_26 ((a.1.1, (a.1.2.1, (a.1.2.2.1, ((0 : Int), ())))), ())).bind fun r736 =>
(match r736 with
| .inl r737 =>
 some ((r737.1.1, ()), ())
| .inr r738 =>
 some ((false, ()), ()))
theorem e108 : ∀ a, f108 a = jjt (jjd c108 [(26, jjb s108_26 t108_26 l108_26)]) b108 i108 o108 a := fun a => by kernel_rfl
noncomputable def S108 : jjM := jjg tt 30 i108 o108 [.tmp 6] [] f108
theorem z108 (h : ∀ T, (tt T).ok Tryz.prog T) (h107 : jja Tryz.prog 107 S107) (h133 : jja Tryz.prog 133 S133) : jja Tryz.prog 108 S108 :=
 have H := k108 h h107 h133
 jjm (fn := Tryz.f108) (fr := [(26, jjb s108_26 t108_26 l108_26)]) H (by kernel_rfl) (by kernel_rfl) (by kernel_rfl) (by kernel_rfl) (by kernel_rfl) ⟨q108_26 H, trivial⟩ (by kernel_rfl) (fun y => ⟨_, _, rfl, rfl, rfl⟩) e108
@[reducible] noncomputable def i111 : Shape := ⟨[(0, .lf (.d (.int .i64)))], [], 28⟩
@[reducible] noncomputable def o111 : Shape := ⟨[(2, .lf (.d (.str)))], [], 28⟩
noncomputable def SF111 (F : i111.Y → Option o111.Y) : jjM := jjg tt 28 i111 o111 [.tmp 2] [] F
noncomputable def c111 (F : i111.Y → Option o111.Y) : Ctx := { tt := tt, fs := fun n => match n with | 111 => some (SF111 F) | _ => none }
theorem k111 (F : i111.Y → Option o111.Y) (h : ∀ T, (tt T).ok Tryz.prog T) (hF : jja Tryz.prog 111 (SF111 F)) : CtxGood Tryz.prog (c111 F) := ⟨⟨h⟩, fun g S hg => (by
 simp only [c111] at hg
 split at hg
 ·cases hg; exact hF
 ·cases hg), jjv, fun _ _ h => (by cases h), fun _ h => (by cases h)⟩
noncomputable def b111 : Code := jjl Tryz.f111
noncomputable def ff111 (F : i111.Y → Option o111.Y) (a : i111.Y) : Option o111.Y :=
 bif (decide (a.1.1 < ((-9223372036854775807) : Int))) then
 some ((([45, 57, 50, 50, 51, 51, 55, 50, 48, 51, 54, 56, 53, 52, 55, 55, 53, 56, 48, 56] : Str), ()), ())
else
 bif (decide (a.1.1 < (0 : Int))) then
(F (((IntKind.i64.wrap (0 - a.1.1)), ()), ())).bind fun r386 =>
(cat ([45] : Str) r386.1.1).bind fun x387 =>
 some ((x387, ()), ())
else
 bif (decide (a.1.1 < (10 : Int))) then
 some (((strOf ([(IntKind.u8.wrap (IntKind.i64.wrap ((48 : Int) + a.1.1)))] : List Int)), ()), ())
else
(quoI .i64 a.1.1 (10 : Int)).bind fun x388 =>
(F ((x388, ()), ())).bind fun r389 =>
(remI a.1.1 (10 : Int)).bind fun x390 =>
(cat r389.1.1 (strOf ([(IntKind.u8.wrap (IntKind.i64.wrap ((48 : Int) + x390)))] : List Int))).bind fun x391 =>
 some ((x391, ()), ())
theorem e111 (F : i111.Y → Option o111.Y) : ∀ a, (ff111 F) a = jjt (jjd (c111 F) []) b111 i111 o111 a := fun a => by kernel_rfl
theorem zz111 (F : i111.Y → Option o111.Y) (h : ∀ T, (tt T).ok Tryz.prog T) (hF : jja Tryz.prog 111 (SF111 F)) : jja Tryz.prog 111 (jjg tt 28 i111 o111 [.tmp 2] [] (ff111 F)) :=
 have H := (k111 F) h hF
 jjm (fn := Tryz.f111) (fr := []) H (by kernel_rfl) (by kernel_rfl) (by kernel_rfl) (by kernel_rfl) (by kernel_rfl) jje (by kernel_rfl) (fun y => ⟨_, _, rfl, rfl, rfl⟩) (e111 F)
noncomputable def f111 : i111.Y → Option o111.Y := jqX ff111 jxk
noncomputable def S111 : jjM := jjg tt 28 i111 o111 [.tmp 2] [] f111
theorem z111 (h : ∀ T, (tt T).ok Tryz.prog T) : jja Tryz.prog 111 S111 := rec_ok (ff := ff111) (fun F hF => zz111 F h hF) jxk
noncomputable def c84 : Ctx := { tt := tt, fs := fun n => match n with | 73 => some S73 | 107 => some S107 | 108 => some S108 | _ => none }
theorem k84 (h : ∀ T, (tt T).ok Tryz.prog T) (h73 : jja Tryz.prog 73 S73) (h107 : jja Tryz.prog 107 S107) (h108 : jja Tryz.prog 108 S108) : CtxGood Tryz.prog c84 := ⟨⟨h⟩, fun g S hg => (by
 simp only [c84] at hg
 split at hg
 ·cases hg; exact h73
 ·cases hg; exact h107
 ·cases hg; exact h108
 ·cases hg), jjv, fun _ _ h => (by cases h), fun _ h => (by cases h)⟩
noncomputable def b84 : Code := jjl Tryz.f84
@[reducible] noncomputable def s84_1864 : Shape := ⟨[(0, .lf (.d (.sl .entry))), (1, .lf (.d (.str))), (5, .lf (.own 3000320)), (6, .lf (.d (.int .i64)))], [(3000320, .row .entry, .slot 5 0)], 51⟩
@[reducible] noncomputable def t84_1864 : List OSh := [(.norm, ⟨[(0, .lf (.d (.sl .entry))), (1, .lf (.d (.str))), (5, .lf (.own 3000320)), (6, .lf (.d (.int .i64))), (42, .lf (.d (.bool)))], [(3000320, .row .entry, .slot 5 0)], 51⟩)]
noncomputable def jzd (y : s84_1864.Y) : Option (YS t84_1864) :=
(ix y.1.1 y.1.2.2.2.1).bind fun x747 =>
(f107 ((y.1.2.1, (x747.path, ())), ())).bind fun r748 =>
 bif (!r748.1.1) then
(ix y.1.1 y.1.2.2.2.1).bind fun x749 =>
 bif (x749.kind == (1 : Int)) then
(ix y.1.1 y.1.2.2.2.1).bind fun x750 =>
(f108 ((y.1.1, (y.1.2.1, (x750.path, ()))), ())).bind fun r751 =>
 some (((y.1.1, (y.1.2.1, ((), (y.1.2.2.2.1, (r751.1.1, ()))))), (y.2.1, ())))
else
 some (((y.1.1, (y.1.2.1, ((), (y.1.2.2.2.1, (false, ()))))), (y.2.1, ())))
else
 some (((y.1.1, (y.1.2.1, ((), (y.1.2.2.2.1, (true, ()))))), (y.2.1, ())))
theorem r84_1864 : ∀ y, jzd y = jjL (jjd c84 []) (jjc (jjk (jjc b84 1 58)) 116 1864) 1864 s84_1864 t84_1864 y := fun y => by kernel_rfl
theorem q84_1864 (H : CtxGood Tryz.prog c84) : jjj Tryz.prog (jjc (jjk (jjc b84 1 58)) 116 1864) (jjb s84_1864 t84_1864 jzd) :=
 jjs (fr := []) H (by kernel_rfl) jje r84_1864
@[reducible] noncomputable def s84_58 : Shape := ⟨[(0, .lf (.d (.sl .entry))), (1, .lf (.d (.str))), (5, .lf (.own 3000320)), (6, .lf (.d (.int .i64)))], [(3000320, .row .entry, .slot 5 0)], 51⟩
@[reducible] noncomputable def t84_58 : List OSh := [(.exit 0, ⟨[(5, .lf (.own 3000320))], [(3000320, .row .entry, .slot 5 0)], 51⟩)]
noncomputable def g84_58 (y : s84_58.Y) : Option (Sum s84_58.Y (YS t84_58)) :=
 bif (decide (y.1.2.2.2.1 < (y.1.1.length : Int))) then
(f73 ((y.1.1, ()), ())).bind fun r756 =>
 bif r756.1.1 then
(jzd ((y.1.1, (y.1.2.1, ((), (y.1.2.2.2.1, ())))), (y.2.1, ()))).bind fun r757 =>
 bif r757.1.2.2.2.2.1 then
(ix r757.1.1 r757.1.2.2.2.1).bind fun x758 =>
(apd 48 r757.2.1 ([x758] : List Entry)).bind fun x759 =>
 some (.inl ((r757.1.1, (r757.1.2.1, ((), ((IntKind.i64.wrap (r757.1.2.2.2.1 + (1 : Int))), ())))), (x759, ())))
else
 some (.inl ((r757.1.1, (r757.1.2.1, ((), ((IntKind.i64.wrap (r757.1.2.2.2.1 + (1 : Int))), ())))), (r757.2.1, ())))
else
 some (.inr ((((), ()), (y.2.1, ()))))
else
 some (.inr ((((), ()), (y.2.1, ()))))
theorem r84_58 : ∀ y, g84_58 y = jjz (jjd c84 [(1864, jjb s84_1864 t84_1864 jzd)]) (jjk (jjc b84 1 58)) 58 s84_58 t84_58 y := fun y => by kernel_rfl
noncomputable def l84_58 : s84_58.Y → Option (YS t84_58) := jjF g84_58
theorem q84_58 (H : CtxGood Tryz.prog c84) : jjj Tryz.prog (jjc b84 1 58) (jjb s84_58 t84_58 l84_58) :=
 jjr (fr := [(1864, jjb s84_1864 t84_1864 jzd)]) H (by kernel_rfl) (by kernel_rfl) ⟨q84_1864 H, trivial⟩ (fun y => jjh r84_58 y)
@[reducible] noncomputable def i84 : Shape := ⟨[(0, .lf (.d (.sl .entry))), (1, .lf (.d (.str)))], [], 51⟩
@[reducible] noncomputable def o84 : Shape := ⟨[(4, .lf (.own 3000256))], [(3000256, .row .entry, .slot 4 0)], 51⟩
noncomputable def f84 (a : i84.Y) : Option o84.Y :=
(l84_58 ((a.1.1, (a.1.2.1, ((), ((0 : Int), ())))), (([] : List Entry), ()))).bind fun r761 =>
 some (((), ()), (r761.2.1, ()))
theorem e84 : ∀ a, f84 a = jjt (jjd c84 [(58, jjb s84_58 t84_58 l84_58)]) b84 i84 o84 a := fun a => by kernel_rfl
noncomputable def S84 : jjM := jjg tt 51 i84 o84 [.tmp 4] [] f84
theorem z84 (h : ∀ T, (tt T).ok Tryz.prog T) (h73 : jja Tryz.prog 73 S73) (h107 : jja Tryz.prog 107 S107) (h108 : jja Tryz.prog 108 S108) : jja Tryz.prog 84 S84 :=
 have H := k84 h h73 h107 h108
 jjm (fn := Tryz.f84) (fr := [(58, jjb s84_58 t84_58 l84_58)]) H (by kernel_rfl) (by kernel_rfl) (by kernel_rfl) (by kernel_rfl) (by kernel_rfl) ⟨q84_58 H, trivial⟩ (by kernel_rfl) (fun y => ⟨_, _, rfl, rfl, rfl⟩) e84
noncomputable def c85v0 : Ctx := { tt := tt, fs := fun n => match n with | 17 => some jj6 | 109 => some S109 | 110 => some S110v0 | 111 => some S111 | _ => none }
theorem k85v0 (h : ∀ T, (tt T).ok Tryz.prog T) (h17v0 : jja Tryz.prog 17 jj6) (h109 : jja Tryz.prog 109 S109) (h110v0 : jja Tryz.prog 110 S110v0) (h111 : jja Tryz.prog 111 S111) : CtxGood Tryz.prog c85v0 := ⟨⟨h⟩, fun g S hg => (by
 simp only [c85v0] at hg
 split at hg
 ·cases hg; exact h17v0
 ·cases hg; exact h109
 ·cases hg; exact h110v0
 ·cases hg; exact h111
 ·cases hg), jjv, fun _ _ h => (by cases h), fun _ h => (by cases h)⟩
noncomputable def b85v0 : Code := jjl Tryz.f85
@[reducible] noncomputable def s85v0_122 : Shape := ⟨[(0, .lf (.ptr 500000 0)), (3, .lf (.own 3000192)), (4, .lf (.own 3000256)), (5, .lf (.d (.int .i64)))], [(500000, .box [.d (.sl .u8), .d (.int .i64)], .same), (3000192, .row .entry, .slot 3 0), (3000256, .row .str, .slot 4 0)], 59⟩
@[reducible] noncomputable def jxJ : List OSh := [(.exit 0, ⟨[(0, .lf (.ptr 500000 0)), (3, .lf (.own 3000192))], [(500000, .box [.d (.sl .u8), .d (.int .i64)], .same), (3000192, .row .entry, .slot 3 0)], 59⟩)]
noncomputable def g85v0_122 (y : s85v0_122.Y) : Option (Sum s85v0_122.Y (YS jxJ)) :=
 bif (decide (y.1.2.2.2.1 < (y.2.2.2.1.length : Int))) then
(jqY (((), ((2 : Int), ())), ((y.2.1.1, (y.2.1.2.1, ())), ()))).bind fun r299 =>
 bif (r299.1.2.1 == (0 : Int)) then
(inb y.2.2.2.1.length y.1.2.2.2.1).bind fun x300 =>
(y.2.2.2.1[x300]?).bind fun x301 =>
(f109 ((y.2.2.1, ((x301, ((1 : Int), ((7 : Int), (([] : Str), ())))), ())), ())).bind fun r302 =>
 some (.inl (((), ((), ((), ((IntKind.i64.wrap (y.1.2.2.2.1 + (1 : Int))), ())))), ((r299.2.1.1, (r299.2.1.2.1, ())), (r302.2.1, (y.2.2.2.1, ())))))
else
 some (.inl (((), ((), ((), ((IntKind.i64.wrap (y.1.2.2.2.1 + (1 : Int))), ())))), ((r299.2.1.1, (r299.2.1.2.1, ())), (y.2.2.1, (y.2.2.2.1, ())))))
else
 some (.inr ((((), ((), ())), ((y.2.1.1, (y.2.1.2.1, ())), (y.2.2.1, ())))))
theorem r85v0_122 : ∀ y, g85v0_122 y = jjz (jjd c85v0 []) (jjk (jjc b85v0 1 122)) 122 s85v0_122 jxJ y := fun y => by kernel_rfl
noncomputable def l85v0_122 : s85v0_122.Y → Option (YS jxJ) := jjF g85v0_122
theorem q85v0_122 (H : CtxGood Tryz.prog c85v0) : jjj Tryz.prog (jjc b85v0 1 122) (jjb s85v0_122 jxJ l85v0_122) :=
 jjr (fr := []) H (by kernel_rfl) (by kernel_rfl) jje (fun y => jjh r85v0_122 y)
@[reducible] noncomputable def s85v0_250 : Shape := ⟨[(0, .lf (.ptr 500000 0)), (3, .lf (.own 3000192)), (6, .lf (.d (.int .i64)))], [(500000, .box [.d (.sl .u8), .d (.int .i64)], .same), (3000192, .row .entry, .slot 3 0)], 59⟩
@[reducible] noncomputable def jxI : List OSh := [(.exit 2, ⟨[(0, .lf (.ptr 500000 0)), (3, .lf (.own 3000192))], [(500000, .box [.d (.sl .u8), .d (.int .i64)], .same), (3000192, .row .entry, .slot 3 0)], 59⟩)]
noncomputable def g85v0_250 (y : s85v0_250.Y) : Option (Sum s85v0_250.Y (YS jxI)) :=
 bif (decide (y.1.2.2.1 > (0 : Int))) then
(f110v0 (((), ()), ((y.2.1.1, (y.2.1.2.1, ())), ()))).bind fun r358 =>
(f109 ((y.2.2.1, ((r358.2.2.1.1, (r358.2.2.1.2.1, (r358.2.2.1.2.2.1, (r358.2.2.1.2.2.2.1, ())))), ())), ())).bind fun r359 =>
 some (.inl (((), ((), ((IntKind.i64.wrap (y.1.2.2.1 - (1 : Int))), ()))), ((r358.2.1.1, (r358.2.1.2.1, ())), (r359.2.1, ()))))
else
 some (.inr ((((), ((), ())), ((y.2.1.1, (y.2.1.2.1, ())), (y.2.2.1, ())))))
theorem r85v0_250 : ∀ y, g85v0_250 y = jjz (jjd c85v0 []) (jjk (jjc b85v0 1 250)) 250 s85v0_250 jxI y := fun y => by kernel_rfl
noncomputable def l85v0_250 : s85v0_250.Y → Option (YS jxI) := jjF g85v0_250
theorem q85v0_250 (H : CtxGood Tryz.prog c85v0) : jjj Tryz.prog (jjc b85v0 1 250) (jjb s85v0_250 jxI l85v0_250) :=
 jjr (fr := []) H (by kernel_rfl) (by kernel_rfl) jje (fun y => jjh r85v0_250 y)
@[reducible] noncomputable def s85v0_2026 : Shape := ⟨[(0, .lf (.ptr 500000 0)), (3, .lf (.own 3000192)), (7, .lf (.d (.int .i64)))], [(500000, .box [.d (.sl .u8), .d (.int .i64)], .same), (3000192, .row .entry, .slot 3 0)], 59⟩
@[reducible] noncomputable def jq8 : List OSh := [(.exit 4, ⟨[(0, .lf (.ptr 500000 0)), (3, .lf (.own 3000192))], [(500000, .box [.d (.sl .u8), .d (.int .i64)], .same), (3000192, .row .entry, .slot 3 0)], 59⟩)]
noncomputable def g85v0_2026 (y : s85v0_2026.Y) : Option (Sum s85v0_2026.Y (YS jq8)) :=
 bif (decide (y.1.2.2.1 < (16 : Int))) then
(f111 ((y.1.2.2.1, ()), ())).bind fun r395 =>
(cat ([102] : Str) r395.1.1).bind fun x396 =>
(f109 ((y.2.2.1, ((x396, ((2 : Int), ((0 : Int), (([] : Str), ())))), ())), ())).bind fun r397 =>
 some (.inl (((), ((), ((IntKind.i64.wrap (y.1.2.2.1 + (1 : Int))), ()))), ((y.2.1.1, (y.2.1.2.1, ())), (r397.2.1, ()))))
else
 some (.inr ((((), ((), ())), ((y.2.1.1, (y.2.1.2.1, ())), (y.2.2.1, ())))))
theorem r85v0_2026 : ∀ y, g85v0_2026 y = jjz (jjd c85v0 []) (jjk (jjc b85v0 1 2026)) 2026 s85v0_2026 jq8 y := fun y => by kernel_rfl
noncomputable def jz3 : s85v0_2026.Y → Option (YS jq8) := jjF g85v0_2026
theorem q85v0_2026 (H : CtxGood Tryz.prog c85v0) : jjj Tryz.prog (jjc b85v0 1 2026) (jjb s85v0_2026 jq8 jz3) :=
 jjr (fr := []) H (by kernel_rfl) (by kernel_rfl) jje (fun y => jjh r85v0_2026 y)
@[reducible] noncomputable def i85v0 : Shape := ⟨[(0, .lf (.ptr 500000 0))], [(500000, .box [.d (.sl .u8), .d (.int .i64)], .same)], 59⟩
@[reducible] noncomputable def o85v0 : Shape := ⟨[(0, .lf (.ptr 500000 0)), (2, .lf (.own 3000128))], [(500000, .box [.d (.sl .u8), .d (.int .i64)], .same), (3000128, .row .entry, .slot 2 0)], 59⟩
noncomputable def f85v0 (a : i85v0.Y) : Option o85v0.Y :=
(l85v0_122 (((), ((), ((), ((0 : Int), ())))), ((a.2.1.1, (a.2.1.2.1, ())), (([] : List Entry), (([([97] : Str), ([108, 105, 98] : Str), ([98, 105, 110] : Str), ([100, 111, 99] : Str), ([97, 47, 98] : Str)] : List Str), ()))))).bind fun r400 =>
(jqY (((), ((7 : Int), ())), ((r400.2.1.1, (r400.2.1.2.1, ())), ()))).bind fun r405 =>
(l85v0_250 (((), ((), (r405.1.2.1, ()))), ((r405.2.1.1, (r405.2.1.2.1, ())), (r400.2.2.1, ())))).bind fun r406 =>
(jqY (((), ((30 : Int), ())), ((r406.2.1.1, (r406.2.1.2.1, ())), ()))).bind fun r408 =>
 bif (r408.1.2.1 == (0 : Int)) then
(jz3 (((), ((), ((0 : Int), ()))), ((r408.2.1.1, (r408.2.1.2.1, ())), (r406.2.2.1, ())))).bind fun r409 =>
 some (((), ((), ())), ((r409.2.1.1, (r409.2.1.2.1, ())), (r409.2.2.1, ())))
else
 some (((), ((), ())), ((r408.2.1.1, (r408.2.1.2.1, ())), (r406.2.2.1, ())))
theorem e85v0 : ∀ a, f85v0 a = jjt (jjd c85v0 [(122, jjb s85v0_122 jxJ l85v0_122), (250, jjb s85v0_250 jxI l85v0_250), (2026, jjb s85v0_2026 jq8 jz3)]) b85v0 i85v0 o85v0 a := fun a => by kernel_rfl
noncomputable def S85v0 : jjM := jjg tt 59 i85v0 o85v0 [.tmp 2] [0] f85v0
theorem z85v0 (h : ∀ T, (tt T).ok Tryz.prog T) (h17v0 : jja Tryz.prog 17 jj6) (h109 : jja Tryz.prog 109 S109) (h110v0 : jja Tryz.prog 110 S110v0) (h111 : jja Tryz.prog 111 S111) : jja Tryz.prog 85 S85v0 :=
 have H := k85v0 h h17v0 h109 h110v0 h111
 jjm (fn := Tryz.f85) (fr := [(122, jjb s85v0_122 jxJ l85v0_122), (250, jjb s85v0_250 jxI l85v0_250), (2026, jjb s85v0_2026 jq8 jz3)]) H (by kernel_rfl) (by kernel_rfl) (by kernel_rfl) (by kernel_rfl) (by kernel_rfl) ⟨q85v0_122 H, q85v0_250 H, q85v0_2026 H, trivial⟩ (by kernel_rfl) (fun y => ⟨_, _, rfl, rfl, rfl⟩) e85v0
abbrev NoBr (g : Str) : Prop := ∀ b, b ∈ g → b.toNat ≠ 91
theorem ix_str {s : Str} {i : Int} (h0 : 0 ≤ i) (h1 : i < (s.length : Int)) : ∃ x, ix s i = some x ∧ x ∈ s := ix_in h0 h1
theorem v_l1Globbed (a) (hs : Bd a.1.1.length) (hn : NoBr a.1.1) : Ev (f143 a) (fun _ => True) := by
 obtain ⟨⟨(s : Str), u⟩, u'⟩ := a
 have hs : s.length ≤ 2097152 := hs
 unfold f143
 refine Ev.bind (P := fun _ => True) ?_ fun r _ => ?_
 ·refine Ev.loop (fun (k : Nat) y => y.1.1 = s ∧ (0 : Int) ≤ y.1.2.1 ∧ (y.1.2.1 : Int) + k = s.length) (fun k y hy => ?_) s.length _ ⟨rfl, Int.le_refl _, by show (0 : Int) + s.length = s.length; omega⟩
  obtain ⟨⟨(s1 : Str), (i : Int), u⟩, u'⟩ := y
  obtain ⟨y1, y2, y3⟩ := hy
  have y1 : s1 = s := y1
  subst y1
  have y2 : 0 ≤ i := y2
  have y3 : i + k = s1.length := y3
  unfold g143_26
  refine Ev.ite (fun hc => ?_) fun _ => Ev.ret trivial
  have hc : i < (s1.length : Int) := of_decide_eq_true hc
  obtain ⟨x, k1, k2⟩ := ix_str y2 hc
  have hx : ((x.toNat : Int) == 91) = false := by
   have := hn x k2
   simp only [beq_eq_false_iff_ne, ne_eq]; omega
  have hw : IntKind.i64.wrap (i + 1) = i + 1 := jjE (by omega) (by omega)
  refine Ev.eq k1 ?_
  refine Ev.ite (fun hd => by rw [hx] at hd; cases hd) fun _ => ?_
  have piece : Ev (jxj ((s1, (i, ())), ())) (fun r => r.1.1 = s1 ∧ r.1.2.1 = i) := by
   unfold jxj
   refine Ev.eq k1 ?_
   exact Ev.ite (fun _ => Ev.eq k1 (Ev.ret ⟨rfl, rfl⟩)) fun _ => Ev.ret ⟨rfl, rfl⟩
  refine Ev.bind piece fun r hr => ?_
  obtain ⟨⟨(s2 : Str), (i2 : Int), (c : Bool), v⟩, v'⟩ := r
  obtain ⟨r1, r2⟩ := hr
  have r1 : s2 = s1 := r1
  have r2 : i2 = i := r2
  subst r1 r2
  refine Ev.ite (fun _ => ?_) fun _ => ?_
  ·refine Ev.ret ⟨k - 1, by omega, rfl, ?_, ?_⟩
   ·show 0 ≤ IntKind.i64.wrap (i2 + 1); rw [hw]; omega
   ·show IntKind.i64.wrap (i2 + 1) + ((k - 1 : Nat) : Int) = _; rw [hw]; omega
  ·refine Ev.eq k1 ?_
   refine Ev.eq (v_l1Small (((x.toNat : Int), ()), ())) ?_
   refine Ev.ite (fun _ => Ev.ret trivial) fun _ => ?_
   refine Ev.ret ⟨k - 1, by omega, rfl, ?_, ?_⟩
   ·show 0 ≤ IntKind.i64.wrap (i2 + 1); rw [hw]; omega
   ·show IntKind.i64.wrap (i2 + 1) + ((k - 1 : Nat) : Int) = _; rw [hw]; omega
 ·cases r with
  | inl r => exact Ev.ret trivial
  | inr r => exact Ev.ret trivial
theorem splitL_nobr {g : Str} (h : NoBr g) : ∀ x, x ∈ jju 47 g → NoBr x := by
 induction g with
 | nil =>
  intro x hx b hb
  simp [jju] at hx
  subst hx; cases hb
 | cons c g ih =>
  have ih := ih fun b hb => h b (List.mem_cons_of_mem _ hb)
  intro x hx b hb
  simp only [jju] at hx
  cases hc : (c == 47) with
  | true =>
   simp only [hc, cond_true, List.mem_cons] at hx
   rcases hx with rfl | hx
   ·cases hb
   ·exact ih x hx b hb
  | false =>
   simp only [hc, cond_false] at hx
   cases hL : jju 47 g with
   | nil => exact absurd hL (jzI 47 g)
   | cons y L =>
    rw [hL] at hx ih
    simp only [List.mem_cons] at hx
    rcases hx with rfl | hx
    ·rcases List.mem_cons.1 hb with rfl | hb
     ·exact h _ List.mem_cons_self
     ·exact ih y List.mem_cons_self b hb
    ·exact ih x (List.mem_cons_of_mem _ hx) b hb
theorem v_GlobOk (a) (hs : a.1.1.length ≤ 200) (hn : NoBr a.1.1) : Ev (f131 a) (fun _ => True) := by
 obtain ⟨⟨(g : Str), u⟩, u'⟩ := a
 have hs : g.length ≤ 200 := hs
 unfold f131
 have hw : IntKind.i64.wrap ((g.length : Int) + 1) = ((g.length + 1 : Nat) : Int) := jjn (by unfold Sm; omega)
 refine Ev.eq (v_l1Cut 47 ((g, ((47 : Int), (IntKind.i64.wrap ((g.length : Int) + 1), ()))), ()) (by show g.length ≤ 2097152; omega) rfl hw) ?_
 have hL : (jju 47 g).length ≤ 201 := by have := jqN 47 g; omega
 refine Ev.bind (P := fun _ => True) ?_ fun r _ => ?_
 ·refine Ev.loop (fun (k : Nat) y => y.2.1 = jju 47 g ∧ (0 : Int) ≤ y.1.2.2.1 ∧ (y.1.2.2.1 : Int) + k = (jju 47 g).length) (fun k y hy => ?_) (jju 47 g).length _ ⟨rfl, Int.le_refl _, by show (0 : Int) + _ = _; omega⟩
  obtain ⟨⟨(g1 : Str), u1, (i : Int), u⟩, (L : List Str), u'⟩ := y
  obtain ⟨y1, y2, y3⟩ := hy
  have y1 : L = jju 47 g := y1
  have y2 : 0 ≤ i := y2
  have y3 : i + k = (jju 47 g).length := y3
  subst y1
  unfold g131_58
  refine Ev.ite (fun hc => ?_) fun _ => Ev.ret trivial
  have hc : i < ((jju 47 g).length : Int) := of_decide_eq_true hc
  obtain ⟨j, rfl⟩ := Int.eq_ofNat_of_zero_le y2
  have hj : j < (jju 47 g).length := by omega
  have hw : IntKind.i64.wrap ((j : Int) + 1) = (j : Int) + 1 := jjE (by omega) (by omega)
  refine Ev.eq (jqP hj) ?_
  refine Ev.eq (List.getElem?_eq_getElem hj) ?_
  have hm := List.getElem_mem hj
  refine Ev.bind (v_l1Globbed (((jju 47 g)[j], ()), ()) (by have := jqM 47 g _ hm; show ((jju 47 g)[j]).length ≤ 2097152; omega) (splitL_nobr hn _ hm)) fun r _ => ?_
  refine Ev.ite (fun _ => Ev.ret trivial) fun _ => ?_
  refine Ev.ret ⟨k - 1, by omega, rfl, ?_, ?_⟩
  ·show 0 ≤ IntKind.i64.wrap ((j : Int) + 1); rw [hw]; omega
  ·show IntKind.i64.wrap ((j : Int) + 1) + ((k - 1 : Nat) : Int) = _; rw [hw]; omega
 ·cases r with
  | inl r => exact Ev.ret trivial
  | inr r => exact Ev.ite (fun _ => Ev.ret trivial) fun _ => Ev.ret trivial
theorem subl1 {s : Str} (h : s ≠ []) : jqE s (1 : Int) (s.length : Int) = some (s.drop 1) := subl_from (a := 1) (by have := List.length_pos_iff.2 h; omega)
theorem subl1L {s : List Str} (h : 0 < s.length) : jqE s (1 : Int) (s.length : Int) = some (s.drop 1) := subl_from (a := 1) h
theorem ne_of_beq {s : Str} (h : (s == ([] : Str)) = false) : s ≠ [] := by simpa using h
theorem fits_ev : ∀ (n : Nat) (g s : Str), NoBr g → g.length + s.length < n → Ev (jqX ff144 n ((g, (s, ())), ())) (fun _ => True) := by
 intro n
 induction n with
 | zero => intro g s _ h; omega
 | succ n ih =>
  intro g s hn hl
  show Ev (ff144 (jqX ff144 n) _) _
  unfold ff144
  refine Ev.ite (fun _ => Ev.ret trivial) fun hg => ?_
  have hg : g ≠ [] := ne_of_beq hg
  have hgp := List.length_pos_iff.2 hg
  obtain ⟨x, k1, k2⟩ := ix_str (s := g) (i := 0) (by omega) (by omega)
  refine Ev.eq k1 ?_
  have hd1 : NoBr (g.drop 1) := fun b hb => hn b (List.mem_of_mem_drop hb)
  have hdl : (g.drop 1).length + 1 = g.length := by rw [List.length_drop]; omega
  refine Ev.ite (fun _ => ?_) fun _ => ?_
  ·refine Ev.eq (subl1 hg) ?_
   refine Ev.bind (ih (g.drop 1) s hd1 (by omega)) fun r _ => ?_
   refine Ev.ite (fun _ => ?_) fun _ => Ev.ret trivial
   refine Ev.ite (fun hs => ?_) fun _ => Ev.ret trivial
   have hs : s ≠ [] := by
    have hs : (!(s == ([] : Str))) = true := hs
    intro e; subst e; cases hs
   have hsp := List.length_pos_iff.2 hs
   refine Ev.eq (subl1 hs) ?_
   exact Ev.bind (ih g (s.drop 1) hn (by rw [List.length_drop]; omega)) fun r _ => Ev.ret trivial
  ·refine Ev.ite (fun _ => Ev.ret trivial) fun hs => ?_
   have hs : s ≠ [] := ne_of_beq hs
   have hsp := List.length_pos_iff.2 hs
   have step : Ev (jqX ff144 n ((g.drop 1, (s.drop 1, ())), ())) (fun _ => True) := ih _ _ hd1 (by rw [List.length_drop]; rw [List.length_drop]; omega)
   refine Ev.eq k1 ?_
   refine Ev.ite (fun _ => ?_) fun _ => ?_
   ·refine Ev.eq (subl1 hg) ?_
    refine Ev.eq (subl1 hs) ?_
    exact Ev.bind step fun r _ => Ev.ret trivial
   ·have hx : ((x.toNat : Int) == 91) = false := by
     have := hn x k2
     simp only [beq_eq_false_iff_ne, ne_eq]; omega
    refine Ev.ite (fun hd => by rw [hx] at hd; cases hd) fun _ => ?_
    refine Ev.eq k1 ?_
    obtain ⟨y, l1, l2⟩ := ix_str (s := s) (i := 0) (by omega) (by omega)
    refine Ev.eq l1 ?_
    refine Ev.ite (fun _ => ?_) fun _ => Ev.ret trivial
    refine Ev.eq (subl1 hg) ?_
    refine Ev.eq (subl1 hs) ?_
    exact Ev.bind step fun r _ => Ev.ret trivial
theorem v_l1Fits (a) (h1 : Bd a.1.1.length) (h2 : Bd a.1.2.1.length) (hn : NoBr a.1.1) : Ev (f144 a) (fun _ => True) := by
 obtain ⟨⟨(g : Str), (s : Str), u⟩, u'⟩ := a
 have h1 : g.length ≤ 2097152 := h1
 have h2 : s.length ≤ 2097152 := h2
 exact fits_ev jxk g s hn (by unfold jxk; omega)
theorem match_ev : ∀ (n : Nat) (g s : List Str), (∀ x, x ∈ g → NoBr x ∧ Bd x.length) → (∀ x, x ∈ s → Bd x.length) → g.length + s.length < n → Ev (jqX ff132 n ((g, (s, ())), ())) (fun _ => True) := by
 intro n
 induction n with
 | zero => intro g s _ _ h; omega
 | succ n ih =>
  intro g s hn hs hl
  show Ev (ff132 (jqX ff132 n) _) _
  unfold ff132
  refine Ev.ite (fun _ => Ev.ret trivial) fun hg => ?_
  have hgp : 0 < g.length := by
   have hg : ((g.length : Int) == 0) = false := hg
   simp only [beq_eq_false_iff_ne, ne_eq] at hg; omega
  obtain ⟨x, k1, k2⟩ := ix_in (xs := g) (i := 0) (by omega) (by omega)
  refine Ev.eq k1 ?_
  have hd1 : ∀ x, x ∈ g.drop 1 → NoBr x ∧ Bd x.length := fun b hb => hn b (List.mem_of_mem_drop hb)
  have hs1 : ∀ x, x ∈ s.drop 1 → Bd x.length := fun b hb => hs b (List.mem_of_mem_drop hb)
  have hdl : (g.drop 1).length + 1 = g.length := by rw [List.length_drop]; omega
  refine Ev.ite (fun _ => ?_) fun _ => ?_
  ·refine Ev.eq (subl1L hgp) ?_
   refine Ev.bind (ih (g.drop 1) s hd1 hs (by omega)) fun r _ => ?_
   refine Ev.ite (fun _ => ?_) fun _ => Ev.ret trivial
   refine Ev.ite (fun hc => ?_) fun _ => Ev.ret trivial
   have hc : (s.length : Int) > 0 := of_decide_eq_true hc
   refine Ev.eq (subl1L (s := s) (by omega)) ?_
   exact Ev.bind (ih g (s.drop 1) hn hs1 (by rw [List.length_drop]; omega)) fun r _ => Ev.ret trivial
  ·refine Ev.ite (fun hc => ?_) fun _ => Ev.ret trivial
   have hc : (s.length : Int) > 0 := of_decide_eq_true hc
   refine Ev.eq k1 ?_
   obtain ⟨y, l1, l2⟩ := ix_in (xs := s) (i := 0) (by omega) (by omega)
   refine Ev.eq l1 ?_
   refine Ev.bind (v_l1Fits ((x, (y, ())), ()) (hn x k2).2 (hs y l2) (hn x k2).1) fun r _ => ?_
   refine Ev.ite (fun _ => ?_) fun _ => Ev.ret trivial
   refine Ev.eq (subl1L hgp) ?_
   refine Ev.eq (subl1L (s := s) (by omega)) ?_
   exact Ev.bind (ih (g.drop 1) (s.drop 1) hd1 hs1 (by rw [List.length_drop]; rw [List.length_drop]; omega)) fun r _ => Ev.ret trivial
theorem v_GlobHas (a) (h1 : a.1.1.length ≤ 200) (h2 : a.1.2.1.length ≤ 1048576) (hn : NoBr a.1.1) : Ev (f107 a) (fun _ => True) := by
 obtain ⟨⟨(g : Str), (s : Str), u⟩, u'⟩ := a
 have h1 : g.length ≤ 200 := h1
 have h2 : s.length ≤ 1048576 := h2
 unfold f107
 refine Ev.bind (v_GlobOk ((g, ()), ()) h1 hn) fun r _ => ?_
 refine Ev.ite (fun _ => ?_) fun _ => Ev.ret trivial
 refine Ev.eq (v_l1Path ((s, ()), ()) (by show s.length ≤ 2097152; omega)) ?_
 refine Ev.ite (fun _ => ?_) fun _ => Ev.ret trivial
 refine Ev.eq (v_l1Cut 47 ((g, ((47 : Int), (IntKind.i64.wrap ((g.length : Int) + 1), ()))), ()) (by show g.length ≤ 2097152; omega) rfl (jjn (by unfold Sm; omega))) ?_
 refine Ev.eq (v_l1Cut 47 ((s, ((47 : Int), (IntKind.i64.wrap ((s.length : Int) + 1), ()))), ()) (by show s.length ≤ 2097152; omega) rfl (jjn (by unfold Sm; omega))) ?_
 have g1 := jqN 47 g
 have s1 := jqN 47 s
 refine Ev.bind (P := fun _ => True) ?_ fun r _ => Ev.ret trivial
 exact match_ev jxk (jju 47 g) (jju 47 s) (fun x hx => ⟨splitL_nobr hn x hx, by have := jqM 47 g x hx; unfold Bd; omega⟩) (fun x hx => by have := jqM 47 s x hx; unfold Bd; omega) (by unfold jxk; omega)
theorem v_l1Below (a) (h1 : Bd a.1.1.length) : Ev (f133 a) (fun _ => True) := by
 obtain ⟨⟨(g : Str), (s : Str), u⟩, u'⟩ := a
 unfold f133
 refine Ev.ite (fun _ => ?_) fun _ => Ev.ret trivial
 refine Ev.ite (fun hc => ?_) fun _ => Ev.ret trivial
 have hc : (s.length : Int) > (g.length : Int) := of_decide_eq_true hc
 refine Ev.eq (jJo (xs := s) (b := g.length) (by omega)) ?_
 refine Ev.ite (fun _ => ?_) fun _ => Ev.ret trivial
 obtain ⟨x, k1, _⟩ := ix_str (s := s) (i := (g.length : Int)) (by omega) (by omega)
 exact Ev.eq k1 (Ev.ret trivial)
theorem v_l2Needed (a) (ht : ShT a.1.1) (hg : a.1.2.1.length ≤ 200) (hn : NoBr a.1.2.1) (hd : Sh a.1.2.2.1) : Ev (f108 a) (fun _ => True) := by
 obtain ⟨⟨(t : List Entry), (g : Str), (d : Str), u⟩, u'⟩ := a
 obtain ⟨ht1, ht2⟩ := ht
 have ht1 : t.length ≤ 16 := ht1
 have hd : d.length ≤ 200 := hd
 unfold f108
 refine Ev.bind (P := fun _ => True) ?_ fun r _ => ?_
 ·refine Ev.loop (fun (k : Nat) y => y.1.1 = t ∧ y.1.2.1 = g ∧ y.1.2.2.1 = d ∧ (0 : Int) ≤ y.1.2.2.2.1 ∧ (y.1.2.2.2.1 : Int) + k = t.length) (fun k y hy => ?_) t.length _ ⟨rfl, rfl, rfl, Int.le_refl _, by show (0 : Int) + _ = _; omega⟩
  obtain ⟨⟨(t1 : List Entry), (g1 : Str), (d1 : Str), (i : Int), u⟩, u'⟩ := y
  obtain ⟨y1, y2, y3, y4, y5⟩ := hy
  have y1 : t1 = t := y1
  have y2 : g1 = g := y2
  have y3 : d1 = d := y3
  subst y1 y2 y3
  have y4 : 0 ≤ i := y4
  have y5 : i + k = t1.length := y5
  unfold g108_26
  refine Ev.ite (fun hc => ?_) fun _ => Ev.ret trivial
  have hc : i < (t1.length : Int) := of_decide_eq_true hc
  have hw : IntKind.i64.wrap (i + 1) = i + 1 := jjE (by omega) (by omega)
  obtain ⟨x, k1, k2⟩ := ix_in (xs := t1) y4 hc
  have piece : Ev (jzj ((t1, (g1, (d1, (i, ())))), ())) (fun r => r.1.1 = t1 ∧ r.1.2.1 = g1 ∧ r.1.2.2.1 = d1 ∧ r.1.2.2.2.1 = i) := by
   unfold jzj
   refine Ev.eq k1 ?_
   refine Ev.bind (v_l1Below ((d1, (x.path, ())), ()) (by show d1.length ≤ 2097152; omega)) fun r _ => ?_
   refine Ev.ite (fun _ => ?_) fun _ => Ev.ret ⟨rfl, rfl, rfl, rfl⟩
   refine Ev.eq k1 ?_
   exact Ev.bind (v_GlobHas ((g1, (x.path, ())), ()) hg (Nat.le_trans (ht2 x k2).1 (by decide)) hn) fun r _ => Ev.ret ⟨rfl, rfl, rfl, rfl⟩
  refine Ev.bind piece fun r hr => ?_
  obtain ⟨⟨(t2' : List Entry), (g2 : Str), (d2 : Str), (i2 : Int), (c : Bool), v⟩, v'⟩ := r
  obtain ⟨r1, r2, r3, r4⟩ := hr
  have r1 : t2' = t1 := r1
  have r2 : g2 = g1 := r2
  have r3 : d2 = d1 := r3
  have r4 : i2 = i := r4
  subst r1 r2 r3 r4
  refine Ev.ite (fun _ => Ev.ret trivial) fun _ => ?_
  refine Ev.ret ⟨k - 1, by omega, rfl, rfl, rfl, ?_, ?_⟩
  ·show 0 ≤ IntKind.i64.wrap (i2 + 1); rw [hw]; omega
  ·show IntKind.i64.wrap (i2 + 1) + ((k - 1 : Nat) : Int) = _; rw [hw]; omega
 ·cases r with
  | inl r => exact Ev.ret trivial
  | inr r => exact Ev.ret trivial
theorem v_TreePart (a) (ht : ShT a.1.1) (hg : a.1.2.1.length ≤ 200) (hn : NoBr a.1.2.1) : Ev (f84 a) (fun r => ShT r.2.1) := by
 obtain ⟨⟨(t : List Entry), (g : Str), u⟩, u'⟩ := a
 obtain ⟨ht1, ht2⟩ := ht
 have ht1 : t.length ≤ 16 := ht1
 have hg : g.length ≤ 200 := hg
 have hbE : BdEs t := ⟨by show t.length ≤ 2097152; omega, fun e he => ⟨Nat.le_trans (ht2 e he).1 (by decide), Nat.le_trans (ht2 e he).2 (by decide)⟩⟩
 unfold f84
 refine Ev.bind (P := fun r => ShT r.2.1) ?_ fun r hr => Ev.ret hr
 refine Ev.loop (fun (k : Nat) y => y.1.1 = t ∧ y.1.2.1 = g ∧ (0 : Int) ≤ y.1.2.2.2.1 ∧ (y.1.2.2.2.1 : Int) + k = t.length ∧ ((y.2.1 : List Entry).length : Int) ≤ y.1.2.2.2.1 ∧ ∀ e, e ∈ (y.2.1 : List Entry) → ShE e) (fun k y hy => ?_) t.length _
  ⟨rfl, rfl, Int.le_refl _, by show (0 : Int) + _ = _; omega, by show (0 : Int) ≤ 0; omega, fun e he => by cases he⟩
 obtain ⟨⟨(t1 : List Entry), (g1 : Str), u1, (i : Int), u⟩, (out : List Entry), u'⟩ := y
 obtain ⟨y1, y2, y3, y4, y5, y6⟩ := hy
 have y1 : t1 = t := y1
 have y2 : g1 = g := y2
 subst y1 y2
 have y3 : 0 ≤ i := y3
 have y4 : i + k = t1.length := y4
 have y5 : (out.length : Int) ≤ i := y5
 unfold g84_58
 refine Ev.ite (fun hc => ?_) fun _ => Ev.ret ⟨by show out.length ≤ 16; omega, y6⟩
 have hc : i < (t1.length : Int) := of_decide_eq_true hc
 have hw : IntKind.i64.wrap (i + 1) = i + 1 := jjE (by omega) (by omega)
 obtain ⟨x, k1, k2⟩ := ix_in (xs := t1) y3 hc
 refine Ev.eq (v_TreeOk ((t1, ()), ()) hbE) ?_
 refine Ev.ite (fun _ => ?_) fun _ => Ev.ret ⟨by show out.length ≤ 16; omega, y6⟩
 have piece : Ev (jzd ((t1, (g1, ((), (i, ())))), (out, ()))) (fun r => r.1.1 = t1 ∧ r.1.2.1 = g1 ∧ r.1.2.2.2.1 = i ∧ r.2.1 = out) := by
  unfold jzd
  refine Ev.eq k1 ?_
  refine Ev.bind (v_GlobHas ((g1, (x.path, ())), ()) hg (Nat.le_trans (ht2 x k2).1 (by decide)) hn) fun r _ => ?_
  refine Ev.ite (fun _ => ?_) fun _ => Ev.ret ⟨rfl, rfl, rfl, rfl⟩
  refine Ev.eq k1 ?_
  refine Ev.ite (fun _ => ?_) fun _ => Ev.ret ⟨rfl, rfl, rfl, rfl⟩
  refine Ev.eq k1 ?_
  exact Ev.bind (v_l2Needed ((t1, (g1, (x.path, ()))), ()) ⟨ht1, ht2⟩ hg hn (ht2 x k2).1) fun r _ => Ev.ret ⟨rfl, rfl, rfl, rfl⟩
 refine Ev.bind piece fun r hr => ?_
 obtain ⟨⟨(t2' : List Entry), (g2 : Str), w1, (i2 : Int), (c : Bool), v⟩, (out2 : List Entry), v'⟩ := r
 obtain ⟨r1, r2, r3, r4⟩ := hr
 have r1 : t2' = t1 := r1
 have r2 : g2 = g1 := r2
 have r3 : i2 = i := r3
 have r4 : out2 = out := r4
 subst r1 r2 r3 r4
 refine Ev.ite (fun _ => ?_) fun _ => ?_
 ·refine Ev.eq k1 ?_
  refine Ev.eq (jqi (by decide) (by unfold Sm; simp; omega)) ?_
  refine Ev.ret ⟨k - 1, by omega, rfl, rfl, ?_, ?_, ?_, fun e he => ?_⟩
  ·show 0 ≤ IntKind.i64.wrap (i2 + 1); rw [hw]; omega
  ·show IntKind.i64.wrap (i2 + 1) + ((k - 1 : Nat) : Int) = _; rw [hw]; omega
  ·show ((out2 ++ [x]).length : Int) ≤ IntKind.i64.wrap (i2 + 1); rw [hw]; simp; omega
  ·have he : e ∈ out2 ++ [x] := he
   rcases List.mem_append.1 he with he | he
   ·exact y6 e he
   ·rw [List.mem_singleton.1 he]; exact ht2 x k2
 ·refine Ev.ret ⟨k - 1, by omega, rfl, rfl, ?_, ?_, ?_, y6⟩
  ·show 0 ≤ IntKind.i64.wrap (i2 + 1); rw [hw]; omega
  ·show IntKind.i64.wrap (i2 + 1) + ((k - 1 : Nat) : Int) = _; rw [hw]; omega
  ·show (out2.length : Int) ≤ IntKind.i64.wrap (i2 + 1); rw [hw]; omega
theorem dec_ev : ∀ (n : Nat) (x : Int), 0 ≤ x → x ≤ 100000 → x < n → Ev (jqX ff111 n ((x, ()), ())) (fun r => ((r.1.1 : Str).length : Int) ≤ x + 1) := by
 intro n
 induction n with
 | zero => intro x h0 _ h; omega
 | succ n ih =>
  intro x h0 h1 hl
  show Ev (ff111 (jqX ff111 n) _) _
  unfold ff111
  refine Ev.ite (fun hc => ?_) fun _ => ?_
  ·have hc : x < -9223372036854775807 := of_decide_eq_true hc
   omega
  refine Ev.ite (fun hc => ?_) fun _ => ?_
  ·have hc : x < 0 := of_decide_eq_true hc
   omega
  refine Ev.ite (fun hc => ?_) fun hc => ?_
  ·exact Ev.ret (by show ((strOf [_]).length : Int) ≤ x + 1; simp [strOf]; omega)
  ·have hc : ¬ x < 10 := of_decide_eq_false hc
   refine Ev.eq (quo_nn (x := x) rfl h0 (by omega) (by decide)) ?_
   refine Ev.bind (ih (x / 10) (by omega) (by omega) (by omega)) fun r hr => ?_
   refine Ev.eq (rem_nn (x := x) h0 (by decide)) ?_
   have hr : ((r.1.1 : Str).length : Int) ≤ x / 10 + 1 := hr
   refine Ev.eq (ev_cat (s := r.1.1) (by simp [strOf]; omega)) ?_
   exact Ev.ret (by show (((r.1.1 : Str) ++ strOf [_]).length : Int) ≤ x + 1; rw [List.length_append]; simp [strOf]; omega)
theorem v_l1Dec (a) (h0 : (0 : Int) ≤ a.1.1) (h1 : (a.1.1 : Int) ≤ 100) : Ev (f111 a) (fun r => (r.1.1 : Str).length ≤ 101) := by
 obtain ⟨⟨(x : Int), u⟩, u'⟩ := a
 have h0 : 0 ≤ x := h0
 have h1 : x ≤ 100 := h1
 exact (dec_ev jxk x h0 (by omega) (by unfold jxk; omega)).mono fun r hr => by have hr : ((r.1.1 : Str).length : Int) ≤ x + 1 := hr; omega
theorem v_l11Tree (a) (m : Nat) (h : RD a.2.1.1 a.2.1.2.1 m) (hm : 40 ≤ m) : Ev (f85v0 a) (fun r => RD r.2.1.1 r.2.1.2.1 (m - 40) ∧ ShT r.2.2.1) := by
 obtain ⟨⟨u1, u2⟩, ⟨⟨(b : List Int), (p : Int), u3⟩, u4⟩⟩ := a
 have h : RD b p m := h
 unfold f85v0
 refine Ev.bind (P := fun r => RD r.2.1.1 r.2.1.2.1 (m - 5) ∧ ShT r.2.2.1) ?_ fun r1 h1 => ?_
 ·refine Ev.loop (fun (k : Nat) y => k ≤ 5 ∧ (0 : Int) ≤ y.1.2.2.2.1 ∧ (y.1.2.2.2.1 : Int) + k = 5 ∧ (y.2.2.2.1 : List Str) = [[97], [108, 105, 98], [98, 105, 110], [100, 111, 99], [97, 47, 98]] ∧ RD y.2.1.1 y.2.1.2.1 (m - (5 - k)) ∧ ShT y.2.2.1) (fun k y hy => ?_) 5 _
   ⟨Nat.le_refl _, Int.le_refl _, by show (0 : Int) + (5 : Nat) = 5; rfl, rfl, h, by show (0 : Nat) ≤ 16; decide, fun e he => by cases he⟩
  obtain ⟨⟨w1, w2, w3, (i : Int), w4⟩, ⟨⟨(b' : List Int), (p' : Int), w5⟩, (t : List Entry), (L : List Str), w6⟩⟩ := y
  obtain ⟨y1, y2, y3, y4, y5, y6⟩ := hy
  have y2 : 0 ≤ i := y2
  have y3 : i + k = 5 := y3
  have y4 : L = _ := y4
  have hL : L.length = 5 := by rw [y4]; rfl
  have hLs : ∀ s, s ∈ L → Sh s := by rw [y4]; exact fun s hs => sh_all (by rfl) hs
  have y5 : RD b' p' (m - (5 - k)) := y5
  have y6 : ShT t := y6
  unfold g85v0_122
  refine Ev.ite (fun hc => ?_) fun hc => ?_
  ·have hc : i < (L.length : Int) := of_decide_eq_true hc
   have hw : IntKind.i64.wrap (i + 1) = i + 1 := jjE (by omega) (by omega)
   obtain ⟨j, rfl⟩ := Int.eq_ofNat_of_zero_le y2
   have hj : j < L.length := by omega
   refine Ev.bind (jqs _ _ y5 (by omega)) fun r hr => ?_
   have hR : RD r.2.1.1 r.2.1.2.1 (m - (5 - (k - 1))) := hr.1.less (by omega)
   refine Ev.ite (fun _ => ?_) fun _ => ?_
   ·refine Ev.eq (jqP hj) ?_
    refine Ev.eq (List.getElem?_eq_getElem hj) ?_
    have hsh : Sh L[j] := hLs _ (List.getElem_mem hj)
    refine Ev.bind (v_l2Put ((t, ((L[j], ((1 : Int), ((7 : Int), (([] : Str), ())))), ())), ()) y6 ⟨hsh, by show (0 : Nat) ≤ 200; decide⟩) fun r2 h2 => ?_
    refine Ev.ret ⟨k - 1, by omega, by omega, ?_, ?_, y4, hR, h2⟩
    ·show 0 ≤ IntKind.i64.wrap ((j : Int) + 1); rw [hw]; omega
    ·show IntKind.i64.wrap ((j : Int) + 1) + ((k - 1 : Nat) : Int) = 5; rw [hw]; omega
   ·refine Ev.ret ⟨k - 1, by omega, by omega, ?_, ?_, y4, hR, y6⟩
    ·show 0 ≤ IntKind.i64.wrap ((j : Int) + 1); rw [hw]; omega
    ·show IntKind.i64.wrap ((j : Int) + 1) + ((k - 1 : Nat) : Int) = 5; rw [hw]; omega
  ·exact Ev.ret ⟨y5.less (by omega), y6⟩
 refine Ev.bind (jqs _ _ h1.1 (by omega)) fun r2 h2 => ?_
 obtain ⟨⟨v1, (q : Int), v2⟩, ⟨⟨(b1 : List Int), (p1 : Int), v3⟩, v4⟩⟩ := r2
 have h2n : q < 7 := h2.2.2 (by show (1 : Int) ≤ 7; decide)
 have h20 : 0 ≤ q := h2.2.1
 refine Ev.bind (P := fun r => RD r.2.1.1 r.2.1.2.1 (m - 34) ∧ ShT r.2.2.1) ?_ fun r3 h3 => ?_
 ·refine Ev.loop (fun (k : Nat) y => k ≤ 6 ∧ (y.1.2.2.1 : Int) = k ∧ RD y.2.1.1 y.2.1.2.1 (m - 34 + 4 * k) ∧ ShT y.2.2.1) (fun k y hy => ?_) q.toNat _
   ⟨by omega, by show q = _; omega, (by refine h2.1.less ?_; omega), h1.2⟩
  obtain ⟨⟨w1, w2, (i : Int), w4⟩, ⟨⟨(b' : List Int), (p' : Int), w5⟩, (t : List Entry), w6⟩⟩ := y
  obtain ⟨y1, y3, y5, y6⟩ := hy
  have y3 : i = k := y3
  subst y3
  have y5 : RD b' p' (m - 34 + 4 * k) := y5
  have y6 : ShT t := y6
  unfold g85v0_250
  refine Ev.ite (fun hc => ?_) fun hc => ?_
  ·have hc : (k : Int) > 0 := of_decide_eq_true hc
   have hw : IntKind.i64.wrap ((k : Int) - 1) = ((k - 1 : Nat) : Int) := by rw [jjE (by omega) (by omega)]; omega
   refine Ev.bind (v_l11Entry _ _ y5 (by omega)) fun r hr => ?_
   refine Ev.bind (v_l2Put ((t, ((r.2.2.1.1, (r.2.2.1.2.1, (r.2.2.1.2.2.1, (r.2.2.1.2.2.2.1, ())))), ())), ()) y6 hr.2) fun r2 h2 => ?_
   exact Ev.ret ⟨k - 1, by omega, by omega, hw, hr.1.less (by omega), h2⟩
  ·exact Ev.ret ⟨y5.less (by omega), y6⟩
 refine Ev.bind (jqs _ _ h3.1 (by omega)) fun r4 h4 => ?_
 refine Ev.ite (fun _ => ?_) fun _ => Ev.ret ⟨h4.1.less (by omega), h3.2⟩
 refine Ev.bind (P := fun r => RD r.2.1.1 r.2.1.2.1 (m - 34 - 1) ∧ ShT r.2.2.1) ?_ fun r5 h5 => Ev.ret ⟨h5.1.less (by omega), h5.2⟩
 refine Ev.loop (fun (k : Nat) y => (0 : Int) ≤ y.1.2.2.1 ∧ (y.1.2.2.1 : Int) + k = 16 ∧ RD y.2.1.1 y.2.1.2.1 (m - 34 - 1) ∧ ShT y.2.2.1) (fun k y hy => ?_) 16 _ ⟨Int.le_refl _, by show (0 : Int) + (16 : Nat) = 16; rfl, h4.1, h3.2⟩
 obtain ⟨⟨w1, w2, (i : Int), w4⟩, ⟨⟨(b' : List Int), (p' : Int), w5⟩, (t : List Entry), w6⟩⟩ := y
 obtain ⟨y1, y3, y5, y6⟩ := hy
 have y1 : 0 ≤ i := y1
 have y3 : i + k = 16 := y3
 have y6 : ShT t := y6
 unfold g85v0_2026
 refine Ev.ite (fun hc => ?_) fun hc => Ev.ret ⟨y5, y6⟩
 have hc : i < 16 := of_decide_eq_true hc
 have hw : IntKind.i64.wrap (i + 1) = i + 1 := jjE (by omega) (by omega)
 refine Ev.bind (v_l1Dec ((i, ()), ()) y1 (by show i ≤ 100; omega)) fun r hr => ?_
 have hr : (r.1.1 : Str).length ≤ 101 := hr
 refine Ev.eq (ev_cat (s := [102]) (t := r.1.1) (by show 1 + _ ≤ _; omega)) ?_
 refine Ev.bind (v_l2Put ((t, (((([102] : Str) ++ r.1.1, ((2 : Int), ((0 : Int), (([] : Str), ()))))), ())), ()) y6 ⟨by show ((([102] : Str) ++ r.1.1).length) ≤ 200; simp; omega, by show (0 : Nat) ≤ 200; decide⟩) fun r2 h2 => ?_
 refine Ev.ret ⟨k - 1, by omega, ?_, ?_, y5, h2⟩
 ·show 0 ≤ IntKind.i64.wrap (i + 1); rw [hw]; omega
 ·show IntKind.i64.wrap (i + 1) + ((k - 1 : Nat) : Int) = 16; rw [hw]; omega
noncomputable def c112v0 : Ctx := { tt := tt, fs := fun n => match n with | 17 => some jj6 | 18 => some jqj | 134 => some S134v0 | _ => none }
theorem k112v0 (h : ∀ T, (tt T).ok Tryz.prog T) (h17v0 : jja Tryz.prog 17 jj6) (h18v0 : jja Tryz.prog 18 jqj) (h134v0 : jja Tryz.prog 134 S134v0) : CtxGood Tryz.prog c112v0 := ⟨⟨h⟩, fun g S hg => (by
 simp only [c112v0] at hg
 split at hg
 ·cases hg; exact h17v0
 ·cases hg; exact h18v0
 ·cases hg; exact h134v0
 ·cases hg), jjv, fun _ _ h => (by cases h), fun _ h => (by cases h)⟩
noncomputable def b112v0 : Code := jjl Tryz.f112
@[reducible] noncomputable def i112v0 : Shape := ⟨[(0, .lf (.ptr 500000 0))], [(500000, .box [.d (.sl .u8), .d (.int .i64)], .same)], 11⟩
@[reducible] noncomputable def o112v0 : Shape := ⟨[(0, .lf (.ptr 500000 0)), (2, .lf (.d (.str)))], [(500000, .box [.d (.sl .u8), .d (.int .i64)], .same)], 11⟩
noncomputable def f112v0 (a : i112v0.Y) : Option o112v0.Y :=
(jqY (((), ((6 : Int), ())), ((a.2.1.1, (a.2.1.2.1, ())), ()))).bind fun r852 =>
 bif (r852.1.2.1 == (0 : Int)) then
(jzU (((), (([([] : Str), ([47] : Str), ([97, 47] : Str), ([47, 97] : Str), ([46] : Str), ([46, 46] : Str), ([97, 47, 47, 98] : Str), ([65] : Str), ([97, 47, 98, 47, 99, 47, 100, 47, 101, 47, 102] : Str), ([101, 108, 101, 118, 101, 110, 108, 101, 116, 116, 101] : Str), ([97, 32, 98] : Str), ([120, 47, 46, 46, 47, 121] : Str)] : List Str), ())), ((r852.2.1.1, (r852.2.1.2.1, ())), ()))).bind fun r853 =>
 some (((), (r853.1.2.1, ())), ((r853.2.1.1, (r853.2.1.2.1, ())), ()))
else
(f134v0 (((), ()), ((r852.2.1.1, (r852.2.1.2.1, ())), ()))).bind fun r854 =>
 some (((), (r854.1.2.1, ())), ((r854.2.1.1, (r854.2.1.2.1, ())), ()))
theorem e112v0 : ∀ a, f112v0 a = jjt (jjd c112v0 []) b112v0 i112v0 o112v0 a := fun a => by kernel_rfl
noncomputable def S112v0 : jjM := jjg tt 11 i112v0 o112v0 [.tmp 2] [0] f112v0
theorem z112v0 (h : ∀ T, (tt T).ok Tryz.prog T) (h17v0 : jja Tryz.prog 17 jj6) (h18v0 : jja Tryz.prog 18 jqj) (h134v0 : jja Tryz.prog 134 S134v0) : jja Tryz.prog 112 S112v0 :=
 have H := k112v0 h h17v0 h18v0 h134v0
 jjm (fn := Tryz.f112) (fr := []) H (by kernel_rfl) (by kernel_rfl) (by kernel_rfl) (by kernel_rfl) (by kernel_rfl) jje (by kernel_rfl) (fun y => ⟨_, _, rfl, rfl, rfl⟩) e112v0
noncomputable def c60v0 : Ctx := { tt := tt, fs := fun n => match n with | 17 => some jj6 | 18 => some jqj | 32 => some S32v0 | _ => none }
theorem k60v0 (h : ∀ T, (tt T).ok Tryz.prog T) (h17v0 : jja Tryz.prog 17 jj6) (h18v0 : jja Tryz.prog 18 jqj) (h32v0 : jja Tryz.prog 32 S32v0) : CtxGood Tryz.prog c60v0 := ⟨⟨h⟩, fun g S hg => (by
 simp only [c60v0] at hg
 split at hg
 ·cases hg; exact h17v0
 ·cases hg; exact h18v0
 ·cases hg; exact h32v0
 ·cases hg), jjv, fun _ _ h => (by cases h), fun _ h => (by cases h)⟩
noncomputable def b60v0 : Code := jjl Tryz.f60
@[reducible] noncomputable def i60v0 : Shape := ⟨[(0, .lf (.ptr 500000 0))], [(500000, .box [.d (.sl .u8), .d (.int .i64)], .same)], 17⟩
@[reducible] noncomputable def o60v0 : Shape := ⟨[(0, .lf (.ptr 500000 0)), (2, .lf (.ptr 2 0))], [(500000, .box [.d (.sl .u8), .d (.int .i64)], .same), (2, .box [.d (.str), .d (.int .i64), .d (.str)], .same)], 17⟩
noncomputable def f60v0 (a : i60v0.Y) : Option o60v0.Y :=
(jzU (((), (([([111, 110, 101] : Str), ([116, 119, 111] : Str), ([116, 104, 114, 101, 101] : Str), ([122, 105, 112] : Str)] : List Str), ())), ((a.2.1.1, (a.2.1.2.1, ())), ()))).bind fun r776 =>
(jqY (((), ((4 : Int), ())), ((r776.2.1.1, (r776.2.1.2.1, ())), ()))).bind fun r777 =>
 bif (r777.1.2.1 != (0 : Int)) then
(f32v0 (((), ()), ((r777.2.1.1, (r777.2.1.2.1, ())), ()))).bind fun r778 =>
 some (((), ((), ())), ((r778.2.1.1, (r778.2.1.2.1, ())), ((r776.1.2.1, (r777.1.2.1, (r778.1.2.1, ()))), ())))
else
 some (((), ((), ())), ((r777.2.1.1, (r777.2.1.2.1, ())), ((r776.1.2.1, (r777.1.2.1, (([] : Str), ()))), ())))
theorem e60v0 : ∀ a, f60v0 a = jjt (jjd c60v0 []) b60v0 i60v0 o60v0 a := fun a => by kernel_rfl
noncomputable def S60v0 : jjM := jjg tt 17 i60v0 o60v0 [.cell 2 37] [0] f60v0
theorem z60v0 (h : ∀ T, (tt T).ok Tryz.prog T) (h17v0 : jja Tryz.prog 17 jj6) (h18v0 : jja Tryz.prog 18 jqj) (h32v0 : jja Tryz.prog 32 S32v0) : jja Tryz.prog 60 S60v0 :=
 have H := k60v0 h h17v0 h18v0 h32v0
 jjm (fn := Tryz.f60) (fr := []) H (by kernel_rfl) (by kernel_rfl) (by kernel_rfl) (by kernel_rfl) (by kernel_rfl) jje (by kernel_rfl) (fun y => ⟨_, _, rfl, rfl, rfl⟩) e60v0
noncomputable def c57v0 : Ctx := { tt := tt, fs := fun n => match n with | 17 => some jj6 | 18 => some jqj | 32 => some S32v0 | 60 => some S60v0 | 84 => some S84 | 85 => some S85v0 | _ => none }
theorem k57v0 (h : ∀ T, (tt T).ok Tryz.prog T) (h17v0 : jja Tryz.prog 17 jj6) (h18v0 : jja Tryz.prog 18 jqj) (h32v0 : jja Tryz.prog 32 S32v0) (h60v0 : jja Tryz.prog 60 S60v0) (h84 : jja Tryz.prog 84 S84) (h85v0 : jja Tryz.prog 85 S85v0) : CtxGood Tryz.prog c57v0 := ⟨⟨h⟩, fun g S hg => (by
 simp only [c57v0] at hg
 split at hg
 ·cases hg; exact h17v0
 ·cases hg; exact h18v0
 ·cases hg; exact h32v0
 ·cases hg; exact h60v0
 ·cases hg; exact h84
 ·cases hg; exact h85v0
 ·cases hg), jjv, fun _ _ h => (by cases h), fun _ h => (by cases h)⟩
noncomputable def b57v0 : Code := jjl Tryz.f57
@[reducible] noncomputable def i57v0 : Shape := ⟨[(0, .lf (.ptr 500000 0)), (1, .lf (.d (.str)))], [(500000, .box [.d (.sl .u8), .d (.int .i64)], .same)], 27⟩
@[reducible] noncomputable def o57v0 : Shape := ⟨[(0, .lf (.ptr 500000 0)), (4, .lf (.ptr 4 0))], [(500000, .box [.d (.sl .u8), .d (.int .i64)], .same), (5000258, .row .need, .cell 4 2), (5000259, .row .entry, .cell 4 3), (4, .box [.d (.str), .d (.str), .own 5000258, .own 5000259], .same)], 27⟩
noncomputable def f57v0 (a : i57v0.Y) : Option o57v0.Y :=
(f32v0 (((), ()), ((a.2.1.1, (a.2.1.2.1, ())), ()))).bind fun r785 =>
(f85v0 (((), ()), ((r785.2.1.1, (r785.2.1.2.1, ())), ()))).bind fun r786 =>
(jzU (((), (([([42, 42] : Str), ([97, 47, 42, 42] : Str), ([108, 105, 98, 47, 42, 42] : Str), ([100, 111, 99, 47, 42, 42] : Str), ([98, 42] : Str)] : List Str), ())), ((r786.2.1.1, (r786.2.1.2.1, ())), ()))).bind fun r787 =>
(f84 ((r786.2.2.1, (r787.1.2.1, ())), ())).bind fun r788 =>
(jqY (((), ((3 : Int), ())), ((r787.2.1.1, (r787.2.1.2.1, ())), ()))).bind fun r790 =>
 bif (r790.1.2.1 == (0 : Int)) then
(f60v0 (((), ()), ((r790.2.1.1, (r790.2.1.2.1, ())), ()))).bind fun r791 =>
(apd 40 ([] : List Need) ([(Need.mk r791.2.2.1.1 r791.2.2.1.2.1 r791.2.2.1.2.2.1)] : List Need)).bind fun x792 =>
 some (((), ((), ())), ((r791.2.1.1, (r791.2.1.2.1, ())), (x792, (r788.2.1, ((a.1.2.1, (r785.1.2.1, ((), ((), ())))), ())))))
else
 some (((), ((), ())), ((r790.2.1.1, (r790.2.1.2.1, ())), (([] : List Need), (r788.2.1, ((a.1.2.1, (r785.1.2.1, ((), ((), ())))), ())))))
theorem e57v0 : ∀ a, f57v0 a = jjt (jjd c57v0 []) b57v0 i57v0 o57v0 a := fun a => by kernel_rfl
noncomputable def S57v0 : jjM := jjg tt 27 i57v0 o57v0 [.cell 4 35] [0] f57v0
theorem z57v0 (h : ∀ T, (tt T).ok Tryz.prog T) (h17v0 : jja Tryz.prog 17 jj6) (h18v0 : jja Tryz.prog 18 jqj) (h32v0 : jja Tryz.prog 32 S32v0) (h60v0 : jja Tryz.prog 60 S60v0) (h84 : jja Tryz.prog 84 S84) (h85v0 : jja Tryz.prog 85 S85v0) : jja Tryz.prog 57 S57v0 :=
 have H := k57v0 h h17v0 h18v0 h32v0 h60v0 h84 h85v0
 jjm (fn := Tryz.f57) (fr := []) H (by kernel_rfl) (by kernel_rfl) (by kernel_rfl) (by kernel_rfl) (by kernel_rfl) jje (by kernel_rfl) (fun y => ⟨_, _, rfl, rfl, rfl⟩) e57v0
noncomputable def c58v0 : Ctx := { tt := tt, fs := fun n => match n with | 17 => some jj6 | 18 => some jqj | 32 => some S32v0 | _ => none }
theorem k58v0 (h : ∀ T, (tt T).ok Tryz.prog T) (h17v0 : jja Tryz.prog 17 jj6) (h18v0 : jja Tryz.prog 18 jqj) (h32v0 : jja Tryz.prog 32 S32v0) : CtxGood Tryz.prog c58v0 := ⟨⟨h⟩, fun g S hg => (by
 simp only [c58v0] at hg
 split at hg
 ·cases hg; exact h17v0
 ·cases hg; exact h18v0
 ·cases hg; exact h32v0
 ·cases hg), jjv, fun _ _ h => (by cases h), fun _ h => (by cases h)⟩
noncomputable def b58v0 : Code := jjl Tryz.f58
@[reducible] noncomputable def i58v0 : Shape := ⟨[(0, .lf (.ptr 500000 0))], [(500000, .box [.d (.sl .u8), .d (.int .i64)], .same)], 11⟩
@[reducible] noncomputable def o58v0 : Shape := ⟨[(0, .lf (.ptr 500000 0)), (2, .lf (.d (.str)))], [(500000, .box [.d (.sl .u8), .d (.int .i64)], .same)], 11⟩
noncomputable def f58v0 (a : i58v0.Y) : Option o58v0.Y :=
(jqY (((), ((6 : Int), ())), ((a.2.1.1, (a.2.1.2.1, ())), ()))).bind fun r810 =>
 bif (r810.1.2.1 == (0 : Int)) then
(jzU (((), (([([] : Str), ([46] : Str), ([49, 46] : Str), ([48, 49] : Str), ([49, 48, 48, 48] : Str), ([49, 46, 50, 46, 51, 46, 52, 46, 53] : Str), ([97] : Str), ([49, 46, 45, 49] : Str)] : List Str), ())), ((r810.2.1.1, (r810.2.1.2.1, ())), ()))).bind fun r811 =>
 some (((), (r811.1.2.1, ())), ((r811.2.1.1, (r811.2.1.2.1, ())), ()))
else
(f32v0 (((), ()), ((r810.2.1.1, (r810.2.1.2.1, ())), ()))).bind fun r812 =>
 some (((), (r812.1.2.1, ())), ((r812.2.1.1, (r812.2.1.2.1, ())), ()))
theorem e58v0 : ∀ a, f58v0 a = jjt (jjd c58v0 []) b58v0 i58v0 o58v0 a := fun a => by kernel_rfl
noncomputable def S58v0 : jjM := jjg tt 11 i58v0 o58v0 [.tmp 2] [0] f58v0
theorem z58v0 (h : ∀ T, (tt T).ok Tryz.prog T) (h17v0 : jja Tryz.prog 17 jj6) (h18v0 : jja Tryz.prog 18 jqj) (h32v0 : jja Tryz.prog 32 S32v0) : jja Tryz.prog 58 S58v0 :=
 have H := k58v0 h h17v0 h18v0 h32v0
 jjm (fn := Tryz.f58) (fr := []) H (by kernel_rfl) (by kernel_rfl) (by kernel_rfl) (by kernel_rfl) (by kernel_rfl) jje (by kernel_rfl) (fun y => ⟨_, _, rfl, rfl, rfl⟩) e58v0
noncomputable def c59v0 : Ctx := { tt := tt, fs := fun n => match n with | 17 => some jj6 | 18 => some jqj | 58 => some S58v0 | 60 => some S60v0 | _ => none }
theorem k59v0 (h : ∀ T, (tt T).ok Tryz.prog T) (h17v0 : jja Tryz.prog 17 jj6) (h18v0 : jja Tryz.prog 18 jqj) (h58v0 : jja Tryz.prog 58 S58v0) (h60v0 : jja Tryz.prog 60 S60v0) : CtxGood Tryz.prog c59v0 := ⟨⟨h⟩, fun g S hg => (by
 simp only [c59v0] at hg
 split at hg
 ·cases hg; exact h17v0
 ·cases hg; exact h18v0
 ·cases hg; exact h58v0
 ·cases hg; exact h60v0
 ·cases hg), jjv, fun _ _ h => (by cases h), fun _ h => (by cases h)⟩
noncomputable def b59v0 : Code := jjl Tryz.f59
@[reducible] noncomputable def i59v0 : Shape := ⟨[(0, .lf (.ptr 500000 0))], [(500000, .box [.d (.sl .u8), .d (.int .i64)], .same)], 26⟩
@[reducible] noncomputable def o59v0 : Shape := ⟨[(0, .lf (.ptr 500000 0)), (2, .lf (.ptr 2 0))], [(500000, .box [.d (.sl .u8), .d (.int .i64)], .same), (2, .box [.d (.str), .d (.int .i64), .d (.str)], .same)], 26⟩
noncomputable def f59v0 (a : i59v0.Y) : Option o59v0.Y :=
(f60v0 (((), ()), ((a.2.1.1, (a.2.1.2.1, ())), ()))).bind fun r822 =>
(jqY (((), ((14 : Int), ())), ((r822.2.1.1, (r822.2.1.2.1, ())), ()))).bind fun r824 =>
 bif (r824.1.2.1 == (0 : Int)) then
(jzU (((), (([([] : Str), ([57] : Str), ([79, 110, 101] : Str), ([101, 108, 101, 118, 101, 110, 108, 101, 116, 116, 101] : Str)] : List Str), ())), ((r824.2.1.1, (r824.2.1.2.1, ())), ()))).bind fun r825 =>
 some (((), ((), ())), ((r825.2.1.1, (r825.2.1.2.1, ())), ((r825.1.2.1, (r822.2.2.1.2.1, (r822.2.2.1.2.2.1, ()))), ())))
else
 bif (r824.1.2.1 == (1 : Int)) then
(jqY (((), ((6 : Int), ())), ((r824.2.1.1, (r824.2.1.2.1, ())), ()))).bind fun r826 =>
 some (((), ((), ())), ((r826.2.1.1, (r826.2.1.2.1, ())), ((r822.2.2.1.1, ((IntKind.i64.wrap (r826.1.2.1 - (1 : Int))), (r822.2.2.1.2.2.1, ()))), ())))
else
 bif (r824.1.2.1 == (2 : Int)) then
(f58v0 (((), ()), ((r824.2.1.1, (r824.2.1.2.1, ())), ()))).bind fun r827 =>
 some (((), ((), ())), ((r827.2.1.1, (r827.2.1.2.1, ())), ((r822.2.2.1.1, (r822.2.2.1.2.1, (r827.1.2.1, ()))), ())))
else
 some (((), ((), ())), ((r824.2.1.1, (r824.2.1.2.1, ())), ((r822.2.2.1.1, (r822.2.2.1.2.1, (r822.2.2.1.2.2.1, ()))), ())))
theorem e59v0 : ∀ a, f59v0 a = jjt (jjd c59v0 []) b59v0 i59v0 o59v0 a := fun a => by kernel_rfl
noncomputable def S59v0 : jjM := jjg tt 26 i59v0 o59v0 [.cell 2 37] [0] f59v0
theorem z59v0 (h : ∀ T, (tt T).ok Tryz.prog T) (h17v0 : jja Tryz.prog 17 jj6) (h18v0 : jja Tryz.prog 18 jqj) (h58v0 : jja Tryz.prog 58 S58v0) (h60v0 : jja Tryz.prog 60 S60v0) : jja Tryz.prog 59 S59v0 :=
 have H := k59v0 h h17v0 h18v0 h58v0 h60v0
 jjm (fn := Tryz.f59) (fr := []) H (by kernel_rfl) (by kernel_rfl) (by kernel_rfl) (by kernel_rfl) (by kernel_rfl) jje (by kernel_rfl) (fun y => ⟨_, _, rfl, rfl, rfl⟩) e59v0
noncomputable def c87v0 : Ctx := { tt := tt, fs := fun n => match n with | 17 => some jj6 | 18 => some jqj | 110 => some S110v0 | 112 => some S112v0 | 113 => some S113v0 | 114 => some S114 | _ => none }
theorem k87v0 (h : ∀ T, (tt T).ok Tryz.prog T) (h17v0 : jja Tryz.prog 17 jj6) (h18v0 : jja Tryz.prog 18 jqj) (h110v0 : jja Tryz.prog 110 S110v0) (h112v0 : jja Tryz.prog 112 S112v0) (h113v0 : jja Tryz.prog 113 S113v0) (h114 : jja Tryz.prog 114 S114) : CtxGood Tryz.prog c87v0 := ⟨⟨h⟩, fun g S hg => (by
 simp only [c87v0] at hg
 split at hg
 ·cases hg; exact h17v0
 ·cases hg; exact h18v0
 ·cases hg; exact h110v0
 ·cases hg; exact h112v0
 ·cases hg; exact h113v0
 ·cases hg; exact h114
 ·cases hg), jjv, fun _ _ h => (by cases h), fun _ h => (by cases h)⟩
noncomputable def b87v0 : Code := jjl Tryz.f87
@[reducible] noncomputable def i87v0 : Shape := ⟨[(0, .lf (.ptr 500000 0))], [(500000, .box [.d (.sl .u8), .d (.int .i64)], .same)], 32⟩
@[reducible] noncomputable def o87v0 : Shape := ⟨[(0, .lf (.ptr 500000 0)), (2, .lf (.ptr 2 0))], [(500000, .box [.d (.sl .u8), .d (.int .i64)], .same), (2, .box [.d (.str), .d (.int .i64), .d (.int .i64), .d (.str)], .same)], 32⟩
noncomputable def f87v0 (a : i87v0.Y) : Option o87v0.Y :=
(f110v0 (((), ()), ((a.2.1.1, (a.2.1.2.1, ())), ()))).bind fun r861 =>
(jqY (((), ((14 : Int), ())), ((r861.2.1.1, (r861.2.1.2.1, ())), ()))).bind fun r863 =>
 bif (r863.1.2.1 == (0 : Int)) then
(f112v0 (((), ()), ((r863.2.1.1, (r863.2.1.2.1, ())), ()))).bind fun r864 =>
 some (((), ((), ())), ((r864.2.1.1, (r864.2.1.2.1, ())), ((r864.1.2.1, (r861.2.2.1.2.1, (r861.2.2.1.2.2.1, (r861.2.2.1.2.2.2.1, ())))), ())))
else
 bif (r863.1.2.1 == (1 : Int)) then
(jqY (((), ((5 : Int), ())), ((r863.2.1.1, (r863.2.1.2.1, ())), ()))).bind fun r865 =>
 some (((), ((), ())), ((r865.2.1.1, (r865.2.1.2.1, ())), ((r861.2.2.1.1, (r865.1.2.1, (r861.2.2.1.2.2.1, (r861.2.2.1.2.2.2.1, ())))), ())))
else
 bif (r863.1.2.1 == (2 : Int)) then
(f113v0 (((), (([((-1) : Int), (8 : Int), (0 : Int)] : List Int), ())), ((r863.2.1.1, (r863.2.1.2.1, ())), ()))).bind fun r866 =>
 some (((), ((), ())), ((r866.2.1.1, (r866.2.1.2.1, ())), ((r861.2.2.1.1, (r861.2.2.1.2.1, (r866.1.2.1, (r861.2.2.1.2.2.2.1, ())))), ())))
else
 bif (r863.1.2.1 == (3 : Int)) then
(f114 ((([117] : Str), ((81 : Int), ())), ())).bind fun r867 =>
(jzU (((), (([([1] : Str), r867.1.1, ([120] : Str), ([] : Str)] : List Str), ())), ((r863.2.1.1, (r863.2.1.2.1, ())), ()))).bind fun r868 =>
 some (((), ((), ())), ((r868.2.1.1, (r868.2.1.2.1, ())), ((r861.2.2.1.1, (r861.2.2.1.2.1, (r861.2.2.1.2.2.1, (r868.1.2.1, ())))), ())))
else
 some (((), ((), ())), ((r863.2.1.1, (r863.2.1.2.1, ())), ((r861.2.2.1.1, (r861.2.2.1.2.1, (r861.2.2.1.2.2.1, (r861.2.2.1.2.2.2.1, ())))), ())))
theorem e87v0 : ∀ a, f87v0 a = jjt (jjd c87v0 []) b87v0 i87v0 o87v0 a := fun a => by kernel_rfl
noncomputable def S87v0 : jjM := jjg tt 32 i87v0 o87v0 [.cell 2 100] [0] f87v0
theorem z87v0 (h : ∀ T, (tt T).ok Tryz.prog T) (h17v0 : jja Tryz.prog 17 jj6) (h18v0 : jja Tryz.prog 18 jqj) (h110v0 : jja Tryz.prog 110 S110v0) (h112v0 : jja Tryz.prog 112 S112v0) (h113v0 : jja Tryz.prog 113 S113v0) (h114 : jja Tryz.prog 114 S114) : jja Tryz.prog 87 S87v0 :=
 have H := k87v0 h h17v0 h18v0 h110v0 h112v0 h113v0 h114
 jjm (fn := Tryz.f87) (fr := []) H (by kernel_rfl) (by kernel_rfl) (by kernel_rfl) (by kernel_rfl) (by kernel_rfl) jje (by kernel_rfl) (fun y => ⟨_, _, rfl, rfl, rfl⟩) e87v0
noncomputable def c61v0 : Ctx := { tt := tt, fs := fun n => match n with | 17 => some jj6 | 85 => some S85v0 | 86 => some S86 | 87 => some S87v0 | _ => none }
theorem k61v0 (h : ∀ T, (tt T).ok Tryz.prog T) (h17v0 : jja Tryz.prog 17 jj6) (h85v0 : jja Tryz.prog 85 S85v0) (h86 : jja Tryz.prog 86 S86) (h87v0 : jja Tryz.prog 87 S87v0) : CtxGood Tryz.prog c61v0 := ⟨⟨h⟩, fun g S hg => (by
 simp only [c61v0] at hg
 split at hg
 ·cases hg; exact h17v0
 ·cases hg; exact h85v0
 ·cases hg; exact h86
 ·cases hg; exact h87v0
 ·cases hg), jjv, fun _ _ h => (by cases h), fun _ h => (by cases h)⟩
noncomputable def b61v0 : Code := jjl Tryz.f61
@[reducible] noncomputable def i61v0 : Shape := ⟨[(0, .lf (.ptr 500000 0))], [(500000, .box [.d (.sl .u8), .d (.int .i64)], .same)], 30⟩
@[reducible] noncomputable def o61v0 : Shape := ⟨[(0, .lf (.ptr 500000 0)), (2, .lf (.own 3000128))], [(500000, .box [.d (.sl .u8), .d (.int .i64)], .same), (3000128, .row .entry, .slot 2 0)], 30⟩
noncomputable def f61v0 (a : i61v0.Y) : Option o61v0.Y :=
(f85v0 (((), ()), ((a.2.1.1, (a.2.1.2.1, ())), ()))).bind fun r877 =>
(f86 ((r877.2.2.1, ()), ())).bind fun r878 =>
(jqY (((), ((14 : Int), ())), ((r877.2.1.1, (r877.2.1.2.1, ())), ()))).bind fun r880 =>
 bif (r880.1.2.1 == (0 : Int)) then
(f87v0 (((), ()), ((r880.2.1.1, (r880.2.1.2.1, ())), ()))).bind fun r881 =>
(apd 48 r878.2.1 ([(Entry.mk r881.2.2.1.1 r881.2.2.1.2.1 r881.2.2.1.2.2.1 r881.2.2.1.2.2.2.1)] : List Entry)).bind fun x882 =>
 some (((), ((), ())), ((r881.2.1.1, (r881.2.1.2.1, ())), (x882, ())))
else
 bif (r880.1.2.1 == (1 : Int)) then
 bif (decide ((r878.2.1.length : Int) > (0 : Int))) then
(jqY (((), ((r878.2.1.length : Int), ())), ((r880.2.1.1, (r880.2.1.2.1, ())), ()))).bind fun r883 =>
(f87v0 (((), ()), ((r883.2.1.1, (r883.2.1.2.1, ())), ()))).bind fun r884 =>
(inb r878.2.1.length r883.1.2.1).bind fun x885 =>
((r878.2.1[x885]?).bind fun q => some (Entry.mk r884.2.2.1.1 r884.2.2.1.2.1 r884.2.2.1.2.2.1 r884.2.2.1.2.2.2.1)).bind fun x886 =>
 some (((), ((), ())), ((r884.2.1.1, (r884.2.1.2.1, ())), ((r878.2.1.set x885 x886), ())))
else
 some (((), ((), ())), ((r880.2.1.1, (r880.2.1.2.1, ())), (r878.2.1, ())))
else
 some (((), ((), ())), ((r880.2.1.1, (r880.2.1.2.1, ())), (r878.2.1, ())))
theorem e61v0 : ∀ a, f61v0 a = jjt (jjd c61v0 []) b61v0 i61v0 o61v0 a := fun a => by kernel_rfl
noncomputable def S61v0 : jjM := jjg tt 30 i61v0 o61v0 [.tmp 2] [0] f61v0
theorem z61v0 (h : ∀ T, (tt T).ok Tryz.prog T) (h17v0 : jja Tryz.prog 17 jj6) (h85v0 : jja Tryz.prog 85 S85v0) (h86 : jja Tryz.prog 86 S86) (h87v0 : jja Tryz.prog 87 S87v0) : jja Tryz.prog 61 S61v0 :=
 have H := k61v0 h h17v0 h85v0 h86 h87v0
 jjm (fn := Tryz.f61) (fr := []) H (by kernel_rfl) (by kernel_rfl) (by kernel_rfl) (by kernel_rfl) (by kernel_rfl) jje (by kernel_rfl) (fun y => ⟨_, _, rfl, rfl, rfl⟩) e61v0
noncomputable def c33v0 : Ctx := { tt := tt, fs := fun n => match n with | 17 => some jj6 | 18 => some jqj | 57 => some S57v0 | 58 => some S58v0 | 59 => some S59v0 | 60 => some S60v0 | 61 => some S61v0 | _ => none }
theorem k33v0 (h : ∀ T, (tt T).ok Tryz.prog T) (h17v0 : jja Tryz.prog 17 jj6) (h18v0 : jja Tryz.prog 18 jqj) (h57v0 : jja Tryz.prog 57 S57v0) (h58v0 : jja Tryz.prog 58 S58v0) (h59v0 : jja Tryz.prog 59 S59v0) (h60v0 : jja Tryz.prog 60 S60v0) (h61v0 : jja Tryz.prog 61 S61v0) : CtxGood Tryz.prog c33v0 := ⟨⟨h⟩, fun g S hg => (by
 simp only [c33v0] at hg
 split at hg
 ·cases hg; exact h17v0
 ·cases hg; exact h18v0
 ·cases hg; exact h57v0
 ·cases hg; exact h58v0
 ·cases hg; exact h59v0
 ·cases hg; exact h60v0
 ·cases hg; exact h61v0
 ·cases hg), jjv, fun _ _ h => (by cases h), fun _ h => (by cases h)⟩
noncomputable def b33v0 : Code := jjl Tryz.f33
@[reducible] noncomputable def i33v0 : Shape := ⟨[(0, .lf (.ptr 500000 0))], [(500000, .box [.d (.sl .u8), .d (.int .i64)], .same)], 39⟩
@[reducible] noncomputable def o33v0 : Shape := ⟨[(0, .lf (.ptr 500000 0)), (2, .lf (.ptr 2 0))], [(500000, .box [.d (.sl .u8), .d (.int .i64)], .same), (5000130, .row .need, .cell 2 2), (5000131, .row .entry, .cell 2 3), (2, .box [.d (.str), .d (.str), .own 5000130, .own 5000131], .same)], 39⟩
noncomputable def f33v0 (a : i33v0.Y) : Option o33v0.Y :=
(jzU (((), (([([111, 110, 101] : Str), ([116, 119, 111] : Str), ([116, 104, 114, 101, 101] : Str), ([122, 105, 112] : Str)] : List Str), ())), ((a.2.1.1, (a.2.1.2.1, ())), ()))).bind fun r890 =>
(f57v0 (((), (r890.1.2.1, ())), ((r890.2.1.1, (r890.2.1.2.1, ())), ()))).bind fun r891 =>
(jqY (((), ((14 : Int), ())), ((r891.2.1.1, (r891.2.1.2.1, ())), ()))).bind fun r893 =>
 bif (r893.1.2.1 == (0 : Int)) then
(jzU (((), (([([] : Str), ([79, 110, 101] : Str)] : List Str), ())), ((r893.2.1.1, (r893.2.1.2.1, ())), ()))).bind fun r894 =>
 some (((), ((), ())), ((r894.2.1.1, (r894.2.1.2.1, ())), (r891.2.2.1, (r891.2.2.2.1, ((r894.1.2.1, (r891.2.2.2.2.1.2.1, ((), ((), ())))), ())))))
else
 bif (r893.1.2.1 == (1 : Int)) then
(f58v0 (((), ()), ((r893.2.1.1, (r893.2.1.2.1, ())), ()))).bind fun r895 =>
 some (((), ((), ())), ((r895.2.1.1, (r895.2.1.2.1, ())), (r891.2.2.1, (r891.2.2.2.1, ((r891.2.2.2.2.1.1, (r895.1.2.1, ((), ((), ())))), ())))))
else
 bif (r893.1.2.1 == (2 : Int)) then
(f59v0 (((), ()), ((r893.2.1.1, (r893.2.1.2.1, ())), ()))).bind fun r896 =>
(f60v0 (((), ()), ((r896.2.1.1, (r896.2.1.2.1, ())), ()))).bind fun r897 =>
(apd 40 r891.2.2.1 ([(Need.mk r896.2.2.1.1 r896.2.2.1.2.1 r896.2.2.1.2.2.1), (Need.mk r897.2.2.1.1 r897.2.2.1.2.1 r897.2.2.1.2.2.1)] : List Need)).bind fun x898 =>
 some (((), ((), ())), ((r897.2.1.1, (r897.2.1.2.1, ())), (x898, (r891.2.2.2.1, ((r891.2.2.2.2.1.1, (r891.2.2.2.2.1.2.1, ((), ((), ())))), ())))))
else
 bif (r893.1.2.1 == (3 : Int)) then
(f61v0 (((), ()), ((r893.2.1.1, (r893.2.1.2.1, ())), ()))).bind fun r899 =>
 some (((), ((), ())), ((r899.2.1.1, (r899.2.1.2.1, ())), (r891.2.2.1, (r899.2.2.1, ((r891.2.2.2.2.1.1, (r891.2.2.2.2.1.2.1, ((), ((), ())))), ())))))
else
 some (((), ((), ())), ((r893.2.1.1, (r893.2.1.2.1, ())), (r891.2.2.1, (r891.2.2.2.1, ((r891.2.2.2.2.1.1, (r891.2.2.2.2.1.2.1, ((), ((), ())))), ())))))
theorem e33v0 : ∀ a, f33v0 a = jjt (jjd c33v0 []) b33v0 i33v0 o33v0 a := fun a => by kernel_rfl
noncomputable def S33v0 : jjM := jjg tt 39 i33v0 o33v0 [.cell 2 35] [0] f33v0
theorem z33v0 (h : ∀ T, (tt T).ok Tryz.prog T) (h17v0 : jja Tryz.prog 17 jj6) (h18v0 : jja Tryz.prog 18 jqj) (h57v0 : jja Tryz.prog 57 S57v0) (h58v0 : jja Tryz.prog 58 S58v0) (h59v0 : jja Tryz.prog 59 S59v0) (h60v0 : jja Tryz.prog 60 S60v0) (h61v0 : jja Tryz.prog 61 S61v0) : jja Tryz.prog 33 S33v0 :=
 have H := k33v0 h h17v0 h18v0 h57v0 h58v0 h59v0 h60v0 h61v0
 jjm (fn := Tryz.f33) (fr := []) H (by kernel_rfl) (by kernel_rfl) (by kernel_rfl) (by kernel_rfl) (by kernel_rfl) jje (by kernel_rfl) (fun y => ⟨_, _, rfl, rfl, rfl⟩) e33v0
abbrev OkP (p : Pack) : Prop := BdP p ∧ p.version.length ≤ 2097151 ∧ ∀ n, n ∈ p.needs → n.version.length ≤ 2097151
abbrev OkR (k : Nat) (ps : List Pack) : Prop := ps.length ≤ k ∧ ∀ p, p ∈ ps → OkP p
theorem OkR.bd {k : Nat} {ps : List Pack} (h : OkR k ps) (hk : k ≤ 2097152) : BdPs ps := ⟨Nat.le_trans h.1 hk, fun p hp => (h.2 p hp).1⟩
theorem OkR.vs {k : Nat} {ps : List Pack} (h : OkR k ps) : VS ps := fun p hp => (h.2 p hp).2
abbrev ShN (n : Need) : Prop := Sh n.name ∧ Sh n.version
def nmOut (s : Str) : Bool := !(s == [102, 114, 101, 115, 104]) && !(s == [110, 111, 98, 111, 100, 121, 115])
abbrev NmP (s : Str) : Prop := Sh s ∧ nmOut s = true
theorem nm_all {L : List Str} (h : L.all (fun s => decide (s.length ≤ 200) && nmOut s) = true) {s : Str} (hs : s ∈ L) : NmP s := by
 have := List.all_eq_true.1 h s hs
 simp only [Bool.and_eq_true, decide_eq_true_eq] at this
 exact this
abbrev ShP (p : Pack) : Prop := NmP p.name ∧ Sh p.version ∧ (p.needs.length ≤ 3 ∧ ∀ n, n ∈ p.needs → ShN n) ∧ (p.tree.length ≤ 17 ∧ ∀ e, e ∈ p.tree → ShE e)
theorem ShP.ok {p : Pack} (h : ShP p) : OkP p := by
 obtain ⟨a, b, ⟨c1, c2⟩, d1, d2⟩ := h
 have up : ∀ {s : Str}, Sh s → Bd s.length := fun h => Nat.le_trans h (by decide)
 exact ⟨⟨up a.1, up b, ⟨Nat.le_trans c1 (by decide), fun n hn => ⟨up (c2 n hn).1, up (c2 n hn).2⟩⟩, Nat.le_trans d1 (by decide), fun e he => ⟨up (d2 e he).1, up (d2 e he).2⟩⟩, Nat.le_trans b (by decide), fun n hn => Nat.le_trans (c2 n hn).2 (by decide)⟩
theorem v_l11Need (a) (m : Nat) (h : RD a.2.1.1 a.2.1.2.1 m) (hm : 3 ≤ m) : Ev (f60v0 a) (fun r => RD r.2.1.1 r.2.1.2.1 (m - 3) ∧ ShN ⟨r.2.2.1.1, r.2.2.1.2.1, r.2.2.1.2.2.1⟩) := by
 unfold f60v0
 refine Ev.bind (v_of _ m h (by omega) (by simp)) fun r1 h1 => ?_
 have s1 : Sh r1.1.2.1 := sh_all (by rfl) h1.2
 refine Ev.bind (jqs _ _ h1.1 (by omega)) fun r2 h2 => ?_
 refine Ev.ite (fun _ => ?_) fun _ => Ev.ret ⟨h2.1.less (by omega), s1, by show (0 : Nat) ≤ 200; decide⟩
 exact Ev.bind (jxs _ _ h2.1 (by omega)) fun r3 h3 => Ev.ret ⟨h3.1.less (by omega), s1, h3.2⟩
theorem v_l11Pack (a) (m : Nat) (h : RD a.2.1.1 a.2.1.2.1 m) (hm : 50 ≤ m) (hn : NmP a.1.2.1) : Ev (f57v0 a) (fun r => RD r.2.1.1 r.2.1.2.1 (m - 50) ∧ ShP ⟨r.2.2.2.2.1.1, r.2.2.2.2.1.2.1, r.2.2.1, r.2.2.2.1⟩ ∧ (r.2.2.1 : List Need).length ≤ 1) := by
 unfold f57v0
 refine Ev.bind (jxs _ m h (by omega)) fun r1 h1 => ?_
 refine Ev.bind (v_l11Tree _ _ h1.1 (by omega)) fun r2 h2 => ?_
 refine Ev.bind (v_of _ _ h2.1 (by omega) (by simp)) fun r3 h3 => ?_
 have hg : (r3.1.2.1 : Str).length ≤ 200 ∧ NoBr r3.1.2.1 := by
  have := h3.2
  simp only [List.mem_cons, List.not_mem_nil, or_false] at this
  rcases this with e | e | e | e | e
  all_goals (rw [e]; exact ⟨by decide, by decide⟩)
 refine Ev.bind (v_TreePart ((r2.2.2.1, (r3.1.2.1, ())), ()) h2.2 hg.1 hg.2) fun r4 h4 => ?_
 refine Ev.bind (jqs _ _ h3.1 (by omega)) fun r5 h5 => ?_
 have ht : (r4.2.1 : List Entry).length ≤ 17 ∧ ∀ e, e ∈ (r4.2.1 : List Entry) → ShE e := ⟨Nat.le_succ_of_le h4.1, h4.2⟩
 refine Ev.ite (fun _ => ?_) fun _ => Ev.ret ⟨h5.1.less (by omega), ⟨hn, h1.2, ⟨by show (0 : Nat) ≤ 3; decide, fun n hn => by cases hn⟩, ht⟩, by show (0 : Nat) ≤ 1; decide⟩
 refine Ev.bind (v_l11Need _ _ h5.1 (by omega)) fun r6 h6 => ?_
 refine Ev.eq (jqi (by decide) (by unfold Sm; simp)) ?_
 refine Ev.ret ⟨h6.1.less (by omega), ⟨hn, h1.2, ⟨by show (1 : Nat) ≤ 3; decide, fun n hn => ?_⟩, ht⟩, by show (1 : Nat) ≤ 1; decide⟩
 have hn : n ∈ ([] : List Need) ++ [_] := hn
 rw [List.nil_append, List.mem_singleton] at hn
 rw [hn]; exact h6.2
theorem jzx (a) (m : Nat) (h : RD a.2.1.1 a.2.1.2.1 m) (hm : 2 ≤ m) : Ev (f58v0 a) (fun r => RD r.2.1.1 r.2.1.2.1 (m - 2) ∧ Sh r.1.2.1) := by
 unfold f58v0
 refine Ev.bind (jqs _ m h (by omega)) fun r1 h1 => ?_
 refine Ev.ite (fun _ => ?_) fun _ => ?_
 ·exact Ev.bind (v_of _ _ h1.1 (by omega) (by simp)) fun r hr => Ev.ret ⟨hr.1.less (by omega), sh_all (by rfl) hr.2⟩
 ·exact Ev.bind (jxs _ _ h1.1 (by omega)) fun r hr => Ev.ret ⟨hr.1.less (by omega), hr.2⟩
theorem v_l11AnyPath (a) (m : Nat) (h : RD a.2.1.1 a.2.1.2.1 m) (hm : 2 ≤ m) : Ev (f112v0 a) (fun r => RD r.2.1.1 r.2.1.2.1 (m - 2) ∧ Sh r.1.2.1) := by
 unfold f112v0
 refine Ev.bind (jqs _ m h (by omega)) fun r1 h1 => ?_
 refine Ev.ite (fun _ => ?_) fun _ => ?_
 ·exact Ev.bind (v_of _ _ h1.1 (by omega) (by simp)) fun r hr => Ev.ret ⟨hr.1.less (by omega), sh_all (by rfl) hr.2⟩
 ·exact Ev.bind (v_l11Path _ _ h1.1 (by omega)) fun r hr => Ev.ret ⟨hr.1.less (by omega), hr.2⟩
theorem v_l11AnyNeed (a) (m : Nat) (h : RD a.2.1.1 a.2.1.2.1 m) (hm : 7 ≤ m) : Ev (f59v0 a) (fun r => RD r.2.1.1 r.2.1.2.1 (m - 7) ∧ ShN ⟨r.2.2.1.1, r.2.2.1.2.1, r.2.2.1.2.2.1⟩) := by
 unfold f59v0
 refine Ev.bind (v_l11Need _ m h (by omega)) fun r1 h1 => ?_
 refine Ev.bind (jqs _ _ h1.1 (by omega)) fun r2 h2 => ?_
 refine Ev.ite (fun _ => ?_) fun _ => Ev.ite (fun _ => ?_) fun _ => Ev.ite (fun _ => ?_) fun _ => ?_
 ·exact Ev.bind (v_of _ _ h2.1 (by omega) (by simp)) fun r hr => Ev.ret ⟨hr.1.less (by omega), sh_all (by rfl) hr.2, h1.2.2⟩
 ·exact Ev.bind (jqs _ _ h2.1 (by omega)) fun r hr => Ev.ret ⟨hr.1.less (by omega), h1.2⟩
 ·exact Ev.bind (jzx _ _ h2.1 (by omega)) fun r hr => Ev.ret ⟨hr.1.less (by omega), h1.2.1, hr.2⟩
 ·exact Ev.ret ⟨h2.1.less (by omega), h1.2⟩
theorem v_l11AnyEntry (a) (m : Nat) (h : RD a.2.1.1 a.2.1.2.1 m) (hm : 8 ≤ m) : Ev (f87v0 a) (fun r => RD r.2.1.1 r.2.1.2.1 (m - 8) ∧ ShE ⟨r.2.2.1.1, r.2.2.1.2.1, r.2.2.1.2.2.1, r.2.2.1.2.2.2.1⟩) := by
 unfold f87v0
 refine Ev.bind (v_l11Entry _ m h (by omega)) fun r1 h1 => ?_
 refine Ev.bind (jqs _ _ h1.1 (by omega)) fun r2 h2 => ?_
 refine Ev.ite (fun _ => ?_) fun _ => Ev.ite (fun _ => ?_) fun _ => Ev.ite (fun _ => ?_) fun _ => Ev.ite (fun _ => ?_) fun _ => ?_
 ·exact Ev.bind (v_l11AnyPath _ _ h2.1 (by omega)) fun r hr => Ev.ret ⟨hr.1.less (by omega), hr.2, h1.2.2⟩
 ·exact Ev.bind (jqs _ _ h2.1 (by omega)) fun r hr => Ev.ret ⟨hr.1.less (by omega), h1.2⟩
 ·exact Ev.bind (v_one _ _ h2.1 (by omega) (by simp)) fun r hr => Ev.ret ⟨hr.1.less (by omega), h1.2⟩
 ·refine Ev.bind (v_l1Many _ (by simp) (by show (0 : Int) ≤ 81; decide) (by show (81 : Int) ≤ 127; decide)) fun q hq => ?_
  refine Ev.bind (v_of _ _ h2.1 (by omega) (by simp)) fun r hr => Ev.ret ⟨hr.1.less (by omega), h1.2.1, ?_⟩
  have := hr.2
  simp only [List.mem_cons, List.not_mem_nil, or_false] at this
  rcases this with e | e | e | e
  ·show (r.1.2.1 : Str).length ≤ 200; rw [e]; decide
  ·show (r.1.2.1 : Str).length ≤ 200; rw [e]; exact hq
  ·show (r.1.2.1 : Str).length ≤ 200; rw [e]; decide
  ·show (r.1.2.1 : Str).length ≤ 200; rw [e]; decide
 ·exact Ev.ret ⟨h2.1.less (by omega), h1.2⟩
abbrev ShT' (t : List Entry) : Prop := t.length ≤ 17 ∧ ∀ e, e ∈ t → ShE e
theorem v_l11AnyTree (a) (m : Nat) (h : RD a.2.1.1 a.2.1.2.1 m) (hm : 50 ≤ m) : Ev (f61v0 a) (fun r => RD r.2.1.1 r.2.1.2.1 (m - 50) ∧ ShT' r.2.2.1) := by
 unfold f61v0
 refine Ev.bind (v_l11Tree _ m h (by omega)) fun r1 h1 => ?_
 obtain ⟨u0, ⟨u1, (t : List Entry), u2⟩⟩ := r1
 have ht : ShT t := h1.2
 have htl := ht.1
 refine Ev.eq (v_l2Copy ((t, ()), ()) (by show t.length ≤ 2097152; omega)) ?_
 refine Ev.bind (jqs _ _ h1.1 (by omega)) fun r2 h2 => ?_
 have ht' : ShT' t := ⟨Nat.le_succ_of_le ht.1, ht.2⟩
 refine Ev.ite (fun _ => ?_) fun _ => Ev.ite (fun _ => ?_) fun _ => Ev.ret ⟨h2.1.less (by omega), ht'⟩
 ·refine Ev.bind (v_l11AnyEntry _ _ h2.1 (by omega)) fun r3 h3 => ?_
  refine Ev.eq (jqi (xs := t) (by decide) (by unfold Sm; simp; omega)) ?_
  refine Ev.ret ⟨h3.1.less (by omega), by show (t ++ [_]).length ≤ 17; simp; omega, fun e he => ?_⟩
  have he : e ∈ t ++ [_] := he
  rcases List.mem_append.1 he with he | he
  ·exact ht.2 e he
  ·rw [List.mem_singleton.1 he]; exact h3.2
 ·refine Ev.ite (fun hc => ?_) fun _ => Ev.ret ⟨h2.1.less (by omega), ht'⟩
  have hc : (t.length : Int) > 0 := of_decide_eq_true hc
  refine Ev.bind (jqs _ _ h2.1 (by omega)) fun r3 h3 => ?_
  obtain ⟨⟨v1, (q : Int), v2⟩, v3⟩ := r3
  have hq0 : 0 ≤ q := h3.2.1
  have hq1 : q < (t.length : Int) := h3.2.2 (by show (1 : Int) ≤ (t.length : Int); omega)
  obtain ⟨j, rfl⟩ := Int.eq_ofNat_of_zero_le hq0
  have hj : j < t.length := by omega
  refine Ev.bind (v_l11AnyEntry _ _ h3.1 (by omega)) fun r4 h4 => ?_
  refine Ev.eq (jqP (n := t.length) (i := j) hj) ?_
  refine Ev.eq (x := Entry.mk r4.2.2.1.1 r4.2.2.1.2.1 r4.2.2.1.2.2.1 r4.2.2.1.2.2.2.1) (by show (t[j]?).bind _ = _; rw [List.getElem?_eq_getElem hj]; rfl) ?_
  exact Ev.ret ⟨h4.1.less (by omega), by show (t.set _ _).length ≤ 17; rw [List.length_set]; omega, shE_set ht.2 h4.2⟩
theorem v_l11AnyPack (a) (m : Nat) (h : RD a.2.1.1 a.2.1.2.1 m) (hm : 110 ≤ m) : Ev (f33v0 a) (fun r => RD r.2.1.1 r.2.1.2.1 (m - 110) ∧ ShP ⟨r.2.2.2.2.1.1, r.2.2.2.2.1.2.1, r.2.2.1, r.2.2.2.1⟩) := by
 unfold f33v0
 refine Ev.bind (v_of _ m h (by omega) (by simp)) fun r1 h1 => ?_
 refine Ev.bind (v_l11Pack _ _ h1.1 (by omega) (nm_all (by rfl) h1.2)) fun r2 h2 => ?_
 obtain ⟨hp1, hp2, hp3, hp4⟩ := h2.2.1
 refine Ev.bind (jqs _ _ h2.1 (by omega)) fun r3 h3 => ?_
 refine Ev.ite (fun _ => ?_) fun _ => Ev.ite (fun _ => ?_) fun _ => Ev.ite (fun _ => ?_) fun _ => Ev.ite (fun _ => ?_) fun _ => ?_
 ·exact Ev.bind (v_of _ _ h3.1 (by omega) (by simp)) fun r hr => Ev.ret ⟨hr.1.less (by omega), nm_all (by rfl) hr.2, hp2, hp3, hp4⟩
 ·exact Ev.bind (jzx _ _ h3.1 (by omega)) fun r hr => Ev.ret ⟨hr.1.less (by omega), hp1, hr.2, hp3, hp4⟩
 ·refine Ev.bind (v_l11AnyNeed _ _ h3.1 (by omega)) fun r4 h4 => ?_
  refine Ev.bind (v_l11Need _ _ h4.1 (by omega)) fun r5 h5 => ?_
  have hl := h2.2.2
  refine Ev.eq (jqi (xs := (r2.2.2.1 : List Need)) (by decide) (by unfold Sm; simp; omega)) ?_
  refine Ev.ret ⟨h5.1.less (by omega), hp1, hp2, ⟨by show ((r2.2.2.1 : List Need) ++ [_, _]).length ≤ 3; simp; omega, fun n hn => ?_⟩, hp4⟩
  have hn : n ∈ (r2.2.2.1 : List Need) ++ [_, _] := hn
  rcases List.mem_append.1 hn with hn | hn
  ·exact hp3.2 n hn
  ·simp only [List.mem_cons, List.not_mem_nil, or_false] at hn
   rcases hn with rfl | rfl
   ·exact h4.2
   ·exact h5.2
 ·exact Ev.bind (v_l11AnyTree _ _ h3.1 (by omega)) fun r hr => Ev.ret ⟨hr.1.less (by omega), hp1, hp2, hp3, hr.2⟩
 ·exact Ev.ret ⟨h3.1.less (by omega), hp1, hp2, hp3, hp4⟩
noncomputable def c22 : Ctx := { tt := tt, fs := fun n => match n with | 37 => some S37 | 38 => some S38 | _ => none }
theorem k22 (h : ∀ T, (tt T).ok Tryz.prog T) (h37 : jja Tryz.prog 37 S37) (h38 : jja Tryz.prog 38 S38) : CtxGood Tryz.prog c22 := ⟨⟨h⟩, fun g S hg => (by
 simp only [c22] at hg
 split at hg
 ·cases hg; exact h37
 ·cases hg; exact h38
 ·cases hg), jjv, fun _ _ h => (by cases h), fun _ h => (by cases h)⟩
noncomputable def b22 : Code := jjl Tryz.f22
@[reducible] noncomputable def s22_58 : Shape := ⟨[(0, .lf (.d (.sl .pack))), (3, .lf (.own 3000192)), (4, .lf (.d (.int .i64)))], [(3000192, .row .str, .slot 3 0)], 28⟩
@[reducible] noncomputable def t22_58 : List OSh := [(.ret, ⟨[(2, .lf (.d (.int .i64)))], [], 28⟩), (.exit 0, ⟨[(3, .lf (.own 3000192))], [(3000192, .row .str, .slot 3 0)], 28⟩)]
noncomputable def g22_58 (y : s22_58.Y) : Option (Sum s22_58.Y (YS t22_58)) :=
 bif (decide (y.1.2.2.1 < (y.1.1.length : Int))) then
(ix y.1.1 y.1.2.2.1).bind fun x1611 =>
(f37 (((x1611.name, (x1611.version, (x1611.needs, (x1611.tree, ())))), ()), ())).bind fun r1612 =>
 bif (!r1612.1.1) then
 some (.inr (.inl (((1 : Int), ()), ())))
else
(ix y.1.1 y.1.2.2.1).bind fun x1613 =>
(apd 16 y.2.1 ([x1613.name] : List Str)).bind fun x1614 =>
 some (.inl ((y.1.1, ((), ((IntKind.i64.wrap (y.1.2.2.1 + (1 : Int))), ()))), (x1614, ())))
else
 some (.inr (.inr (((), ()), (y.2.1, ()))))
theorem r22_58 : ∀ y, g22_58 y = jjz (jjd c22 []) (jjk (jjc b22 1 58)) 58 s22_58 t22_58 y := fun y => by kernel_rfl
noncomputable def l22_58 : s22_58.Y → Option (YS t22_58) := jjF g22_58
theorem q22_58 (H : CtxGood Tryz.prog c22) : jjj Tryz.prog (jjc b22 1 58) (jjb s22_58 t22_58 l22_58) :=
 jjr (fr := []) H (by kernel_rfl) (by kernel_rfl) jje (fun y => jjh r22_58 y)
@[reducible] noncomputable def i22 : Shape := ⟨[(0, .lf (.d (.sl .pack)))], [], 28⟩
@[reducible] noncomputable def o22 : Shape := ⟨[(2, .lf (.d (.int .i64)))], [], 28⟩
noncomputable def f22 (a : i22.Y) : Option o22.Y :=
(l22_58 ((a.1.1, ((), ((0 : Int), ()))), (([] : List Str), ()))).bind fun r1626 =>
(match r1626 with
| .inl r1627 =>
 some ((r1627.1.1, ()), ())
| .inr r1628 =>
(f38 ((r1628.2.1, ()), ())).bind fun r1630 =>
 bif r1630.1.1 then
 some (((2 : Int), ()), ())
else
 some (((0 : Int), ()), ()))
theorem e22 : ∀ a, f22 a = jjt (jjd c22 [(58, jjb s22_58 t22_58 l22_58)]) b22 i22 o22 a := fun a => by kernel_rfl
noncomputable def S22 : jjM := jjg tt 28 i22 o22 [.tmp 2] [] f22
theorem z22 (h : ∀ T, (tt T).ok Tryz.prog T) (h37 : jja Tryz.prog 37 S37) (h38 : jja Tryz.prog 38 S38) : jja Tryz.prog 22 S22 :=
 have H := k22 h h37 h38
 jjm (fn := Tryz.f22) (fr := [(58, jjb s22_58 t22_58 l22_58)]) H (by kernel_rfl) (by kernel_rfl) (by kernel_rfl) (by kernel_rfl) (by kernel_rfl) ⟨q22_58 H, trivial⟩ (by kernel_rfl) (fun y => ⟨_, _, rfl, rfl, rfl⟩) e22
noncomputable def c40 : Ctx := { tt := tt, fs := fun n => match n with | _ => none }
theorem k40 (h : ∀ T, (tt T).ok Tryz.prog T) : CtxGood Tryz.prog c40 := ⟨⟨h⟩, fun g S hg => (by cases hg), jjv, fun _ _ h => (by cases h), fun _ h => (by cases h)⟩
noncomputable def b40 : Code := jjl Tryz.f40
@[reducible] noncomputable def s40_26 : Shape := ⟨[(0, .lf (.d (.sl .str))), (1, .lf (.d (.str))), (5, .lf (.d (.int .i64)))], [], 18⟩
@[reducible] noncomputable def t40_26 : List OSh := [(.ret, ⟨[(4, .lf (.d (.bool)))], [], 18⟩), (.exit 0, ⟨[], [], 18⟩)]
noncomputable def g40_26 (y : s40_26.Y) : Option (Sum s40_26.Y (YS t40_26)) :=
 bif (decide (y.1.2.2.1 < (y.1.1.length : Int))) then
(ix y.1.1 y.1.2.2.1).bind fun x1651 =>
 bif (x1651 == y.1.2.1) then
 some (.inr (.inl ((true, ()), ())))
else
 some (.inl ((y.1.1, (y.1.2.1, ((IntKind.i64.wrap (y.1.2.2.1 + (1 : Int))), ()))), ()))
else
 some (.inr (.inr ((), ())))
theorem r40_26 : ∀ y, g40_26 y = jjz (jjd c40 []) (jjk (jjc b40 1 26)) 26 s40_26 t40_26 y := fun y => by kernel_rfl
noncomputable def l40_26 : s40_26.Y → Option (YS t40_26) := jjF g40_26
theorem q40_26 (H : CtxGood Tryz.prog c40) : jjj Tryz.prog (jjc b40 1 26) (jjb s40_26 t40_26 l40_26) :=
 jjr (fr := []) H (by kernel_rfl) (by kernel_rfl) jje (fun y => jjh r40_26 y)
@[reducible] noncomputable def i40 : Shape := ⟨[(0, .lf (.d (.sl .str))), (1, .lf (.d (.str)))], [], 18⟩
@[reducible] noncomputable def o40 : Shape := ⟨[(4, .lf (.d (.bool)))], [], 18⟩
noncomputable def f40 (a : i40.Y) : Option o40.Y :=
(l40_26 ((a.1.1, (a.1.2.1, ((0 : Int), ()))), ())).bind fun r1655 =>
(match r1655 with
| .inl r1656 =>
 some ((r1656.1.1, ()), ())
| .inr r1657 =>
 some ((false, ()), ()))
theorem e40 : ∀ a, f40 a = jjt (jjd c40 [(26, jjb s40_26 t40_26 l40_26)]) b40 i40 o40 a := fun a => by kernel_rfl
noncomputable def S40 : jjM := jjg tt 18 i40 o40 [.tmp 4] [] f40
theorem z40 (h : ∀ T, (tt T).ok Tryz.prog T) : jja Tryz.prog 40 S40 :=
 have H := k40 h
 jjm (fn := Tryz.f40) (fr := [(26, jjb s40_26 t40_26 l40_26)]) H (by kernel_rfl) (by kernel_rfl) (by kernel_rfl) (by kernel_rfl) (by kernel_rfl) ⟨q40_26 H, trivial⟩ (by kernel_rfl) (fun y => ⟨_, _, rfl, rfl, rfl⟩) e40
@[reducible] noncomputable def i23 : Shape := ⟨[(0, .lf (.d (.sl .pack))), (1, .lf (.d (.str))), (2, .lf (.d (.sl .str))), (3, .lf (.d (.sl .str)))], [], 97⟩
@[reducible] noncomputable def o23 : Shape := ⟨[(8, .lf (.d (.sl .str))), (9, .lf (.d (.int .i64)))], [], 97⟩
noncomputable def SF23 (F : i23.Y → Option o23.Y) : jjM := jjg tt 97 i23 o23 [.tmp 8, .tmp 9] [] F
noncomputable def c23 (F : i23.Y → Option o23.Y) : Ctx := { tt := tt, fs := fun n => match n with | 23 => some (SF23 F) | 39 => some S39 | 40 => some S40 | 41 => some S41 | _ => none }
theorem k23 (F : i23.Y → Option o23.Y) (h : ∀ T, (tt T).ok Tryz.prog T) (h39 : jja Tryz.prog 39 S39) (h40 : jja Tryz.prog 40 S40) (h41 : jja Tryz.prog 41 S41) (hF : jja Tryz.prog 23 (SF23 F)) : CtxGood Tryz.prog (c23 F) := ⟨⟨h⟩, fun g S hg => (by
 simp only [c23] at hg
 split at hg
 ·cases hg; exact hF
 ·cases hg; exact h39
 ·cases hg; exact h40
 ·cases hg; exact h41
 ·cases hg), jjv, fun _ _ h => (by cases h), fun _ h => (by cases h)⟩
noncomputable def b23 : Code := jjl Tryz.f23
@[reducible] noncomputable def s23_64076 : Shape := ⟨[(0, .lf (.d (.sl .pack))), (1, .lf (.d (.str))), (2, .lf (.d (.sl .str))), (10, .lf (.d (.int .i64))), (11, .lf (.d (.sl .str))), (12, .lf (.d (.int .i64))), (13, .lf (.ptr 13 0)), (14, .lf (.d (.int .i64)))], [(13, .box [.d (.str), .d (.int .i64), .d (.str)], .same)], 97⟩
@[reducible] noncomputable def jzA : List OSh := [(.norm, ⟨[(0, .lf (.d (.sl .pack))), (1, .lf (.d (.str))), (2, .lf (.d (.sl .str))), (10, .lf (.d (.int .i64))), (11, .lf (.d (.sl .str))), (12, .lf (.d (.int .i64))), (13, .lf (.ptr 13 0)), (62, .lf (.d (.int .i64))), (63, .lf (.d (.bool))), (64, .lf (.d (.bool))), (75, .lf (.d (.bool)))], [(13, .box [.d (.str), .d (.int .i64), .d (.str)], .same)], 97⟩)]
noncomputable def jqC (F : i23.Y → Option o23.Y) (y : s23_64076.Y) : Option (YS jzA) :=
 bif (decide (y.1.2.2.2.2.2.2.2.1 < (0 : Int))) then
 some (((y.1.1, (y.1.2.1, (y.1.2.2.1, (y.1.2.2.2.1, (y.1.2.2.2.2.1, (y.1.2.2.2.2.2.1, ((), (y.1.2.2.2.2.2.2.2.1, ((decide (y.1.2.2.2.2.2.2.2.1 < (0 : Int))), (true, (true, ()))))))))))), ((y.2.1.1, (y.2.1.2.1, (y.2.1.2.2.1, ()))), ())))
else
(ix y.1.1 y.1.2.2.2.2.2.2.2.1).bind fun x1763 =>
(f41 (((y.2.1.1, (y.2.1.2.1, (y.2.1.2.2.1, ()))), (y.2.1.1, (x1763.version, ()))), ())).bind fun r1764 =>
 some (((y.1.1, (y.1.2.1, (y.1.2.2.1, (y.1.2.2.2.1, (y.1.2.2.2.2.1, (y.1.2.2.2.2.2.1, ((), (y.1.2.2.2.2.2.2.2.1, ((decide (y.1.2.2.2.2.2.2.2.1 < (0 : Int))), (false, ((!r1764.1.1), ()))))))))))), ((y.2.1.1, (y.2.1.2.1, (y.2.1.2.2.1, ()))), ())))
theorem r23_64076 (F : i23.Y → Option o23.Y) : ∀ y, (jqC F) y = jjL (jjd (c23 F) []) (jjc (jjk (jjc b23 1 250)) 500 64076) 64076 s23_64076 jzA y := fun y => by kernel_rfl
theorem q23_64076 (F : i23.Y → Option o23.Y) (H : CtxGood Tryz.prog (c23 F)) : jjj Tryz.prog (jjc (jjk (jjc b23 1 250)) 500 64076) (jjb s23_64076 jzA (jqC F)) :=
 jjs (fr := []) H (by kernel_rfl) jje (r23_64076 F)
@[reducible] noncomputable def s23_250 : Shape := ⟨[(0, .lf (.d (.sl .pack))), (1, .lf (.d (.str))), (2, .lf (.d (.sl .str))), (10, .lf (.d (.int .i64))), (11, .lf (.d (.sl .str))), (12, .lf (.d (.int .i64)))], [], 97⟩
@[reducible] noncomputable def jJn : List OSh := [(.ret, ⟨[(8, .lf (.d (.sl .str))), (9, .lf (.d (.int .i64)))], [], 97⟩), (.exit 1, ⟨[(1, .lf (.d (.str))), (2, .lf (.d (.sl .str)))], [], 97⟩)]
noncomputable def jxD (F : i23.Y → Option o23.Y) (y : s23_250.Y) : Option (Sum s23_250.Y (YS jJn)) :=
(ix y.1.1 y.1.2.2.2.1).bind fun x1770 =>
 bif (decide (y.1.2.2.2.2.2.1 < (x1770.needs.length : Int))) then
(ix y.1.1 y.1.2.2.2.1).bind fun x1773 =>
(ix x1773.needs y.1.2.2.2.2.2.1).bind fun x1774 =>
(f39 ((y.1.1, (x1774.name, ())), ())).bind fun r1776 =>
((jqC F) ((y.1.1, (y.1.2.1, (y.1.2.2.1, (y.1.2.2.2.1, (y.1.2.2.2.2.1, (y.1.2.2.2.2.2.1, ((), (r1776.1.1, ())))))))), ((x1774.name, (x1774.kind, (x1774.version, ()))), ()))).bind fun r1778 =>
 bif r1778.1.2.2.2.2.2.2.2.2.2.2.1 then
 some (.inr (.inl ((r1778.1.2.2.1, ((3 : Int), ())), ())))
else
(F ((r1778.1.1, (r1778.2.1.1, (r1778.1.2.2.1, (r1778.1.2.2.2.2.1, ())))), ())).bind fun r1780 =>
 bif (r1780.1.2.1 != (0 : Int)) then
 some (.inr (.inl ((r1778.1.2.2.1, (r1780.1.2.1, ())), ())))
else
 some (.inl ((r1778.1.1, (r1778.1.2.1, (r1780.1.1, (r1778.1.2.2.2.1, (r1778.1.2.2.2.2.1, ((IntKind.i64.wrap (r1778.1.2.2.2.2.2.1 + (1 : Int))), ())))))), ()))
else
 some (.inr (.inr ((y.1.2.1, (y.1.2.2.1, ())), ())))
theorem r23_250 (F : i23.Y → Option o23.Y) : ∀ y, (jxD F) y = jjz (jjd (c23 F) [(64076, jjb s23_64076 jzA (jqC F))]) (jjk (jjc b23 1 250)) 250 s23_250 jJn y := fun y => by kernel_rfl
noncomputable def jqW (F : i23.Y → Option o23.Y) : s23_250.Y → Option (YS jJn) := jjF (jxD F)
theorem q23_250 (F : i23.Y → Option o23.Y) (H : CtxGood Tryz.prog (c23 F)) : jjj Tryz.prog (jjc b23 1 250) (jjb s23_250 jJn (jqW F)) :=
 jjr (fr := [(64076, jjb s23_64076 jzA (jqC F))]) H (by kernel_rfl) (by kernel_rfl) ⟨(q23_64076 F) H, trivial⟩ (fun y => jjh (r23_250 F) y)
noncomputable def ff23 (F : i23.Y → Option o23.Y) (a : i23.Y) : Option o23.Y :=
(f39 ((a.1.1, (a.1.2.1, ())), ())).bind fun r1667 =>
(f40 ((a.1.2.2.1, (a.1.2.1, ())), ())).bind fun r1669 =>
 bif r1669.1.1 then
 some ((a.1.2.2.1, ((0 : Int), ())), ())
else
 bif (decide (r1667.1.1 < (0 : Int))) then
 some ((a.1.2.2.1, ((3 : Int), ())), ())
else
(f40 ((a.1.2.2.2.1, (a.1.2.1, ())), ())).bind fun r1671 =>
 bif r1671.1.1 then
 some ((a.1.2.2.1, ((4 : Int), ())), ())
else
(apd 16 ([] : List Str) a.1.2.2.2.1).bind fun x1674 =>
(apd 16 x1674 ([a.1.2.1] : List Str)).bind fun x1675 =>
((jqW F) ((a.1.1, (a.1.2.1, (a.1.2.2.1, (r1667.1.1, (x1675, ((0 : Int), ())))))), ())).bind fun r1784 =>
(match r1784 with
| .inl r1785 =>
 some ((r1785.1.1, (r1785.1.2.1, ())), ())
| .inr r1786 =>
(apd 16 ([] : List Str) r1786.1.2.1).bind fun x1787 =>
(apd 16 x1787 ([r1786.1.1] : List Str)).bind fun x1788 =>
 some ((x1788, ((0 : Int), ())), ()))
theorem e23 (F : i23.Y → Option o23.Y) : ∀ a, (ff23 F) a = jjt (jjd (c23 F) [(250, jjb s23_250 jJn (jqW F))]) b23 i23 o23 a := fun a => by kernel_rfl
theorem zz23 (F : i23.Y → Option o23.Y) (h : ∀ T, (tt T).ok Tryz.prog T) (h39 : jja Tryz.prog 39 S39) (h40 : jja Tryz.prog 40 S40) (h41 : jja Tryz.prog 41 S41) (hF : jja Tryz.prog 23 (SF23 F)) : jja Tryz.prog 23 (jjg tt 97 i23 o23 [.tmp 8, .tmp 9] [] (ff23 F)) :=
 have H := (k23 F) h h39 h40 h41 hF
 jjm (fn := Tryz.f23) (fr := [(250, jjb s23_250 jJn (jqW F))]) H (by kernel_rfl) (by kernel_rfl) (by kernel_rfl) (by kernel_rfl) (by kernel_rfl) ⟨(q23_250 F) H, trivial⟩ (by kernel_rfl) (fun y => ⟨_, _, rfl, rfl, rfl⟩) (e23 F)
noncomputable def f23 : i23.Y → Option o23.Y := jqX ff23 jxk
noncomputable def S23 : jjM := jjg tt 97 i23 o23 [.tmp 8, .tmp 9] [] f23
theorem z23 (h : ∀ T, (tt T).ok Tryz.prog T) (h39 : jja Tryz.prog 39 S39) (h40 : jja Tryz.prog 40 S40) (h41 : jja Tryz.prog 41 S41) : jja Tryz.prog 23 S23 := rec_ok (ff := ff23) (fun F hF => zz23 F h h39 h40 h41 hF) jxk
noncomputable def c9 : Ctx := { tt := tt, fs := fun n => match n with | 22 => some S22 | 23 => some S23 | _ => none }
theorem k9 (h : ∀ T, (tt T).ok Tryz.prog T) (h22 : jja Tryz.prog 22 S22) (h23 : jja Tryz.prog 23 S23) : CtxGood Tryz.prog c9 := ⟨⟨h⟩, fun g S hg => (by
 simp only [c9] at hg
 split at hg
 ·cases hg; exact h22
 ·cases hg; exact h23
 ·cases hg), jjv, fun _ _ h => (by cases h), fun _ h => (by cases h)⟩
noncomputable def b9 : Code := jjl Tryz.f9
@[reducible] noncomputable def s9_250 : Shape := ⟨[(0, .lf (.d (.sl .pack))), (1, .lf (.d (.sl .str))), (7, .lf (.d (.sl .str))), (8, .lf (.d (.int .i64)))], [], 41⟩
@[reducible] noncomputable def t9_250 : List OSh := [(.ret, ⟨[(4, .lf (.own 3000256)), (5, .lf (.d (.int .i64)))], [(3000256, .row .str, .slot 4 0)], 41⟩), (.exit 0, ⟨[(7, .lf (.d (.sl .str)))], [], 41⟩)]
noncomputable def g9_250 (y : s9_250.Y) : Option (Sum s9_250.Y (YS t9_250)) :=
 bif (decide (y.1.2.2.2.1 < (y.1.2.1.length : Int))) then
(ix y.1.2.1 y.1.2.2.2.1).bind fun x1798 =>
(f23 ((y.1.1, (x1798, (y.1.2.2.1, (([] : List Str), ())))), ())).bind fun r1799 =>
 bif (r1799.1.2.1 != (0 : Int)) then
 some (.inr (.inl (((), (r1799.1.2.1, ())), (([] : List Str), ()))))
else
 some (.inl ((y.1.1, (y.1.2.1, (r1799.1.1, ((IntKind.i64.wrap (y.1.2.2.2.1 + (1 : Int))), ())))), ()))
else
 some (.inr (.inr ((y.1.2.2.1, ()), ())))
theorem r9_250 : ∀ y, g9_250 y = jjz (jjd c9 []) (jjk (jjc b9 1 250)) 250 s9_250 t9_250 y := fun y => by kernel_rfl
noncomputable def l9_250 : s9_250.Y → Option (YS t9_250) := jjF g9_250
theorem q9_250 (H : CtxGood Tryz.prog c9) : jjj Tryz.prog (jjc b9 1 250) (jjb s9_250 t9_250 l9_250) :=
 jjr (fr := []) H (by kernel_rfl) (by kernel_rfl) jje (fun y => jjh r9_250 y)
@[reducible] noncomputable def i9 : Shape := ⟨[(0, .lf (.d (.sl .pack))), (1, .lf (.d (.sl .str)))], [], 41⟩
@[reducible] noncomputable def o9 : Shape := ⟨[(4, .lf (.d (.sl .str))), (5, .lf (.d (.int .i64)))], [], 41⟩
noncomputable def f9 (a : i9.Y) : Option o9.Y :=
(f22 ((a.1.1, ()), ())).bind fun r1807 =>
 bif (r1807.1.1 != (0 : Int)) then
 some ((([] : List Str), (r1807.1.1, ())), ())
else
(l9_250 ((a.1.1, (a.1.2.1, (([] : List Str), ((0 : Int), ())))), ())).bind fun r1811 =>
(match r1811 with
| .inl r1812 =>
 some ((r1812.2.1, (r1812.1.2.1, ())), ())
| .inr r1813 =>
 some ((r1813.1.1, ((0 : Int), ())), ()))
theorem e9 : ∀ a, f9 a = jjt (jjd c9 [(250, jjb s9_250 t9_250 l9_250)]) b9 i9 o9 a := fun a => by kernel_rfl
noncomputable def S9 : jjM := jjg tt 41 i9 o9 [.tmp 4, .tmp 5] [] f9
theorem z9 (h : ∀ T, (tt T).ok Tryz.prog T) (h22 : jja Tryz.prog 22 S22) (h23 : jja Tryz.prog 23 S23) : jja Tryz.prog 9 S9 :=
 have H := k9 h h22 h23
 jjm (fn := Tryz.f9) (fr := [(250, jjb s9_250 t9_250 l9_250)]) H (by kernel_rfl) (by kernel_rfl) (by kernel_rfl) (by kernel_rfl) (by kernel_rfl) ⟨q9_250 H, trivial⟩ (by kernel_rfl) (fun y => ⟨_, _, rfl, rfl, rfl⟩) e9
theorem v_l8Has (a) (hs : a.1.1.length ≤ 2097152) : f40 a = some ((a.1.1.contains a.1.2.1, ()), ()) := by
 obtain ⟨⟨xs, s, u⟩, u'⟩ := a
 have hs : xs.length ≤ 2097152 := hs
 have key : l40_26 ((xs, (s, ((0 : Int), ()))), ()) = some (bif jqK (fun _ x => !(x == s)) 0 xs then .inr ((), ()) else .inl ((true, ()), ())) := by
  refine jj3 g40_26 xs (fun i => ((xs, (s, ((i : Int), ()))), ())) _ _ _ (fun i x hx => ?_) ?_
  ·have hi := jjH hx
   have hw : Sm i := by unfold Sm; omega
   simp only [g40_26, jjB hi, cond_true, jjx, hx, Option.bind_some, jjn hw]
   cases (x == s) <;> rfl
  ·simp only [g40_26, jjR, cond_false]
 rw [jj5, all_not] at key
 simp only [f40, key, Option.bind_some]
 cases xs.contains s <;> rfl
def jqI (ps : List Pack) : Int := bif ps.all pkOk then (bif dupA [] (ps.map (·.name)) then 2 else 0) else 1
theorem v_l8Packs (a) (hb : BdPs a.1.1) : f22 a = some ((jqI a.1.1, ()), ()) := by
 obtain ⟨⟨ps, u⟩, u'⟩ := a
 have hl : ps.length ≤ 2097152 := hb.1
 have key : ∀ (r : List Pack) (k : Nat) (acc : List Str), ps.drop k = r → k ≤ ps.length → acc.length = k →
   l22_58 ((ps, ((), ((k : Int), ()))), (acc, ())) = some (bif r.all pkOk then .inr (((), ()), (acc ++ r.map (·.name), ())) else .inl (((1 : Int), ()), ())) := by
  intro r
  induction r with
  | nil =>
   intro k acc hr hk ha
   have := drop_nil hr
   have d1 : decide ((k : Int) < (ps.length : Int)) = false := by simp only [decide_eq_false_iff_not]; omega
   refine jjC ?_
   simp only [g22_58, d1, cond_false, List.all_nil, cond_true, List.map_nil, List.append_nil]
  | cons q r ih =>
   intro k acc hr hk ha
   obtain ⟨c1, c2, c3⟩ := jj1 hr
   have hw : Sm k := by unfold Sm; omega
   have hp := v_PackOk (((q.name, (q.version, (q.needs, (q.tree, ())))), ()), ()) (hb.2 q (List.mem_of_getElem? c1))
   have happ : apd 16 acc [q.name] = some (acc ++ [q.name]) := jqi (by decide) (by unfold Sm; simp; omega)
   have step : g22_58 ((ps, ((), ((k : Int), ()))), (acc, ())) = some (bif pkOk q then .inl ((ps, ((), (((k + 1 : Nat) : Int), ()))), (acc ++ [q.name], ())) else .inr (.inl (((1 : Int), ()), ()))) := by
    simp only [g22_58, jjB c3, cond_true, jjx, c1, Option.bind_some, hp, happ, jjn hw]
    cases pkOk q <;> rfl
   rw [List.all_cons]
   cases hq : pkOk q with
   | false =>
    rw [hq, cond_false] at step
    refine (jjC step).trans ?_
    simp only [Bool.false_and, cond_false]
   | true =>
    rw [hq, cond_true] at step
    refine (jqc step).trans ((ih (k + 1) (acc ++ [q.name]) c2 c3 (by simp [ha])).trans ?_)
    simp only [Bool.true_and, List.map_cons, List.append_assoc, List.singleton_append]
 have key := key ps 0 [] rfl (Nat.zero_le _) rfl
 have key : l22_58 ((ps, ((), ((0 : Int), ()))), (([] : List Str), ())) = _ := key
 have ht := v_l4Twice ((ps.map (·.name), ()), ()) (by show (ps.map (·.name)).length ≤ 2097152; rw [List.length_map]; exact hl)
 simp only [f22, key, Option.bind_some, jqI, List.nil_append]
 cases ps.all pkOk with
 | false => rfl
 | true =>
  simp only [cond_true, ht, Option.bind_some]
  cases dupA [] (ps.map (·.name)) <;> rfl
def jxo (rec : Str → List Str → Sum (List Str) Int) (ps : List Pack) : List Need → List Str → Sum (List Str) Int
 | [], out => .inl out
 | n :: r, out => match ps.find? (fun q => q.name == n.name) with
  | none => .inr 3
  | some q => bif fitsV n q.version then (match rec n.name out with
   | .inl o => jxo rec ps r o
   | .inr c => .inr c) else .inr 3
def clo (ps : List Pack) : Nat → List Str → Str → List Str → Sum (List Str) Int
 | 0, _, _, _ => .inr 4
 | m + 1, op, name, out => bif out.contains name then .inl out else match ps.find? (fun q => q.name == name) with
  | none => .inr 3
  | some p => bif op.contains name then .inr 4 else match jxo (clo ps m (op ++ [name])) ps p.needs out with
   | .inl o => .inl (o ++ [name])
   | .inr c => .inr c
def Nms (ps : List Pack) (l : List Str) : Prop := l.Nodup ∧ ∀ s, s ∈ l → ∃ q, ps.find? (fun q => q.name == s) = some q
theorem nodup_le : ∀ (l L : List Str), l.Nodup → (∀ x, x ∈ l → x ∈ L) → l.length ≤ L.length := by
 intro l
 induction l with
 | nil => intro L _ _; exact Nat.zero_le _
 | cons x l ih =>
  intro L hn h
  obtain ⟨h1, h2⟩ := List.nodup_cons.1 hn
  have hx := h x List.mem_cons_self
  have := ih (L.erase x) h2 (fun y hy => (List.mem_erase_of_ne (fun e => by subst e; exact h1 hy)).2 (h y (List.mem_cons_of_mem _ hy)))
  rw [List.length_erase_of_mem hx] at this
  have := List.length_pos_of_mem hx
  simp only [List.length_cons]; omega
theorem Nms.len {ps : List Pack} {l : List Str} (h : Nms ps l) : l.length ≤ ps.length := by
 have := nodup_le l (ps.map (·.name)) h.1 (fun s hs => by
  obtain ⟨q, hq⟩ := h.2 s hs
  have h1 := List.mem_of_find?_eq_some hq
  have h2 : q.name = s := by have := List.find?_some hq; simpa using this
  exact List.mem_map.2 ⟨q, h1, h2⟩)
 simpa using this
theorem Nms.add {ps : List Pack} {l : List Str} {s : Str} {q : Pack} (h : Nms ps l) (hs : l.contains s = false) (hq : ps.find? (fun q => q.name == s) = some q) : Nms ps (l ++ [s]) := by
 have hn : s ∉ l := by simpa using hs
 refine ⟨?_, fun x hx => ?_⟩
 ·rw [List.nodup_append]
  refine ⟨h.1, by simp, fun a ha b hb => ?_⟩
  rw [List.mem_singleton.1 hb]
  exact fun e => hn (e ▸ ha)
 ·rcases List.mem_append.1 hx with hx | hx
  ·exact h.2 x hx
  ·rw [List.mem_singleton.1 hx]; exact ⟨q, hq⟩
theorem Nms.nil (ps : List Pack) : Nms ps [] := ⟨List.nodup_nil, fun s h => by cases h⟩
def Dis (op out : List Str) : Prop := ∀ s, s ∈ op → s ∉ out
def CloS (ps : List Pack) (op : List Str) (r : Sum (List Str) Int) (x : Option o23.Y) : Prop :=
 (∃ o, r = .inl o ∧ (Nms ps o ∧ Dis op o) ∧ x = some ((o, ((0 : Int), ())), ())) ∨ (∃ c o, r = .inr c ∧ c ≠ 0 ∧ x = some ((o, (c, ())), ()))
theorem v_closeNs (ps : List Pack) (hb : BdPs ps) (hv : VS ps) (name : Str) (p : Pack) (k : Nat) (hk : ps[k]? = some p) (wth : List Str) (rec : Str → List Str → Sum (List Str) Int) (F : i23.Y → Option o23.Y)
  (hF : ∀ nm out, Nms ps out ∧ Dis wth out → CloS ps wth (rec nm out) (F ((ps, (nm, (out, (wth, ())))), ()))) : ∀ (r : List Need) (i : Nat) (out : List Str), p.needs.drop i = r → i ≤ p.needs.length → Nms ps out ∧ Dis wth out →
  (∃ o, jxo rec ps r out = .inl o ∧ (Nms ps o ∧ Dis wth o) ∧ jqW F ((ps, (name, (out, ((k : Int), (wth, ((i : Int), ())))))), ()) = some (.inr ((name, (o, ())), ()))) ∨
  (∃ c o, jxo rec ps r out = .inr c ∧ c ≠ 0 ∧ jqW F ((ps, (name, (out, ((k : Int), (wth, ((i : Int), ())))))), ()) = some (.inl ((o, (c, ())), ()))) := by
 have hpm := List.mem_of_getElem? hk
 intro r
 induction r with
 | nil =>
  intro i out hr hi ho
  have := drop_nil hr
  have d1 : decide ((i : Int) < (p.needs.length : Int)) = false := by simp only [decide_eq_false_iff_not]; omega
  refine .inl ⟨out, rfl, ho, jjC ?_⟩
  simp only [jxD, jjx, hk, Option.bind_some, d1, cond_false]
 | cons n r ih =>
  intro i out hr hi ho
  obtain ⟨c1, c2, c3⟩ := jj1 hr
  have hnm := List.mem_of_getElem? c1
  have hlen : p.needs.length ≤ 2097152 := (hb.2 p hpm).2.2.1.1
  have hw : Sm i := by unfold Sm; omega
  have h8 := v_l8Pack ((ps, (n.name, ())), ()) hb.1
  have pre : ∀ (X : Option (Sum s23_250.Y (YS jJn))), jxD F ((ps, (name, (out, ((k : Int), (wth, ((i : Int), ())))))), ()) = X → jqW F ((ps, (name, (out, ((k : Int), (wth, ((i : Int), ())))))), ()) = X.bind (fun s => match s with | .inl y => jqW F y | .inr b => some b) := by
   intro X hX
   subst hX
   cases hg : jxD F ((ps, (name, (out, ((k : Int), (wth, ((i : Int), ())))))), ()) with
   | none => unfold jqW; rw [loopF_eq, hg]; rfl
   | some s =>
    cases s with
    | inl y => exact jqc hg
    | inr b => exact jjC hg
  rcases h8 with ⟨j, q, h1, h2, h3⟩ | ⟨h1, h2⟩
  ·have h2 : ps[j]? = some q := h2
   have h3 : ps.find? (fun p => p.name == n.name) = some q := h3
   have hq := hv q (List.mem_of_getElem? h2)
   have hf := v_l3Fits (((n.name, (n.kind, (n.version, ()))), (n.name, (q.version, ()))), ()) ((hv p hpm).2 n hnm) hq.1 rfl
   have hj : decide ((j : Int) < 0) = false := by simp only [decide_eq_false_iff_not]; omega
   simp only [jxo, h3]
   cases hfit : fitsV n q.version with
   | false =>
    refine .inr ⟨3, out, rfl, by decide, jjC ?_⟩
    simp only [jxD, jjx, hk, c1, Option.bind_some, jjB c3, cond_true, h1, jqC, hj, cond_false, h2, hf, hfit, Bool.not_false]
   | true =>
    simp only [cond_true]
    rcases hF n.name out ho with ⟨o, g1, g2, g3⟩ | ⟨c, o, g1, g2, g3⟩
    ·rw [g1]
     have step : jxD F ((ps, (name, (out, ((k : Int), (wth, ((i : Int), ())))))), ()) = some (.inl ((ps, (name, (o, ((k : Int), (wth, (((i + 1 : Nat) : Int), ())))))), ())) := by
      simp only [jxD, jjx, hk, c1, Option.bind_some, jjB c3, cond_true, h1, jqC, hj, cond_false, h2, hf, hfit, Bool.not_true, g3, bne_self_eq_false, jjn hw]
     have e : jqW F ((ps, (name, (out, ((k : Int), (wth, ((i : Int), ())))))), ()) = _ := jqc step
     rw [e]
     exact ih (i + 1) o c2 c3 g2
    ·rw [g1]
     have hc : (c != 0) = true := by simpa using g2
     refine .inr ⟨c, out, rfl, g2, jjC ?_⟩
     simp only [jxD, jjx, hk, c1, Option.bind_some, jjB c3, cond_true, h1, jqC, hj, cond_false, h2, hf, hfit, Bool.not_true, g3, hc]
  ·have h2 : ps.find? (fun p => p.name == n.name) = none := h2
   have hj : decide ((-1 : Int) < 0) = true := rfl
   simp only [jxo, h2]
   refine .inr ⟨3, out, rfl, by decide, jjC ?_⟩
   simp only [jxD, jjx, hk, c1, Option.bind_some, jjB c3, cond_true, h1, jqC, hj]
theorem v_l8Close (ps : List Pack) (hb : BdPs ps) (hv : VS ps) (hl : ps.length ≤ 1000000) : ∀ (m : Nat) (op : List Str), Nms ps op → ps.length < m + op.length → ∀ (f : Nat), m ≤ f → ∀ name out, Nms ps out ∧ Dis op out →
  CloS ps op (clo ps m op name out) (jqX ff23 f ((ps, (name, (out, (op, ())))), ())) := by
 intro m
 induction m with
 | zero => intro op ho hm; have := ho.len; omega
 | succ m ih =>
  intro op ho hm f hf name out hout
  obtain ⟨f, rfl⟩ : ∃ f', f = f' + 1 := ⟨f - 1, by omega⟩
  have hol := ho.len
  have houtl := hout.1.len
  have e1 := v_l8Has ((out, (name, ())), ()) (show out.length ≤ 2097152 by omega)
  have e2 := v_l8Has ((op, (name, ())), ()) (show op.length ≤ 2097152 by omega)
  show CloS ps op _ (ff23 (jqX ff23 f) ((ps, (name, (out, (op, ())))), ()))
  simp only [clo]
  rcases v_l8Pack ((ps, (name, ())), ()) hb.1 with ⟨k, p, h1, h2, h3⟩ | ⟨h1, h2⟩
  ·have h2 : ps[k]? = some p := h2
   have h3 : ps.find? (fun p => p.name == name) = some p := h3
   have hk : decide ((k : Int) < 0) = false := by simp only [decide_eq_false_iff_not]; omega
   cases c1 : out.contains name with
   | true =>
    refine .inl ⟨out, rfl, hout, ?_⟩
    simp only [ff23, h1, e1, c1, Option.bind_some, cond_true]
   | false =>
    simp only [cond_false, h3]
    cases c2 : op.contains name with
    | true =>
     refine .inr ⟨4, out, rfl, by decide, ?_⟩
     simp only [ff23, h1, e1, e2, c1, c2, hk, Option.bind_some, cond_true, cond_false]
    | false =>
     have ho' := ho.add c2 h3
     have a1 : apd 16 ([] : List Str) op = some op := by rw [jqi (by decide) (by unfold Sm; simp; omega)]; rfl
     have a2 : apd 16 op [name] = some (op ++ [name]) := jqi (by decide) (by unfold Sm; simp; omega)
     have hdis : Nms ps out ∧ Dis (op ++ [name]) out := ⟨hout.1, fun s hs => by
      rcases List.mem_append.1 hs with hs | hs
      ·exact hout.2 s hs
      ·rw [List.mem_singleton.1 hs]; simpa using c1⟩
     have loop := v_closeNs ps hb hv name p k h2 (op ++ [name]) (clo ps m (op ++ [name])) (jqX ff23 f)
      (fun nm out' h' => ih (op ++ [name]) ho' (by simp; omega) f (by omega) nm out' h') p.needs 0 out rfl (Nat.zero_le _) hdis
     simp only [cond_false]
     rcases loop with ⟨o, g1, g2, g3⟩ | ⟨c, o, g1, g2, g3⟩
     ·have g3 : jqW (jqX ff23 f) ((ps, (name, (out, ((k : Int), (op ++ [name], ((0 : Int), ())))))), ()) = _ := g3
      have hoo := g2.1.len
      have a3 : apd 16 ([] : List Str) o = some o := by rw [jqi (by decide) (by unfold Sm; simp; omega)]; rfl
      have a4 : apd 16 o [name] = some (o ++ [name]) := jqi (by decide) (by unfold Sm; simp; omega)
      have hno : o.contains name = false := by
       have := g2.2 name (by simp)
       simpa using this
      rw [g1]
      refine .inl ⟨o ++ [name], rfl, ⟨g2.1.add hno h3, fun s hs hs' => ?_⟩, ?_⟩
      ·rcases List.mem_append.1 hs' with hs' | hs'
       ·exact g2.2 s (List.mem_append.2 (.inl hs)) hs'
       ·rw [List.mem_singleton.1 hs'] at hs
        have : name ∉ op := by simpa using c2
        exact this hs
      ·simp only [ff23, h1, e1, e2, c1, c2, hk, Option.bind_some, cond_true, cond_false, a1, a2, g3, a3, a4]
     ·have g3 : jqW (jqX ff23 f) ((ps, (name, (out, ((k : Int), (op ++ [name], ((0 : Int), ())))))), ()) = _ := g3
      rw [g1]
      refine .inr ⟨c, o, rfl, g2, ?_⟩
      simp only [ff23, h1, e1, e2, c1, c2, hk, Option.bind_some, cond_true, cond_false, a1, a2, g3]
  ·have h2 : ps.find? (fun p => p.name == name) = none := h2
   have hk : decide ((-1 : Int) < 0) = true := rfl
   cases c1 : out.contains name with
   | true =>
    refine .inl ⟨out, rfl, hout, ?_⟩
    simp only [ff23, h1, e1, c1, Option.bind_some, cond_true]
   | false =>
    simp only [cond_false, h2]
    refine .inr ⟨3, out, rfl, by decide, ?_⟩
    simp only [ff23, h1, e1, c1, hk, Option.bind_some, cond_true, cond_false]
theorem fuel_big {n : Nat} (h : n ≤ 1000001) : n ≤ jxk := by unfold jxk; omega
def jqk (ps : List Pack) (m : Nat) : List Str → List Str → Sum (List Str) Int
 | [], out => .inl out
 | n :: r, out => match clo ps m [] n out with
  | .inl o => jqk ps m r o
  | .inr c => .inr c
def jqx (ps : List Pack) (names : List Str) : List Str × Int := bif jqI ps == 0 then (match jqk ps (ps.length + 1) names [] with
 | .inl o => (o, 0)
 | .inr c => ([], c)) else ([], jqI ps)
theorem v_Closure (a) (hb : BdPs a.1.1) (hv : VS a.1.1) (hl : a.1.1.length ≤ 1000000) (hn : a.1.2.1.length ≤ 1000000) : f9 a = some (((jqx a.1.1 a.1.2.1).1, ((jqx a.1.1 a.1.2.1).2, ())), ()) := by
 obtain ⟨⟨ps, names, u⟩, u'⟩ := a
 have hl : ps.length ≤ 1000000 := hl
 have hn : names.length ≤ 1000000 := hn
 have e0 := v_l8Packs ((ps, ()), ()) hb
 have key : ∀ (r : List Str) (i : Nat) (out : List Str), names.drop i = r → i ≤ names.length → Nms ps out ∧ Dis [] out →
   (∃ o, jqk ps (ps.length + 1) r out = .inl o ∧ l9_250 ((ps, (names, (out, ((i : Int), ())))), ()) = some (.inr ((o, ()), ()))) ∨
   (∃ c, jqk ps (ps.length + 1) r out = .inr c ∧ c ≠ 0 ∧ l9_250 ((ps, (names, (out, ((i : Int), ())))), ()) = some (.inl (((), (c, ())), (([] : List Str), ())))) := by
  intro r
  induction r with
  | nil =>
   intro i out hr hi ho
   have := drop_nil hr
   have d1 : decide ((i : Int) < (names.length : Int)) = false := by simp only [decide_eq_false_iff_not]; omega
   refine .inl ⟨out, rfl, jjC ?_⟩
   simp only [g9_250, d1, cond_false]
  | cons n r ih =>
   intro i out hr hi ho
   obtain ⟨c1, c2, c3⟩ := jj1 hr
   have hw : Sm i := by unfold Sm; omega
   simp only [jqk]
   rcases v_l8Close ps hb hv hl (ps.length + 1) [] (Nms.nil ps) (by simp) jxk (fuel_big (by omega)) n out ho with ⟨o, g1, g2, g3⟩ | ⟨c, o, g1, g2, g3⟩
   ·have g3 : f23 ((ps, (n, (out, (([] : List Str), ())))), ()) = _ := g3
    rw [g1]
    have step : g9_250 ((ps, (names, (out, ((i : Int), ())))), ()) = some (.inl ((ps, (names, (o, (((i + 1 : Nat) : Int), ())))), ())) := by
     simp only [g9_250, jjB c3, cond_true, jjx, c1, Option.bind_some, g3, bne_self_eq_false, cond_false, jjn hw]
    have e : l9_250 ((ps, (names, (out, ((i : Int), ())))), ()) = _ := jqc step
    rw [e]
    exact ih (i + 1) o c2 c3 g2
   ·have g3 : f23 ((ps, (n, (out, (([] : List Str), ())))), ()) = _ := g3
    rw [g1]
    have hc : (c != 0) = true := by simpa using g2
    refine .inr ⟨c, rfl, g2, jjC ?_⟩
    simp only [g9_250, jjB c3, cond_true, jjx, c1, Option.bind_some, g3, hc]
 have zz : (jqI ps != 0) = !(jqI ps == 0) := rfl
 simp only [f9, e0, Option.bind_some, zz, jqx]
 cases hz : (jqI ps == 0) with
 | false => rfl
 | true =>
  simp only [Bool.not_true, cond_false, cond_true]
  rcases key names 0 [] rfl (Nat.zero_le _) ⟨Nms.nil ps, fun s hs => by cases hs⟩ with ⟨o, g1, g2⟩ | ⟨c, g1, g2, g3⟩
  ·have g2 : l9_250 ((ps, (names, (([] : List Str), ((0 : Int), ())))), ()) = _ := g2
   simp only [g1, g2, Option.bind_some]
  ·have g3 : l9_250 ((ps, (names, (([] : List Str), ((0 : Int), ())))), ()) = _ := g3
   simp only [g1, g3, Option.bind_some]
@[reducible] noncomputable def i21v0 : Shape := ⟨[(0, .lf (.ptr 500000 0)), (1, .lf (.d (.str)))], [(37000002, .row .i64, .cell 500000 2), (37000003, .row .str, .cell 500000 3), (500000, .box [.d (.sl .pack), .d (.map .i64), .own 37000002, .own 37000003], .same)], 104⟩
@[reducible] noncomputable def o21v0 : Shape := ⟨[(0, .lf (.ptr 500000 0)), (4, .lf (.d (.int .i64)))], [(37000002, .row .i64, .cell 500000 2), (37000003, .row .str, .cell 500000 3), (500000, .box [.d (.sl .pack), .d (.map .i64), .own 37000002, .own 37000003], .same)], 104⟩
noncomputable def SF21v0 (F : i21v0.Y → Option o21v0.Y) : jjM := jjg tt 104 i21v0 o21v0 [.tmp 4] [0] F
noncomputable def c21v0 (F : i21v0.Y → Option o21v0.Y) : Ctx := { tt := tt, fs := fun n => match n with | 21 => some (SF21v0 F) | 36 => some S36 | _ => none }
theorem k21v0 (F : i21v0.Y → Option o21v0.Y) (h : ∀ T, (tt T).ok Tryz.prog T) (h36 : jja Tryz.prog 36 S36) (hF : jja Tryz.prog 21 (SF21v0 F)) : CtxGood Tryz.prog (c21v0 F) := ⟨⟨h⟩, fun g S hg => (by
 simp only [c21v0] at hg
 split at hg
 ·cases hg; exact hF
 ·cases hg; exact h36
 ·cases hg), jjv, fun _ _ h => (by cases h), fun _ h => (by cases h)⟩
noncomputable def b21v0 : Code := jjl Tryz.f21
@[reducible] noncomputable def s21v0_259276 : Shape := ⟨[(0, .lf (.ptr 500000 0)), (1, .lf (.d (.str))), (5, .lf (.d (.int .i64))), (8, .lf (.ptr 8 0)), (9, .lf (.d (.int .i64))), (10, .lf (.d (.bool))), (47, .lf (.d (.sl .need))), (48, .lf (.d (.int .i64))), (49, .lf (.d (.int .i64))), (54, .lf (.ptr 500000 0)), (55, .lf (.ptr 500000 0)), (56, .lf (.ptr 500000 1)), (57, .lf (.d (.map .i64))), (58, .lf (.ptr 8 0)), (59, .lf (.d (.str))), (61, .lf (.d (.int .i64))), (62, .lf (.d (.bool)))], [(37000002, .row .i64, .cell 500000 2), (37000003, .row .str, .cell 500000 3), (500000, .box [.d (.sl .pack), .d (.map .i64), .own 37000002, .own 37000003], .same), (8, .box [.d (.str), .d (.int .i64), .d (.str)], .same)], 104⟩
@[reducible] noncomputable def jqR : List OSh := [(.norm, ⟨[(0, .lf (.ptr 500000 0)), (1, .lf (.d (.str))), (5, .lf (.d (.int .i64))), (8, .lf (.ptr 8 0)), (9, .lf (.d (.int .i64))), (10, .lf (.d (.bool))), (47, .lf (.d (.sl .need))), (48, .lf (.d (.int .i64))), (49, .lf (.d (.int .i64))), (54, .lf (.ptr 500000 0)), (55, .lf (.ptr 500000 0)), (56, .lf (.ptr 500000 1)), (57, .lf (.d (.map .i64))), (58, .lf (.ptr 8 0)), (59, .lf (.d (.str))), (61, .lf (.d (.int .i64))), (62, .lf (.d (.bool))), (63, .lf (.d (.bool))), (64, .lf (.d (.bool))), (65, .lf (.d (.bool))), (79, .lf (.d (.bool)))], [(37000002, .row .i64, .cell 500000 2), (37000003, .row .str, .cell 500000 3), (500000, .box [.d (.sl .pack), .d (.map .i64), .own 37000002, .own 37000003], .same), (8, .box [.d (.str), .d (.int .i64), .d (.str)], .same)], 104⟩)]
noncomputable def jj4 (F : i21v0.Y → Option o21v0.Y) (y : s21v0_259276.Y) : Option (YS jqR) :=
 bif (!y.1.2.2.2.2.2.1) then
 some ((((), (y.1.2.1, (y.1.2.2.1, ((), (y.1.2.2.2.2.1, (y.1.2.2.2.2.2.1, (y.1.2.2.2.2.2.2.1, (y.1.2.2.2.2.2.2.2.1, (y.1.2.2.2.2.2.2.2.2.1, ((), ((), ((), (y.1.2.2.2.2.2.2.2.2.2.2.2.2.1, ((), (y.1.2.2.2.2.2.2.2.2.2.2.2.2.2.2.1, (y.1.2.2.2.2.2.2.2.2.2.2.2.2.2.2.2.1, (y.1.2.2.2.2.2.2.2.2.2.2.2.2.2.2.2.2.1, (y.1.2.2.2.2.2.1, ((!y.1.2.2.2.2.2.1), (true, (true, ()))))))))))))))))))))), (y.2.1, (y.2.2.1, ((y.2.2.2.1.1, (y.2.2.2.1.2.1, ((), ((), ())))), ((y.2.2.2.2.1.1, (y.2.2.2.2.1.2.1, (y.2.2.2.2.1.2.2.1, ()))), ()))))))
else
(ix y.2.2.2.1.1 y.1.2.2.2.2.1).bind fun x1385 =>
(f36 (((y.2.2.2.2.1.1, (y.2.2.2.2.1.2.1, (y.2.2.2.2.1.2.2.1, ()))), (y.2.2.2.2.1.1, (x1385.version, ()))), ())).bind fun r1386 =>
 some ((((), (y.1.2.1, (y.1.2.2.1, ((), (y.1.2.2.2.2.1, (y.1.2.2.2.2.2.1, (y.1.2.2.2.2.2.2.1, (y.1.2.2.2.2.2.2.2.1, (y.1.2.2.2.2.2.2.2.2.1, ((), ((), ((), (y.1.2.2.2.2.2.2.2.2.2.2.2.2.1, ((), (y.1.2.2.2.2.2.2.2.2.2.2.2.2.2.2.1, (y.1.2.2.2.2.2.2.2.2.2.2.2.2.2.2.2.1, (y.1.2.2.2.2.2.2.2.2.2.2.2.2.2.2.2.2.1, (y.1.2.2.2.2.2.1, ((!y.1.2.2.2.2.2.1), (false, ((!r1386.1.1), ()))))))))))))))))))))), (y.2.1, (y.2.2.1, ((y.2.2.2.1.1, (y.2.2.2.1.2.1, ((), ((), ())))), ((y.2.2.2.2.1.1, (y.2.2.2.2.1.2.1, (y.2.2.2.2.1.2.2.1, ()))), ()))))))
theorem r21v0_259276 (F : i21v0.Y → Option o21v0.Y) : ∀ y, (jj4 F) y = jjL (jjd (c21v0 F) []) (jjc (jjk (jjc b21v0 1 506)) 1012 259276) 259276 s21v0_259276 jqR y := fun y => by kernel_rfl
theorem q21v0_259276 (F : i21v0.Y → Option o21v0.Y) (H : CtxGood Tryz.prog (c21v0 F)) : jjj Tryz.prog (jjc (jjk (jjc b21v0 1 506)) 1012 259276) (jjb s21v0_259276 jqR (jj4 F)) :=
 jjs (fr := []) H (by kernel_rfl) jje (r21v0_259276 F)
@[reducible] noncomputable def s21v0_506 : Shape := ⟨[(0, .lf (.ptr 500000 0)), (1, .lf (.d (.str))), (5, .lf (.d (.int .i64))), (47, .lf (.d (.sl .need))), (48, .lf (.d (.int .i64))), (49, .lf (.d (.int .i64)))], [(37000002, .row .i64, .cell 500000 2), (37000003, .row .str, .cell 500000 3), (500000, .box [.d (.sl .pack), .d (.map .i64), .own 37000002, .own 37000003], .same)], 104⟩
@[reducible] noncomputable def jxL : List OSh := [(.ret, ⟨[(0, .lf (.ptr 500000 0)), (4, .lf (.d (.int .i64)))], [(37000002, .row .i64, .cell 500000 2), (37000003, .row .str, .cell 500000 3), (500000, .box [.d (.sl .pack), .d (.map .i64), .own 37000002, .own 37000003], .same)], 104⟩), (.exit 1, ⟨[(0, .lf (.ptr 500000 0)), (1, .lf (.d (.str))), (5, .lf (.d (.int .i64)))], [(37000002, .row .i64, .cell 500000 2), (37000003, .row .str, .cell 500000 3), (500000, .box [.d (.sl .pack), .d (.map .i64), .own 37000002, .own 37000003], .same)], 104⟩)]
noncomputable def jqS (F : i21v0.Y → Option o21v0.Y) (y : s21v0_506.Y) : Option (Sum s21v0_506.Y (YS jxL)) :=
 bif (decide (y.1.2.2.2.2.2.1 < y.1.2.2.2.2.1)) then
(ix y.1.2.2.2.1 y.1.2.2.2.2.2.1).bind fun x1392 =>
((jj4 F) (((), (y.1.2.1, (y.1.2.2.1, ((), (((jqb y.2.2.2.1.2.1 x1392.name).getD (0 : Int)), ((jqb y.2.2.2.1.2.1 x1392.name).isSome, (y.1.2.2.2.1, (y.1.2.2.2.2.1, (y.1.2.2.2.2.2.1, ((), ((), ((), (y.2.2.2.1.2.1, ((), (x1392.name, (((jqb y.2.2.2.1.2.1 x1392.name).getD (0 : Int)), ((jqb y.2.2.2.1.2.1 x1392.name).isSome, ()))))))))))))))))), (y.2.1, (y.2.2.1, ((y.2.2.2.1.1, (y.2.2.2.1.2.1, ((), ((), ())))), ((x1392.name, (x1392.kind, (x1392.version, ()))), ())))))).bind fun r1394 =>
 bif r1394.1.2.2.2.2.2.2.2.2.2.2.2.2.2.2.2.2.2.2.2.2.1 then
 some (.inr (.inl (((), ((3 : Int), ())), (r1394.2.1, (r1394.2.2.1, ((r1394.2.2.2.1.1, (r1394.2.2.2.1.2.1, ((), ((), ())))), ()))))))
else
(F (((), (r1394.2.2.2.2.1.1, ())), (r1394.2.1, (r1394.2.2.1, ((r1394.2.2.2.1.1, (r1394.2.2.2.1.2.1, ((), ((), ())))), ()))))).bind fun r1396 =>
 bif (r1396.1.2.1 != (0 : Int)) then
 some (.inr (.inl (((), (r1396.1.2.1, ())), (r1396.2.1, (r1396.2.2.1, ((r1396.2.2.2.1.1, (r1396.2.2.2.1.2.1, ((), ((), ())))), ()))))))
else
 some (.inl (((), (r1394.1.2.1, (r1394.1.2.2.1, (r1394.1.2.2.2.2.2.2.1, (r1394.1.2.2.2.2.2.2.2.1, ((IntKind.i64.wrap (r1394.1.2.2.2.2.2.2.2.2.1 + (1 : Int))), ())))))), (r1396.2.1, (r1396.2.2.1, ((r1396.2.2.2.1.1, (r1396.2.2.2.1.2.1, ((), ((), ())))), ())))))
else
 some (.inr (.inr (((), (y.1.2.1, (y.1.2.2.1, ()))), (y.2.1, (y.2.2.1, ((y.2.2.2.1.1, (y.2.2.2.1.2.1, ((), ((), ())))), ()))))))
theorem r21v0_506 (F : i21v0.Y → Option o21v0.Y) : ∀ y, (jqS F) y = jjz (jjd (c21v0 F) [(259276, jjb s21v0_259276 jqR (jj4 F))]) (jjk (jjc b21v0 1 506)) 506 s21v0_506 jxL y := fun y => by kernel_rfl
noncomputable def jqB (F : i21v0.Y → Option o21v0.Y) : s21v0_506.Y → Option (YS jxL) := jjF (jqS F)
theorem q21v0_506 (F : i21v0.Y → Option o21v0.Y) (H : CtxGood Tryz.prog (c21v0 F)) : jjj Tryz.prog (jjc b21v0 1 506) (jjb s21v0_506 jxL (jqB F)) :=
 jjr (fr := [(259276, jjb s21v0_259276 jqR (jj4 F))]) H (by kernel_rfl) (by kernel_rfl) ⟨(q21v0_259276 F) H, trivial⟩ (fun y => jjh (r21v0_506 F) y)
noncomputable def jxm (F : i21v0.Y → Option o21v0.Y) (a : i21v0.Y) : Option o21v0.Y :=
 bif (!((jqb a.2.2.2.1.2.1 a.1.2.1).isSome)) then
 some (((), ((3 : Int), ())), (a.2.1, (a.2.2.1, ((a.2.2.2.1.1, (a.2.2.2.1.2.1, ((), ((), ())))), ()))))
else
(inb a.2.1.length ((jqb a.2.2.2.1.2.1 a.1.2.1).getD (0 : Int))).bind fun x1301 =>
(a.2.1[x1301]?).bind fun x1302 =>
 bif (x1302 == (2 : Int)) then
 some (((), ((0 : Int), ())), (a.2.1, (a.2.2.1, ((a.2.2.2.1.1, (a.2.2.2.1.2.1, ((), ((), ())))), ()))))
else
 bif (x1302 == (1 : Int)) then
 some (((), ((4 : Int), ())), (a.2.1, (a.2.2.1, ((a.2.2.2.1.1, (a.2.2.2.1.2.1, ((), ((), ())))), ()))))
else
(inb a.2.1.length ((jqb a.2.2.2.1.2.1 a.1.2.1).getD (0 : Int))).bind fun x1305 =>
((a.2.1[x1305]?).bind fun q => some (1 : Int)).bind fun x1306 =>
(ix a.2.2.2.1.1 ((jqb a.2.2.2.1.2.1 a.1.2.1).getD (0 : Int))).bind fun x1401 =>
((jqB F) (((), (a.1.2.1, (((jqb a.2.2.2.1.2.1 a.1.2.1).getD (0 : Int)), (x1401.needs, ((x1401.needs.length : Int), ((0 : Int), ())))))), ((a.2.1.set x1305 x1306), (a.2.2.1, ((a.2.2.2.1.1, (a.2.2.2.1.2.1, ((), ((), ())))), ()))))).bind fun r1402 =>
(match r1402 with
| .inl r1403 =>
 some (((), (r1403.1.2.1, ())), (r1403.2.1, (r1403.2.2.1, ((r1403.2.2.2.1.1, (r1403.2.2.2.1.2.1, ((), ((), ())))), ()))))
| .inr r1404 =>
(inb r1404.2.1.length r1404.1.2.2.1).bind fun x1407 =>
((r1404.2.1[x1407]?).bind fun q => some (2 : Int)).bind fun x1408 =>
(apd 16 r1404.2.2.1 ([r1404.1.2.1] : List Str)).bind fun x1409 =>
 some (((), ((0 : Int), ())), ((r1404.2.1.set x1407 x1408), (x1409, ((r1404.2.2.2.1.1, (r1404.2.2.2.1.2.1, ((), ((), ())))), ())))))
theorem e21v0 (F : i21v0.Y → Option o21v0.Y) : ∀ a, (jxm F) a = jjt (jjd (c21v0 F) [(506, jjb s21v0_506 jxL (jqB F))]) b21v0 i21v0 o21v0 a := fun a => by kernel_rfl
theorem zz21v0 (F : i21v0.Y → Option o21v0.Y) (h : ∀ T, (tt T).ok Tryz.prog T) (h36 : jja Tryz.prog 36 S36) (hF : jja Tryz.prog 21 (SF21v0 F)) : jja Tryz.prog 21 (jjg tt 104 i21v0 o21v0 [.tmp 4] [0] (jxm F)) :=
 have H := (k21v0 F) h h36 hF
 jjm (fn := Tryz.f21) (fr := [(506, jjb s21v0_506 jxL (jqB F))]) H (by kernel_rfl) (by kernel_rfl) (by kernel_rfl) (by kernel_rfl) (by kernel_rfl) ⟨(q21v0_506 F) H, trivial⟩ (by kernel_rfl) (fun y => ⟨_, _, rfl, rfl, rfl⟩) (e21v0 F)
noncomputable def f21v0 : i21v0.Y → Option o21v0.Y := jqX jxm jxk
noncomputable def S21v0 : jjM := jjg tt 104 i21v0 o21v0 [.tmp 4] [0] f21v0
theorem z21v0 (h : ∀ T, (tt T).ok Tryz.prog T) (h36 : jja Tryz.prog 36 S36) : jja Tryz.prog 21 S21v0 := rec_ok (ff := jxm) (fun F hF => zz21v0 F h h36 hF) jxk
structure Idx (ps : List Pack) (es : List (Str × Int)) : Prop where
 hit : ∀ n q, ps.find? (fun q => q.name == n) = some q → ∃ k : Nat, ps[k]? = some q ∧ q.name = n ∧ jqb es n = some (k : Int)
 miss : ∀ n, ps.find? (fun q => q.name == n) = none → jqb es n = none
 nod : ∀ (i j : Nat) (p q : Pack), ps[i]? = some p → ps[j]? = some q → p.name = q.name → i = j
def jxu (ps : List Pack) (out op : List Str) : List Int := ps.map fun q => bif out.contains q.name then 2 else bif op.contains q.name then 1 else 0
theorem stOf_len (ps : List Pack) (out op : List Str) : (jxu ps out op).length = ps.length := by simp [jxu]
theorem jzH {ps : List Pack} {k : Nat} {q : Pack} (h : ps[k]? = some q) (out op : List Str) : (jxu ps out op)[k]? = some (bif out.contains q.name then 2 else bif op.contains q.name then 1 else 0) := by
 simp [jxu, h]
theorem con_app (l : List Str) (x y : Str) : (l ++ [x]).contains y = (l.contains y || y == x) := by
 rw [Bool.eq_iff_iff]
 simp only [List.contains_iff_mem, List.mem_append, List.mem_singleton, Bool.or_eq_true, beq_iff_eq]
theorem st_open {ps : List Pack} {es : List (Str × Int)} (I : Idx ps es) {k : Nat} {q : Pack} (h : ps[k]? = some q) {out op : List Str} (ho : out.contains q.name = false) : (jxu ps out op).set k 1 = jxu ps out (op ++ [q.name]) := by
 apply List.ext_getElem?
 intro i
 rw [List.getElem?_set]
 by_cases hik : k = i
 ·subst hik
  have hlt : k < (jxu ps out op).length := by rw [stOf_len]; exact jjH h
  rw [if_pos rfl, if_pos hlt, jzH h, ho, con_app]
  simp
 ·rw [if_neg hik]
  cases hi : ps[i]? with
  | none => simp [jxu, hi]
  | some p =>
   rw [jzH hi, jzH hi, con_app]
   have : (p.name == q.name) = false := by
    cases he : (p.name == q.name) with
    | false => rfl
    | true => exact absurd (I.nod i k p q hi h (eq_of_beq he)).symm hik
   rw [this, Bool.or_false]
theorem st_done {ps : List Pack} {es : List (Str × Int)} (I : Idx ps es) {k : Nat} {q : Pack} (h : ps[k]? = some q) {out op : List Str} : (jxu ps out (op ++ [q.name])).set k 2 = jxu ps (out ++ [q.name]) op := by
 apply List.ext_getElem?
 intro i
 rw [List.getElem?_set]
 by_cases hik : k = i
 ·subst hik
  have hlt : k < (jxu ps out (op ++ [q.name])).length := by rw [stOf_len]; exact jjH h
  rw [if_pos rfl, if_pos hlt, jzH h, con_app]
  simp
 ·rw [if_neg hik]
  cases hi : ps[i]? with
  | none => simp [jxu, hi]
  | some p =>
   rw [jzH hi, jzH hi, con_app, con_app]
   have : (p.name == q.name) = false := by
    cases he : (p.name == q.name) with
    | false => rfl
    | true => exact absurd (I.nod i k p q hi h (eq_of_beq he)).symm hik
   rw [this, Bool.or_false, Bool.or_false]
abbrev boxY (ps : List Pack) (es : List (Str × Int)) (st : List Int) (out : List Str) : YSites i21v0.sites := (st, (out, ((ps, (es, ((), ((), ())))), ())))
def CloI (ps : List Pack) (es : List (Str × Int)) (op : List Str) (r : Sum (List Str) Int) (x : Option o21v0.Y) : Prop :=
 (∃ o, r = .inl o ∧ (Nms ps o ∧ Dis op o) ∧ x = some (((), ((0 : Int), ())), boxY ps es (jxu ps o op) o)) ∨ (∃ c st o, r = .inr c ∧ c ≠ 0 ∧ x = some (((), (c, ())), boxY ps es st o))
theorem v_addNs (ps : List Pack) (es : List (Str × Int)) (I : Idx ps es) (hb : BdPs ps) (hv : VS ps) (hok : ps.all pkOk = true) (name : Str) (kI : Int) (p : Pack) (hp : p ∈ ps) (wth : List Str) (rec : Str → List Str → Sum (List Str) Int) (F : i21v0.Y → Option o21v0.Y)
  (hF : ∀ nm out, Nms ps out ∧ Dis wth out → CloI ps es wth (rec nm out) (F (((), (nm, ())), boxY ps es (jxu ps out wth) out))) : ∀ (r : List Need) (i : Nat) (out : List Str), p.needs.drop i = r → i ≤ p.needs.length → Nms ps out ∧ Dis wth out →
  (∃ o, jxo rec ps r out = .inl o ∧ (Nms ps o ∧ Dis wth o) ∧ jqB F (((), (name, (kI, (p.needs, ((p.needs.length : Int), ((i : Int), ())))))), boxY ps es (jxu ps out wth) out) = some (.inr (((), (name, (kI, ()))), boxY ps es (jxu ps o wth) o))) ∨
  (∃ c st o, jxo rec ps r out = .inr c ∧ c ≠ 0 ∧ jqB F (((), (name, (kI, (p.needs, ((p.needs.length : Int), ((i : Int), ())))))), boxY ps es (jxu ps out wth) out) = some (.inl (((), (c, ())), boxY ps es st o))) := by
 intro r
 induction r with
 | nil =>
  intro i out hr hi ho
  have := drop_nil hr
  have d1 : decide ((i : Int) < (p.needs.length : Int)) = false := by simp only [decide_eq_false_iff_not]; omega
  refine .inl ⟨out, rfl, ho, jjC ?_⟩
  simp only [jqS, d1, cond_false]
 | cons n r ih =>
  intro i out hr hi ho
  obtain ⟨c1, c2, c3⟩ := jj1 hr
  have hnm := List.mem_of_getElem? c1
  have hlen : p.needs.length ≤ 2097152 := (hb.2 p hp).2.2.1.1
  have hw : Sm i := by unfold Sm; omega
  cases hf : ps.find? (fun q => q.name == n.name) with
  | none =>
   have hm := I.miss _ hf
   simp only [jxo, hf]
   refine .inr ⟨3, jxu ps out wth, out, rfl, by decide, jjC ?_⟩
   simp only [jqS, jjB c3, cond_true, jjx, c1, Option.bind_some, hm, Option.isSome_none, jj4, Bool.not_false]
  | some q =>
   obtain ⟨k, hk, hqn, hm⟩ := I.hit _ _ hf
   have hqm := List.mem_of_getElem? hk
   have hq := hv q hqm
   have hqok := List.all_eq_true.1 hok q hqm
   have hpok := List.all_eq_true.1 hok p hp
   unfold pkOk needsOk at hqok hpok
   simp only [Bool.and_eq_true] at hqok hpok
   have hno : jqA n = true := List.all_eq_true.1 hpok.1.2.1.1 n hnm
   have hnb := (hb.2 p hp).2.2.1.2 n hnm
   have hft := v_NeedFits (((n.name, (n.kind, (n.version, ()))), (n.name, (q.version, ()))), ()) hnb.1 ((hv p hp).2 n hnm) hq.1
   have hfb : fitsB ⟨n.name, n.kind, n.version⟩ n.name q.version = fitsV n q.version := by
    unfold fitsB
    have e1 : jqA ⟨n.name, n.kind, n.version⟩ = true := hno
    rw [e1, hqok.1.1.2]
    simp
   simp only [hfb] at hft
   simp only [jxo, hf]
   cases hfit : fitsV n q.version with
   | false =>
    rw [hfit] at hft
    refine .inr ⟨3, jxu ps out wth, out, rfl, by decide, jjC ?_⟩
    simp only [jqS, jjB c3, cond_true, jjx, c1, Option.bind_some, hm, Option.isSome_some, Option.getD_some, jj4, Bool.not_true, Bool.not_false, cond_false, hk, hft]
   | true =>
    rw [hfit] at hft
    simp only [cond_true]
    rcases hF n.name out ho with ⟨o, g1, g2, g3⟩ | ⟨c, st, o, g1, g2, g3⟩
    ·rw [g1]
     have step : jqS F (((), (name, (kI, (p.needs, ((p.needs.length : Int), ((i : Int), ())))))), boxY ps es (jxu ps out wth) out) = some (.inl (((), (name, (kI, (p.needs, ((p.needs.length : Int), (((i + 1 : Nat) : Int), ())))))), boxY ps es (jxu ps o wth) o)) := by
      simp only [jqS, jjB c3, cond_true, jjx, c1, Option.bind_some, hm, Option.isSome_some, Option.getD_some, jj4, Bool.not_true, cond_false, hk, hft, g3, bne_self_eq_false, jjn hw]
     have e : jqB F (((), (name, (kI, (p.needs, ((p.needs.length : Int), ((i : Int), ())))))), boxY ps es (jxu ps out wth) out) = _ := jqc step
     rw [e]
     exact ih (i + 1) o c2 c3 g2
    ·rw [g1]
     have hc : (c != 0) = true := by simpa using g2
     refine .inr ⟨c, st, o, rfl, g2, jjC ?_⟩
     simp only [jqS, jjB c3, cond_true, jjx, c1, Option.bind_some, hm, Option.isSome_some, Option.getD_some, jj4, Bool.not_true, cond_false, hk, hft, g3, hc]
theorem v_add (ps : List Pack) (es : List (Str × Int)) (I : Idx ps es) (hb : BdPs ps) (hv : VS ps) (hok : ps.all pkOk = true) (hl : ps.length ≤ 1000000) : ∀ (m : Nat) (op : List Str), Nms ps op → ps.length < m + op.length → ∀ (f : Nat), m ≤ f → ∀ name out, Nms ps out ∧ Dis op out →
  CloI ps es op (clo ps m op name out) (jqX jxm f (((), (name, ())), boxY ps es (jxu ps out op) out)) := by
 intro m
 induction m with
 | zero => intro op ho hm; have := ho.len; omega
 | succ m ih =>
  intro op ho hm f hf name out hout
  obtain ⟨f, rfl⟩ : ∃ f', f = f' + 1 := ⟨f - 1, by omega⟩
  have hol := ho.len
  have houtl := hout.1.len
  show CloI ps es op _ (jxm (jqX jxm f) (((), (name, ())), boxY ps es (jxu ps out op) out))
  simp only [clo]
  cases hfd : ps.find? (fun q => q.name == name) with
  | none =>
   have hmis := I.miss _ hfd
   have c1 : out.contains name = false := by
    cases hc : out.contains name with
    | false => rfl
    | true =>
     obtain ⟨q, hq⟩ := hout.1.2 name (by simpa using hc)
     rw [hfd] at hq; cases hq
   rw [c1]
   refine .inr ⟨3, jxu ps out op, out, rfl, by decide, ?_⟩
   simp only [jxm, hmis, Option.isSome_none, Bool.not_false, cond_true]
  | some p =>
   obtain ⟨k, hk, hpn, hm1⟩ := I.hit _ _ hfd
   have hkl : k < (jxu ps out op).length := by rw [stOf_len]; exact jjH hk
   have hat := jzH hk out op
   rw [hpn] at hat
   cases c1 : out.contains name with
   | true =>
    rw [c1] at hat
    refine .inl ⟨out, rfl, hout, ?_⟩
    simp only [jxm, hm1, Option.isSome_some, Bool.not_true, cond_false, cond_true, Option.getD_some, jqP hkl, Option.bind_some, hat, beq_self_eq_true]
   | false =>
    rw [c1] at hat
    simp only [cond_false]
    cases c2 : op.contains name with
    | true =>
     rw [c2] at hat
     have t1 : ((1 : Int) == 2) = false := rfl
     refine .inr ⟨4, jxu ps out op, out, rfl, by decide, ?_⟩
     simp only [jxm, hm1, Option.isSome_some, Bool.not_true, cond_false, cond_true, Option.getD_some, jqP hkl, Option.bind_some, hat, beq_self_eq_true, t1]
    | false =>
     rw [c2] at hat
     have t1 : ((0 : Int) == 2) = false := rfl
     have t2 : ((0 : Int) == 1) = false := rfl
     have hpc1 : out.contains p.name = false := by rw [hpn]; exact c1
     have ho' := ho.add c2 hfd
     have hset := st_open I hk (op := op) hpc1
     rw [hpn] at hset
     have hdis : Nms ps out ∧ Dis (op ++ [name]) out := ⟨hout.1, fun s hs => by
      rcases List.mem_append.1 hs with hs | hs
      ·exact hout.2 s hs
      ·rw [List.mem_singleton.1 hs]; simpa using c1⟩
     have loop := v_addNs ps es I hb hv hok name (k : Int) p (List.mem_of_getElem? hk) (op ++ [name]) (clo ps m (op ++ [name])) (jqX jxm f)
      (fun nm out' h' => ih (op ++ [name]) ho' (by simp; omega) f (by omega) nm out' h') p.needs 0 out rfl (Nat.zero_le _) hdis
     simp only [cond_false]
     rcases loop with ⟨o, g1, g2, g3⟩ | ⟨c, st, o, g1, g2, g3⟩
     ·have g3 : jqB (jqX jxm f) (((), (name, ((k : Int), (p.needs, ((p.needs.length : Int), ((0 : Int), ())))))), boxY ps es (jxu ps out (op ++ [name])) out) = _ := g3
      have hoo := g2.1.len
      have hkl2 : k < (jxu ps o (op ++ [name])).length := by rw [stOf_len]; exact jjH hk
      have hat2 := jzH hk o (op ++ [name])
      have hset2 := st_done I hk (out := o) (op := op)
      rw [hpn] at hset2
      have a4 : apd 16 o [name] = some (o ++ [name]) := jqi (by decide) (by unfold Sm; simp; omega)
      have hno : o.contains name = false := by
       have := g2.2 name (by simp)
       simpa using this
      rw [g1]
      refine .inl ⟨o ++ [name], rfl, ⟨g2.1.add hno hfd, fun s hs hs' => ?_⟩, ?_⟩
      ·rcases List.mem_append.1 hs' with hs' | hs'
       ·exact g2.2 s (List.mem_append.2 (.inl hs)) hs'
       ·rw [List.mem_singleton.1 hs'] at hs
        have : name ∉ op := by simpa using c2
        exact this hs
      ·simp only [jxm, hm1, Option.isSome_some, Bool.not_true, cond_false, cond_true, Option.getD_some, jqP hkl, Option.bind_some, hat, t1, t2, jjx, hk, hset, g3, jqP hkl2, hat2, a4, hset2]
     ·have g3 : jqB (jqX jxm f) (((), (name, ((k : Int), (p.needs, ((p.needs.length : Int), ((0 : Int), ())))))), boxY ps es (jxu ps out (op ++ [name])) out) = _ := g3
      rw [g1]
      refine .inr ⟨c, st, o, rfl, g2, ?_⟩
      simp only [jxm, hm1, Option.isSome_some, Bool.not_true, cond_false, cond_true, Option.getD_some, jqP hkl, Option.bind_some, hat, t1, t2, jjx, hk, hset, g3]
noncomputable def c20 : Ctx := { tt := tt, fs := fun n => match n with | 34 => some S34v0 | _ => none }
theorem k20 (h : ∀ T, (tt T).ok Tryz.prog T) (h34v0 : jja Tryz.prog 34 S34v0) : CtxGood Tryz.prog c20 := ⟨⟨h⟩, fun g S hg => (by
 simp only [c20] at hg
 split at hg
 ·cases hg; exact h34v0
 ·cases hg), jjv, fun _ _ h => (by cases h), fun _ h => (by cases h)⟩
noncomputable def b20 : Code := jjl Tryz.f20
@[reducible] noncomputable def s20_122 : Shape := ⟨[(0, .lf (.d (.sl .pack))), (4, .lf (.own 3000256)), (13, .lf (.d (.sl .pack))), (14, .lf (.d (.int .i64))), (15, .lf (.d (.int .i64)))], [(3000256, .map .i64, .slot 4 0)], 31⟩
@[reducible] noncomputable def t20_122 : List OSh := [(.exit 0, ⟨[(0, .lf (.d (.sl .pack))), (4, .lf (.own 3000256))], [(3000256, .map .i64, .slot 4 0)], 31⟩)]
noncomputable def g20_122 (y : s20_122.Y) : Option (Sum s20_122.Y (YS t20_122)) :=
 bif (decide (y.1.2.2.2.2.1 < y.1.2.2.2.1)) then
(ix y.1.2.2.1 y.1.2.2.2.2.1).bind fun x1268 =>
 some (.inl ((y.1.1, ((), (y.1.2.2.1, (y.1.2.2.2.1, ((IntKind.i64.wrap (y.1.2.2.2.2.1 + (1 : Int))), ()))))), ((jqJ y.2.1 x1268.name y.1.2.2.2.2.1), ())))
else
 some (.inr (((y.1.1, ((), ())), (y.2.1, ()))))
theorem r20_122 : ∀ y, g20_122 y = jjz (jjd c20 []) (jjk (jjc b20 1 122)) 122 s20_122 t20_122 y := fun y => by kernel_rfl
noncomputable def l20_122 : s20_122.Y → Option (YS t20_122) := jjF g20_122
theorem q20_122 (H : CtxGood Tryz.prog c20) : jjj Tryz.prog (jjc b20 1 122) (jjb s20_122 t20_122 l20_122) :=
 jjr (fr := []) H (by kernel_rfl) (by kernel_rfl) jje (fun y => jjh r20_122 y)
@[reducible] noncomputable def i20 : Shape := ⟨[(0, .lf (.d (.sl .pack)))], [], 31⟩
@[reducible] noncomputable def o20 : Shape := ⟨[(2, .lf (.d (.map .i64))), (3, .lf (.d (.int .i64)))], [], 31⟩
noncomputable def f20 (a : i20.Y) : Option o20.Y :=
(f34v0 ((a.1.1, ((), ())), ())).bind fun r1264 =>
 bif (!r1264.1.1) then
 some ((([] : List (Str × Int)), ((1 : Int), ())), ())
else
(l20_122 ((a.1.1, ((), (a.1.1, ((a.1.1.length : Int), ((0 : Int), ()))))), (([] : List (Str × Int)), ()))).bind fun r1270 =>
 bif ((r1270.2.1.length : Int) != (r1270.1.1.length : Int)) then
 some ((([] : List (Str × Int)), ((2 : Int), ())), ())
else
 some ((r1270.2.1, ((0 : Int), ())), ())
theorem e20 : ∀ a, f20 a = jjt (jjd c20 [(122, jjb s20_122 t20_122 l20_122)]) b20 i20 o20 a := fun a => by kernel_rfl
noncomputable def S20 : jjM := jjg tt 31 i20 o20 [.tmp 2, .tmp 3] [] f20
theorem z20 (h : ∀ T, (tt T).ok Tryz.prog T) (h34v0 : jja Tryz.prog 34 S34v0) : jja Tryz.prog 20 S20 :=
 have H := k20 h h34v0
 jjm (fn := Tryz.f20) (fr := [(122, jjb s20_122 t20_122 l20_122)]) H (by kernel_rfl) (by kernel_rfl) (by kernel_rfl) (by kernel_rfl) (by kernel_rfl) ⟨q20_122 H, trivial⟩ (by kernel_rfl) (fun y => ⟨_, _, rfl, rfl, rfl⟩) e20
noncomputable def c8 : Ctx := { tt := tt, fs := fun n => match n with | 20 => some S20 | 21 => some S21v0 | _ => none }
theorem k8 (h : ∀ T, (tt T).ok Tryz.prog T) (h20 : jja Tryz.prog 20 S20) (h21v0 : jja Tryz.prog 21 S21v0) : CtxGood Tryz.prog c8 := ⟨⟨h⟩, fun g S hg => (by
 simp only [c8] at hg
 split at hg
 ·cases hg; exact h20
 ·cases hg; exact h21v0
 ·cases hg), jjv, fun _ _ h => (by cases h), fun _ h => (by cases h)⟩
noncomputable def b8 : Code := jjl Tryz.f8
@[reducible] noncomputable def s8_250 : Shape := ⟨[(8, .lf (.ptr 8 0)), (26, .lf (.d (.sl .str))), (27, .lf (.d (.int .i64))), (28, .lf (.d (.int .i64)))], [(5000514, .row .i64, .cell 8 2), (5000515, .row .str, .cell 8 3), (8, .box [.d (.sl .pack), .d (.map .i64), .own 5000514, .own 5000515], .same)], 40⟩
@[reducible] noncomputable def t8_250 : List OSh := [(.ret, ⟨[(4, .lf (.own 3000256)), (5, .lf (.d (.int .i64)))], [(3000256, .row .str, .slot 4 0)], 40⟩), (.exit 0, ⟨[(8, .lf (.ptr 8 0))], [(5000514, .row .i64, .cell 8 2), (5000515, .row .str, .cell 8 3), (8, .box [.d (.sl .pack), .d (.map .i64), .own 5000514, .own 5000515], .same)], 40⟩)]
noncomputable def g8_250 (y : s8_250.Y) : Option (Sum s8_250.Y (YS t8_250)) :=
 bif (decide (y.1.2.2.2.1 < y.1.2.2.1)) then
(ix y.1.2.1 y.1.2.2.2.1).bind fun x1413 =>
(f21v0 (((), (x1413, ())), (y.2.1, (y.2.2.1, ((y.2.2.2.1.1, (y.2.2.2.1.2.1, ((), ((), ())))), ()))))).bind fun r1415 =>
 bif (r1415.1.2.1 != (0 : Int)) then
 some (.inr (.inl (((), (r1415.1.2.1, ())), (([] : List Str), ()))))
else
 some (.inl (((), (y.1.2.1, (y.1.2.2.1, ((IntKind.i64.wrap (y.1.2.2.2.1 + (1 : Int))), ())))), (r1415.2.1, (r1415.2.2.1, ((r1415.2.2.2.1.1, (r1415.2.2.2.1.2.1, ((), ((), ())))), ())))))
else
 some (.inr (.inr (((), ()), (y.2.1, (y.2.2.1, ((y.2.2.2.1.1, (y.2.2.2.1.2.1, ((), ((), ())))), ()))))))
theorem r8_250 : ∀ y, g8_250 y = jjz (jjd c8 []) (jjk (jjc b8 1 250)) 250 s8_250 t8_250 y := fun y => by kernel_rfl
noncomputable def l8_250 : s8_250.Y → Option (YS t8_250) := jjF g8_250
theorem q8_250 (H : CtxGood Tryz.prog c8) : jjj Tryz.prog (jjc b8 1 250) (jjb s8_250 t8_250 l8_250) :=
 jjr (fr := []) H (by kernel_rfl) (by kernel_rfl) jje (fun y => jjh r8_250 y)
@[reducible] noncomputable def i8 : Shape := ⟨[(0, .lf (.d (.sl .pack))), (1, .lf (.d (.sl .str)))], [], 40⟩
@[reducible] noncomputable def o8 : Shape := ⟨[(4, .lf (.own 3000256)), (5, .lf (.d (.int .i64)))], [(3000256, .row .str, .slot 4 0)], 40⟩
noncomputable def f8 (a : i8.Y) : Option o8.Y :=
(f20 ((a.1.1, ()), ())).bind fun r1276 =>
 bif (r1276.1.2.1 != (0 : Int)) then
 some (((), (r1276.1.2.1, ())), (([] : List Str), ()))
else
(mk0 8 (a.1.1.length : Int) (a.1.1.length : Int) (0 : Int)).bind fun x1278 =>
(l8_250 (((), (a.1.2.1, ((a.1.2.1.length : Int), ((0 : Int), ())))), (x1278, (([] : List Str), ((a.1.1, (r1276.1.1, ((), ((), ())))), ()))))).bind fun r1419 =>
(match r1419 with
| .inl r1420 =>
 some (((), (r1420.1.2.1, ())), (r1420.2.1, ()))
| .inr r1421 =>
 some (((), ((0 : Int), ())), (r1421.2.2.1, ())))
theorem e8 : ∀ a, f8 a = jjt (jjd c8 [(250, jjb s8_250 t8_250 l8_250)]) b8 i8 o8 a := fun a => by kernel_rfl
noncomputable def S8 : jjM := jjg tt 40 i8 o8 [.tmp 4, .tmp 5] [] f8
theorem z8 (h : ∀ T, (tt T).ok Tryz.prog T) (h20 : jja Tryz.prog 20 S20) (h21v0 : jja Tryz.prog 21 S21v0) : jja Tryz.prog 8 S8 :=
 have H := k8 h h20 h21v0
 jjm (fn := Tryz.f8) (fr := [(250, jjb s8_250 t8_250 l8_250)]) H (by kernel_rfl) (by kernel_rfl) (by kernel_rfl) (by kernel_rfl) (by kernel_rfl) ⟨q8_250 H, trivial⟩ (by kernel_rfl) (fun y => ⟨_, _, rfl, rfl, rfl⟩) e8
def jzP (es : List (Str × Int)) : List Str := es.map (·.1)
def bld (es : List (Str × Int)) (i : Nat) : List Pack → List (Str × Int)
 | [] => es
 | p :: r => bld (jqJ es p.name (i : Int)) (i + 1) r
def zipN (i : Nat) : List Pack → List (Str × Int)
 | [] => []
 | p :: r => (p.name, (i : Int)) :: zipN (i + 1) r
theorem mapPut_new (n : Str) (v : Int) : ∀ es : List (Str × Int), (jzP es).contains n = false → jqJ es n v = es ++ [(n, v)] := by
 intro es
 induction es with
 | nil => intro _; rfl
 | cons p es ih =>
  intro h
  simp only [jzP, List.map_cons, List.contains_cons, Bool.or_eq_false_iff] at h
  have h1 : (p.1 == n) = false := by
   cases he : (p.1 == n) with
   | false => rfl
   | true => rw [eq_of_beq he] at h; simp at h
  simp only [jqJ, h1, cond_false, ih h.2, List.cons_append]
theorem mapPut_old (n : Str) (v : Int) : ∀ es : List (Str × Int), (jzP es).contains n = true → (jqJ es n v).length = es.length := by
 intro es
 induction es with
 | nil => intro h; cases h
 | cons p es ih =>
  intro h
  simp only [jqJ]
  cases h1 : (p.1 == n) with
  | true => rfl
  | false =>
   have h2 : (n == p.1) = false := by
    cases he : (n == p.1) with
    | false => rfl
    | true => rw [eq_of_beq he] at h1; simp at h1
   simp only [jzP, List.map_cons, List.contains_cons, h2, Bool.false_or] at h
   simp only [cond_false, List.length_cons, ih h]
theorem bld_ok : ∀ (r : List Pack) (es : List (Str × Int)) (i : Nat), dupA (jzP es) (r.map (·.name)) = false → bld es i r = es ++ zipN i r := by
 intro r
 induction r with
 | nil => intro es i _; simp [bld, zipN]
 | cons p r ih =>
  intro es i h
  simp only [List.map_cons, dupA, Bool.or_eq_false_iff] at h
  have h1 := mapPut_new p.name (i : Int) es h.1
  simp only [bld, zipN]
  rw [h1, ih _ _ (by simp only [jzP, List.map_append, List.map_cons, List.map_nil]; exact h.2)]
  simp
theorem bld_len : ∀ (r : List Pack) (es : List (Str × Int)) (i : Nat), (bld es i r).length ≤ es.length + r.length ∧ (dupA (jzP es) (r.map (·.name)) = true → (bld es i r).length < es.length + r.length) := by
 intro r
 induction r with
 | nil => intro es i; exact ⟨Nat.le_refl _, fun h => by cases h⟩
 | cons p r ih =>
  intro es i
  simp only [bld, List.map_cons, dupA]
  obtain ⟨h1, h2⟩ := ih (jqJ es p.name (i : Int)) (i + 1)
  cases hc : (jzP es).contains p.name with
  | true =>
   rw [mapPut_old _ _ _ hc] at h1 h2
   exact ⟨by simp only [List.length_cons]; omega, fun _ => by simp only [List.length_cons]; omega⟩
  | false =>
   have hn := mapPut_new p.name (i : Int) es hc
   have hl : (jqJ es p.name (i : Int)).length = es.length + 1 := by rw [hn]; simp
   have hk : jzP (jqJ es p.name (i : Int)) = jzP es ++ [p.name] := by rw [hn]; simp [jzP]
   rw [hk] at h2
   rw [hl] at h1 h2
   exact ⟨by simp only [List.length_cons]; omega, fun h => by have := h2 (by simpa using h); simp only [List.length_cons]; omega⟩
theorem zip_get (n : Str) : ∀ (r : List Pack) (i : Nat), (r.find? (fun q => q.name == n) = none → jqb (zipN i r) n = none) ∧
  ∀ q, r.find? (fun q => q.name == n) = some q → ∃ k : Nat, r[k]? = some q ∧ q.name = n ∧ jqb (zipN i r) n = some ((i + k : Nat) : Int) := by
 intro r
 induction r with
 | nil => intro i; exact ⟨fun _ => rfl, fun q h => by cases h⟩
 | cons p r ih =>
  intro i
  obtain ⟨h1, h2⟩ := ih (i + 1)
  simp only [List.find?_cons, zipN, jqb]
  cases hp : (p.name == n) with
  | true => exact ⟨fun h => (by cases h), fun q h => (by cases h; exact ⟨0, rfl, eq_of_beq hp, rfl⟩)⟩
  | false =>
   refine ⟨h1, fun q h => ?_⟩
   obtain ⟨k, k1, k2, k3⟩ := h2 q h
   exact ⟨k + 1, by simpa using k1, k2, by rw [cond_false, k3]; congr 2; omega⟩
theorem dupA_nodup : ∀ (r acc : List Str), dupA acc r = false → acc.Nodup → (acc ++ r).Nodup := by
 intro r
 induction r with
 | nil => intro acc _ h; simpa using h
 | cons x r ih =>
  intro acc h hn
  simp only [dupA, Bool.or_eq_false_iff] at h
  have hx : x ∉ acc := by simpa using h.1
  have := ih (acc ++ [x]) h.2 (by
   rw [List.nodup_append]
   exact ⟨hn, by simp, fun a ha b hb => by rw [List.mem_singleton.1 hb]; exact fun e => hx (e ▸ ha)⟩)
  simpa using this
theorem idx_zip {ps : List Pack} (h : dupA [] (ps.map (·.name)) = false) : Idx ps (zipN 0 ps) := by
 have hn : (ps.map (·.name)).Nodup := by have := dupA_nodup _ _ h List.nodup_nil; simpa using this
 refine ⟨fun n q hq => ?_, fun n hq => (zip_get n ps 0).1 hq, fun i j p q hi hj he => ?_⟩
 ·obtain ⟨k, k1, k2, k3⟩ := (zip_get n ps 0).2 q hq
  exact ⟨k, k1, k2, by rw [Nat.zero_add] at k3; exact k3⟩
 ·have hpw := List.pairwise_iff_getElem.1 hn
  have hil : i < (ps.map (·.name)).length := by rw [List.length_map]; exact jjH hi
  have hjl : j < (ps.map (·.name)).length := by rw [List.length_map]; exact jjH hj
  have ei : (ps.map (·.name))[i] = p.name := by rw [List.getElem_map, (List.getElem?_eq_some_iff.1 hi).2]
  have ej : (ps.map (·.name))[j] = q.name := by rw [List.getElem_map, (List.getElem?_eq_some_iff.1 hj).2]
  rcases Nat.lt_trichotomy i j with hlt | he' | hlt
  ·exact absurd (by rw [ei, ej]; exact he) (hpw i j hil hjl hlt)
  ·exact he'
  ·exact absurd (by rw [ei, ej]; exact he.symm) (hpw j i hjl hil hlt)
theorem v_packIndex (a) (hb : BdPs a.1.1) : f20 a = some (((bif jqI a.1.1 == 0 then zipN 0 a.1.1 else []), (jqI a.1.1, ())), ()) := by
 obtain ⟨⟨ps, u⟩, u'⟩ := a
 have hl : ps.length ≤ 2097152 := hb.1
 have key : ∀ (r : List Pack) (k : Nat) (es : List (Str × Int)), ps.drop k = r → k ≤ ps.length →
   l20_122 ((ps, ((), (ps, ((ps.length : Int), ((k : Int), ()))))), (es, ())) = some ((ps, ((), ())), (bld es k r, ())) := by
  intro r
  induction r with
  | nil =>
   intro k es hr hk
   have := drop_nil hr
   have d1 : decide ((k : Int) < (ps.length : Int)) = false := by simp only [decide_eq_false_iff_not]; omega
   refine jjC ?_
   simp only [g20_122, d1, cond_false, bld]
  | cons q r ih =>
   intro k es hr hk
   obtain ⟨c1, c2, c3⟩ := jj1 hr
   have hw : Sm k := by unfold Sm; omega
   refine (jqc ?_).trans (ih (k + 1) (jqJ es q.name (k : Int)) c2 c3)
   simp only [g20_122, jjB c3, cond_true, jjx, c1, Option.bind_some, jjn hw]
 have key := key ps 0 [] rfl (Nat.zero_le _)
 have key : l20_122 ((ps, ((), (ps, ((ps.length : Int), ((0 : Int), ()))))), (([] : List (Str × Int)), ())) = _ := key
 have e1 := v_allPack ((ps, ((), ())), ()) hb
 simp only [f20, e1, Option.bind_some, jqI, key]
 cases ps.all pkOk with
 | false => rfl
 | true =>
  simp only [Bool.not_true, cond_false, cond_true]
  cases hd : dupA [] (ps.map (·.name)) with
  | true =>
   have := (bld_len ps [] 0).2 hd
   have hne : (((bld [] 0 ps).length : Int) != (ps.length : Int)) = true := by simp at this ⊢; omega
   rw [hne]; rfl
  | false =>
   have hbl := bld_ok ps [] 0 hd
   rw [List.nil_append] at hbl
   have hz : ∀ (r : List Pack) (i : Nat), (zipN i r).length = r.length := by
    intro r
    induction r with
    | nil => intro i; rfl
    | cons p r ih => intro i; simp only [zipN, List.length_cons, ih]
   have hne : (((bld [] 0 ps).length : Int) != (ps.length : Int)) = false := by rw [hbl, hz]; simp
   rw [hne, hbl]; rfl
theorem st_zero (ps : List Pack) : jxu ps [] [] = List.replicate ps.length 0 := by
 induction ps with
 | nil => rfl
 | cons p ps ih =>
  have : jxu (p :: ps) [] [] = 0 :: jxu ps [] [] := rfl
  rw [this, ih]; rfl
theorem v_iClosure (a) (hb : BdPs a.1.1) (hv : VS a.1.1) (hl : a.1.1.length ≤ 1000000) (hn : a.1.2.1.length ≤ 1000000) : f8 a = some (((), ((jqx a.1.1 a.1.2.1).2, ())), ((jqx a.1.1 a.1.2.1).1, ())) := by
 obtain ⟨⟨ps, names, u⟩, u'⟩ := a
 have hl : ps.length ≤ 1000000 := hl
 have hn : names.length ≤ 1000000 := hn
 have e0 := v_packIndex ((ps, ()), ()) hb
 have zz : (jqI ps != 0) = !(jqI ps == 0) := rfl
 simp only [f8, e0, Option.bind_some, zz, jqx]
 cases hz : (jqI ps == 0) with
 | false => rfl
 | true =>
  have hok : ps.all pkOk = true ∧ dupA [] (ps.map (·.name)) = false := by
   unfold jqI at hz
   cases h1 : ps.all pkOk with
   | false => rw [h1] at hz; cases hz
   | true =>
    rw [h1] at hz
    cases h2 : dupA [] (ps.map (·.name)) with
    | true => rw [h2] at hz; cases hz
    | false => exact ⟨rfl, rfl⟩
  have I := idx_zip hok.2
  have hmk : mk0 8 (ps.length : Int) (ps.length : Int) (0 : Int) = some (jxu ps [] []) := by
   unfold mk0
   rw [if_pos ⟨by omega, by omega, by unfold room; omega, by unfold maxLen; omega⟩, Int.toNat_natCast, st_zero]
  have key : ∀ (r : List Str) (i : Nat) (out : List Str), names.drop i = r → i ≤ names.length → Nms ps out ∧ Dis [] out →
    (∃ o, jqk ps (ps.length + 1) r out = .inl o ∧ l8_250 (((), (names, ((names.length : Int), ((i : Int), ())))), boxY ps (zipN 0 ps) (jxu ps out []) out) = some (.inr (((), ()), boxY ps (zipN 0 ps) (jxu ps o []) o))) ∨
    (∃ c, jqk ps (ps.length + 1) r out = .inr c ∧ c ≠ 0 ∧ l8_250 (((), (names, ((names.length : Int), ((i : Int), ())))), boxY ps (zipN 0 ps) (jxu ps out []) out) = some (.inl (((), (c, ())), (([] : List Str), ())))) := by
   intro r
   induction r with
   | nil =>
    intro i out hr hi ho
    have := drop_nil hr
    have d1 : decide ((i : Int) < (names.length : Int)) = false := by simp only [decide_eq_false_iff_not]; omega
    refine .inl ⟨out, rfl, jjC ?_⟩
    simp only [g8_250, d1, cond_false]
   | cons n r ih =>
    intro i out hr hi ho
    obtain ⟨c1, c2, c3⟩ := jj1 hr
    have hw : Sm i := by unfold Sm; omega
    simp only [jqk]
    rcases v_add ps (zipN 0 ps) I hb hv hok.1 hl (ps.length + 1) [] (Nms.nil ps) (by simp) jxk (fuel_big (by omega)) n out ho with ⟨o, g1, g2, g3⟩ | ⟨c, st, o, g1, g2, g3⟩
    ·have g3 : f21v0 (((), (n, ())), boxY ps (zipN 0 ps) (jxu ps out []) out) = _ := g3
     rw [g1]
     have step : g8_250 (((), (names, ((names.length : Int), ((i : Int), ())))), boxY ps (zipN 0 ps) (jxu ps out []) out) = some (.inl (((), (names, ((names.length : Int), (((i + 1 : Nat) : Int), ())))), boxY ps (zipN 0 ps) (jxu ps o []) o)) := by
      simp only [g8_250, jjB c3, cond_true, jjx, c1, Option.bind_some, g3, bne_self_eq_false, cond_false, jjn hw]
     have e : l8_250 (((), (names, ((names.length : Int), ((i : Int), ())))), boxY ps (zipN 0 ps) (jxu ps out []) out) = _ := jqc step
     rw [e]
     exact ih (i + 1) o c2 c3 g2
    ·have g3 : f21v0 (((), (n, ())), boxY ps (zipN 0 ps) (jxu ps out []) out) = _ := g3
     rw [g1]
     have hc : (c != 0) = true := by simpa using g2
     refine .inr ⟨c, rfl, g2, jjC ?_⟩
     simp only [g8_250, jjB c3, cond_true, jjx, c1, Option.bind_some, g3, hc]
  simp only [Bool.not_true, cond_false, cond_true, hmk, Option.bind_some]
  rcases key names 0 [] rfl (Nat.zero_le _) ⟨Nms.nil ps, fun s hs => by cases hs⟩ with ⟨o, g1, g2⟩ | ⟨c, g1, g2, g3⟩
  ·have g2 : l8_250 (((), (names, ((names.length : Int), ((0 : Int), ())))), boxY ps (zipN 0 ps) (jxu ps [] []) []) = _ := g2
   simp only [g1, g2, Option.bind_some]
  ·have g3 : l8_250 (((), (names, ((names.length : Int), ((0 : Int), ())))), boxY ps (zipN 0 ps) (jxu ps [] []) []) = _ := g3
   simp only [g1, g3, Option.bind_some]
noncomputable def c10 : Ctx := { tt := tt, fs := fun n => match n with | _ => none }
theorem k10 (h : ∀ T, (tt T).ok Tryz.prog T) : CtxGood Tryz.prog c10 := ⟨⟨h⟩, fun g S hg => (by cases hg), jjv, fun _ _ h => (by cases h), fun _ h => (by cases h)⟩
noncomputable def b10 : Code := jjl Tryz.f10
@[reducible] noncomputable def s10_58 : Shape := ⟨[(0, .lf (.d (.sl .str))), (1, .lf (.d (.sl .str))), (5, .lf (.d (.int .i64)))], [], 26⟩
@[reducible] noncomputable def t10_58 : List OSh := [(.ret, ⟨[(4, .lf (.d (.bool)))], [], 26⟩), (.exit 0, ⟨[], [], 26⟩)]
noncomputable def g10_58 (y : s10_58.Y) : Option (Sum s10_58.Y (YS t10_58)) :=
 bif (decide (y.1.2.2.1 < (y.1.1.length : Int))) then
(ix y.1.1 y.1.2.2.1).bind fun x1822 =>
(ix y.1.2.1 y.1.2.2.1).bind fun x1823 =>
 bif (!(x1822 == x1823)) then
 some (.inr (.inl ((false, ()), ())))
else
 some (.inl ((y.1.1, (y.1.2.1, ((IntKind.i64.wrap (y.1.2.2.1 + (1 : Int))), ()))), ()))
else
 some (.inr (.inr ((), ())))
theorem r10_58 : ∀ y, g10_58 y = jjz (jjd c10 []) (jjk (jjc b10 1 58)) 58 s10_58 t10_58 y := fun y => by kernel_rfl
noncomputable def l10_58 : s10_58.Y → Option (YS t10_58) := jjF g10_58
theorem q10_58 (H : CtxGood Tryz.prog c10) : jjj Tryz.prog (jjc b10 1 58) (jjb s10_58 t10_58 l10_58) :=
 jjr (fr := []) H (by kernel_rfl) (by kernel_rfl) jje (fun y => jjh r10_58 y)
@[reducible] noncomputable def i10 : Shape := ⟨[(0, .lf (.d (.sl .str))), (1, .lf (.d (.sl .str)))], [], 26⟩
@[reducible] noncomputable def o10 : Shape := ⟨[(4, .lf (.d (.bool)))], [], 26⟩
noncomputable def f10 (a : i10.Y) : Option o10.Y :=
 bif ((a.1.1.length : Int) != (a.1.2.1.length : Int)) then
 some ((false, ()), ())
else
(l10_58 ((a.1.1, (a.1.2.1, ((0 : Int), ()))), ())).bind fun r1824 =>
(match r1824 with
| .inl r1825 =>
 some ((r1825.1.1, ()), ())
| .inr r1826 =>
 some ((true, ()), ()))
theorem e10 : ∀ a, f10 a = jjt (jjd c10 [(58, jjb s10_58 t10_58 l10_58)]) b10 i10 o10 a := fun a => by kernel_rfl
noncomputable def S10 : jjM := jjg tt 26 i10 o10 [.tmp 4] [] f10
theorem z10 (h : ∀ T, (tt T).ok Tryz.prog T) : jja Tryz.prog 10 S10 :=
 have H := k10 h
 jjm (fn := Tryz.f10) (fr := [(58, jjb s10_58 t10_58 l10_58)]) H (by kernel_rfl) (by kernel_rfl) (by kernel_rfl) (by kernel_rfl) (by kernel_rfl) ⟨q10_58 H, trivial⟩ (by kernel_rfl) (fun y => ⟨_, _, rfl, rfl, rfl⟩) e10
noncomputable def c19v0 : Ctx := { tt := tt, fs := fun n => match n with | 17 => some jj6 | 18 => some jqj | 32 => some S32v0 | 33 => some S33v0 | _ => none }
theorem k19v0 (h : ∀ T, (tt T).ok Tryz.prog T) (h17v0 : jja Tryz.prog 17 jj6) (h18v0 : jja Tryz.prog 18 jqj) (h32v0 : jja Tryz.prog 32 S32v0) (h33v0 : jja Tryz.prog 33 S33v0) : CtxGood Tryz.prog c19v0 := ⟨⟨h⟩, fun g S hg => (by
 simp only [c19v0] at hg
 split at hg
 ·cases hg; exact h17v0
 ·cases hg; exact h18v0
 ·cases hg; exact h32v0
 ·cases hg; exact h33v0
 ·cases hg), jjv, fun _ _ h => (by cases h), fun _ h => (by cases h)⟩
noncomputable def b19v0 : Code := jjl Tryz.f19
@[reducible] noncomputable def s19v0_31306 : Shape := ⟨[(0, .lf (.ptr 500000 0)), (3, .lf (.own 3000192)), (4, .lf (.d (.sl .str))), (5, .lf (.d (.int .i64))), (6, .lf (.ptr 6 0)), (18, .lf (.d (.sl .str))), (19, .lf (.d (.int .i64))), (21, .lf (.d (.str))), (22, .lf (.ptr 500000 0)), (23, .lf (.d (.str))), (24, .agg [.d (.str), .d (.str), .own 3001538, .own 3001539])], [(500000, .box [.d (.sl .u8), .d (.int .i64)], .same), (3000192, .row .pack, .slot 3 0), (5000386, .row .need, .cell 6 2), (5000387, .row .entry, .cell 6 3), (6, .box [.d (.str), .d (.str), .own 5000386, .own 5000387], .same), (3001538, .row .need, .slot 24 2), (3001539, .row .entry, .slot 24 3)], 47⟩
@[reducible] noncomputable def jxf : List OSh := [(.norm, ⟨[(0, .lf (.ptr 500000 0)), (3, .lf (.own 3000192)), (4, .lf (.d (.sl .str))), (5, .lf (.d (.int .i64))), (6, .lf (.ptr 6 0)), (18, .lf (.d (.sl .str))), (19, .lf (.d (.int .i64))), (21, .lf (.d (.str))), (22, .lf (.ptr 500000 0)), (23, .lf (.d (.str))), (24, .agg [.d (.str), .d (.str), .own 3001538, .own 3001539])], [(500000, .box [.d (.sl .u8), .d (.int .i64)], .same), (3000192, .row .pack, .slot 3 0), (5000386, .row .need, .cell 6 2), (5000387, .row .entry, .cell 6 3), (6, .box [.d (.str), .d (.str), .own 5000386, .own 5000387], .same), (3001538, .row .need, .slot 24 2), (3001539, .row .entry, .slot 24 3)], 47⟩)]
noncomputable def jqQ (y : s19v0_31306.Y) : Option (YS jxf) :=
(jqY (((), ((2 : Int), ())), ((y.2.1.1, (y.2.1.2.1, ())), ()))).bind fun r94 =>
 bif (r94.1.2.1 == (0 : Int)) then
(jzU (((), (y.1.2.2.1, ())), ((r94.2.1.1, (r94.2.1.2.1, ())), ()))).bind fun r95 =>
 some ((((), ((), (y.1.2.2.1, (y.1.2.2.2.1, ((), (y.1.2.2.2.2.2.1, (y.1.2.2.2.2.2.2.1, (y.1.2.2.2.2.2.2.2.1, ((), (y.1.2.2.2.2.2.2.2.2.2.1, ((y.1.2.2.2.2.2.2.2.2.2.2.1.1, (y.1.2.2.2.2.2.2.2.2.2.2.1.2.1, ((), ((), ())))), ()))))))))))), ((r95.2.1.1, (r95.2.1.2.1, ())), (y.2.2.1, (([(Need.mk r95.1.2.1 (0 : Int) ([] : Str))] : List Need), (y.2.2.2.2.1, ((y.2.2.2.2.2.1.1, (y.2.2.2.2.2.1.2.1, ((), ((), ())))), (y.2.2.2.2.2.2.1, (y.2.2.2.2.2.2.2.1, ())))))))))
else
 some ((((), ((), (y.1.2.2.1, (y.1.2.2.2.1, ((), (y.1.2.2.2.2.2.1, (y.1.2.2.2.2.2.2.1, (y.1.2.2.2.2.2.2.2.1, ((), (y.1.2.2.2.2.2.2.2.2.2.1, ((y.1.2.2.2.2.2.2.2.2.2.2.1.1, (y.1.2.2.2.2.2.2.2.2.2.2.1.2.1, ((), ((), ())))), ()))))))))))), ((r94.2.1.1, (r94.2.1.2.1, ())), (y.2.2.1, (y.2.2.2.1, (y.2.2.2.2.1, ((y.2.2.2.2.2.1.1, (y.2.2.2.2.2.1.2.1, ((), ((), ())))), (y.2.2.2.2.2.2.1, (y.2.2.2.2.2.2.2.1, ())))))))))
theorem r19v0_31306 : ∀ y, jqQ y = jjL (jjd c19v0 []) (jjc (jjk (jjc b19v0 1 122)) 244 31306) 31306 s19v0_31306 jxf y := fun y => by kernel_rfl
theorem q19v0_31306 (H : CtxGood Tryz.prog c19v0) : jjj Tryz.prog (jjc (jjk (jjc b19v0 1 122)) 244 31306) (jjb s19v0_31306 jxf jqQ) :=
 jjs (fr := []) H (by kernel_rfl) jje r19v0_31306
@[reducible] noncomputable def s19v0_122 : Shape := ⟨[(0, .lf (.ptr 500000 0)), (3, .lf (.own 3000192)), (4, .lf (.d (.sl .str))), (5, .lf (.d (.int .i64)))], [(500000, .box [.d (.sl .u8), .d (.int .i64)], .same), (3000192, .row .pack, .slot 3 0)], 47⟩
@[reducible] noncomputable def jxM : List OSh := [(.exit 0, ⟨[(0, .lf (.ptr 500000 0)), (3, .lf (.own 3000192))], [(500000, .box [.d (.sl .u8), .d (.int .i64)], .same), (3000192, .row .pack, .slot 3 0)], 47⟩)]
noncomputable def g19v0_122 (y : s19v0_122.Y) : Option (Sum s19v0_122.Y (YS jxM)) :=
 bif (decide (y.1.2.2.2.1 < (y.1.2.2.1.length : Int))) then
(jqY (((), ((4 : Int), ())), ((y.2.1.1, (y.2.1.2.1, ())), ()))).bind fun r99 =>
 bif (decide (r99.1.2.1 > (0 : Int))) then
(ix y.1.2.2.1 y.1.2.2.2.1).bind fun x102 =>
(f32v0 (((), ()), ((r99.2.1.1, (r99.2.1.2.1, ())), ()))).bind fun r103 =>
(jqQ (((), ((), (y.1.2.2.1, (y.1.2.2.2.1, ((), (y.1.2.2.1, (y.1.2.2.2.1, (x102, ((), (r103.1.2.1, ((x102, (r103.1.2.1, ((), ((), ())))), ()))))))))))), ((r103.2.1.1, (r103.2.1.2.1, ())), (y.2.2.1, (([] : List Need), (([] : List Entry), ((x102, (r103.1.2.1, ((), ((), ())))), (([] : List Need), (([] : List Entry), ()))))))))).bind fun r104 =>
(apd 80 r104.2.2.1 ([(Pack.mk r104.2.2.2.2.2.1.1 r104.2.2.2.2.2.1.2.1 r104.2.2.2.1 r104.2.2.2.2.1)] : List Pack)).bind fun x105 =>
 some (.inl (((), ((), (r104.1.2.2.1, ((IntKind.i64.wrap (r104.1.2.2.2.1 + (1 : Int))), ())))), ((r104.2.1.1, (r104.2.1.2.1, ())), (x105, ()))))
else
 some (.inl (((), ((), (y.1.2.2.1, ((IntKind.i64.wrap (y.1.2.2.2.1 + (1 : Int))), ())))), ((r99.2.1.1, (r99.2.1.2.1, ())), (y.2.2.1, ()))))
else
 some (.inr ((((), ((), ())), ((y.2.1.1, (y.2.1.2.1, ())), (y.2.2.1, ())))))
theorem r19v0_122 : ∀ y, g19v0_122 y = jjz (jjd c19v0 [(31306, jjb s19v0_31306 jxf jqQ)]) (jjk (jjc b19v0 1 122)) 122 s19v0_122 jxM y := fun y => by kernel_rfl
noncomputable def l19v0_122 : s19v0_122.Y → Option (YS jxM) := jjF g19v0_122
theorem q19v0_122 (H : CtxGood Tryz.prog c19v0) : jjj Tryz.prog (jjc b19v0 1 122) (jjb s19v0_122 jxM l19v0_122) :=
 jjr (fr := [(31306, jjb s19v0_31306 jxf jqQ)]) H (by kernel_rfl) (by kernel_rfl) ⟨q19v0_31306 H, trivial⟩ (fun y => jjh r19v0_122 y)
@[reducible] noncomputable def i19v0 : Shape := ⟨[(0, .lf (.ptr 500000 0))], [(500000, .box [.d (.sl .u8), .d (.int .i64)], .same)], 47⟩
@[reducible] noncomputable def o19v0 : Shape := ⟨[(0, .lf (.ptr 500000 0)), (2, .lf (.own 3000128))], [(500000, .box [.d (.sl .u8), .d (.int .i64)], .same), (3000128, .row .pack, .slot 2 0)], 47⟩
noncomputable def f19v0 (a : i19v0.Y) : Option o19v0.Y :=
(l19v0_122 (((), ((), (([([111, 110, 101] : Str), ([116, 119, 111] : Str), ([116, 104, 114, 101, 101] : Str), ([122, 105, 112] : Str)] : List Str), ((0 : Int), ())))), ((a.2.1.1, (a.2.1.2.1, ())), (([] : List Pack), ())))).bind fun r903 =>
(jqY (((), ((10 : Int), ())), ((r903.2.1.1, (r903.2.1.2.1, ())), ()))).bind fun r905 =>
 bif (r905.1.2.1 == (0 : Int)) then
(f33v0 (((), ()), ((r905.2.1.1, (r905.2.1.2.1, ())), ()))).bind fun r906 =>
(apd 80 r903.2.2.1 ([(Pack.mk r906.2.2.2.2.1.1 r906.2.2.2.2.1.2.1 r906.2.2.1 r906.2.2.2.1)] : List Pack)).bind fun x907 =>
 some (((), ((), ())), ((r906.2.1.1, (r906.2.1.2.1, ())), (x907, ())))
else
 some (((), ((), ())), ((r905.2.1.1, (r905.2.1.2.1, ())), (r903.2.2.1, ())))
theorem e19v0 : ∀ a, f19v0 a = jjt (jjd c19v0 [(122, jjb s19v0_122 jxM l19v0_122)]) b19v0 i19v0 o19v0 a := fun a => by kernel_rfl
noncomputable def S19v0 : jjM := jjg tt 47 i19v0 o19v0 [.tmp 2] [0] f19v0
theorem z19v0 (h : ∀ T, (tt T).ok Tryz.prog T) (h17v0 : jja Tryz.prog 17 jj6) (h18v0 : jja Tryz.prog 18 jqj) (h32v0 : jja Tryz.prog 32 S32v0) (h33v0 : jja Tryz.prog 33 S33v0) : jja Tryz.prog 19 S19v0 :=
 have H := k19v0 h h17v0 h18v0 h32v0 h33v0
 jjm (fn := Tryz.f19) (fr := [(122, jjb s19v0_122 jxM l19v0_122)]) H (by kernel_rfl) (by kernel_rfl) (by kernel_rfl) (by kernel_rfl) (by kernel_rfl) ⟨q19v0_122 H, trivial⟩ (by kernel_rfl) (fun y => ⟨_, _, rfl, rfl, rfl⟩) e19v0
noncomputable def c7 : Ctx := { tt := tt, fs := fun n => match n with | 17 => some jj6 | 18 => some jqj | 19 => some S19v0 | _ => none, op := fun n => match n with | 16 => true | _ => false }
theorem k7 (h : ∀ T, (tt T).ok Tryz.prog T) (h17v0 : jja Tryz.prog 17 jj6) (h18v0 : jja Tryz.prog 18 jqj) (h19v0 : jja Tryz.prog 19 S19v0) (hO : OpenOk Tryz.prog 16) : CtxGood Tryz.prog c7 := ⟨⟨h⟩, fun g S hg => (by
 simp only [c7] at hg
 split at hg
 ·cases hg; exact h17v0
 ·cases hg; exact h18v0
 ·cases hg; exact h19v0
 ·cases hg), jjv, fun _ _ h => (by cases h), fun g hg => (by
 simp only [c7] at hg
 split at hg
 ·exact hO
 ·cases hg)⟩
noncomputable def b7 : Code := jjl Tryz.f7
@[reducible] noncomputable def s7_122 : Shape := ⟨[(4, .lf (.ptr 4000008 0)), (5, .lf (.own 3000320)), (6, .lf (.d (.int .i64)))], [(4000008, .box [.d (.sl .u8), .d (.int .i64)], .same), (3000320, .row .str, .slot 5 0)], 25⟩
@[reducible] noncomputable def t7_122 : List OSh := [(.exit 0, ⟨[(4, .lf (.ptr 4000008 0)), (5, .lf (.own 3000320))], [(4000008, .box [.d (.sl .u8), .d (.int .i64)], .same), (3000320, .row .str, .slot 5 0)], 25⟩)]
noncomputable def g7_122 (y : s7_122.Y) : Option (Sum s7_122.Y (YS t7_122)) :=
 bif (decide (y.1.2.2.1 > (0 : Int))) then
(jzU (((), (([([111, 110, 101] : Str), ([116, 119, 111] : Str), ([116, 104, 114, 101, 101] : Str), ([122, 105, 112] : Str), ([110, 111, 110, 101] : Str)] : List Str), ())), ((y.2.1.1, (y.2.1.2.1, ())), ()))).bind fun r49 =>
(apd 16 y.2.2.1 ([r49.1.2.1] : List Str)).bind fun x50 =>
 some (.inl (((), ((), ((IntKind.i64.wrap (y.1.2.2.1 - (1 : Int))), ()))), ((r49.2.1.1, (r49.2.1.2.1, ())), (x50, ()))))
else
 some (.inr ((((), ((), ())), ((y.2.1.1, (y.2.1.2.1, ())), (y.2.2.1, ())))))
theorem r7_122 : ∀ y, g7_122 y = jjz (jjd c7 []) (jjk (jjc b7 1 122)) 122 s7_122 t7_122 y := fun y => by kernel_rfl
noncomputable def l7_122 : s7_122.Y → Option (YS t7_122) := jjF g7_122
theorem q7_122 (H : CtxGood Tryz.prog c7) : jjj Tryz.prog (jjc b7 1 122) (jjb s7_122 t7_122 l7_122) :=
 jjr (fr := []) H (by kernel_rfl) (by kernel_rfl) jje (fun y => jjh r7_122 y)
@[reducible] noncomputable def i7 : Shape := ⟨[(0, .lf (.d (.sl .u8)))], [], 25⟩
@[reducible] noncomputable def o7 : Shape := ⟨[(2, .lf (.own 3000128)), (3, .lf (.own 3000192))], [(3000128, .row .pack, .slot 2 0), (3000192, .row .str, .slot 3 0)], 25⟩
noncomputable def f7 (a : i7.Y) : Option o7.Y :=
(jqY (((), ((4 : Int), ())), (((a.1.1.take 2000), ((0 : Int), ())), ()))).bind fun r913 =>
(l7_122 (((), ((), (r913.1.2.1, ()))), ((r913.2.1.1, (r913.2.1.2.1, ())), (([] : List Str), ())))).bind fun r914 =>
(f19v0 (((), ()), ((r914.2.1.1, (r914.2.1.2.1, ())), ()))).bind fun r915 =>
 some (((), ((), ())), (r915.2.2.1, (r914.2.2.1, ())))
theorem e7 : ∀ a, f7 a = jjt (jjd c7 [(122, jjb s7_122 t7_122 l7_122)]) b7 i7 o7 a := fun a => by kernel_rfl
noncomputable def S7 : jjM := jjg tt 25 i7 o7 [.tmp 2, .tmp 3] [] f7
theorem z7 (h : ∀ T, (tt T).ok Tryz.prog T) (h17v0 : jja Tryz.prog 17 jj6) (h18v0 : jja Tryz.prog 18 jqj) (h19v0 : jja Tryz.prog 19 S19v0) (hO : OpenOk Tryz.prog 16) : jja Tryz.prog 7 S7 :=
 have H := k7 h h17v0 h18v0 h19v0 hO
 jjm (fn := Tryz.f7) (fr := [(122, jjb s7_122 t7_122 l7_122)]) H (by kernel_rfl) (by kernel_rfl) (by kernel_rfl) (by kernel_rfl) (by kernel_rfl) ⟨q7_122 H, trivial⟩ (by kernel_rfl) (fun y => ⟨_, _, rfl, rfl, rfl⟩) e7
theorem v_jsTexts (a) (h : a.1.1 = a.1.2.1) (hl : Bd a.1.1.length) : f10 a = some ((true, ()), ()) := by
 obtain ⟨⟨xs, ys, u⟩, u'⟩ := a
 have h : xs = ys := h
 subst h
 have hs : xs.length ≤ 2097152 := hl
 have hall : ∀ (xs : List Str) (i : Nat), jqK (fun _ _ => true) i xs = true := by
  intro xs
  induction xs with
  | nil => intro i; rfl
  | cons x r ih => intro i; simp only [jqK, ih, Bool.and_self]
 have key : l10_58 ((xs, (xs, ((0 : Int), ()))), ()) = some (bif jqK (fun _ _ => true) 0 xs then .inr ((), ()) else .inl ((false, ()), ())) := by
  refine jj3 g10_58 xs (fun i => ((xs, (xs, ((i : Int), ()))), ())) _ _ _ (fun i x hx => ?_) ?_
  ·have hi := jjH hx
   have hw : Sm i := by unfold Sm; omega
   simp only [g10_58, jjB hi, cond_true, jjx, hx, Option.bind_some, beq_self_eq_true, Bool.not_true, cond_false, jjn hw]
  ·simp only [g10_58, jjR, cond_false]
 rw [hall] at key
 have hb : ((xs.length : Int) != (xs.length : Int)) = false := by simp
 simp only [f10, hb, cond_false, key, cond_true, Option.bind_some]
abbrev ShQ (k : Nat) (ps : List Pack) : Prop := ps.length ≤ k ∧ ∀ p, p ∈ ps → ShP p
abbrev NM4 : List Str := [[111, 110, 101], [116, 119, 111], [116, 104, 114, 101, 101], [122, 105, 112]]
theorem v_l11Packs (a) (m : Nat) (h : RD a.2.1.1 a.2.1.2.1 m) (hm : 400 ≤ m) : Ev (f19v0 a) (fun r => RD r.2.1.1 r.2.1.2.1 (m - 400) ∧ ShQ 5 r.2.2.1) := by
 unfold f19v0
 refine Ev.bind (P := fun r => RD r.2.1.1 r.2.1.2.1 (m - 250) ∧ ShQ 4 r.2.2.1) ?_ fun r hr => ?_
 ·refine Ev.loop (fun (k : Nat) y => k ≤ 4 ∧ y.1.2.2.1 = NM4 ∧ (y.1.2.2.2.1 : Int) = ((4 - k : Nat) : Int) ∧ RD y.2.1.1 y.2.1.2.1 (m - 250 + 60 * k) ∧ ShQ (4 - k) y.2.2.1) (fun k y hy => ?_) 4 _ ⟨Nat.le_refl _, rfl, rfl, h.less (by omega), Nat.le_refl _, fun p hp => by cases hp⟩
  obtain ⟨⟨w1, w2, (nms : List Str), (i : Int), w4⟩, ⟨⟨(b' : List Int), (p' : Int), w5⟩, (acc : List Pack), w9⟩⟩ := y
  obtain ⟨y1, y2, y3, y4, y5⟩ := hy
  have y2 : nms = NM4 := y2
  have y3 : i = ((4 - k : Nat) : Int) := y3
  subst y2 y3
  have y4 : RD b' p' (m - 250 + 60 * k) := y4
  have y5 : ShQ (4 - k) acc := y5
  have y51 := y5.1
  unfold g19v0_122
  refine Ev.ite (fun hc => ?_) fun hc => Ev.ret ⟨y4.less (by omega), Nat.le_trans y5.1 (by omega), y5.2⟩
  have hc : ((4 - k : Nat) : Int) < (4 : Int) := of_decide_eq_true hc
  have hw : IntKind.i64.wrap (((4 - k : Nat) : Int) + 1) = ((4 - (k - 1) : Nat) : Int) := by rw [jjE (by omega) (by omega)]; omega
  refine Ev.bind (jqs _ _ y4 (by omega)) fun r2 h2 => ?_
  refine Ev.ite (fun _ => ?_) fun _ => Ev.ret ⟨k - 1, by omega, by omega, rfl, hw, h2.1.less (by omega), Nat.le_trans y5.1 (by omega), y5.2⟩
  obtain ⟨x, hx, hxm⟩ := ix_in (xs := NM4) (i := ((4 - k : Nat) : Int)) (by omega) (by show ((4 - k : Nat) : Int) < (4 : Int); exact hc)
  refine Ev.eq hx ?_
  refine Ev.bind (jxs _ _ h2.1 (by omega)) fun r3 h3 => ?_
  refine Ev.bind (P := fun r => RD r.2.1.1 r.2.1.2.1 (m - 250 + 60 * k - 30) ∧ r.1.2.2.1 = NM4 ∧ (r.1.2.2.2.1 : Int) = ((4 - k : Nat) : Int) ∧ r.2.2.1 = acc ∧ ShP ⟨r.2.2.2.2.2.1.1, r.2.2.2.2.2.1.2.1, r.2.2.2.1, r.2.2.2.2.1⟩) ?_ fun r4 h4 => ?_
  ·unfold jqQ
   refine Ev.bind (jqs _ _ h3.1 (by omega)) fun r5 h5 => ?_
   refine Ev.ite (fun _ => ?_) fun _ => Ev.ret ⟨h5.1.less (by omega), rfl, rfl, rfl, nm_all (L := NM4) (by rfl) hxm, h3.2, ⟨by show (0 : Nat) ≤ 3; decide, fun n hn => by cases hn⟩, by show (0 : Nat) ≤ 17; decide, fun e he => by cases he⟩
   refine Ev.bind (v_of _ _ h5.1 (by omega) (by show (1 : Int) ≤ ((4 : Nat) : Int); decide)) fun r6 h6 => Ev.ret ⟨h6.1.less (by omega), rfl, rfl, rfl, nm_all (L := NM4) (by rfl) hxm, h3.2, ⟨by show (1 : Nat) ≤ 3; decide, fun n hn => ?_⟩, by show (0 : Nat) ≤ 17; decide, fun e he => by cases he⟩
   have hn : n ∈ [_] := hn
   rw [List.mem_singleton.1 hn]
   exact ⟨sh_all (L := NM4) (by rfl) h6.2, by show (0 : Nat) ≤ 200; decide⟩
  ·obtain ⟨z1, z2, z3, z4, z5⟩ := h4
   refine Ev.eq (jqi (xs := (r4.2.2.1 : List Pack)) (by decide) (by rw [z4]; unfold Sm; simp; omega)) ?_
   refine Ev.ret ⟨k - 1, by omega, by omega, z2, by show IntKind.i64.wrap ((r4.1.2.2.2.1 : Int) + 1) = _; rw [z3]; exact hw, z1.less (by omega), ?_, fun q hq => ?_⟩
   ·show ((r4.2.2.1 : List Pack) ++ [_]).length ≤ _
    rw [z4]; simp; omega
   ·have hq : q ∈ (r4.2.2.1 : List Pack) ++ [_] := hq
    rw [z4] at hq
    rcases List.mem_append.1 hq with hq | hq
    ·exact y5.2 q hq
    ·rw [List.mem_singleton.1 hq]; exact z5
 ·have hrl := hr.2.1
  refine Ev.bind (jqs _ _ hr.1 (by omega)) fun r2 h2 => ?_
  refine Ev.ite (fun _ => ?_) fun _ => Ev.ret ⟨h2.1.less (by omega), Nat.le_succ_of_le hr.2.1, hr.2.2⟩
  refine Ev.bind (v_l11AnyPack _ _ h2.1 (by omega)) fun r3 h3 => ?_
  refine Ev.eq (jqi (xs := (r.2.2.1 : List Pack)) (by decide) (by unfold Sm; simp; omega)) ?_
  refine Ev.ret ⟨h3.1.less (by omega), by show ((r.2.2.1 : List Pack) ++ [_]).length ≤ 5; simp; omega, fun e he => ?_⟩
  have he : e ∈ (r.2.2.1 : List Pack) ++ [_] := he
  rcases List.mem_append.1 he with he | he
  ·exact hr.2.2 e he
  ·rw [List.mem_singleton.1 he]; exact h3.2
theorem v_DrawClosure (a) (h : RD (a.1.1.take 2000) 0 1000000) : Ev (f7 a) (fun r => ShQ 5 r.2.1 ∧ (r.2.2.1 : List Str).length ≤ 3) := by
 unfold f7
 refine Ev.bind (jqs _ 1000000 h (by decide)) fun r1 h1 => ?_
 obtain ⟨⟨v1, (q : Int), v2⟩, ⟨⟨(b1 : List Int), (p1 : Int), v3⟩, v4⟩⟩ := r1
 have hn : q < 4 := h1.2.2 (by show (1 : Int) ≤ 4; decide)
 have h0 : 0 ≤ q := h1.2.1
 refine Ev.bind (P := fun r => RD r.2.1.1 r.2.1.2.1 1000 ∧ (r.2.2.1 : List Str).length ≤ 3) ?_ fun r hr => ?_
 ·refine Ev.loop (fun (k : Nat) y => k ≤ 3 ∧ (y.1.2.2.1 : Int) = k ∧ RD y.2.1.1 y.2.1.2.1 (1000 + 10 * k) ∧ (y.2.2.1 : List Str).length ≤ 3 - k) (fun k y hy => ?_) q.toNat _ ⟨by omega, by show q = _; omega, h1.1.less (by omega), by show (0 : Nat) ≤ _; omega⟩
  obtain ⟨⟨w1, w2, (i : Int), w4⟩, ⟨⟨(b' : List Int), (p' : Int), w5⟩, (acc : List Str), w9⟩⟩ := y
  obtain ⟨y1, y3, y4, y5⟩ := hy
  have y3 : i = k := y3
  subst y3
  have y4 : RD b' p' (1000 + 10 * k) := y4
  have y5 : acc.length ≤ 3 - k := y5
  unfold g7_122
  refine Ev.ite (fun hc => ?_) fun hc => Ev.ret ⟨y4.less (by omega), Nat.le_trans y5 (by omega)⟩
  have hc : (k : Int) > 0 := of_decide_eq_true hc
  have hw : IntKind.i64.wrap ((k : Int) - 1) = ((k - 1 : Nat) : Int) := by rw [jjE (by omega) (by omega)]; omega
  refine Ev.bind (v_of _ _ y4 (by omega) (by simp)) fun r2 h2 => ?_
  refine Ev.eq (jqi (xs := acc) (by decide) (by unfold Sm; simp; omega)) ?_
  exact Ev.ret ⟨k - 1, by omega, by omega, hw, h2.1.less (by omega), by show (acc ++ [_]).length ≤ _; simp; omega⟩
 ·exact Ev.bind (v_l11Packs _ _ hr.1 (by decide)) fun r2 h2 => Ev.ret ⟨h2.2, hr.2⟩
theorem cloNs_code {rec : Str → List Str → Sum (List Str) Int} {ps : List Pack} (hr : ∀ n out c, rec n out = .inr c → c = 3 ∨ c = 4) : ∀ (ns : List Need) (out : List Str) (c : Int), jxo rec ps ns out = .inr c → c = 3 ∨ c = 4 := by
 intro ns
 induction ns with
 | nil => intro out c h; cases h
 | cons n r ih =>
  intro out c h
  simp only [jxo] at h
  split at h
  ·cases h; exact .inl rfl
  ·rename_i q _
   cases hf : fitsV n q.version with
   | false => rw [hf] at h; cases h; exact .inl rfl
   | true =>
    rw [hf] at h
    simp only [cond_true] at h
    split at h
    ·exact ih _ _ h
    ·rename_i c' hc
     cases h
     exact hr _ _ _ hc
theorem clo_code (ps : List Pack) : ∀ (m : Nat) (op : List Str) (n : Str) (out : List Str) (c : Int), clo ps m op n out = .inr c → c = 3 ∨ c = 4 := by
 intro m
 induction m with
 | zero => intro op n out c h; cases h; exact .inr rfl
 | succ m ih =>
  intro op n out c h
  simp only [clo] at h
  cases h1 : out.contains n with
  | true => rw [h1] at h; cases h
  | false =>
   rw [h1] at h
   simp only [cond_false] at h
   split at h
   ·cases h; exact .inl rfl
   ·cases h2 : op.contains n with
    | true => rw [h2] at h; cases h; exact .inr rfl
    | false =>
     rw [h2] at h
     simp only [cond_false] at h
     split at h
     ·cases h
     ·rename_i c' hc
      cases h
      exact cloNs_code (fun n out c h => ih _ n out c h) _ _ _ hc
theorem cloAll_code (ps : List Pack) (m : Nat) : ∀ (ns out : List Str) (c : Int), jqk ps m ns out = .inr c → c = 3 ∨ c = 4 := by
 intro ns
 induction ns with
 | nil => intro out c h; cases h
 | cons n r ih =>
  intro out c h
  simp only [jqk] at h
  split at h
  ·exact ih _ _ h
  ·rename_i c' hc
   cases h
   exact clo_code ps m _ _ _ _ hc
noncomputable def c3 : Ctx := { tt := tt, fs := fun n => match n with | 7 => some S7 | 8 => some S8 | 9 => some S9 | 10 => some S10 | _ => none }
theorem k3 (h : ∀ T, (tt T).ok Tryz.prog T) (h7 : jja Tryz.prog 7 S7) (h8 : jja Tryz.prog 8 S8) (h9 : jja Tryz.prog 9 S9) (h10 : jja Tryz.prog 10 S10) : CtxGood Tryz.prog c3 := ⟨⟨h⟩, fun g S hg => (by
 simp only [c3] at hg
 split at hg
 ·cases hg; exact h7
 ·cases hg; exact h8
 ·cases hg; exact h9
 ·cases hg; exact h10
 ·cases hg), jjv, fun _ _ h => (by cases h), fun _ h => (by cases h)⟩
noncomputable def b3 : Code := jjl Tryz.f3
@[reducible] noncomputable def s3_252 : Shape := ⟨[(3, .lf (.d (.sl .pack))), (5, .lf (.own 3000320)), (6, .lf (.d (.int .i64))), (7, .lf (.d (.sl .str))), (8, .lf (.d (.int .i64)))], [(3000320, .row .str, .slot 5 0)], 83⟩
@[reducible] noncomputable def t3_252 : List OSh := [(.norm, ⟨[(3, .lf (.d (.sl .pack))), (6, .lf (.d (.int .i64))), (41, .lf (.d (.bool)))], [], 83⟩)]
noncomputable def g3_252 (y : s3_252.Y) : Option (YS t3_252) :=
 bif (!(y.1.2.2.1 != y.1.2.2.2.2.1)) then
(f10 ((y.2.1, (y.1.2.2.2.1, ())), ())).bind fun r1835 =>
 some (((y.1.1, (y.1.2.2.1, ((!r1835.1.1), ()))), ()))
else
 some (((y.1.1, (y.1.2.2.1, (true, ()))), ()))
theorem r3_252 : ∀ y, g3_252 y = jjL (jjd c3 []) (jjc b3 1 252) 252 s3_252 t3_252 y := fun y => by kernel_rfl
theorem q3_252 (H : CtxGood Tryz.prog c3) : jjj Tryz.prog (jjc b3 1 252) (jjb s3_252 t3_252 g3_252) :=
 jjs (fr := []) H (by kernel_rfl) jje r3_252
@[reducible] noncomputable def s3_2044 : Shape := ⟨[(6, .lf (.d (.int .i64))), (9, .lf (.own 3000576)), (10, .lf (.d (.int .i64))), (12, .lf (.d (.int .i64)))], [(3000576, .row .str, .slot 9 0)], 83⟩
@[reducible] noncomputable def t3_2044 : List OSh := [(.norm, ⟨[(6, .lf (.d (.int .i64))), (9, .lf (.own 3000576)), (10, .lf (.d (.int .i64))), (12, .lf (.d (.int .i64))), (58, .lf (.d (.bool)))], [(3000576, .row .str, .slot 9 0)], 83⟩)]
noncomputable def g3_2044 (y : s3_2044.Y) : Option (YS t3_2044) :=
 bif (!(y.1.1 == (1 : Int))) then
 some (((y.1.1, ((), (y.1.2.2.1, (y.1.2.2.2.1, ((y.1.1 == (2 : Int)), ()))))), (y.2.1, ())))
else
 some (((y.1.1, ((), (y.1.2.2.1, (y.1.2.2.2.1, (true, ()))))), (y.2.1, ())))
theorem r3_2044 : ∀ y, g3_2044 y = jjL (jjd c3 []) (jjc b3 1 2044) 2044 s3_2044 t3_2044 y := fun y => by kernel_rfl
theorem q3_2044 (H : CtxGood Tryz.prog c3) : jjj Tryz.prog (jjc b3 1 2044) (jjb s3_2044 t3_2044 g3_2044) :=
 jjs (fr := []) H (by kernel_rfl) jje r3_2044
@[reducible] noncomputable def i3 : Shape := ⟨[(0, .lf (.d (.sl .u8)))], [], 83⟩
@[reducible] noncomputable def o3 : Shape := ⟨[(2, .lf (.d (.bool)))], [], 83⟩
noncomputable def f3 (a : i3.Y) : Option o3.Y :=
 bif (decide ((a.1.1.length : Int) > (1048576 : Int))) then
 some ((true, ()), ())
else
(f7 ((a.1.1, ()), ())).bind fun r1843 =>
(f8 ((r1843.2.1, (r1843.2.2.1, ())), ())).bind fun r1845 =>
(f9 ((r1843.2.1, (r1843.2.2.1, ())), ())).bind fun r1847 =>
(g3_252 ((r1843.2.1, ((), (r1845.1.2.1, (r1847.1.1, (r1847.1.2.1, ()))))), (r1845.2.1, ()))).bind fun r1849 =>
 bif r1849.1.2.2.1 then
 some ((false, ()), ())
else
(f8 ((r1849.1.1, (([] : List Str), ())), ())).bind fun r1851 =>
(f8 ((r1849.1.1, (([([110, 111, 98, 111, 100, 121, 115] : Str)] : List Str), ())), ())).bind fun r1853 =>
(g3_2044 ((r1849.1.2.1, ((), (r1851.1.2.1, (r1853.1.2.1, ())))), (r1851.2.1, ()))).bind fun r1855 =>
 bif r1855.1.2.2.2.2.1 then
 bif (r1855.1.2.2.1 == r1855.1.1) then
 bif (r1855.1.2.2.2.1 == r1855.1.1) then
 some ((((r1855.2.1.length : Int) == (0 : Int)), ()), ())
else
 some ((false, ()), ())
else
 some ((false, ()), ())
else
 bif (r1855.1.2.2.1 == (0 : Int)) then
 bif ((r1855.2.1.length : Int) == (0 : Int)) then
 some (((r1855.1.2.2.2.1 == (3 : Int)), ()), ())
else
 some ((false, ()), ())
else
 some ((false, ()), ())
theorem e3 : ∀ a, f3 a = jjt (jjd c3 [(252, jjb s3_252 t3_252 g3_252), (2044, jjb s3_2044 t3_2044 g3_2044)]) b3 i3 o3 a := fun a => by kernel_rfl
noncomputable def S3 : jjM := jjg tt 83 i3 o3 [.tmp 2] [] f3
theorem z3 (h : ∀ T, (tt T).ok Tryz.prog T) (h7 : jja Tryz.prog 7 S7) (h8 : jja Tryz.prog 8 S8) (h9 : jja Tryz.prog 9 S9) (h10 : jja Tryz.prog 10 S10) : jja Tryz.prog 3 S3 :=
 have H := k3 h h7 h8 h9 h10
 jjm (fn := Tryz.f3) (fr := [(252, jjb s3_252 t3_252 g3_252), (2044, jjb s3_2044 t3_2044 g3_2044)]) H (by kernel_rfl) (by kernel_rfl) (by kernel_rfl) (by kernel_rfl) (by kernel_rfl) ⟨q3_252 H, q3_2044 H, trivial⟩ (by kernel_rfl) (fun y => ⟨_, _, rfl, rfl, rfl⟩) e3
theorem wf_bytes' {xs : List Int} (h : WfD (.sl .u8 xs)) : ∀ x, x ∈ xs → 0 ≤ x ∧ x ≤ 255 := by
 intro x hx
 have h2 : ∀ x, x ∈ xs → ∀ d, d ∈ enc .u8 x → WfD d := by cases h; assumption
 have := h2 x hx (.int .u8 x) (by simp [enc])
 cases this with
 | int k n hw =>
  simp only [Lit.wf, Bool.and_eq_true, decide_eq_true_eq] at hw
  have h1 : (0 : Int) ≤ x := hw.1
  have h2 : x ≤ (255 : Int) := hw.2
  exact ⟨h1, h2⟩
theorem rd_code' {code : List Int} (h : ∀ x, x ∈ code → 0 ≤ x ∧ x ≤ 255) : RD (code.take 2000) 0 1000000 :=
 ⟨by rw [List.length_take]; omega, fun x hx => h x (List.mem_of_mem_take hx), Int.le_refl _, by decide⟩
theorem ShQ.bd {k : Nat} {ps : List Pack} (h : ShQ k ps) (hk : k ≤ 1000) : BdPs ps := ⟨Nat.le_trans h.1 (Nat.le_trans hk (by decide)), fun p hp => (h.2 p hp).ok.1⟩
theorem ShQ.vs {k : Nat} {ps : List Pack} (h : ShQ k ps) : VS ps := fun p hp => (h.2 p hp).ok.2
theorem closeL_len {ps : List Pack} (hb : BdPs ps) (hv : VS ps) (hl : ps.length ≤ 1000000) : ∀ (names out : List Str), Nms ps out ∧ Dis [] out → ∀ o, jqk ps (ps.length + 1) names out = .inl o → Nms ps o := by
 intro names
 induction names with
 | nil => intro out ho o h; simp only [jqk] at h; cases h; exact ho.1
 | cons n r ih =>
  intro out ho o h
  simp only [jqk] at h
  rcases v_l8Close ps hb hv hl (ps.length + 1) [] (Nms.nil ps) (by simp) jxk (fuel_big (by omega)) n out ho with ⟨o', g1, g2, _⟩ | ⟨c, o', g1, g2, _⟩
  ·rw [g1] at h; exact ih o' g2 o h
  ·rw [g1] at h; cases h
theorem closeL_bd {ps : List Pack} (hb : BdPs ps) (hv : VS ps) (hl : ps.length ≤ 1000000) (names : List Str) : Bd (jqx ps names).1.length := by
 unfold jqx
 cases (jqI ps == 0) with
 | false => show (0 : Nat) ≤ 2097152; decide
 | true =>
  simp only [cond_true]
  cases h : jqk ps (ps.length + 1) names [] with
  | inl o =>
   have := (closeL_len hb hv hl names [] ⟨Nms.nil ps, fun s hs => by cases hs⟩ o h).len
   show o.length ≤ 2097152; omega
  | inr c => show (0 : Nat) ≤ 2097152; decide
noncomputable def c11 : Ctx := { tt := tt, fs := fun n => match n with | _ => none }
theorem k11 (h : ∀ T, (tt T).ok Tryz.prog T) : CtxGood Tryz.prog c11 := ⟨⟨h⟩, fun g S hg => (by cases hg), jjv, fun _ _ h => (by cases h), fun _ h => (by cases h)⟩
noncomputable def b11 : Code := jjl Tryz.f11
@[reducible] noncomputable def s11_26 : Shape := ⟨[(0, .lf (.d (.sl .str))), (1, .lf (.d (.str))), (5, .lf (.d (.int .i64)))], [], 18⟩
@[reducible] noncomputable def t11_26 : List OSh := [(.ret, ⟨[(4, .lf (.d (.bool)))], [], 18⟩), (.exit 0, ⟨[], [], 18⟩)]
noncomputable def g11_26 (y : s11_26.Y) : Option (Sum s11_26.Y (YS t11_26)) :=
 bif (decide (y.1.2.2.1 < (y.1.1.length : Int))) then
(ix y.1.1 y.1.2.2.1).bind fun x1889 =>
 bif (x1889 == y.1.2.1) then
 some (.inr (.inl ((true, ()), ())))
else
 some (.inl ((y.1.1, (y.1.2.1, ((IntKind.i64.wrap (y.1.2.2.1 + (1 : Int))), ()))), ()))
else
 some (.inr (.inr ((), ())))
theorem r11_26 : ∀ y, g11_26 y = jjz (jjd c11 []) (jjk (jjc b11 1 26)) 26 s11_26 t11_26 y := fun y => by kernel_rfl
noncomputable def l11_26 : s11_26.Y → Option (YS t11_26) := jjF g11_26
theorem q11_26 (H : CtxGood Tryz.prog c11) : jjj Tryz.prog (jjc b11 1 26) (jjb s11_26 t11_26 l11_26) :=
 jjr (fr := []) H (by kernel_rfl) (by kernel_rfl) jje (fun y => jjh r11_26 y)
@[reducible] noncomputable def i11 : Shape := ⟨[(0, .lf (.d (.sl .str))), (1, .lf (.d (.str)))], [], 18⟩
@[reducible] noncomputable def o11 : Shape := ⟨[(4, .lf (.d (.bool)))], [], 18⟩
noncomputable def f11 (a : i11.Y) : Option o11.Y :=
(l11_26 ((a.1.1, (a.1.2.1, ((0 : Int), ()))), ())).bind fun r1893 =>
(match r1893 with
| .inl r1894 =>
 some ((r1894.1.1, ()), ())
| .inr r1895 =>
 some ((false, ()), ()))
theorem e11 : ∀ a, f11 a = jjt (jjd c11 [(26, jjb s11_26 t11_26 l11_26)]) b11 i11 o11 a := fun a => by kernel_rfl
noncomputable def S11 : jjM := jjg tt 18 i11 o11 [.tmp 4] [] f11
theorem z11 (h : ∀ T, (tt T).ok Tryz.prog T) : jja Tryz.prog 11 S11 :=
 have H := k11 h
 jjm (fn := Tryz.f11) (fr := [(26, jjb s11_26 t11_26 l11_26)]) H (by kernel_rfl) (by kernel_rfl) (by kernel_rfl) (by kernel_rfl) (by kernel_rfl) ⟨q11_26 H, trivial⟩ (by kernel_rfl) (fun y => ⟨_, _, rfl, rfl, rfl⟩) e11
def Fit (ps : List Pack) (o : List Str) (n : Need) : Prop := n.name ∈ o ∧ ∃ q, ps.find? (fun q => q.name == n.name) = some q ∧ fitsV n q.version = true
def Good (ps : List Pack) (o : List Str) : Prop := ∀ (i : Nat) (s : Str), o[i]? = some s → ∃ p, ps.find? (fun q => q.name == s) = some p ∧ ∀ n, n ∈ p.needs → Fit ps (o.take i) n
theorem Good.app {ps : List Pack} {o : List Str} {s : Str} {p : Pack} (h : Good ps o) (hp : ps.find? (fun q => q.name == s) = some p) (hn : ∀ n, n ∈ p.needs → Fit ps o n) : Good ps (o ++ [s]) := by
 intro i x hx
 by_cases hi : i < o.length
 ·rw [List.getElem?_append_left hi] at hx
  rw [List.take_append_of_le_length (Nat.le_of_lt hi)]
  exact h i x hx
 ·have hlt := jjH hx
  simp only [List.length_append, List.length_cons, List.length_nil] at hlt
  have : i = o.length := by omega
  subst this
  rw [List.getElem?_append_right (Nat.le_refl _)] at hx
  simp only [Nat.sub_self, List.getElem?_cons_zero, Option.some.injEq] at hx
  subst hx
  refine ⟨p, hp, ?_⟩
  rw [List.take_left' rfl]
  exact hn
theorem Fit.mono {ps : List Pack} {o o' : List Str} {n : Need} (h : Fit ps o n) (hp : o <+: o') : Fit ps o' n := ⟨hp.subset h.1, h.2⟩
theorem cloNs_good {rec : Str → List Str → Sum (List Str) Int} {ps : List Pack} (hr : ∀ n out o, rec n out = .inl o → Good ps out → Good ps o ∧ out <+: o ∧ n ∈ o) : ∀ (ns : List Need) (out o : List Str), jxo rec ps ns out = .inl o → Good ps out →
  Good ps o ∧ out <+: o ∧ ∀ n, n ∈ ns → Fit ps o n := by
 intro ns
 induction ns with
 | nil => intro out o h hg; simp only [jxo, Sum.inl.injEq] at h; subst h; exact ⟨hg, List.prefix_refl _, fun n hn => by cases hn⟩
 | cons n r ih =>
  intro out o h hg
  simp only [jxo] at h
  split at h
  ·cases h
  ·rename_i q hq
   cases hf : fitsV n q.version with
   | false => rw [hf] at h; cases h
   | true =>
    rw [hf] at h
    simp only [cond_true] at h
    split at h
    ·rename_i o1 h1
     obtain ⟨g1, g2, g3⟩ := hr _ _ _ h1 hg
     obtain ⟨k1, k2, k3⟩ := ih o1 o h g1
     refine ⟨k1, g2.trans k2, fun x hx => ?_⟩
     rcases List.mem_cons.1 hx with rfl | hx
     ·exact ⟨k2.subset g3, q, hq, hf⟩
     ·exact k3 x hx
    ·cases h
theorem clo_good (ps : List Pack) : ∀ (m : Nat) (op : List Str) (n : Str) (out o : List Str), clo ps m op n out = .inl o → Good ps out → Good ps o ∧ out <+: o ∧ n ∈ o := by
 intro m
 induction m with
 | zero => intro op n out o h; cases h
 | succ m ih =>
  intro op n out o h hg
  simp only [clo] at h
  cases h1 : out.contains n with
  | true =>
   rw [h1] at h
   cases h
   exact ⟨hg, List.prefix_refl _, by simpa using h1⟩
  | false =>
   rw [h1] at h
   simp only [cond_false] at h
   split at h
   ·cases h
   ·rename_i p hp
    cases h2 : op.contains n with
    | true => rw [h2] at h; cases h
    | false =>
     rw [h2] at h
     simp only [cond_false] at h
     split at h
     ·rename_i o1 hc
      cases h
      obtain ⟨g1, g2, g3⟩ := cloNs_good (fun n out o h => ih _ n out o h) _ _ _ hc hg
      exact ⟨g1.app hp g3, g2.trans (List.prefix_append _ _), by simp⟩
     ·cases h
theorem cloAll_good (ps : List Pack) (m : Nat) : ∀ (ns out o : List Str), jqk ps m ns out = .inl o → Good ps out → Good ps o ∧ out <+: o ∧ ∀ n, n ∈ ns → n ∈ o := by
 intro ns
 induction ns with
 | nil => intro out o h hg; simp only [jqk, Sum.inl.injEq] at h; subst h; exact ⟨hg, List.prefix_refl _, fun n hn => by cases hn⟩
 | cons n r ih =>
  intro out o h hg
  simp only [jqk] at h
  split at h
  ·rename_i o1 h1
   obtain ⟨g1, g2, g3⟩ := clo_good ps m _ _ _ _ h1 hg
   obtain ⟨k1, k2, k3⟩ := ih o1 o h g1
   refine ⟨k1, g2.trans k2, fun x hx => ?_⟩
   rcases List.mem_cons.1 hx with rfl | hx
   ·exact k2.subset g3
   ·exact k3 x hx
  ·cases h
theorem v_jsHas (a) (hs : a.1.1.length ≤ 2097152) : f11 a = some ((a.1.1.contains a.1.2.1, ()), ()) := by
 obtain ⟨⟨xs, s, u⟩, u'⟩ := a
 have hs : xs.length ≤ 2097152 := hs
 have key : l11_26 ((xs, (s, ((0 : Int), ()))), ()) = some (bif jqK (fun _ x => !(x == s)) 0 xs then .inr ((), ()) else .inl ((true, ()), ())) := by
  refine jj3 g11_26 xs (fun i => ((xs, (s, ((i : Int), ()))), ())) _ _ _ (fun i x hx => ?_) ?_
  ·have hi := jjH hx
   have hw : Sm i := by unfold Sm; omega
   simp only [g11_26, jjB hi, cond_true, jjx, hx, Option.bind_some, jjn hw]
   cases (x == s) <;> rfl
  ·simp only [g11_26, jjR, cond_false]
 rw [jj5, all_not] at key
 simp only [f11, key, Option.bind_some]
 cases xs.contains s <;> rfl
end Go.Proofs
