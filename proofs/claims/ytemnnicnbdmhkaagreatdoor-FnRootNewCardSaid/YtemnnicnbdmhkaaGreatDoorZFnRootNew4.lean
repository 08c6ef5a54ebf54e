/- The law FnRootNew (a root with one package has that package's tree) holds of the given program for every input. (part 5 of 7: JkHPuJ, JkHF114v0, JkHF117v0, JkHF191v0, JkHF256v0, JkHF193v0, JkHF119, JkHF118v0, JkHF120v0, JkHF235, JkHF202, JkHF126, JkHF61, JkHF18, JkHF67, JkHPuK, JkHF88v0, JkHF90v0, JkHF167v0, JkHF240, JkHF243) Conditions: none beyond the statement. -/
import Derived.Test.YtemnnicnbdmhkaaGreatDoorZFnRootNew3
import Derived.Tactics
import Derived.Deep.RegionLaw
import Derived.Shelf.Abstract
import Derived.Test.YtemnnicnbdmhkaaGreatDoorProg
import Derived.KernelRfl
import Derived.Shelf.LaysM
import Derived.Shelf.Strconv.Itoa3
set_option linter.unusedSectionVars false
set_option maxRecDepth 100000
set_option linter.unusedVariables false
set_option linter.unusedSimpArgs false
namespace Go.Proofs
open Go.Jk
def ordL : List Int → List Int → Int
 | [], [] => 0
 | [], _ :: _ => -1
 | _ :: _, [] => 1
 | x :: a, y :: b => bif decide (x < y) then -1 else bif decide (x > y) then 1 else ordL a b
theorem jqw {α : Type} {xs : List α} {k : Nat} {x : α} {r : List α} (h : xs.drop k = x :: r) : xs[k]? = some x ∧ xs.drop (k + 1) = r ∧ k < xs.length := by
 have h1 : xs[k]? = some x := by
  have := congrArg (fun l => l[0]?) h
  simpa using this
 refine ⟨h1, ?_, jju h1⟩
 have := congrArg List.tail h
 simpa using this
theorem drop_nil {α : Type} {xs : List α} {k : Nat} (h : xs.drop k = []) : xs.length ≤ k := by
 have := congrArg List.length h
 simp at this; omega
theorem v_l3Order (a) (h1 : Bd a.1.1.length) (h2 : Bd a.1.2.1.length) (p1 : ∀ x, x ∈ a.1.1 → 0 ≤ x) (p2 : ∀ x, x ∈ a.1.2.1 → 0 ≤ x) : f307 a = some ((ordL a.1.1 a.1.2.1, ()), ()) := by
 obtain ⟨⟨xs, ys, u⟩, u'⟩ := a
 have h1 : xs.length ≤ 2097152 := h1
 have h2 : ys.length ≤ 2097152 := h2
 have p1 : ∀ x : Int, x ∈ xs → 0 ≤ x := p1
 have p2 : ∀ x : Int, x ∈ ys → 0 ≤ x := p2
 have key : ∀ (n : Nat) (us ws : List Int) (k : Nat), us.length + ws.length = n → xs.drop k = us → ys.drop k = ws → k ≤ 2097152 →
   (jxX ((xs, (ys, ((k : Int), ()))), ())).bind (fun r625 => (match r625 with | .inl r626 => some ((r626.1.1, ()), ()) | .inr r627 => some (((0 : Int), ()), ()) : Option o307.Y)) = some ((ordL us ws, ()), ()) := by
  intro n
  induction n using Nat.strongRecOn with
  | _ n ih =>
   intro us ws k hn ha hb hk
   have hw : Sm k := by unfold Sm; omega
   match us, ws with
   | [], [] =>
    have c1 := drop_nil ha
    have c2 := drop_nil hb
    have d1 : decide ((k : Int) < (xs.length : Int)) = false := by simp only [decide_eq_false_iff_not]; omega
    have d2 : decide ((k : Int) < (ys.length : Int)) = false := by simp only [decide_eq_false_iff_not]; omega
    have : jxX ((xs, (ys, ((k : Int), ()))), ()) = some (.inr ((), ())) := by
     refine jjP ?_
     simp only [g307_26, jzF, d1, d2, Bool.not_false, cond_true, cond_false, Option.bind_some]
    rw [this]; rfl
   | [], y :: ws =>
    have c1 := drop_nil ha
    obtain ⟨c2, c3, c4⟩ := jqw hb
    have hy := p2 y (List.mem_of_getElem? c2)
    have d1 : decide ((k : Int) < (xs.length : Int)) = false := by simp only [decide_eq_false_iff_not]; omega
    have d3 : decide ((-1 : Int) < y) = true := by simp only [decide_eq_true_eq]; omega
    have : jxX ((xs, (ys, ((k : Int), ()))), ()) = some (.inl ((((-1) : Int), ()), ())) := by
     refine jjP ?_
     simp only [g307_26, jzF, jzt, jzs, d1, jjx c4, jjs, c2, Bool.not_false, cond_true, cond_false, Option.bind_some, d3]
    rw [this]; rfl
   | x :: us, [] =>
    have c1 := drop_nil hb
    obtain ⟨c2, c3, c4⟩ := jqw ha
    have hx := p1 x (List.mem_of_getElem? c2)
    have d1 : decide ((k : Int) < (ys.length : Int)) = false := by simp only [decide_eq_false_iff_not]; omega
    have d3 : decide (x < (-1 : Int)) = false := by simp only [decide_eq_false_iff_not]; omega
    have d4 : decide (x > (-1 : Int)) = true := by simp only [decide_eq_true_eq]; omega
    have : jxX ((xs, (ys, ((k : Int), ()))), ()) = some (.inl (((1 : Int), ()), ())) := by
     refine jjP ?_
     simp only [g307_26, jzF, jzt, jzs, d1, jjx c4, jjs, c2, Bool.not_true, cond_true, cond_false, Option.bind_some, d3, d4]
    rw [this]; rfl
   | x :: us, y :: ws =>
    obtain ⟨c2, c3, c4⟩ := jqw ha
    obtain ⟨e2, e3, e4⟩ := jqw hb
    have step : g307_26 ((xs, (ys, ((k : Int), ()))), ()) = some (bif decide (x < y) then .inr (.inl ((((-1) : Int), ()), ())) else bif decide (x > y) then .inr (.inl (((1 : Int), ()), ())) else .inl ((xs, (ys, (((k + 1 : Nat) : Int), ()))), ())) := by
     simp only [g307_26, jzF, jzt, jzs, jjx c4, jjx e4, jjs, c2, e2, Bool.not_true, cond_true, cond_false, Option.bind_some, jjk hw]
     cases decide (x < y) <;> cases decide (x > y) <;> rfl
    rw [ordL]
    cases hlt : decide (x < y) with
    | true => rw [hlt, cond_true] at step; rw [show jxX ((xs, (ys, ((k : Int), ()))), ()) = _ from jjP step]; rfl
    | false =>
     rw [hlt, cond_false] at step
     cases hgt : decide (x > y) with
     | true => rw [hgt, cond_true] at step; rw [show jxX ((xs, (ys, ((k : Int), ()))), ()) = _ from jjP step]; rfl
     | false =>
      rw [hgt, cond_false] at step
      rw [show jxX ((xs, (ys, ((k : Int), ()))), ()) = _ from jqr step]
      exact ih (us.length + ws.length) (by simp only [List.length_cons] at hn; omega) us ws (k + 1) rfl c3 e3 (by omega)
 have := key _ xs ys 0 rfl rfl rfl (Nat.zero_le _)
 simp only [f307]
 exact this
theorem v_cmpInt (a) : f365 a = some ((bif decide (a.1.1 < a.1.2.1) then -1 else bif decide (a.1.1 > a.1.2.1) then 1 else 0, ()), ()) := by
 obtain ⟨⟨x, y, u⟩, u'⟩ := a
 have hx : (x != x) = false := by simp
 have hy : (y != y) = false := by simp
 simp only [f365, f378, Option.bind_some, hx, hy, cond_false]
 cases decide (x < y) <;> cases decide (x > y) <;> rfl
theorem v_Compare (a) (h1 : Bd a.1.1.length) (h2 : Bd a.1.2.1.length) : f347 a = some ((ordL a.1.1 a.1.2.1, ()), ()) := by
 obtain ⟨⟨xs, ys, u⟩, u'⟩ := a
 have h1 : xs.length ≤ 2097152 := h1
 have h2 : ys.length ≤ 2097152 := h2
 have key : ∀ (us ws : List Int) (k : Nat), xs.drop k = us → ys.drop k = ws → k ≤ xs.length →
   (jzr ((xs, (ys, (xs, ((xs.length : Int), ((k : Int), ()))))), ())).bind (fun r1113 => (match r1113 with
    | .inl r1114 => some ((r1114.1.1, ()), ())
    | .inr r1115 => bif (decide ((r1115.1.1.length : Int) < (r1115.1.2.1.length : Int))) then some ((((-1) : Int), ()), ()) else some (((0 : Int), ()), ()) : Option o347.Y)) = some ((ordL us ws, ()), ()) := by
  intro us
  induction us with
  | nil =>
   intro ws k ha hb hk
   have c1 := drop_nil ha
   have d1 : decide ((k : Int) < (xs.length : Int)) = false := by simp only [decide_eq_false_iff_not]; omega
   have : jzr ((xs, (ys, (xs, ((xs.length : Int), ((k : Int), ()))))), ()) = some (.inr ((xs, (ys, ())), ())) := by
    refine jjP ?_
    simp only [g347_26, d1, cond_false]
   rw [this]
   simp only [Option.bind_some]
   cases ws with
   | nil =>
    have c2 := drop_nil hb
    have : decide ((xs.length : Int) < (ys.length : Int)) = false := by simp only [decide_eq_false_iff_not]; omega
    rw [this]; rfl
   | cons y ws =>
    obtain ⟨_, _, c4⟩ := jqw hb
    rw [jjx (show xs.length < ys.length by omega)]; rfl
  | cons x us ih =>
   intro ws k ha hb hk
   obtain ⟨c2, c3, c4⟩ := jqw ha
   have hw : Sm k := by unfold Sm; omega
   cases ws with
   | nil =>
    have c1 := drop_nil hb
    have d1 : decide ((k : Int) ≥ (ys.length : Int)) = true := by simp only [decide_eq_true_eq]; omega
    have : jzr ((xs, (ys, (xs, ((xs.length : Int), ((k : Int), ()))))), ()) = some (.inl (((1 : Int), ()), ())) := by
     refine jjP ?_
     simp only [g347_26, jjx c4, cond_true, jjs, c2, Option.bind_some, d1]
    rw [this]; rfl
   | cons y ws =>
    obtain ⟨e2, e3, e4⟩ := jqw hb
    have d1 : decide ((k : Int) ≥ (ys.length : Int)) = false := by simp only [decide_eq_false_iff_not]; omega
    have step : g347_26 ((xs, (ys, (xs, ((xs.length : Int), ((k : Int), ()))))), ()) = some (bif decide (x < y) then .inr (.inl ((((-1) : Int), ()), ())) else bif decide (x > y) then .inr (.inl (((1 : Int), ()), ())) else .inl ((xs, (ys, (xs, ((xs.length : Int), (((k + 1 : Nat) : Int), ()))))), ())) := by
     simp only [g347_26, jjx c4, jjs, c2, e2, d1, cond_true, cond_false, Option.bind_some, v_cmpInt, jjk hw]
     cases decide (x < y) <;> cases decide (x > y) <;> rfl
    rw [ordL]
    cases hlt : decide (x < y) with
    | true => rw [hlt, cond_true] at step; rw [show jzr ((xs, (ys, (xs, ((xs.length : Int), ((k : Int), ()))))), ()) = _ from jjP step]; rfl
    | false =>
     rw [hlt, cond_false] at step
     cases hgt : decide (x > y) with
     | true => rw [hgt, cond_true] at step; rw [show jzr ((xs, (ys, (xs, ((xs.length : Int), ((k : Int), ()))))), ()) = _ from jjP step]; rfl
     | false =>
      rw [hgt, cond_false] at step
      rw [show jzr ((xs, (ys, (xs, ((xs.length : Int), ((k : Int), ()))))), ()) = _ from jqr step]
      exact ih ws (k + 1) c3 e3 (by omega)
 have := key xs ys 0 rfl rfl (Nat.zero_le _)
 simp only [f347]
 exact this
def ordV (a b : Str) : Int := bif jj3 a && jj3 b then ordL (jxz a) (jxz b) else 0
theorem versL_nonneg {s : Str} (h : jj3 s = true) : ∀ x, x ∈ jxz s → 0 ≤ x := by
 intro x hx
 unfold jxz at hx
 obtain ⟨p, hp, rfl⟩ := List.mem_map.1 hx
 unfold jj3 at h
 simp only [Bool.and_eq_true] at h
 have := List.all_eq_true.1 h.1 p hp
 unfold numB at this
 simp only [Bool.and_eq_true] at this
 exact val_nonneg p 0 this.1.1.1.1 (Int.le_refl _)
theorem versL_len (s : Str) : (jxz s).length ≤ s.length + 1 := by
 unfold jxz jqP
 rw [List.length_map]
 exact jqT 46 s
theorem v_VersionOrder (a) (h1 : a.1.1.length ≤ 2097151) (h2 : a.1.2.1.length ≤ 2097151) : f221 a = some ((ordV a.1.1 a.1.2.1, ()), ()) := by
 obtain ⟨⟨x, y, u⟩, u'⟩ := a
 have h1 : x.length ≤ 2097151 := h1
 have h2 : y.length ≤ 2097151 := h2
 obtain ⟨o1, e1, q1⟩ := v_l3Parts ((x, ()), ()) (show x.length ≤ 2097152 by omega)
 obtain ⟨o2, e2, q2⟩ := v_l3Parts ((y, ()), ()) (show y.length ≤ 2097152 by omega)
 simp only [f221, e1, e2, Option.bind_some, g221_60, ordV, Bool.not_not]
 cases hx : jj3 x with
 | false => rfl
 | true =>
  cases hy : jj3 y with
  | false => rfl
  | true =>
   have hx1 := versL_len x
   have hy1 := versL_len y
   have w1 : o1 = jxz x := q1 hx
   have w2 : o2 = jxz y := q2 hy
   subst w1 w2
   have e3 := v_l3Order ((jxz x, (jxz y, ())), ()) (show (jxz x).length ≤ 2097152 by omega) (show (jxz y).length ≤ 2097152 by omega) (versL_nonneg hx) (versL_nonneg hy)
   simp only [cond_true, Bool.not_true, Option.bind_some, cond_false, e3, Bool.and_self]
theorem v_iVersionOrder (a) (h1 : a.1.1.length ≤ 2097151) (h2 : a.1.2.1.length ≤ 2097151) : f255 a = some ((ordV a.1.1 a.1.2.1, ()), ()) := by
 obtain ⟨⟨x, y, u⟩, u'⟩ := a
 have h1 : x.length ≤ 2097151 := h1
 have h2 : y.length ≤ 2097151 := h2
 have e1 := jxO ((x, ()), ()) (show x.length ≤ 2097152 by omega)
 have e2 := jxO ((y, ()), ()) (show y.length ≤ 2097152 by omega)
 simp only [f255, e1, e2, Option.bind_some, g255_60, ordV, Bool.not_not]
 cases hx : jj3 x with
 | false => rfl
 | true =>
  cases hy : jj3 y with
  | false => rfl
  | true =>
   have hx1 := versL_len x
   have hy1 := versL_len y
   have e3 := v_Compare ((jxz x, (jxz y, ())), ()) (show (jxz x).length ≤ 2097152 by omega) (show (jxz y).length ≤ 2097152 by omega)
   simp only [cond_true, Bool.not_true, Option.bind_some, cond_false, f319, e3, Bool.and_self]
def fitsV (n : Need) (v : Str) : Bool := bif n.kind == 1 then ordV v n.version == 0 else bif n.kind == 2 then decide (ordV v n.version ≥ 0) else bif n.kind == 3 then decide (ordV v n.version < 0) else true
theorem v_l3Fits (a) (h1 : a.1.1.2.2.1.length ≤ 2097151) (h2 : a.1.2.2.1.length ≤ 2097151) (hn : a.1.2.1 = a.1.1.1) : f149 a = some ((fitsV ⟨a.1.1.1, a.1.1.2.1, a.1.1.2.2.1⟩ a.1.2.2.1, ()), ()) := by
 obtain ⟨⟨⟨n, k, v, u⟩, m, w, u'⟩, u''⟩ := a
 obtain rfl : m = n := hn
 have e1 := v_VersionOrder ((w, (v, ())), ()) h2 h1
 have e0 : (m == m) = true := by simp
 simp only [f149, e0, e1, Bool.not_true, cond_false, Option.bind_some, fitsV]
 cases (k == 1) <;> cases (k == 2) <;> cases (k == 3) <;> rfl
def fitsB (n : Need) (name v : Str) : Bool := jqQ n && jj3 v && (name == n.name) && fitsV n v
theorem v_NeedFits (a) (h0 : Bd a.1.1.1.length) (h1 : a.1.1.2.2.1.length ≤ 2097151) (h2 : a.1.2.2.1.length ≤ 2097151) : f192 a = some ((fitsB ⟨a.1.1.1, a.1.1.2.1, a.1.1.2.2.1⟩ a.1.2.1 a.1.2.2.1, ()), ()) := by
 obtain ⟨⟨⟨n, k, v, u⟩, m, w, u'⟩, u''⟩ := a
 have h1 : v.length ≤ 2097151 := h1
 have h2 : w.length ≤ 2097151 := h2
 have e1 := v_iVersionOrder ((w, (v, ())), ()) h2 h1
 have e2 := v_iNeedOk (((n, (k, (v, ()))), ()), ()) h0 (show v.length ≤ 2097152 by omega)
 have e3 := jzh ((w, ()), ()) (show w.length ≤ 2097152 by omega)
 simp only [f192, g192_12, e1, e2, e3, Bool.not_not, Option.bind_some, fitsB, fitsV]
 cases jqQ ⟨n, k, v⟩ with
 | false => rfl
 | true =>
  cases jj3 w with
  | false => rfl
  | true =>
   cases (m == n) with
   | false => rfl
   | true =>
    simp only [cond_true, Bool.not_true, Option.bind_some, cond_false, Bool.true_and]
    cases (k == 1) <;> cases (k == 2) <;> cases (k == 3) <;> simp only [cond_true, cond_false, Option.bind_some, e1]
noncomputable abbrev L114v0 : LS := [(115, S115v0), (116, S116)]
theorem G114v0 : CtxGood Pz (cx EE L114v0) := gd ⟨z115v0, z116, ⟨⟩⟩
abbrev s114v0_12 : Shape := ⟨[(0, .lf (.rptr [.sl .pack] 0))], [], 10⟩
abbrev t114v0_12 : List OSh := [(.norm, ⟨[tB 9], [], 10⟩)]
noncomputable def g114v0_12 (y : s114v0_12.Y) : Option (YS t114v0_12) :=
(f115v0 ((y.1.1.1, ((), ())), ())).bind fun r1697 =>
 bif (!(!r1697.1.1)) then
(f116 ((y.1.1.1, ()), ())).bind fun r1698 =>
 some ((((!r1698.1.1), ()), ()))
else
 some (((true, ()), ()))
theorem q114v0_12 : jjj Pz (jjc (jjh Tryz.f114) 1 12) (jjg s114v0_12 t114v0_12 g114v0_12) := jjr G114v0 (by kernel_rfl) jja fun y => by kernel_rfl
abbrev i114v0 : Shape := ⟨[(0, .lf (.rptr [.sl .pack] 0))], [], 10⟩
abbrev o114v0 : Shape := ⟨[tI 1], [], 10⟩
noncomputable def f114v0 (a : i114v0.Y) : Option o114v0.Y :=
(g114v0_12 (((a.1.1.1, ()), ()), ())).bind fun r1700 =>
 bif r1700.1.1 then
 some (((1 : Int), ()), ())
else
 some (((0 : Int), ()), ())
noncomputable def S114v0 : jjA := jjE EE Tryz.f114 i114v0 o114v0 [] f114v0
theorem z114v0 : jje Pz 114 S114v0 := jjb G114v0 Tryz.func114 (by kernel_rfl) (frc q114v0_12 jja) (fun y => by kernel_rfl) fun a => by kernel_rfl
abbrev i117v0 : Shape := ⟨[(0, .lf (.rptr [.sl .pack] 0))], [], 5⟩
abbrev o117v0 : Shape := ⟨[tI 1], [], 5⟩
noncomputable def f117v0 (a : i117v0.Y) : Option o117v0.Y :=
 bif (decide ((a.1.1.1.length : Int) > (5 : Int))) then
 some (((6 : Int), ()), ())
else
 some (((0 : Int), ()), ())
noncomputable def S117v0 : jjA := jjE EE Tryz.f117 i117v0 o117v0 [] f117v0
theorem z117v0 : jje Pz 117 S117v0 := jjb g0 Tryz.func117 (by kernel_rfl) jja (fun y => by kernel_rfl) fun a => by kernel_rfl
noncomputable abbrev L191v0 : LS := [(192, S192)]
theorem G191v0 : CtxGood Pz (cx EE L191v0) := gd ⟨z192, ⟨⟩⟩
abbrev i191v0 : Shape := ⟨[tA 0 [eS, eS, eL .need, eL .entry], (1, .lf (.rptr [.str, .int .i64, .str] 0))], [], 10⟩
abbrev o191v0 : Shape := ⟨[tB 3], [], 10⟩
noncomputable def f191v0 (a : i191v0.Y) : Option o191v0.Y :=
(f192 (((a.1.2.1.1, (a.1.2.1.2.1, (a.1.2.1.2.2.1, ()))), (a.1.1.1, (a.1.1.2.1, ()))), ())).bind fun r1777 =>
 some ((r1777.1.1, ()), ())
noncomputable def S191v0 : jjA := jjE EE Tryz.f191 i191v0 o191v0 [] f191v0
theorem z191v0 : jje Pz 191 S191v0 := jjb G191v0 Tryz.func191 (by kernel_rfl) jja (fun y => by kernel_rfl) fun a => by kernel_rfl
noncomputable abbrev L256v0 : LS := [(191, S191v0)]
theorem G256v0 : CtxGood Pz (cx EE L256v0) := gd ⟨z191v0, ⟨⟩⟩
abbrev s256v0_26 : Shape := ⟨[tL 0 .pack, (1, .lf (.fn 191 [[.str, .int .i64, .str]])), tI 7, tI 8], [], 19⟩
abbrev t256v0_26 : List OSh := [(.ret, ⟨[tI 4], [], 19⟩), (.exit 0, ⟨[], [], 19⟩)]
noncomputable def g256v0_26 (y : s256v0_26.Y) : LR s256v0_26 t256v0_26 :=
 bif (decide (y.1.2.2.2.1 < y.1.2.2.1)) then
(ix y.1.1 y.1.2.2.2.1).bind fun x1783 =>
(f191v0 (((x1783.name, (x1783.version, (x1783.needs, (x1783.tree, ())))), ((y.1.2.1.1.1, (y.1.2.1.1.2.1, (y.1.2.1.1.2.2.1, ()))), ())), ())).bind fun r1784 =>
 bif r1784.1.1 then
 some (.inr (.inl ((y.1.2.2.2.1, ()), ())))
else
 some (.inl ((y.1.1, (((y.1.2.1.1.1, (y.1.2.1.1.2.1, (y.1.2.1.1.2.2.1, ()))), ()), (y.1.2.2.1, ((IntKind.i64.wrap (y.1.2.2.2.1 + (1 : Int))), ())))), ()))
else
 some (.inr (.inr ((), ())))
noncomputable def jxF : s256v0_26.Y → Option (YS t256v0_26) := jjv g256v0_26
theorem q256v0_26 : jjj Pz (jjc (jjh Tryz.f256) 1 26) (jjg s256v0_26 t256v0_26 jxF) := jjf G256v0 (by kernel_rfl) jja fun y => by kernel_rfl
abbrev i256v0 : Shape := ⟨[tL 0 .pack, (1, .lf (.fn 191 [[.str, .int .i64, .str]]))], [], 19⟩
abbrev o256v0 : Shape := ⟨[tI 4], [], 19⟩
noncomputable def f256v0 (a : i256v0.Y) : Option o256v0.Y :=
(jxF ((a.1.1, (((a.1.2.1.1.1, (a.1.2.1.1.2.1, (a.1.2.1.1.2.2.1, ()))), ()), ((a.1.1.length : Int), ((0 : Int), ())))), ())).bind fun r1788 =>
(match r1788 with
| .inl r1789 =>
 some ((r1789.1.1, ()), ())
| .inr r1790 =>
 some ((((-1) : Int), ()), ()))
noncomputable def S256v0 : jjA := jjE EE Tryz.f256 i256v0 o256v0 [] f256v0
theorem z256v0 : jje Pz 256 S256v0 := jjb G256v0 Tryz.func256 (by kernel_rfl) (frc q256v0_26 jja) (fun y => by kernel_rfl) fun a => by kernel_rfl
noncomputable abbrev L193v0 : LS := [(256, S256v0)]
theorem G193v0 : CtxGood Pz (cx EE L193v0) := gd ⟨z256v0, ⟨⟩⟩
abbrev i193v0 : Shape := ⟨[tL 0 .pack, (1, .lf (.fn 191 [[.str, .int .i64, .str]]))], [], 9⟩
abbrev o193v0 : Shape := ⟨[tB 4], [], 9⟩
noncomputable def f193v0 (a : i193v0.Y) : Option o193v0.Y :=
(f256v0 ((a.1.1, (((a.1.2.1.1.1, (a.1.2.1.1.2.1, (a.1.2.1.1.2.2.1, ()))), ()), ())), ())).bind fun r1792 =>
 some (((decide (r1792.1.1 ≥ (0 : Int))), ()), ())
noncomputable def S193v0 : jjA := jjE EE Tryz.f193 i193v0 o193v0 [] f193v0
theorem z193v0 : jje Pz 193 S193v0 := jjb G193v0 Tryz.func193 (by kernel_rfl) jja (fun y => by kernel_rfl) fun a => by kernel_rfl
noncomputable abbrev L119 : LS := [(193, S193v0)]
theorem G119 : CtxGood Pz (cx EE L119) := gd ⟨z193v0, ⟨⟩⟩
abbrev s119_6758 : Shape := ⟨[tL 0 .pack, tL 8 .pack, tI 9, tI 10, tL 15 .need, tI 16, tI 17], [], 28⟩
abbrev t119_6758 : List OSh := [(.ret, ⟨[tB 2], [], 28⟩), (.exit 2, ⟨[tL 0 .pack, tL 8 .pack, tI 9, tI 10], [], 28⟩)]
noncomputable def g119_6758 (y : s119_6758.Y) : LR s119_6758 t119_6758 :=
 bif (decide (y.1.2.2.2.2.2.2.1 < y.1.2.2.2.2.2.1)) then
(ix y.1.2.2.2.2.1 y.1.2.2.2.2.2.2.1).bind fun x1796 =>
(f193v0 ((y.1.1, (((x1796.name, (x1796.kind, (x1796.version, ()))), ()), ())), ())).bind fun r1798 =>
 bif (!r1798.1.1) then
 some (.inr (.inl ((false, ()), ())))
else
 some (.inl ((y.1.1, (y.1.2.1, (y.1.2.2.1, (y.1.2.2.2.1, (y.1.2.2.2.2.1, (y.1.2.2.2.2.2.1, ((IntKind.i64.wrap (y.1.2.2.2.2.2.2.1 + (1 : Int))), ()))))))), ()))
else
 some (.inr (.inr ((y.1.1, (y.1.2.1, (y.1.2.2.1, (y.1.2.2.2.1, ())))), ())))
noncomputable def l119_6758 : s119_6758.Y → Option (YS t119_6758) := jjv g119_6758
theorem q119_6758 : jjj Pz (jjc (jjH (jjc (jjh Tryz.f119) 1 26)) 52 6758) (jjg s119_6758 t119_6758 l119_6758) := jjf G119 (by kernel_rfl) jja fun y => by kernel_rfl
abbrev s119_26 : Shape := ⟨[tL 0 .pack, tL 8 .pack, tI 9, tI 10], [], 28⟩
abbrev t119_26 : List OSh := [(.ret, ⟨[tB 2], [], 28⟩), (.exit 0, ⟨[], [], 28⟩)]
noncomputable def g119_26 (y : s119_26.Y) : LR s119_26 t119_26 :=
 bif (decide (y.1.2.2.2.1 < y.1.2.2.1)) then
(ix y.1.2.1 y.1.2.2.2.1).bind fun x1803 =>
(l119_6758 ((y.1.1, (y.1.2.1, (y.1.2.2.1, (y.1.2.2.2.1, (x1803.needs, ((x1803.needs.length : Int), ((0 : Int), ()))))))), ())).bind fun r1804 =>
(match r1804 with
| .inl r1805 =>
 some (.inr (.inl ((r1805.1.1, ()), ())))
| .inr r1806 =>
 some (.inl ((r1806.1.1, (r1806.1.2.1, (r1806.1.2.2.1, ((IntKind.i64.wrap (r1806.1.2.2.2.1 + (1 : Int))), ())))), ())))
else
 some (.inr (.inr ((), ())))
noncomputable def l119_26 : s119_26.Y → Option (YS t119_26) := jjv g119_26
theorem q119_26 : jjj Pz (jjc (jjh Tryz.f119) 1 26) (jjg s119_26 t119_26 l119_26) := jjf G119 (by kernel_rfl) (frc q119_6758 jja) fun y => by kernel_rfl
abbrev i119 : Shape := ⟨[tL 0 .pack], [], 28⟩
abbrev o119 : Shape := ⟨[tB 2], [], 28⟩
noncomputable def f119 (a : i119.Y) : Option o119.Y :=
(l119_26 ((a.1.1, (a.1.1, ((a.1.1.length : Int), ((0 : Int), ())))), ())).bind fun r1810 =>
(match r1810 with
| .inl r1811 =>
 some ((r1811.1.1, ()), ())
| .inr r1812 =>
 some ((true, ()), ()))
noncomputable def S119 : jjA := jjE EE Tryz.f119 i119 o119 [] f119
theorem z119 : jje Pz 119 S119 := jjb G119 Tryz.func119 (by kernel_rfl) (frc q119_26 jja) (fun y => by kernel_rfl) fun a => by kernel_rfl
noncomputable abbrev L118v0 : LS := [(119, S119)]
theorem G118v0 : CtxGood Pz (cx EE L118v0) := gd ⟨z119, ⟨⟩⟩
abbrev i118v0 : Shape := ⟨[(0, .lf (.rptr [.sl .pack] 0))], [], 5⟩
abbrev o118v0 : Shape := ⟨[tI 1], [], 5⟩
noncomputable def f118v0 (a : i118v0.Y) : Option o118v0.Y :=
(f119 ((a.1.1.1, ()), ())).bind fun r1816 =>
 bif (!r1816.1.1) then
 some (((4 : Int), ()), ())
else
 some (((0 : Int), ()), ())
noncomputable def S118v0 : jjA := jjE EE Tryz.f118 i118v0 o118v0 [] f118v0
theorem z118v0 : jje Pz 118 S118v0 := jjb G118v0 Tryz.func118 (by kernel_rfl) jja (fun y => by kernel_rfl) fun a => by kernel_rfl
noncomputable abbrev L120v0 : LS := [(60, S60)]
theorem G120v0 : CtxGood Pz (cx EE L120v0) := gd ⟨z60, ⟨⟩⟩
abbrev i120v0 : Shape := ⟨[(0, .lf (.rptr [.sl .pack] 0))], [], 11⟩
abbrev o120v0 : Shape := ⟨[tI 1], [], 11⟩
noncomputable def f120v0 (a : i120v0.Y) : Option o120v0.Y :=
(f60 ((a.1.1.1, ()), ())).bind fun r1889 =>
 bif (!r1889.1.2.1) then
 some (((5 : Int), ()), ())
else
 some (((0 : Int), ()), ())
noncomputable def S120v0 : jjA := jjE EE Tryz.f120 i120v0 o120v0 [] f120v0
theorem z120v0 : jje Pz 120 S120v0 := jjb G120v0 Tryz.func120 (by kernel_rfl) jja (fun y => by kernel_rfl) fun a => by kernel_rfl
abbrev s235_26 : Shape := ⟨[tL 0 .pack, tS 1, tI 5], [], 20⟩
abbrev t235_26 : List OSh := [(.ret, ⟨[tI 4], [], 20⟩), (.exit 0, ⟨[], [], 20⟩)]
noncomputable def g235_26 (y : s235_26.Y) : LR s235_26 t235_26 :=
 bif (decide (y.1.2.2.1 < (y.1.1.length : Int))) then
(ix y.1.1 y.1.2.2.1).bind fun x919 =>
 bif (x919.name == y.1.2.1) then
 some (.inr (.inl ((y.1.2.2.1, ()), ())))
else
 some (.inl ((y.1.1, (y.1.2.1, ((IntKind.i64.wrap (y.1.2.2.1 + (1 : Int))), ()))), ()))
else
 some (.inr (.inr ((), ())))
noncomputable def l235_26 : s235_26.Y → Option (YS t235_26) := jjv g235_26
theorem q235_26 : jjj Pz (jjc (jjh Tryz.f235) 1 26) (jjg s235_26 t235_26 l235_26) := jjf g0 (by kernel_rfl) jja fun y => by kernel_rfl
abbrev i235 : Shape := ⟨[tL 0 .pack, tS 1], [], 20⟩
abbrev o235 : Shape := ⟨[tI 4], [], 20⟩
noncomputable def f235 (a : i235.Y) : Option o235.Y :=
(l235_26 ((a.1.1, (a.1.2.1, ((0 : Int), ()))), ())).bind fun r923 =>
(match r923 with
| .inl r924 =>
 some ((r924.1.1, ()), ())
| .inr r925 =>
 some ((((-1) : Int), ()), ()))
noncomputable def S235 : jjA := jjE EE Tryz.f235 i235 o235 [] f235
theorem z235 : jje Pz 235 S235 := jjb g0 Tryz.func235 (by kernel_rfl) (frc q235_26 jja) (fun y => by kernel_rfl) fun a => by kernel_rfl
noncomputable abbrev L202 : LS := [(149, S149), (235, S235)]
theorem G202 : CtxGood Pz (cx EE L202) := gd ⟨z149, z235, ⟨⟩⟩
abbrev s202_215334 : Shape := ⟨[tL 0 .pack, tI 3, tI 4, tP 5 5 0, tI 6], [zB 5 [eS, eI, eS]], 49⟩
abbrev t202_215334 : List OSh := [(.norm, ⟨[tL 0 .pack, tI 3, tI 4, tI 35, tB 36, tB 37, tB 48], [], 49⟩)]
noncomputable def jx0 (y : s202_215334.Y) : Option (YS t202_215334) :=
 bif (decide (y.1.2.2.2.2.1 < (0 : Int))) then
 some (((y.1.1, (y.1.2.1, (y.1.2.2.1, (y.1.2.2.2.2.1, ((decide (y.1.2.2.2.2.1 < (0 : Int))), (true, (true, ()))))))), ()))
else
(ix y.1.1 y.1.2.2.2.2.1).bind fun x1129 =>
(f149 (((y.2.1.1, (y.2.1.2.1, (y.2.1.2.2.1, ()))), (y.2.1.1, (x1129.version, ()))), ())).bind fun r1130 =>
 some (((y.1.1, (y.1.2.1, (y.1.2.2.1, (y.1.2.2.2.2.1, ((decide (y.1.2.2.2.2.1 < (0 : Int))), (false, ((!r1130.1.1), ()))))))), ()))
theorem q202_215334 : jjj Pz (jjc (jjH (jjc (jjH (jjc (jjh Tryz.f202) 1 26)) 52 1682)) 3364 215334) (jjg s202_215334 t202_215334 jx0) := jjr G202 (by kernel_rfl) jja fun y => by kernel_rfl
abbrev s202_1682 : Shape := ⟨[tL 0 .pack, tI 3, tI 4], [], 49⟩
abbrev t202_1682 : List OSh := [(.ret, ⟨[tB 2], [], 49⟩), (.exit 2, ⟨[tL 0 .pack, tI 3], [], 49⟩)]
noncomputable def g202_1682 (y : s202_1682.Y) : LR s202_1682 t202_1682 :=
(ix y.1.1 y.1.2.1).bind fun x1133 =>
 bif (decide (y.1.2.2.1 < (x1133.needs.length : Int))) then
(ix y.1.1 y.1.2.1).bind fun x1136 =>
(ix x1136.needs y.1.2.2.1).bind fun x1137 =>
(f235 ((y.1.1, (x1137.name, ())), ())).bind fun r1139 =>
(jx0 ((y.1.1, (y.1.2.1, (y.1.2.2.1, ((), (r1139.1.1, ()))))), ((x1137.name, (x1137.kind, (x1137.version, ()))), ()))).bind fun r1140 =>
 bif r1140.1.2.2.2.2.2.2.1 then
 some (.inr (.inl ((false, ()), ())))
else
 some (.inl ((r1140.1.1, (r1140.1.2.1, ((IntKind.i64.wrap (r1140.1.2.2.1 + (1 : Int))), ()))), ()))
else
 some (.inr (.inr ((y.1.1, (y.1.2.1, ())), ())))
noncomputable def l202_1682 : s202_1682.Y → Option (YS t202_1682) := jjv g202_1682
theorem q202_1682 : jjj Pz (jjc (jjH (jjc (jjh Tryz.f202) 1 26)) 52 1682) (jjg s202_1682 t202_1682 l202_1682) := jjf G202 (by kernel_rfl) (frc q202_215334 jja) fun y => by kernel_rfl
abbrev s202_26 : Shape := ⟨[tL 0 .pack, tI 3], [], 49⟩
abbrev t202_26 : List OSh := [(.ret, ⟨[tB 2], [], 49⟩), (.exit 0, ⟨[], [], 49⟩)]
noncomputable def g202_26 (y : s202_26.Y) : LR s202_26 t202_26 :=
 bif (decide (y.1.2.1 < (y.1.1.length : Int))) then
(l202_1682 ((y.1.1, (y.1.2.1, ((0 : Int), ()))), ())).bind fun r1144 =>
(match r1144 with
| .inl r1145 =>
 some (.inr (.inl ((r1145.1.1, ()), ())))
| .inr r1146 =>
 some (.inl ((r1146.1.1, ((IntKind.i64.wrap (r1146.1.2.1 + (1 : Int))), ())), ())))
else
 some (.inr (.inr ((), ())))
noncomputable def l202_26 : s202_26.Y → Option (YS t202_26) := jjv g202_26
theorem q202_26 : jjj Pz (jjc (jjh Tryz.f202) 1 26) (jjg s202_26 t202_26 l202_26) := jjf G202 (by kernel_rfl) (frc q202_1682 jja) fun y => by kernel_rfl
abbrev i202 : Shape := ⟨[tL 0 .pack], [], 49⟩
abbrev o202 : Shape := ⟨[tB 2], [], 49⟩
noncomputable def f202 (a : i202.Y) : Option o202.Y :=
(l202_26 ((a.1.1, ((0 : Int), ())), ())).bind fun r1150 =>
(match r1150 with
| .inl r1151 =>
 some ((r1151.1.1, ()), ())
| .inr r1152 =>
 some ((true, ()), ()))
noncomputable def S202 : jjA := jjE EE Tryz.f202 i202 o202 [] f202
theorem z202 : jje Pz 202 S202 := jjb G202 Tryz.func202 (by kernel_rfl) (frc q202_26 jja) (fun y => by kernel_rfl) fun a => by kernel_rfl
noncomputable abbrev L126 : LS := [(14, S14), (201, S201), (202, S202)]
theorem G126 : CtxGood Pz (cx EE L126) := gd ⟨z14, z201, z202, ⟨⟩⟩
abbrev s126_840 : Shape := ⟨[tL 0 .pack, tI 3], [], 52⟩
abbrev t126_840 : List OSh := [(.norm, ⟨[tL 0 .pack, tI 3, tL 12 .pack, tI 13, (14, .lf (.rptr [.str, .str, .sl .need, .sl .entry] 0)), tA 15 [eS, eS, eL .need, eL .entry], tB 16, tB 17, tB 18, tB 35], [], 52⟩)]
noncomputable def g126_840 (y : s126_840.Y) : Option (YS t126_840) :=
(ix y.1.1 y.1.2.1).bind fun x961 =>
(f14 (((x961.name, (x961.version, (x961.needs, (x961.tree, ())))), ()), ())).bind fun r962 =>
 bif (!r962.1.1) then
 some (((y.1.1, (y.1.2.1, (y.1.1, (y.1.2.1, ((x961.name, (x961.version, (x961.needs, (x961.tree, ())))), ((x961.name, (x961.version, (x961.needs, (x961.tree, ())))), (r962.1.1, ((!r962.1.1), (true, (true, ())))))))))), ()))
else
 bif (decide (y.1.2.1 > (0 : Int))) then
(ix y.1.1 (IntKind.i64.wrap (y.1.2.1 - (1 : Int)))).bind fun x963 =>
(ix y.1.1 y.1.2.1).bind fun x964 =>
 some (((y.1.1, (y.1.2.1, (y.1.1, (y.1.2.1, ((x961.name, (x961.version, (x961.needs, (x961.tree, ())))), ((x961.name, (x961.version, (x961.needs, (x961.tree, ())))), (r962.1.1, ((!r962.1.1), (false, ((!(Op.bytesLess x963.name x964.name)), ())))))))))), ()))
else
 some (((y.1.1, (y.1.2.1, (y.1.1, (y.1.2.1, ((x961.name, (x961.version, (x961.needs, (x961.tree, ())))), ((x961.name, (x961.version, (x961.needs, (x961.tree, ())))), (r962.1.1, ((!r962.1.1), (false, (false, ())))))))))), ()))
theorem q126_840 : jjj Pz (jjc (jjH (jjc (jjh Tryz.f126) 1 26)) 52 840) (jjg s126_840 t126_840 g126_840) := jjr G126 (by kernel_rfl) jja fun y => by kernel_rfl
abbrev s126_26 : Shape := ⟨[tL 0 .pack, tI 3], [], 52⟩
abbrev t126_26 : List OSh := [(.ret, ⟨[tI 2], [], 52⟩), (.exit 0, ⟨[tL 0 .pack], [], 52⟩)]
noncomputable def g126_26 (y : s126_26.Y) : LR s126_26 t126_26 :=
 bif (decide (y.1.2.1 < (y.1.1.length : Int))) then
(g126_840 ((y.1.1, (y.1.2.1, ())), ())).bind fun r966 =>
 bif r966.1.2.2.2.2.2.2.2.2.2.1 then
 some (.inr (.inl (((1 : Int), ()), ())))
else
 some (.inl ((r966.1.1, ((IntKind.i64.wrap (r966.1.2.1 + (1 : Int))), ())), ()))
else
 some (.inr (.inr ((y.1.1, ()), ())))
noncomputable def l126_26 : s126_26.Y → Option (YS t126_26) := jjv g126_26
theorem q126_26 : jjj Pz (jjc (jjh Tryz.f126) 1 26) (jjg s126_26 t126_26 l126_26) := jjf G126 (by kernel_rfl) (frc q126_840 jja) fun y => by kernel_rfl
abbrev i126 : Shape := ⟨[tL 0 .pack], [], 52⟩
abbrev o126 : Shape := ⟨[tI 2], [], 52⟩
noncomputable def f126 (a : i126.Y) : Option o126.Y :=
(l126_26 ((a.1.1, ((0 : Int), ())), ())).bind fun r1158 =>
(match r1158 with
| .inl r1159 =>
 some ((r1159.1.1, ()), ())
| .inr r1160 =>
(f201 ((r1160.1.1, ()), ())).bind fun r1162 =>
 bif (decide ((r1160.1.1.length : Int) > (5 : Int))) then
 some (((6 : Int), ()), ())
else
(f202 ((r1160.1.1, ()), ())).bind fun r1164 =>
 bif (!r1164.1.1) then
 some (((4 : Int), ()), ())
else
 bif (!r1162.1.2.1) then
 some (((5 : Int), ()), ())
else
 some (((0 : Int), ()), ()))
noncomputable def S126 : jjA := jjE EE Tryz.f126 i126 o126 [] f126
theorem z126 : jje Pz 126 S126 := jjb G126 Tryz.func126 (by kernel_rfl) (frc q126_26 jja) (fun y => by kernel_rfl) fun a => by kernel_rfl
noncomputable abbrev L61 : LS := [(114, S114v0), (117, S117v0), (118, S118v0), (120, S120v0)]
theorem G61 : CtxGood Pz (cx EE L61) := gd ⟨z114v0, z117v0, z118v0, z120v0, ⟨⟩⟩
abbrev s61_3 : Shape := ⟨[tP 1 1 0], [zB 1 [eL .pack]], 24⟩
abbrev t61_3 : List OSh := [(.ret, ⟨[tI 2], [], 24⟩)]
noncomputable def m61_3 (c : Int) : YS t61_3 := ((c, ()), ())
noncomputable def g61_3 (y : s61_3.Y) : Option (YS t61_3) :=
 restC y.2.1.1 m61_3 [fun ps => f114v0 (((ps, ()), ()), ()), fun ps => f117v0 (((ps, ()), ()), ()), fun ps => f118v0 (((ps, ()), ()), ()), fun ps => f120v0 (((ps, ()), ()), ())]
theorem x61_0 : ∀ ps k i, jzG (jqb (cx EE L61) []) (jjc (jjH (jjc (jjh Tryz.f61) 1 58)) 116 3737) 3737 (((shL 24).st (yL 24 ps k i)).set 5 (lfv (.clo 114 [(1, 0)]))) (kBody 24 t61_3) = ((fun ps => f114v0 (((ps, ()), ()), ())) ps).bind fun r => bif (r.1.1 != 0) then some (.inr (m61_3 r.1.1)) else some (.inl (yL 24 ps k i)) := fun ps k i => by kernel_rfl
theorem x61_1 : ∀ ps k i, jzG (jqb (cx EE L61) []) (jjc (jjH (jjc (jjh Tryz.f61) 1 58)) 116 3737) 3737 (((shL 24).st (yL 24 ps k i)).set 5 (lfv (.clo 117 [(1, 0)]))) (kBody 24 t61_3) = ((fun ps => f117v0 (((ps, ()), ()), ())) ps).bind fun r => bif (r.1.1 != 0) then some (.inr (m61_3 r.1.1)) else some (.inl (yL 24 ps k i)) := fun ps k i => by kernel_rfl
theorem x61_2 : ∀ ps k i, jzG (jqb (cx EE L61) []) (jjc (jjH (jjc (jjh Tryz.f61) 1 58)) 116 3737) 3737 (((shL 24).st (yL 24 ps k i)).set 5 (lfv (.clo 118 [(1, 0)]))) (kBody 24 t61_3) = ((fun ps => f118v0 (((ps, ()), ()), ())) ps).bind fun r => bif (r.1.1 != 0) then some (.inr (m61_3 r.1.1)) else some (.inl (yL 24 ps k i)) := fun ps k i => by kernel_rfl
theorem x61_3 : ∀ ps k i, jzG (jqb (cx EE L61) []) (jjc (jjH (jjc (jjh Tryz.f61) 1 58)) 116 3737) 3737 (((shL 24).st (yL 24 ps k i)).set 5 (lfv (.clo 120 [(1, 0)]))) (kBody 24 t61_3) = ((fun ps => f120v0 (((ps, ()), ()), ())) ps).bind fun r => bif (r.1.1 != 0) then some (.inr (m61_3 r.1.1)) else some (.inl (yL 24 ps k i)) := fun ps k i => by kernel_rfl
theorem q61_3 : jjj Pz (jjc (jjh Tryz.f61) 1 3) (jjg s61_3 t61_3 g61_3) :=
 checks_frag (C := jqb (cx EE L61) []) (os := t61_3) (nt := 24) (T := 156) (e := 155) (m0 := ((jzX (jjc (jjh Tryz.f61) 1 6)).getD 0 default)) (m1 := ((jzX (jjc (jjh Tryz.f61) 1 6)).getD 1 default)) (m2 := ((jzX (jjc (jjh Tryz.f61) 1 6)).getD 2 default)) (m3 := ((jzX (jjc (jjh Tryz.f61) 1 6)).getD 3 default)) (m4 := ((jzX (jjc (jjh Tryz.f61) 1 6)).getD 4 default)) (m5 := ((jzX (jjc (jjh Tryz.f61) 1 6)).getD 5 default)) (n0 := ((jzX (jjc (jjh Tryz.f61) 1 28)).getD 0 default)) (n1 := ((jzX (jjc (jjh Tryz.f61) 1 28)).getD 1 default)) (n2 := ((jzX (jjc (jjh Tryz.f61) 1 28)).getD 2 default)) (q0 := ((jzX (jjc (jjH (jjc (jjh Tryz.f61) 1 58)) 116 232)).getD 0 default)) (r0 := ((jzX (jjc (jjH (jjc (jjh Tryz.f61) 1 58)) 116 3736)).getD 0 default)) (r1 := ((jzX (jjc (jjH (jjc (jjh Tryz.f61) 1 58)) 116 3736)).getD 1 default)) (r2 := ((jzX (jjc (jjH (jjc (jjh Tryz.f61) 1 58)) 116 3736)).getD 2 default))
  (i1 := ridOf (jjc (jjh Tryz.f61) 1 6)) (i2 := ridOf (jjc (jjh Tryz.f61) 1 28)) (i3 := ridOf (jjc (jjH (jjc (jjh Tryz.f61) 1 58)) 116 232)) (i4 := ridOf (jjc (jjH (jjc (jjh Tryz.f61) 1 58)) 116 3736)) (BB := (jjc (jjH (jjc (jjh Tryz.f61) 1 58)) 116 3737)) (r8 := (jjc (jjH (jjc (jjh Tryz.f61) 1 58)) 116 935)) (E := (jjc (jjh Tryz.f61) 1 15)) (p3 := 232) (pB := 3737) (p8 := 935) (pE := 15) (g0 := 114) (g1 := 117) (g2 := 118) (g3 := 120) (c0 := fun ps => f114v0 (((ps, ()), ()), ())) (c1 := fun ps => f117v0 (((ps, ()), ()), ())) (c2 := fun ps => f118v0 (((ps, ()), ()), ())) (c3 := fun ps => f120v0 (((ps, ()), ()), ())) (mk := m61_3) G61
  {und := (by kernel_rfl), tye := (by kernel_rfl), gd := ⟨(by kernel_rfl), (by kernel_rfl), (by kernel_rfl), (by kernel_rfl), (by kernel_rfl), (by kernel_rfl), (by kernel_rfl), (by kernel_rfl), (by kernel_rfl), (by kernel_rfl), (by kernel_rfl), (by kernel_rfl)⟩, om := ⟨(by kernel_rfl), (by kernel_rfl)⟩, on := ⟨(by kernel_rfl), (by kernel_rfl), (by kernel_rfl)⟩, ors := ⟨(by kernel_rfl), (by kernel_rfl), (by kernel_rfl)⟩, dst := ⟨(by kernel_rfl), (by kernel_rfl), (by kernel_rfl), (by kernel_rfl), (by kernel_rfl), (by kernel_rfl), (by kernel_rfl), (by kernel_rfl)⟩, nt20 := (by decide), nrB := (by kernel_rfl), nr8 := (by kernel_rfl), nrE := (by kernel_rfl), wr := (by kernel_rfl), wrE := (by kernel_rfl),
   orcs := ⟨(fun f hf => by cases hf), jj5 (by kernel_rfl) jja, jj5 (by kernel_rfl) jja, jj5 (by kernel_rfl) jja⟩, hos := (fun _ _ => rfl), h4 := (fun ps => by kernel_rfl), hset := (fun ps k i => by kernel_rfl), hlt := (fun ps k i => by kernel_rfl),
   hB := (fun gc h => by
    simp only [List.mem_cons, List.not_mem_nil, or_false] at h
    rcases h with rfl | rfl | rfl | rfl
    ·exact x61_0
    ·exact x61_1
    ·exact x61_2
    ·exact x61_3),
   h8 := (fun ps k i => by kernel_rfl), hE := (fun ps k i => by kernel_rfl) } (fun ps => rfl) (by kernel_rfl)
abbrev i61 : Shape := ⟨[tL 0 .pack], [], 24⟩
abbrev o61 : Shape := ⟨[tI 2], [], 24⟩
noncomputable def f61 (a : i61.Y) : Option o61.Y :=
(g61_3 (((), ()), ((a.1.1, ()), ()))).bind fun r1891 =>
 some ((r1891.1.1, ()), ())
noncomputable def S61 : jjA := jjE EE Tryz.f61 i61 o61 [] f61
theorem z61 : jje Pz 61 S61 := jjb G61 Tryz.func61 (by kernel_rfl) (frc q61_3 jja) (fun y => by kernel_rfl) fun a => by kernel_rfl
noncomputable abbrev L18 : LS := [(61, S61)]
theorem G18 : CtxGood Pz (cx EE L18) := gd ⟨z61, ⟨⟩⟩
abbrev i18 : Shape := ⟨[tA 0 [eL .pack]], [], 7⟩
abbrev o18 : Shape := ⟨[tB 2], [], 7⟩
noncomputable def f18 (a : i18.Y) : Option o18.Y :=
(f61 ((a.1.1.1, ()), ())).bind fun r1893 =>
 some (((r1893.1.1 == (0 : Int)), ()), ())
noncomputable def S18 : jjA := jjE EE Tryz.f18 i18 o18 [] f18
theorem z18 : jje Pz 18 S18 := jjb G18 Tryz.func18 (by kernel_rfl) jja (fun y => by kernel_rfl) fun a => by kernel_rfl
theorem v_l8Pack (a) (hs : Bd a.1.1.length) : (∃ (k : Nat) (q : Pack), f235 a = some (((k : Int), ()), ()) ∧ a.1.1[k]? = some q ∧ a.1.1.find? (fun p => p.name == a.1.2.1) = some q) ∨
  (f235 a = some ((((-1) : Int), ()), ()) ∧ a.1.1.find? (fun p => p.name == a.1.2.1) = none) := by
 obtain ⟨⟨ps, name, u⟩, u'⟩ := a
 have hs : ps.length ≤ 2097152 := hs
 have key : ∀ (r : List Pack) (k : Nat), ps.drop k = r → k ≤ ps.length → (∃ (j : Nat) (q : Pack), l235_26 ((ps, (name, ((k : Int), ()))), ()) = some (.inl (((j : Int), ()), ())) ∧ ps[j]? = some q ∧ r.find? (fun p => p.name == name) = some q) ∨
   (l235_26 ((ps, (name, ((k : Int), ()))), ()) = some (.inr ((), ())) ∧ r.find? (fun p => p.name == name) = none) := by
  intro r
  induction r with
  | nil =>
   intro k hr hk
   have := drop_nil hr
   have d1 : decide ((k : Int) < (ps.length : Int)) = false := by simp only [decide_eq_false_iff_not]; omega
   refine .inr ⟨jjP ?_, rfl⟩
   simp only [g235_26, d1, cond_false]
  | cons q r ih =>
   intro k hr hk
   obtain ⟨c1, c2, c3⟩ := jqw hr
   have hw : Sm k := by unfold Sm; omega
   have step : g235_26 ((ps, (name, ((k : Int), ()))), ()) = some (bif q.name == name then .inr (.inl (((k : Int), ()), ())) else .inl ((ps, (name, (((k + 1 : Nat) : Int), ()))), ())) := by
    simp only [g235_26, jjx c3, cond_true, jjs, c1, Option.bind_some, jjk hw]
    cases (q.name == name) <;> rfl
   cases hq : (q.name == name) with
   | true =>
    rw [hq, cond_true] at step
    exact .inl ⟨k, q, jjP step, c1, by simp [List.find?_cons, hq]⟩
   | false =>
    rw [hq, cond_false] at step
    rcases ih (k + 1) c2 c3 with ⟨j, q', h1, h2, h3⟩ | ⟨h1, h2⟩
    ·exact .inl ⟨j, q', (jqr step).trans h1, h2, by simp [List.find?_cons, hq]; exact h3⟩
    ·exact .inr ⟨(jqr step).trans h1, by simp only [List.find?_cons, hq]; exact h2⟩
 rcases key ps 0 rfl (Nat.zero_le _) with ⟨j, q, h1, h2, h3⟩ | ⟨h1, h2⟩
 ·have h1 : l235_26 ((ps, (name, ((0 : Int), ()))), ()) = some (.inl (((j : Int), ()), ())) := h1
  exact .inl ⟨j, q, by simp only [f235, h1, Option.bind_some], h2, h3⟩
 ·have h1 : l235_26 ((ps, (name, ((0 : Int), ()))), ()) = some (.inr ((), ())) := h1
  exact .inr ⟨by simp only [f235, h1, Option.bind_some], h2⟩
abbrev VS (ps : List Pack) : Prop := ∀ p, p ∈ ps → p.version.length ≤ 2097151 ∧ ∀ n, n ∈ p.needs → n.version.length ≤ 2097151
def jzp (ps : List Pack) (n : Need) : Bool := match ps.find? (fun q => q.name == n.name) with
 | some q => fitsV n q.version
 | none => false
def jzZ (ps : List Pack) (n : Need) : Bool := ps.any fun q => fitsB n q.name q.version
theorem v_l9Needs (a) (hb : BdPs a.1.1) (hv : VS a.1.1) : f202 a = some ((a.1.1.all (fun p => p.needs.all (jzp a.1.1)), ()), ()) := by
 obtain ⟨⟨ps, u⟩, u'⟩ := a
 have hl : ps.length ≤ 2097152 := hb.1
 have inner : ∀ (i : Nat) (p : Pack), ps[i]? = some p → l202_1682 ((ps, ((i : Int), ((0 : Int), ()))), ()) = some (bif p.needs.all (jzp ps) then .inr ((ps, ((i : Int), ())), ()) else .inl ((false, ()), ())) := by
  intro i p hp
  have hpm := List.mem_of_getElem? hp
  have hnl : p.needs.length ≤ 2097152 := (hb.2 p hpm).2.2.1.1
  have := jjR g202_1682 p.needs (fun k => ((ps, ((i : Int), ((k : Int), ()))), ())) (fun _ n => jzp ps n) (.inl ((false, ()), ())) (.inr ((ps, ((i : Int), ())), ())) (fun k n hn => ?_) ?_
  ·have := this
   rw [jjW] at this
   exact this
  ·have hk := jju hn
   have hw : Sm k := by unfold Sm; omega
   have hnm := List.mem_of_getElem? hn
   have h8 := v_l8Pack ((ps, (n.name, ())), ()) hl
   simp only [g202_1682, jjs, hp, Option.bind_some, jjx hk, cond_true, hn]
   rcases h8 with ⟨j, q, h1, h2, h3⟩ | ⟨h1, h2⟩
   ·have h2 : ps[j]? = some q := h2
    have h3 : ps.find? (fun p => p.name == n.name) = some q := h3
    have hq := hv q (List.mem_of_getElem? h2)
    have hf := v_l3Fits (((n.name, (n.kind, (n.version, ()))), (n.name, (q.version, ()))), ()) ((hv p hpm).2 n hnm) hq.1 rfl
    have hj : decide ((j : Int) < 0) = false := by simp only [decide_eq_false_iff_not]; omega
    simp only [h1, Option.bind_some, jx0, hj, cond_false, jjs, h2, hf, jzp, h3, jjk hw]
    cases fitsV n q.version <;> rfl
   ·have h2 : ps.find? (fun p => p.name == n.name) = none := h2
    have hj : decide ((-1 : Int) < 0) = true := rfl
    simp only [h1, Option.bind_some, jx0, hj, cond_true, jzp, h2, cond_false]
  ·simp only [g202_1682, jjs, hp, Option.bind_some, jjF, cond_false]
 have key : l202_26 ((ps, ((0 : Int), ())), ()) = some (bif jqu (fun _ p => p.needs.all (jzp ps)) 0 ps then .inr ((), ()) else .inl ((false, ()), ())) := by
  refine jjR g202_26 ps (fun i => ((ps, ((i : Int), ())), ())) _ _ _ (fun i x hx => ?_) ?_
  ·have hi := jju hx
   have hw : Sm i := by unfold Sm; omega
   simp only [g202_26, jjx hi, cond_true, inner i x hx, Option.bind_some]
   cases x.needs.all (jzp ps)
   ·rfl
   ·simp only [cond_true, jjk hw]
  ·simp only [g202_26, jjF, cond_false]
 rw [jjW] at key
 simp only [f202, key, Option.bind_some]
 cases List.all ps (fun p => p.needs.all (jzp ps)) <;> rfl
theorem v_needsThere (a) (hb : BdPs a.1.1) (hv : VS a.1.1) : f119 a = some ((a.1.1.all (fun p => p.needs.all (jzZ a.1.1)), ()), ()) := by
 obtain ⟨⟨ps, u⟩, u'⟩ := a
 have hl : ps.length ≤ 2097152 := hb.1
 have hcon : ∀ n : Need, Bd n.name.length → n.version.length ≤ 2097151 → f193v0 ((ps, (((n.name, (n.kind, (n.version, ()))), ()), ())), ()) = some ((jzZ ps n, ()), ()) := by
  intro n hn1 hn2
  have key : ∀ (r : List Pack) (k : Nat), ps.drop k = r → k ≤ ps.length → ∃ z : Int, (jxF ((ps, (((n.name, (n.kind, (n.version, ()))), ()), ((ps.length : Int), ((k : Int), ())))), ())).bind (fun r1146 => (match r1146 with
    | .inl r1147 => some ((r1147.1.1, ()), ())
    | .inr r1148 => some ((((-1) : Int), ()), ()) : Option o256v0.Y)) = some ((z, ()), ()) ∧ decide (z ≥ 0) = r.any (fun q => fitsB n q.name q.version) := by
   intro r
   induction r with
   | nil =>
    intro k hr hk
    have := drop_nil hr
    have d1 : decide ((k : Int) < (ps.length : Int)) = false := by simp only [decide_eq_false_iff_not]; omega
    have : jxF ((ps, (((n.name, (n.kind, (n.version, ()))), ()), ((ps.length : Int), ((k : Int), ())))), ()) = some (.inr ((), ())) := by
     refine jjP ?_
     simp only [g256v0_26, d1, cond_false]
    exact ⟨-1, by rw [this]; rfl, rfl⟩
   | cons q r ih =>
    intro k hr hk
    obtain ⟨c1, c2, c3⟩ := jqw hr
    have hw : Sm k := by unfold Sm; omega
    have hq := hv q (List.mem_of_getElem? c1)
    have hf := v_NeedFits (((n.name, (n.kind, (n.version, ()))), (q.name, (q.version, ()))), ()) hn1 hn2 hq.1
    have step : g256v0_26 ((ps, (((n.name, (n.kind, (n.version, ()))), ()), ((ps.length : Int), ((k : Int), ())))), ()) = some (bif fitsB n q.name q.version then .inr (.inl (((k : Int), ()), ())) else .inl ((ps, (((n.name, (n.kind, (n.version, ()))), ()), ((ps.length : Int), (((k + 1 : Nat) : Int), ())))), ())) := by
     simp only [g256v0_26, jjx c3, cond_true, jjs, c1, Option.bind_some, f191v0, hf, jjk hw]
     cases fitsB n q.name q.version <;> rfl
    rw [List.any_cons]
    cases hfq : fitsB n q.name q.version with
    | true =>
     rw [hfq, cond_true] at step
     exact ⟨k, by rw [show jxF _ = _ from jjP step]; rfl, by simp⟩
    | false =>
     rw [hfq, cond_false] at step
     obtain ⟨z, h1, h2⟩ := ih (k + 1) c2 c3
     exact ⟨z, by rw [show jxF _ = _ from jqr step]; exact h1, by rw [h2]; rfl⟩
  obtain ⟨z, h1, h2⟩ := key ps 0 rfl (Nat.zero_le _)
  have h3 : f256v0 ((ps, (((n.name, (n.kind, (n.version, ()))), ()), ())), ()) = some ((z, ()), ()) := by
   simp only [f256v0]
   exact h1
  simp only [f193v0, h3, Option.bind_some, h2, jzZ]
 have inner : ∀ (i : Nat) (p : Pack), ps[i]? = some p → l119_6758 ((ps, (ps, ((ps.length : Int), ((i : Int), (p.needs, ((p.needs.length : Int), ((0 : Int), ()))))))), ()) = some (bif p.needs.all (jzZ ps) then .inr ((ps, (ps, ((ps.length : Int), ((i : Int), ())))), ()) else .inl ((false, ()), ())) := by
  intro i p hp
  have hpm := List.mem_of_getElem? hp
  have hnl : p.needs.length ≤ 2097152 := (hb.2 p hpm).2.2.1.1
  have := jjR g119_6758 p.needs (fun k => ((ps, (ps, ((ps.length : Int), ((i : Int), (p.needs, ((p.needs.length : Int), ((k : Int), ()))))))), ())) (fun _ n => jzZ ps n) (.inl ((false, ()), ())) (.inr ((ps, (ps, ((ps.length : Int), ((i : Int), ())))), ())) (fun k n hn => ?_) ?_
  ·have := this
   rw [jjW] at this
   exact this
  ·have hk := jju hn
   have hw : Sm k := by unfold Sm; omega
   have hnm := List.mem_of_getElem? hn
   have hc := hcon n ((hb.2 p hpm).2.2.1.2 n hnm).1 ((hv p hpm).2 n hnm)
   simp only [g119_6758, jjx hk, cond_true, jjs, hn, Option.bind_some, hc, jjk hw]
   cases jzZ ps n <;> rfl
  ·simp only [g119_6758, jjF, cond_false]
 have key : l119_26 ((ps, (ps, ((ps.length : Int), ((0 : Int), ())))), ()) = some (bif jqu (fun _ p => p.needs.all (jzZ ps)) 0 ps then .inr ((), ()) else .inl ((false, ()), ())) := by
  refine jjR g119_26 ps (fun i => ((ps, (ps, ((ps.length : Int), ((i : Int), ())))), ())) _ _ _ (fun i x hx => ?_) ?_
  ·have hi := jju hx
   have hw : Sm i := by unfold Sm; omega
   simp only [g119_26, jjx hi, cond_true, jjs, hx, inner i x hx, Option.bind_some]
   cases x.needs.all (jzZ ps)
   ·rfl
   ·simp only [cond_true, jjk hw]
  ·simp only [g119_26, jjF, cond_false]
 rw [jjW] at key
 simp only [f119, key, Option.bind_some]
 cases List.all ps (fun p => p.needs.all (jzZ ps)) <;> rfl
theorem ascP_pair : ∀ ps : List Pack, (∀ i y, ps[i + 1]? = some y → lessP ps i y = true) → ps.Pairwise fun p q => Op.bytesLess p.name q.name = true := by
 intro ps
 induction ps with
 | nil => intro _; exact List.Pairwise.nil
 | cons x r ih =>
  intro h
  have hr := ih (fun i y hy => by
   have := h (i + 1) y (by simpa using hy)
   unfold lessP at this ⊢
   simpa using this)
  refine List.pairwise_cons.2 ⟨fun y hy => ?_, hr⟩
  cases r with
  | nil => cases hy
  | cons z r =>
   have hz : Op.bytesLess x.name z.name = true := by
    have := h 0 z rfl
    unfold lessP at this
    simpa using this
   rcases List.mem_cons.1 hy with rfl | hy
   ·exact hz
   ·exact jzI _ _ _ hz ((List.pairwise_cons.1 hr).1 y hy)
theorem ascP_of {ps : List Pack} (h : ascP ps = true) : ps.Pairwise fun p q => Op.bytesLess p.name q.name = true := by
 refine ascP_pair ps (fun i y hy => ?_)
 have := allI_get ps.tail 0 h i y (by rw [List.getElem?_tail]; exact hy)
 rwa [Nat.zero_add] at this
theorem needs_agree : ∀ (ps : List Pack) (n : Need), (∀ p, p ∈ ps → jj3 p.version = true) → jqQ n = true → ps.Pairwise (fun p q => Op.bytesLess p.name q.name = true) → jzZ ps n = jzp ps n := by
 intro ps n
 induction ps with
 | nil => intro _ _ _; rfl
 | cons q r ih =>
  intro hv hn hp
  have hp' := List.pairwise_cons.1 hp
  have ih := ih (fun p h => hv p (List.mem_cons_of_mem _ h)) hn hp'.2
  unfold jzZ jzp at ih ⊢
  rw [List.any_cons, List.find?_cons]
  cases hq : (q.name == n.name) with
  | true =>
   have hno : r.any (fun q => fitsB n q.name q.version) = false := by
    rw [List.any_eq_false]
    intro p hpr
    have h1 := hp'.1 p hpr
    rw [eq_of_beq hq] at h1
    have : (p.name == n.name) = false := by
     cases h : (p.name == n.name) with
     | false => rfl
     | true => rw [eq_of_beq h, bl_irr] at h1; cases h1
    unfold fitsB
    rw [this]; simp
   rw [hno]
   unfold fitsB
   rw [hv q List.mem_cons_self, hn, hq]
   simp
  | false =>
   have : fitsB n q.name q.version = false := by unfold fitsB; rw [hq]; simp
   rw [this, Bool.false_or]
   exact ih
def jqK (ps : List Pack) : Bool := ps.all jxL && ascP ps && decide (ps.length ≤ 5) && ps.all (fun p => p.needs.all (jzp ps)) && (jj4 [] ps).isSome
def jxm (ps : List Pack) : Int := bif ps.all jxL && ascP ps then (bif decide (ps.length ≤ 5) then (bif ps.all (fun p => p.needs.all (jzp ps)) then (bif (jj4 [] ps).isSome then 0 else 5) else 4) else 6) else 1
theorem rootOk_code (ps : List Pack) : jqK ps = (jxm ps == 0) := by
 unfold jqK jxm
 cases ps.all jxL <;> cases ascP ps <;> cases decide (ps.length ≤ 5) <;> cases ps.all (fun p => p.needs.all (jzp ps)) <;> cases (jj4 [] ps).isSome <;> rfl
theorem allI_shift {α : Type} (ok : Nat → α → Bool) : ∀ (xs : List α) (j : Nat), jqu ok (j + 1) xs = jqu (fun i => ok (i + 1)) j xs := by
 intro xs
 induction xs with
 | nil => intro j; rfl
 | cons x r ih => intro j; simp only [jqu, ih]
def okP (ps : List Pack) (i : Nat) (x : Pack) : Bool := jxL x && (i == 0 || lessP ps (i - 1) x)
theorem okP_all (ps : List Pack) : jqu (okP ps) 0 ps = (ps.all jxL && ascP ps) := by
 unfold okP
 rw [allI_and, jjW]
 congr 1
 unfold ascP
 cases ps with
 | nil => rfl
 | cons x r =>
  simp only [jqu, beq_self_eq_true, Bool.true_or, Bool.true_and, List.tail_cons]
  rw [allI_shift]
  refine allI_congr r 0 (fun i y _ _ => ?_)
  have : (i + 1 == 0) = false := rfl
  rw [this, Bool.false_or, Nat.add_sub_cancel]
theorem v_rootCode (a) (hb : BdPs a.1.1) (hv : VS a.1.1) : f61 a = some ((jxm a.1.1, ()), ()) := by
 obtain ⟨⟨ps, u⟩, u'⟩ := a
 have hl : ps.length ≤ 2097152 := hb.1
 have e1 := v_allPack ((ps, ((), ())), ()) hb
 have e2 := v_packsAscend ((ps, ()), ()) hl
 have e3 := v_needsThere ((ps, ()), ()) hb hv
 have h5 : decide ((ps.length : Int) > 5) = !decide (ps.length ≤ 5) := by by_cases h : ps.length ≤ 5 <;> simp only [h, decide_true, decide_false, Bool.not_true, Bool.not_false, decide_eq_true_eq, decide_eq_false_iff_not] <;> omega
 have c0 : f114v0 (((ps, ()), ()), ()) = some (((bif ps.all jxL && ascP ps then (0 : Int) else 1), ()), ()) := by
  simp only [f114v0, g114v0_12, e1, Bool.not_not, Option.bind_some]
  cases ps.all jxL with
  | false => rfl
  | true => simp only [cond_true, e2, Option.bind_some, Bool.true_and]; cases ascP ps <;> rfl
 have c1 : f117v0 (((ps, ()), ()), ()) = some (((bif decide (ps.length ≤ 5) then (0 : Int) else 6), ()), ()) := by
  simp only [f117v0, h5]
  cases decide (ps.length ≤ 5) <;> rfl
 have c2 : f118v0 (((ps, ()), ()), ()) = some (((bif ps.all (fun p => p.needs.all (jzZ ps)) then (0 : Int) else 4), ()), ()) := by
  simp only [f118v0, e3, Option.bind_some]
  cases ps.all (fun p => p.needs.all (jzZ ps)) <;> rfl
 have c3 : ps.all jxL = true → f120v0 (((ps, ()), ()), ()) = some (((bif (jj4 [] ps).isSome then (0 : Int) else 5), ()), ()) := by
  intro hk
  obtain ⟨out, ht⟩ := v_joinTrees ((ps, ()), ()) hb hk
  simp only [f120v0, ht, Option.bind_some]
  cases (jj4 [] ps).isSome <;> rfl
 have z : ∀ n : Int, ((n : Int) != 0) = !(n == 0) := fun n => rfl
 simp only [f61, g61_3, restC, c0, c1, c2, m61_3, Option.bind_some, jxm]
 cases hA : (ps.all jxL && ascP ps) with
 | false => rfl
 | true =>
  simp only [Bool.and_eq_true] at hA
  have hagree : ps.all (fun p => p.needs.all (jzZ ps)) = ps.all (fun p => p.needs.all (jzp ps)) := by
   rw [Bool.eq_iff_iff]
   simp only [List.all_eq_true]
   have hvs : ∀ p, p ∈ ps → jj3 p.version = true := fun p hp => by
    have := List.all_eq_true.1 hA.1 p hp
    unfold jxL at this
    simp only [Bool.and_eq_true] at this
    exact this.1.1.2
   have hns : ∀ p, p ∈ ps → ∀ n, n ∈ p.needs → jzZ ps n = jzp ps n := fun p hp n hn => by
    have := List.all_eq_true.1 hA.1 p hp
    unfold jxL needsOk at this
    simp only [Bool.and_eq_true] at this
    exact needs_agree ps n hvs (List.all_eq_true.1 this.1.2.1.1 n hn) (ascP_of hA.2)
   constructor
   ·intro h p hp n hn; rw [← hns p hp n hn]; exact h p hp n hn
   ·intro h p hp n hn; rw [hns p hp n hn]; exact h p hp n hn
  rw [hagree, c3 hA.1]
  cases decide (ps.length ≤ 5) <;> cases ps.all (fun p => p.needs.all (jzp ps)) <;> cases (jj4 [] ps).isSome <;> rfl
theorem v_iRootOk (a) (hb : BdPs a.1.1.1) (hv : VS a.1.1.1) : f18 a = some ((jqK a.1.1.1, ()), ()) := by
 obtain ⟨⟨⟨ps, u⟩, u'⟩, u''⟩ := a
 have e := v_rootCode ((ps, ()), ()) hb hv
 simp only [f18, e, Option.bind_some, rootOk_code]
abbrev s88v0_28 : Shape := ⟨[tP 0 500000 0, tI 1], [zB 500000 [eL .u8, eI]], 99⟩
abbrev t88v0_28 : List OSh := [(.norm, ⟨[tP 0 500000 0, tI 1, tB 24], [zB 500000 [eL .u8, eI]], 99⟩)]
noncomputable def g88v0_28 (y : s88v0_28.Y) : Option (YS t88v0_28) :=
 bif (!(decide (y.1.2.1 < (1 : Int)))) then
 some ((((), (y.1.2.1, (((y.2.1.1.length : Int) == (0 : Int)), ()))), ((y.2.1.1, (y.2.1.2.1, ())), ())))
else
 some ((((), (y.1.2.1, (true, ()))), ((y.2.1.1, (y.2.1.2.1, ())), ())))
theorem q88v0_28 : jjj Pz (jjc (jjh Tryz.f88) 1 28) (jjg s88v0_28 t88v0_28 g88v0_28) := jjr g0 (by kernel_rfl) jja fun y => by kernel_rfl
abbrev i88v0 : Shape := ⟨[tP 0 500000 0, tI 1], [zB 500000 [eL .u8, eI]], 99⟩
abbrev o88v0 : Shape := ⟨[tP 0 500000 0, tI 4], [zB 500000 [eL .u8, eI]], 99⟩
noncomputable def jxt (a : i88v0.Y) : Option o88v0.Y :=
(g88v0_28 (((), (a.1.2.1, ())), ((a.2.1.1, ((IntKind.i64.wrap (a.2.1.2.1 + (1 : Int))), ())), ()))).bind fun r31 =>
 bif r31.1.2.2.1 then
 some (((), ((0 : Int), ())), ((r31.2.1.1, (r31.2.1.2.1, ())), ()))
else
 bif (decide ((IntKind.i64.wrap (r31.2.1.2.1 - (1 : Int))) < (r31.2.1.1.length : Int))) then
(ix r31.2.1.1 (IntKind.i64.wrap (r31.2.1.2.1 - (1 : Int)))).bind fun x34 =>
(remI (IntKind.i64.wrap x34) r31.1.2.1).bind fun x35 =>
 some (((), (x35, ())), ((r31.2.1.1, (r31.2.1.2.1, ())), ()))
else
(remI (IntKind.i64.wrap (r31.2.1.2.1 - (1 : Int))) (r31.2.1.1.length : Int)).bind fun x41 =>
(ix r31.2.1.1 x41).bind fun x42 =>
(remI (IntKind.i64.wrap ((IntKind.i64.wrap ((IntKind.i64.wrap (r31.2.1.2.1 - (1 : Int))) * (7 : Int))) + (3 : Int))) (r31.2.1.1.length : Int)).bind fun x43 =>
(ix r31.2.1.1 x43).bind fun x44 =>
(quoI .i64 (IntKind.i64.wrap (r31.2.1.2.1 - (1 : Int))) (r31.2.1.1.length : Int)).bind fun x45 =>
(quoI .i64 (IntKind.i64.wrap ((IntKind.i64.wrap ((IntKind.i64.wrap ((IntKind.i64.wrap ((IntKind.i64.wrap x42) * (131 : Int))) + (IntKind.i64.wrap ((IntKind.i64.wrap x44) * (1117 : Int))))) + (IntKind.i64.wrap ((IntKind.i64.wrap (r31.2.1.2.1 - (1 : Int))) * (29 : Int))))) + (IntKind.i64.wrap (x45 * (53 : Int))))) (64 : Int)).bind fun x47 =>
(remI (xorI .i64 (IntKind.i64.wrap ((IntKind.i64.wrap ((IntKind.i64.wrap ((IntKind.i64.wrap ((IntKind.i64.wrap x42) * (131 : Int))) + (IntKind.i64.wrap ((IntKind.i64.wrap x44) * (1117 : Int))))) + (IntKind.i64.wrap ((IntKind.i64.wrap (r31.2.1.2.1 - (1 : Int))) * (29 : Int))))) + (IntKind.i64.wrap (x45 * (53 : Int))))) x47) r31.1.2.1).bind fun x48 =>
 some (((), (x48, ())), ((r31.2.1.1, (r31.2.1.2.1, ())), ()))
noncomputable def jz8 : jjA := jjE EE Tryz.f88 i88v0 o88v0 [0] jxt
theorem z88v0 : jje Pz 88 jz8 := jjb g0 Tryz.func88 (by kernel_rfl) (frc q88v0_28 jja) (fun y => by kernel_rfl) fun a => by kernel_rfl
noncomputable abbrev L90v0 : LS := [(88, jz8)]
theorem G90v0 : CtxGood Pz (cx EE L90v0) := gd ⟨z88v0, ⟨⟩⟩
abbrev i90v0 : Shape := ⟨[tP 0 500000 0, tL 1 .str], [zB 500000 [eL .u8, eI]], 12⟩
abbrev o90v0 : Shape := ⟨[tP 0 500000 0, tS 4], [zB 500000 [eL .u8, eI]], 12⟩
noncomputable def jz4 (a : i90v0.Y) : Option o90v0.Y :=
(jxt (((), ((a.1.2.1.length : Int), ())), ((a.2.1.1, (a.2.1.2.1, ())), ()))).bind fun r55 =>
(ix a.1.2.1 r55.1.2.1).bind fun x56 =>
 some (((), (x56, ())), ((r55.2.1.1, (r55.2.1.2.1, ())), ()))
noncomputable def S90v0 : jjA := jjE EE Tryz.f90 i90v0 o90v0 [0] jz4
theorem z90v0 : jje Pz 90 S90v0 := jjb G90v0 Tryz.func90 (by kernel_rfl) jja (fun y => by kernel_rfl) fun a => by kernel_rfl
noncomputable abbrev L167v0 : LS := [(90, S90v0)]
theorem G167v0 : CtxGood Pz (cx EE L167v0) := gd ⟨z90v0, ⟨⟩⟩
abbrev i167v0 : Shape := ⟨[tP 0 500000 0], [zB 500000 [eL .u8, eI]], 6⟩
abbrev o167v0 : Shape := ⟨[tP 0 500000 0, tS 2], [zB 500000 [eL .u8, eI]], 6⟩
noncomputable def f167v0 (a : i167v0.Y) : Option o167v0.Y :=
(jz4 (((), (([([49] : Str), ([49, 46, 48] : Str), ([49, 46, 49] : Str), ([49, 46, 50] : Str), ([50] : Str), ([48, 46, 57, 46, 57] : Str), ([49, 46, 49, 48] : Str), ([57, 57, 57, 46, 57, 57, 57, 46, 57, 57, 57, 46, 57, 57, 57] : Str)] : List Str), ())), ((a.2.1.1, (a.2.1.2.1, ())), ()))).bind fun r59 =>
 some (((), (r59.1.2.1, ())), ((r59.2.1.1, (r59.2.1.2.1, ())), ()))
noncomputable def S167v0 : jjA := jjE EE Tryz.f167 i167v0 o167v0 [0] f167v0
theorem z167v0 : jje Pz 167 S167v0 := jjb G167v0 Tryz.func167 (by kernel_rfl) jja (fun y => by kernel_rfl) fun a => by kernel_rfl
noncomputable abbrev L240 : LS := [(104, S104), (105, S105), (106, S106), (170, S170), (184, S184)]
theorem G240 : CtxGood Pz (cx EE L240) := gd ⟨z104, z105, z106, z170, z184, ⟨⟩⟩
abbrev s240_120 : Shape := ⟨[tL 0 .entry, tP 3 3 0, tO 4 3000256, tB 5, tI 6, tB 7, tO 8 3000512], [zB 3 [eS, eI, eI, eS], zR 3000256 .entry 4 0, zR 3000512 .entry 8 0], 68⟩
abbrev t240_120 : List OSh := [(.norm, ⟨[tL 0 .entry, tP 3 3 0, tO 4 3000256, tB 5, tI 6, tB 7, tO 8 3000512, tB 18], [zB 3 [eS, eI, eI, eS], zR 3000256 .entry 4 0, zR 3000512 .entry 8 0], 68⟩)]
noncomputable def g240_120 (y : s240_120.Y) : Option (YS t240_120) :=
(f104 (((y.2.1.1, (y.2.1.2.1, (y.2.1.2.2.1, (y.2.1.2.2.2.1, ())))), ()), ())).bind fun r224 =>
 bif (!(!r224.1.1)) then
(f106 ((y.2.1.1, ()), ())).bind fun r225 =>
(f105 ((y.1.1, (r225.1.1, ())), ())).bind fun r226 =>
 some (((y.1.1, ((), ((), (y.1.2.2.2.1, (y.1.2.2.2.2.1, (y.1.2.2.2.2.2.1, ((), ((!r226.1.1), ())))))))), ((y.2.1.1, (y.2.1.2.1, (y.2.1.2.2.1, (y.2.1.2.2.2.1, ())))), (y.2.2.1, (y.2.2.2.1, ())))))
else
 some (((y.1.1, ((), ((), (y.1.2.2.2.1, (y.1.2.2.2.2.1, (y.1.2.2.2.2.2.1, ((), (true, ())))))))), ((y.2.1.1, (y.2.1.2.1, (y.2.1.2.2.1, (y.2.1.2.2.2.1, ())))), (y.2.2.1, (y.2.2.2.1, ())))))
theorem q240_120 : jjj Pz (jjc (jjh Tryz.f240) 1 120) (jjg s240_120 t240_120 g240_120) := jjr G240 (by kernel_rfl) jja fun y => by kernel_rfl
abbrev s240_486 : Shape := ⟨[tL 0 .entry, tP 3 3 0, tO 4 3000256, tB 5, tI 6, tB 7, tO 8 3000512], [zB 3 [eS, eI, eI, eS], zR 3000256 .entry 4 0, zR 3000512 .entry 8 0], 68⟩
abbrev t240_486 : List OSh := [(.norm, ⟨[tL 0 .entry, tP 3 3 0, tO 4 3000256, tB 5, tI 6, tB 7, tO 8 3000512, tB 31], [zB 3 [eS, eI, eI, eS], zR 3000256 .entry 4 0, zR 3000512 .entry 8 0], 68⟩)]
noncomputable def g240_486 (y : s240_486.Y) : Option (YS t240_486) :=
 bif y.1.2.2.2.2.2.1 then
(ix y.1.1 y.1.2.2.2.2.1).bind fun x235 =>
 some (((y.1.1, ((), ((), (y.1.2.2.2.1, (y.1.2.2.2.2.1, (y.1.2.2.2.2.2.1, ((), ((x235.kind != y.2.1.2.1), ())))))))), ((y.2.1.1, (y.2.1.2.1, (y.2.1.2.2.1, (y.2.1.2.2.2.1, ())))), (y.2.2.1, (y.2.2.2.1, ())))))
else
 some (((y.1.1, ((), ((), (y.1.2.2.2.1, (y.1.2.2.2.2.1, (y.1.2.2.2.2.2.1, ((), (false, ())))))))), ((y.2.1.1, (y.2.1.2.1, (y.2.1.2.2.1, (y.2.1.2.2.2.1, ())))), (y.2.2.1, (y.2.2.2.1, ())))))
theorem q240_486 : jjj Pz (jjc (jjh Tryz.f240) 1 486) (jjg s240_486 t240_486 g240_486) := jjr G240 (by kernel_rfl) jja fun y => by kernel_rfl
abbrev i240 : Shape := ⟨[tL 0 .entry, tA 1 [eS, eI, eI, eS]], [], 68⟩
abbrev o240 : Shape := ⟨[tO 4 3000256, tB 5], [zR 3000256 .entry 4 0], 68⟩
noncomputable def f240 (a : i240.Y) : Option o240.Y :=
(f184 ((a.1.1, (a.1.2.1.1, ())), ())).bind fun r230 =>
(f170 ((a.1.1, ()), ())).bind fun r232 =>
(g240_120 ((a.1.1, ((), ((), (false, (r230.1.1, (r230.1.2.1, ((), ()))))))), ((a.1.2.1.1, (a.1.2.1.2.1, (a.1.2.1.2.2.1, (a.1.2.1.2.2.2.1, ())))), (([] : List Entry), (r232.2.1, ()))))).bind fun r233 =>
 bif r233.1.2.2.2.2.2.2.2.1 then
 some (((), (false, ())), (r233.2.2.2.1, ()))
else
(g240_486 ((r233.1.1, ((), ((), (r233.1.2.2.2.1, (r233.1.2.2.2.2.1, (r233.1.2.2.2.2.2.1, ((), ()))))))), ((r233.2.1.1, (r233.2.1.2.1, (r233.2.1.2.2.1, (r233.2.1.2.2.2.1, ())))), (r233.2.2.1, (r233.2.2.2.1, ()))))).bind fun r236 =>
 bif r236.1.2.2.2.2.2.2.2.1 then
 some (((), (false, ())), (r236.2.2.2.1, ()))
else
 bif r236.1.2.2.2.2.2.1 then
(inb r236.2.2.2.1.length r236.1.2.2.2.2.1).bind fun x239 =>
((r236.2.2.2.1[x239]?).bind fun q => some (Entry.mk r236.2.1.1 r236.2.1.2.1 r236.2.1.2.2.1 r236.2.1.2.2.2.1)).bind fun x240 =>
 some (((), (true, ())), ((r236.2.2.2.1.set x239 x240), ()))
else
 bif (decide ((r236.1.1.length : Int) ≥ (16 : Int))) then
 some (((), (false, ())), (r236.2.2.2.1, ()))
else
(jqv r236.1.1 (0 : Int) r236.1.2.2.2.2.1).bind fun x241 =>
(apd 48 ([] : List Entry) x241).bind fun x242 =>
(apd 48 x242 ([(Entry.mk r236.2.1.1 r236.2.1.2.1 r236.2.1.2.2.1 r236.2.1.2.2.2.1)] : List Entry)).bind fun x243 =>
(jqv r236.1.1 r236.1.2.2.2.2.1 (r236.1.1.length : Int)).bind fun x244 =>
(apd 48 x243 x244).bind fun x245 =>
 some (((), (true, ())), (x245, ()))
noncomputable def S240 : jjA := jjE EE Tryz.f240 i240 o240 [] f240
theorem z240 : jje Pz 240 S240 := jjb G240 Tryz.func240 (by kernel_rfl) (frc q240_120 (frc q240_486 jja)) (fun y => by kernel_rfl) fun a => by kernel_rfl
noncomputable abbrev L243v0 : LS := [(88, jz8)]
theorem G243v0 : CtxGood Pz (cx EE L243v0) := gd ⟨z88v0, ⟨⟩⟩
abbrev i243v0 : Shape := ⟨[tP 0 500000 0, tL 1 .i64], [zB 500000 [eL .u8, eI]], 12⟩
abbrev o243v0 : Shape := ⟨[tP 0 500000 0, tI 4], [zB 500000 [eL .u8, eI]], 12⟩
noncomputable def f243v0 (a : i243v0.Y) : Option o243v0.Y :=
(jxt (((), ((a.1.2.1.length : Int), ())), ((a.2.1.1, (a.2.1.2.1, ())), ()))).bind fun r265 =>
(ix a.1.2.1 r265.1.2.1).bind fun x266 =>
 some (((), (x266, ())), ((r265.2.1.1, (r265.2.1.2.1, ())), ()))
noncomputable def S243v0 : jjA := jjE EE Tryz.f243 i243v0 o243v0 [0] f243v0
theorem z243v0 : jje Pz 243 S243v0 := jjb G243v0 Tryz.func243 (by kernel_rfl) jja (fun y => by kernel_rfl) fun a => by kernel_rfl
abbrev s244_452 : Shape := ⟨[tS 0, tI 1, tS 5], [], 20⟩
abbrev t244_452 : List OSh := [(.norm, ⟨[tS 0, tI 1, tS 5], [], 20⟩)]
noncomputable def g244_452 (y : s244_452.Y) : Option (YS t244_452) :=
(remI y.1.2.1 (2 : Int)).bind fun x279 =>
 bif (x279 == (1 : Int)) then
(cat y.1.2.2.1 y.1.1).bind fun x280 =>
 some (((y.1.1, (y.1.2.1, (x280, ()))), ()))
else
 some (((y.1.1, (y.1.2.1, (y.1.2.2.1, ()))), ()))
theorem q244_452 : jjj Pz (jjc (jjH (jjc (jjh Tryz.f244) 1 28)) 56 452) (jjg s244_452 t244_452 g244_452) := jjr g0 (by kernel_rfl) jja fun y => by kernel_rfl
abbrev s244_28 : Shape := ⟨[tS 0, tI 1, tS 5], [], 20⟩
abbrev t244_28 : List OSh := [(.exit 0, ⟨[tS 5], [], 20⟩)]
noncomputable def g244_28 (y : s244_28.Y) : LR s244_28 t244_28 :=
 bif (decide (y.1.2.1 > (0 : Int))) then
(g244_452 ((y.1.1, (y.1.2.1, (y.1.2.2.1, ()))), ())).bind fun r285 =>
(cat r285.1.1 r285.1.1).bind fun x287 =>
(quoI .i64 r285.1.2.1 (2 : Int)).bind fun x288 =>
 some (.inl ((x287, (x288, (r285.1.2.2.1, ()))), ()))
else
 some (.inr (((y.1.2.2.1, ()), ())))
noncomputable def l244_28 : s244_28.Y → Option (YS t244_28) := jjv g244_28
theorem q244_28 : jjj Pz (jjc (jjh Tryz.f244) 1 28) (jjg s244_28 t244_28 l244_28) := jjf g0 (by kernel_rfl) (frc q244_452 jja) fun y => by kernel_rfl
abbrev i244 : Shape := ⟨[tS 0, tI 1], [], 20⟩
abbrev o244 : Shape := ⟨[tS 4], [], 20⟩
noncomputable def f244 (a : i244.Y) : Option o244.Y :=
(l244_28 ((a.1.1, (a.1.2.1, (([] : Str), ()))), ())).bind fun r290 =>
 some ((r290.1.1, ()), ())
noncomputable def S244 : jjA := jjE EE Tryz.f244 i244 o244 [] f244
theorem z244 : jje Pz 244 S244 := jjb g0 Tryz.func244 (by kernel_rfl) (frc q244_28 jja) (fun y => by kernel_rfl) fun a => by kernel_rfl
noncomputable abbrev L272v0 : LS := [(90, S90v0), (244, S244)]
theorem G272v0 : CtxGood Pz (cx EE L272v0) := gd ⟨z90v0, z244, ⟨⟩⟩
abbrev i272v0 : Shape := ⟨[tP 0 500000 0], [zB 500000 [eL .u8, eI]], 7⟩
abbrev o272v0 : Shape := ⟨[tP 0 500000 0, tS 2], [zB 500000 [eL .u8, eI]], 7⟩
noncomputable def f272v0 (a : i272v0.Y) : Option o272v0.Y :=
(f244 ((([116] : Str), ((80 : Int), ())), ())).bind fun r293 =>
(jz4 (((), (([([] : Str), ([111, 110, 101, 10] : Str), ([111, 110, 101, 10, 116, 119, 111, 10, 116, 104, 114, 101, 101, 10] : Str), ([110, 111, 32, 101, 110, 100] : Str), ([97, 10, 98, 10, 99, 10, 100, 10, 101, 10, 102, 10, 103, 10] : Str), r293.1.1] : List Str), ())), ((a.2.1.1, (a.2.1.2.1, ())), ()))).bind fun r294 =>
 some (((), (r294.1.2.1, ())), ((r294.2.1.1, (r294.2.1.2.1, ())), ()))
noncomputable def S272v0 : jjA := jjE EE Tryz.f272 i272v0 o272v0 [0] f272v0
theorem z272v0 : jje Pz 272 S272v0 := jjb G272v0 Tryz.func272 (by kernel_rfl) jja (fun y => by kernel_rfl) fun a => by kernel_rfl
noncomputable abbrev L310v0 : LS := [(90, S90v0)]
theorem G310v0 : CtxGood Pz (cx EE L310v0) := gd ⟨z90v0, ⟨⟩⟩
abbrev i310v0 : Shape := ⟨[tP 0 500000 0], [zB 500000 [eL .u8, eI]], 6⟩
abbrev o310v0 : Shape := ⟨[tP 0 500000 0, tS 2], [zB 500000 [eL .u8, eI]], 6⟩
noncomputable def f310v0 (a : i310v0.Y) : Option o310v0.Y :=
(jz4 (((), (([([97] : Str), ([98] : Str), ([97, 47, 98] : Str), ([97, 47, 99] : Str), ([97, 47, 98, 47, 99] : Str), ([108, 105, 98] : Str), ([108, 105, 98, 47, 120] : Str), ([108, 105, 98, 47, 120, 46, 99] : Str), ([100, 111, 99, 47, 121] : Str), ([98, 105, 110] : Str), ([98, 105, 110, 47, 122] : Str), ([97, 47, 98, 47, 99, 47, 100, 47, 101] : Str)] : List Str), ())), ((a.2.1.1, (a.2.1.2.1, ())), ()))).bind fun r261 =>
 some (((), (r261.1.2.1, ())), ((r261.2.1.1, (r261.2.1.2.1, ())), ()))
noncomputable def S310v0 : jjA := jjE EE Tryz.f310 i310v0 o310v0 [0] f310v0
theorem z310v0 : jje Pz 310 S310v0 := jjb G310v0 Tryz.func310 (by kernel_rfl) jja (fun y => by kernel_rfl) fun a => by kernel_rfl
noncomputable abbrev L241v0 : LS := [(88, jz8), (243, S243v0), (272, S272v0), (310, S310v0)]
theorem G241v0 : CtxGood Pz (cx EE L241v0) := gd ⟨z88v0, z243v0, z272v0, z310v0, ⟨⟩⟩
abbrev i241v0 : Shape := ⟨[tP 0 500000 0], [zB 500000 [eL .u8, eI]], 26⟩
abbrev o241v0 : Shape := ⟨[tP 0 500000 0, tP 2 2 0], [zB 500000 [eL .u8, eI], zB 2 [eS, eI, eI, eS]], 26⟩
noncomputable def f241v0 (a : i241v0.Y) : Option o241v0.Y :=
(f310v0 (((), ()), ((a.2.1.1, (a.2.1.2.1, ())), ()))).bind fun r300 =>
(f243v0 (((), (([(1 : Int), (1 : Int), (2 : Int), (2 : Int), (3 : Int)] : List Int), ())), ((r300.2.1.1, (r300.2.1.2.1, ())), ()))).bind fun r301 =>
(jxt (((), ((8 : Int), ())), ((r301.2.1.1, (r301.2.1.2.1, ())), ()))).bind fun r302 =>
 bif (r301.1.2.1 == (2 : Int)) then
(f272v0 (((), ()), ((r302.2.1.1, (r302.2.1.2.1, ())), ()))).bind fun r303 =>
 some (((), ((), ())), ((r303.2.1.1, (r303.2.1.2.1, ())), ((r300.1.2.1, (r301.1.2.1, (r302.1.2.1, (r303.1.2.1, ())))), ())))
else
 bif (r301.1.2.1 == (3 : Int)) then
(f310v0 (((), ()), ((r302.2.1.1, (r302.2.1.2.1, ())), ()))).bind fun r304 =>
 some (((), ((), ())), ((r304.2.1.1, (r304.2.1.2.1, ())), ((r300.1.2.1, (r301.1.2.1, ((0 : Int), (r304.1.2.1, ())))), ())))
else
 some (((), ((), ())), ((r302.2.1.1, (r302.2.1.2.1, ())), ((r300.1.2.1, (r301.1.2.1, (r302.1.2.1, (([] : Str), ())))), ())))
noncomputable def S241v0 : jjA := jjE EE Tryz.f241 i241v0 o241v0 [0] f241v0
theorem z241v0 : jje Pz 241 S241v0 := jjb G241v0 Tryz.func241 (by kernel_rfl) jja (fun y => by kernel_rfl) fun a => by kernel_rfl
theorem jqH (a) (m : Nat) (h : RD a.2.1.1 a.2.1.2.1 m) (hm : 1 ≤ m) : Ev (jxt a) (fun r => RD r.2.1.1 r.2.1.2.1 (m - 1) ∧ (0 : Int) ≤ r.1.2.1 ∧ ((1 : Int) ≤ a.1.2.1 → (r.1.2.1 : Int) < a.1.2.1)) := by
 obtain ⟨⟨u1, (n : Int), u2⟩, ⟨⟨(b : List Int), (p : Int), u3⟩, u4⟩⟩ := a
 have h : RD b p m := h
 obtain ⟨h1, h2, h3, h4⟩ := h
 have e1 : IntKind.i64.wrap (p + 1) = p + 1 := jjD (by omega) (by omega)
 have e2 : IntKind.i64.wrap (p + 1 - 1) = p := by rw [show p + 1 - 1 = p by omega]; exact jjD (by omega) (by omega)
 have R : RD b (p + 1) (m - 1) := ⟨h1, h2, by omega, by omega⟩
 unfold jxt
 simp only [e1]
 have hg : g88v0_28 (((), (n, ())), ((b, (p + 1, ())), ())) = some ((((), (n, ((decide (n < 1) || (b.length : Int) == 0), ()))), ((b, (p + 1, ())), ()))) := by
  unfold g88v0_28
  cases decide (n < 1) <;> rfl
 refine Ev.eq hg ?_
 refine Ev.ite (fun hc => Ev.ret ⟨R, Int.le_refl _, fun hn => hn⟩) fun hc => ?_
 have hc : (decide (n < 1) || (b.length : Int) == 0) = false := hc
 simp only [Bool.or_eq_false_iff, decide_eq_false_iff_not, beq_eq_false_iff_ne, ne_eq] at hc
 have hn : 1 ≤ n := by omega
 have hb : 0 < b.length := by omega
 simp only [e2]
 refine Ev.ite (fun hd => ?_) fun hd => ?_
 ·have hd : p < (b.length : Int) := of_decide_eq_true hd
  obtain ⟨x, k1, k2⟩ := ix_in (xs := b) h3 hd
  obtain ⟨k3, k4⟩ := h2 x k2
  refine Ev.eq k1 ?_
  have e3 : IntKind.i64.wrap x = x := jjD (by omega) (by omega)
  refine Ev.eq (x := x % n) (by show remI (IntKind.i64.wrap x) n = _; rw [e3]; exact rem_nn k3 (by omega)) ?_
  exact Ev.ret ⟨R, Int.emod_nonneg _ (by omega), fun _ => Int.emod_lt_of_pos _ (by omega)⟩
 ·have hl : 0 < (b.length : Int) := by omega
  have m7 : IntKind.i64.wrap (IntKind.i64.wrap (p * 7) + 3) = p * 7 + 3 := by rw [jjD (n := p * 7) (by omega) (by omega)]; exact jjD (by omega) (by omega)
  obtain ⟨x, k1, k2⟩ := ix_in (xs := b) (Int.emod_nonneg p (b := (b.length : Int)) (by omega)) (Int.emod_lt_of_pos p hl)
  obtain ⟨k3, k4⟩ := h2 x k2
  obtain ⟨y, l1, l2⟩ := ix_in (xs := b) (Int.emod_nonneg (p * 7 + 3) (b := (b.length : Int)) (by omega)) (Int.emod_lt_of_pos (p * 7 + 3) hl)
  obtain ⟨l3, l4⟩ := h2 y l2
  have q0 : 0 ≤ p / (b.length : Int) := Int.ediv_nonneg h3 (by omega)
  have q1 : p / (b.length : Int) ≤ p := Int.ediv_le_self _ h3
  refine Ev.eq (x := p % (b.length : Int)) (rem_nn h3 hl) ?_
  refine Ev.eq k1 ?_
  refine Ev.eq (x := (p * 7 + 3) % (b.length : Int)) (by show remI (IntKind.i64.wrap (IntKind.i64.wrap (p * 7) + 3)) (b.length : Int) = _; rw [m7]; exact rem_nn (by omega) hl) ?_
  refine Ev.eq l1 ?_
  refine Ev.eq (x := p / (b.length : Int)) (quo_nn rfl h3 (by omega) hl) ?_
  have w1 : IntKind.i64.wrap x = x := jjD (by omega) (by omega)
  have w2 : IntKind.i64.wrap y = y := jjD (by omega) (by omega)
  have w3 : IntKind.i64.wrap (x * 131) = x * 131 := jjD (by omega) (by omega)
  have w4 : IntKind.i64.wrap (y * 1117) = y * 1117 := jjD (by omega) (by omega)
  have w5 : IntKind.i64.wrap (x * 131 + y * 1117) = x * 131 + y * 1117 := jjD (by omega) (by omega)
  have w6 : IntKind.i64.wrap (p * 29) = p * 29 := jjD (by omega) (by omega)
  have w7 : IntKind.i64.wrap (x * 131 + y * 1117 + p * 29) = x * 131 + y * 1117 + p * 29 := jjD (by omega) (by omega)
  have w8 : IntKind.i64.wrap (p / (b.length : Int) * 53) = p / (b.length : Int) * 53 := jjD (by omega) (by omega)
  have w9 : IntKind.i64.wrap (x * 131 + y * 1117 + p * 29 + p / (b.length : Int) * 53) = x * 131 + y * 1117 + p * 29 + p / (b.length : Int) * 53 := jjD (by omega) (by omega)
  simp only [w1, w2, w3, w4, w5, w6, w7, w8, w9]
  have n0 : 0 ≤ x * 131 + y * 1117 + p * 29 + p / (b.length : Int) * 53 := by omega
  have n1 : x * 131 + y * 1117 + p * 29 + p / (b.length : Int) * 53 < 4611686018427387904 := by omega
  generalize x * 131 + y * 1117 + p * 29 + p / (b.length : Int) * 53 = X at n0 n1
  refine Ev.eq (x := X / 64) (quo_nn rfl n0 (by omega) (by decide)) ?_
  have hx := xor_nn n0 n1 (Int.ediv_nonneg n0 (by decide : (0 : Int) ≤ 64)) (Int.lt_of_le_of_lt (Int.ediv_le_self 64 n0) n1)
  refine Ev.eq (x := xorI .i64 X (X / 64) % n) (rem_nn hx (by omega)) ?_
  exact Ev.ret ⟨R, Int.emod_nonneg _ (by omega), fun _ => Int.emod_lt_of_pos _ (by omega)⟩
theorem v_of (a) (m : Nat) (h : RD a.2.1.1 a.2.1.2.1 m) (hm : 1 ≤ m) (hl : (1 : Int) ≤ (a.1.2.1 : List Str).length) : Ev (jz4 a) (fun r => RD r.2.1.1 r.2.1.2.1 (m - 1) ∧ r.1.2.1 ∈ (a.1.2.1 : List Str)) := by
 unfold jz4
 refine Ev.bind (jqH _ m h hm) fun r hr => ?_
 obtain ⟨x, k1, k2⟩ := ix_in (xs := (a.1.2.1 : List Str)) hr.2.1 (hr.2.2 hl)
 exact Ev.eq k1 (Ev.ret ⟨hr.1, k2⟩)
theorem v_one (a) (m : Nat) (h : RD a.2.1.1 a.2.1.2.1 m) (hm : 1 ≤ m) (hl : (1 : Int) ≤ (a.1.2.1 : List Int).length) : Ev (f243v0 a) (fun r => RD r.2.1.1 r.2.1.2.1 (m - 1) ∧ r.1.2.1 ∈ (a.1.2.1 : List Int)) := by
 unfold f243v0
 refine Ev.bind (jqH _ m h hm) fun r hr => ?_
 obtain ⟨x, k1, k2⟩ := ix_in (xs := (a.1.2.1 : List Int)) hr.2.1 (hr.2.2 hl)
 exact Ev.eq k1 (Ev.ret ⟨hr.1, k2⟩)
abbrev Sh (s : Str) : Prop := s.length ≤ 200
theorem sh_all {L : List Str} (h : L.all (fun s => decide (s.length ≤ 200)) = true) {s : Str} (hs : s ∈ L) : Sh s := of_decide_eq_true (List.all_eq_true.1 h s hs)
theorem jzf (a) (m : Nat) (h : RD a.2.1.1 a.2.1.2.1 m) (hm : 1 ≤ m) : Ev (f167v0 a) (fun r => RD r.2.1.1 r.2.1.2.1 (m - 1) ∧ Sh r.1.2.1) := by
 unfold f167v0
 refine Ev.bind (v_of _ m h hm (by simp)) fun r hr => Ev.ret ⟨hr.1, sh_all (by rfl) hr.2⟩
theorem v_l11Path (a) (m : Nat) (h : RD a.2.1.1 a.2.1.2.1 m) (hm : 1 ≤ m) : Ev (f310v0 a) (fun r => RD r.2.1.1 r.2.1.2.1 (m - 1) ∧ Sh r.1.2.1) := by
 unfold f310v0
 refine Ev.bind (v_of _ m h hm (by simp)) fun r hr => Ev.ret ⟨hr.1, sh_all (by rfl) hr.2⟩
theorem v_l1Many (a) (hs : (a.1.1 : Str).length ≤ 1) (h0 : (0 : Int) ≤ a.1.2.1) (h1 : (a.1.2.1 : Int) ≤ 127) : Ev (f244 a) (fun r => Sh r.1.1) := by
 obtain ⟨⟨(s : Str), (n : Int), u⟩, u'⟩ := a
 unfold f244
 have key : Ev (l244_28 ((s, (n, (([] : Str), ()))), ())) (fun r => Sh r.1.1) := by
  refine Ev.loop (fun (k : Nat) y => (0 : Int) ≤ y.1.2.1 ∧ (y.1.2.1 : Int).toNat = k ∧ (y.1.2.1 : Int).toNat * (y.1.1 : Str).length + (y.1.2.2.1 : Str).length ≤ 127 ∧ (y.1.1 : Str).length ≤ 256 ∧ (y.1.2.1 : Int) ≤ 127) (fun k y hy => ?_) n.toNat _ ⟨h0, rfl, ?_, by show s.length ≤ 256; have : s.length ≤ 1 := hs; omega, h1⟩
  ·obtain ⟨⟨(s : Str), (n : Int), (out : Str), u⟩, u'⟩ := y
   obtain ⟨y1, y2, y3, y4, y5⟩ := hy
   have y5 : n ≤ 127 := y5
   have y1 : 0 ≤ n := y1
   have y3 : n.toNat * s.length + out.length ≤ 127 := y3
   have y4 : s.length ≤ 256 := y4
   unfold g244_28
   refine Ev.ite (fun hc => ?_) fun hc => ?_
   ·have hc : n > 0 := of_decide_eq_true hc
    have hN : 1 ≤ n.toNat := by omega
    have hsl : s.length ≤ 127 := by have := Nat.mul_le_mul_right s.length hN; omega
    have piece : Ev (g244_452 ((s, (n, (out, ()))), ())) (fun r => r.1.1 = s ∧ r.1.2.1 = n ∧ (n % 2 = 1 ∧ (r.1.2.2.1 : Str).length = out.length + s.length ∨ n % 2 = 0 ∧ (r.1.2.2.1 : Str).length = out.length)) := by
     unfold g244_452
     refine Ev.eq (x := n % 2) (rem_nn y1 (by decide)) ?_
     refine Ev.ite (fun hd => ?_) fun hd => ?_
     ·have hd : n % 2 = 1 := by simpa using hd
      exact Ev.eq (ev_cat (s := out) (t := s) (by omega)) (Ev.ret ⟨rfl, rfl, .inl ⟨hd, by simp⟩⟩)
     ·have hd : ¬ n % 2 = 1 := by simpa using hd
      exact Ev.ret ⟨rfl, rfl, .inr ⟨by omega, rfl⟩⟩
    refine Ev.bind piece fun r hr => ?_
    obtain ⟨⟨(s' : Str), (n' : Int), (out' : Str), v⟩, v'⟩ := r
    obtain ⟨r1, r2, r3⟩ := hr
    have r1 : s' = s := r1
    have r2 : n' = n := r2
    subst r1 r2
    refine Ev.eq (ev_cat (s := s') (t := s') (by omega)) ?_
    refine Ev.eq (x := n' / 2) (quo_nn (x := n') rfl y1 (by omega) (by decide)) ?_
    refine Ev.ret ⟨(n' / 2).toNat, ?_, ?_⟩
    ·show (n' / 2).toNat < k
     have : n'.toNat = k := y2
     omega
    ·refine ⟨by show 0 ≤ n' / 2; omega, rfl, ?_, by show (s' ++ s').length ≤ 256; simp; omega, by show n' / 2 ≤ 127; omega⟩
     show (n' / 2).toNat * (s' ++ s').length + out'.length ≤ 127
     have r3 : n' % 2 = 1 ∧ out'.length = out.length + s'.length ∨ n' % 2 = 0 ∧ out'.length = out.length := r3
     obtain ⟨q, hq⟩ : ∃ q : Nat, (n' / 2).toNat = q := ⟨_, rfl⟩
     rw [hq, List.length_append]
     rcases r3 with ⟨r3, r4⟩ | ⟨r3, r4⟩
     ·have e : n'.toNat = 2 * q + 1 := by omega
      rw [e] at y3
      rw [r4]
      have : (2 * q + 1) * s'.length = q * (s'.length + s'.length) + s'.length := by rw [Nat.add_mul, Nat.one_mul, Nat.mul_assoc, Nat.mul_add]; omega
      omega
     ·have e : n'.toNat = 2 * q := by omega
      rw [e] at y3
      rw [r4]
      have : 2 * q * s'.length = q * (s'.length + s'.length) := by rw [Nat.mul_add, Nat.mul_assoc]; omega
      omega
   ·exact Ev.ret (show out.length ≤ 200 by omega)
  ·show n.toNat * s.length + 0 ≤ 127
   have hs : s.length ≤ 1 := hs
   have h1 : n ≤ 127 := h1
   have : n.toNat * s.length ≤ n.toNat * 1 := Nat.mul_le_mul_left _ hs
   omega
 exact Ev.bind key fun r hr => Ev.ret hr
theorem v_l11Text (a) (m : Nat) (h : RD a.2.1.1 a.2.1.2.1 m) (hm : 1 ≤ m) : Ev (f272v0 a) (fun r => RD r.2.1.1 r.2.1.2.1 (m - 1) ∧ Sh r.1.2.1) := by
 unfold f272v0
 refine Ev.bind (v_l1Many _ (by simp) (by show (0 : Int) ≤ 80; decide) (by show (80 : Int) ≤ 127; decide)) fun q hq => ?_
 refine Ev.bind (v_of _ m h hm (by simp)) fun r hr => Ev.ret ⟨hr.1, ?_⟩
 have := hr.2
 simp only [List.mem_cons, List.not_mem_nil, or_false] at this
 rcases this with e | e | e | e | e | e
 ·show (r.1.2.1 : Str).length ≤ 200; rw [e]; decide
 ·show (r.1.2.1 : Str).length ≤ 200; rw [e]; decide
 ·show (r.1.2.1 : Str).length ≤ 200; rw [e]; decide
 ·show (r.1.2.1 : Str).length ≤ 200; rw [e]; decide
 ·show (r.1.2.1 : Str).length ≤ 200; rw [e]; decide
 ·show (r.1.2.1 : Str).length ≤ 200; rw [e]; exact hq
abbrev ShE (e : Entry) : Prop := Sh e.path ∧ Sh e.text
theorem v_l11Entry (a) (m : Nat) (h : RD a.2.1.1 a.2.1.2.1 m) (hm : 4 ≤ m) : Ev (f241v0 a) (fun r => RD r.2.1.1 r.2.1.2.1 (m - 4) ∧ ShE ⟨r.2.2.1.1, r.2.2.1.2.1, r.2.2.1.2.2.1, r.2.2.1.2.2.2.1⟩) := by
 unfold f241v0
 refine Ev.bind (v_l11Path _ m h (by omega)) fun r1 h1 => ?_
 refine Ev.bind (v_one _ (m - 1) h1.1 (by omega) (by simp)) fun r2 h2 => ?_
 refine Ev.bind (jqH _ (m - 1 - 1) h2.1 (by omega)) fun r3 h3 => ?_
 refine Ev.ite (fun _ => ?_) fun _ => Ev.ite (fun _ => ?_) fun _ => ?_
 ·exact Ev.bind (v_l11Text _ _ h3.1 (by omega)) fun r4 h4 => Ev.ret ⟨h4.1.less (by omega), h1.2, h4.2⟩
 ·exact Ev.bind (v_l11Path _ _ h3.1 (by omega)) fun r4 h4 => Ev.ret ⟨h4.1.less (by omega), h1.2, h4.2⟩
 ·exact Ev.ret ⟨h3.1.less (by omega), h1.2, show (0 : Nat) ≤ 200 by decide⟩
theorem v_l2Copy (a) (h : Bd a.1.1.length) : f170 a = some (((), ()), (a.1.1, ())) := by
 obtain ⟨⟨t, u⟩, u'⟩ := a
 have h : t.length ≤ 2097152 := h
 simp only [f170, jqc (show (48 : Nat) ≤ 100 by decide) (show Sm (([] : List Entry).length + t.length) by unfold Sm; simp; omega), List.nil_append, Option.bind_some]
abbrev ShT (t : List Entry) : Prop := t.length ≤ 16 ∧ ∀ e, e ∈ t → ShE e
theorem shE_set {t : List Entry} {k : Nat} {e : Entry} (h : ∀ e, e ∈ t → ShE e) (he : ShE e) : ∀ x, x ∈ t.set k e → ShE x := by
 intro x hx
 rcases List.mem_or_eq_of_mem_set hx with hx | hx
 ·exact h x hx
 ·rw [hx]; exact he
theorem v_l2Put (a) (ht : ShT a.1.1) (he : ShE ⟨a.1.2.1.1, a.1.2.1.2.1, a.1.2.1.2.2.1, a.1.2.1.2.2.2.1⟩) : Ev (f240 a) (fun r => ShT r.2.1) := by
 obtain ⟨⟨t, ⟨path, kind, mode, text, u0⟩, u⟩, u'⟩ := a
 obtain ⟨h1, h2⟩ := ht
 have h1 : t.length ≤ 16 := h1
 have he : ShE ⟨path, kind, mode, text⟩ := he
 have hb : Bd t.length := by unfold Bd; omega
 unfold f240
 refine Ev.eq (v_l2At ((t, (path, ())), ()) hb) ?_
 refine Ev.eq (v_l2Copy ((t, ()), ()) hb) ?_
 have hp := jzV t path
 have e1 := v_l2Entry (((path, (kind, (mode, (text, ())))), ()), ()) (Nat.le_trans he.1 (by decide)) (Nat.le_trans he.2 (by decide))
 have e2 := v_l1Up ((path, ()), ()) (Nat.le_trans he.1 (by decide))
 have e3 := v_l2Dir ((t, (upL path, ())), ()) hb
 obtain ⟨c, hc⟩ : ∃ c : Bool, g240_120 ((t, ((), ((), (false, ((jjZ t path : Int), (jxs t path, ((), ()))))))), ((path, (kind, (mode, (text, ())))), (([] : List Entry), (t, ())))) =
   some ((t, ((), ((), (false, ((jjZ t path : Int), (jxs t path, ((), (c, ())))))))), ((path, (kind, (mode, (text, ())))), (([] : List Entry), (t, ())))) := by
  unfold g240_120
  simp only [e1, Option.bind_some, Bool.not_not]
  cases entOk ⟨path, kind, mode, text⟩ with
  | false => exact ⟨true, rfl⟩
  | true => simp only [cond_true, e2, Option.bind_some, e3]; exact ⟨_, rfl⟩
 refine Ev.eq hc ?_
 refine Ev.ite (fun _ => Ev.ret ⟨h1, h2⟩) fun _ => ?_
 obtain ⟨d, hd⟩ : ∃ d : Bool, g240_486 ((t, ((), ((), (false, ((jjZ t path : Int), (jxs t path, ((), ()))))))), ((path, (kind, (mode, (text, ())))), (([] : List Entry), (t, ())))) =
   some ((t, ((), ((), (false, ((jjZ t path : Int), (jxs t path, ((), (d, ())))))))), ((path, (kind, (mode, (text, ())))), (([] : List Entry), (t, ())))) := by
  unfold g240_486
  cases hh : jxs t path with
  | false => exact ⟨false, rfl⟩
  | true =>
   unfold jxs at hh
   cases hq : t[jjZ t path]? with
   | none => rw [hq] at hh; cases hh
   | some e => simp only [cond_true, jjs, hq, Option.bind_some]; exact ⟨_, rfl⟩
 refine Ev.eq hd ?_
 refine Ev.ite (fun _ => Ev.ret ⟨h1, h2⟩) fun _ => ?_
 refine Ev.ite (fun hh => ?_) fun _ => Ev.ite (fun _ => Ev.ret ⟨h1, h2⟩) fun hl => ?_
 ·have hh : jxs t path = true := hh
  unfold jxs at hh
  cases hq : t[jjZ t path]? with
  | none => rw [hq] at hh; cases hh
  | some e =>
   refine Ev.eq (jxY (jju hq)) ?_
   refine Ev.eq (x := Entry.mk path kind mode text) (by show (t[jjZ t path]?).bind _ = _; rw [hq]; rfl) ?_
   exact Ev.ret ⟨by show (t.set _ _).length ≤ 16; rw [List.length_set]; exact h1, shE_set h2 he⟩
 ·have hl : ¬ ((t.length : Int) ≥ 16) := of_decide_eq_false hl
  refine Ev.eq (jxS hp) ?_
  refine Ev.eq (jqc (by decide) (by unfold Sm; simp; omega)) ?_
  refine Ev.eq (jqc (by decide) (by unfold Sm; simp; omega)) ?_
  refine Ev.eq (jxh hp) ?_
  refine Ev.eq (jqc (by decide) (by unfold Sm; simp; omega)) ?_
  refine Ev.ret ⟨?_, fun x hx => ?_⟩
  ·show (([] ++ t.take (jjZ t path) ++ [Entry.mk path kind mode text]) ++ t.drop (jjZ t path)).length ≤ 16
   simp; omega
  ·have hx : x ∈ ([] ++ t.take (jjZ t path) ++ [Entry.mk path kind mode text]) ++ t.drop (jjZ t path) := hx
   simp only [List.nil_append, List.mem_append, List.mem_singleton] at hx
   rcases hx with (hx | hx) | hx
   ·exact h2 x (List.mem_of_mem_take hx)
   ·rw [hx]; exact he
   ·exact h2 x (List.mem_of_mem_drop hx)
abbrev i128 : Shape := ⟨[tI 0], [], 28⟩
abbrev o128 : Shape := ⟨[tS 2], [], 28⟩
noncomputable def SF128 (F : i128.Y → Option o128.Y) : jjA := jjE EE Tryz.f128 i128 o128 [] F
noncomputable abbrev L128 (F : i128.Y → Option o128.Y) : LS := [(128, (SF128 F))]
theorem G128 (F : i128.Y → Option o128.Y) (hF : jje Pz 128 (SF128 F)) : CtxGood Pz (cx EE (L128 F)) := gd ⟨hF, ⟨⟩⟩
noncomputable def ff128 (F : i128.Y → Option o128.Y) (a : i128.Y) : Option o128.Y :=
 bif (decide (a.1.1 < ((-9223372036854775807) : Int))) then
 some ((([45, 57, 50, 50, 51, 51, 55, 50, 48, 51, 54, 56, 53, 52, 55, 55, 53, 56, 48, 56] : Str), ()), ())
else
 bif (decide (a.1.1 < (0 : Int))) then
(F (((IntKind.i64.wrap (0 - a.1.1)), ()), ())).bind fun r335 =>
(cat ([45] : Str) r335.1.1).bind fun x336 =>
 some ((x336, ()), ())
else
 bif (decide (a.1.1 < (10 : Int))) then
 some (((jqR ([(IntKind.u8.wrap (IntKind.i64.wrap ((48 : Int) + a.1.1)))] : List Int)), ()), ())
else
(quoI .i64 a.1.1 (10 : Int)).bind fun x337 =>
(F ((x337, ()), ())).bind fun r338 =>
(remI a.1.1 (10 : Int)).bind fun x339 =>
(cat r338.1.1 (jqR ([(IntKind.u8.wrap (IntKind.i64.wrap ((48 : Int) + x339)))] : List Int))).bind fun x340 =>
 some ((x340, ()), ())
theorem zz128 (F : i128.Y → Option o128.Y) (hF : jje Pz 128 (SF128 F)) : jje Pz 128 (jjE EE Tryz.f128 i128 o128 [] (ff128 F)) := jjb (G128 F hF) Tryz.func128 (by kernel_rfl) jja (fun y => by kernel_rfl) fun a => by kernel_rfl
noncomputable def f128 : i128.Y → Option o128.Y := iterR ff128 fuelN
noncomputable def S128 : jjA := jjE EE Tryz.f128 i128 o128 [] f128
theorem z128 : jje Pz 128 S128 := rec_ok (ff := ff128) zz128 fuelN
noncomputable abbrev L359 : LS := [(316, S316)]
theorem G359 : CtxGood Pz (cx EE L359) := gd ⟨z316, ⟨⟩⟩
abbrev s359_28 : Shape := ⟨[tS 0, tI 3], [], 43⟩
abbrev t359_28 : List OSh := [(.norm, ⟨[tS 0, tI 3, tB 12], [], 43⟩)]
noncomputable def g359_28 (y : s359_28.Y) : Option (YS t359_28) :=
 bif (decide ((y.1.1.length : Int) > (1 : Int))) then
(ix y.1.1 (1 : Int)).bind fun x419 =>
 some (((y.1.1, (y.1.2.1, (((x419.toNat : Int) == (33 : Int)), ()))), ()))
else
 some (((y.1.1, (y.1.2.1, (false, ()))), ()))
theorem q359_28 : jjj Pz (jjc (jjc (jjh Tryz.f359) 1 14) 14 28) (jjg s359_28 t359_28 g359_28) := jjr G359 (by kernel_rfl) jja fun y => by kernel_rfl
abbrev s359_14 : Shape := ⟨[tS 0, tI 3], [], 43⟩
abbrev t359_14 : List OSh := [(.norm, ⟨[tS 0, tI 3], [], 43⟩)]
noncomputable def g359_14 (y : s359_14.Y) : Option (YS t359_14) :=
(g359_28 ((y.1.1, (y.1.2.1, ())), ())).bind fun r422 =>
 bif r422.1.2.2.1 then
 some (((r422.1.1, ((2 : Int), ())), ()))
else
 some (((r422.1.1, (r422.1.2.1, ())), ()))
theorem q359_14 : jjj Pz (jjc (jjh Tryz.f359) 1 14) (jjg s359_14 t359_14 g359_14) := jjr G359 (by kernel_rfl) (frc q359_28 jja) fun y => by kernel_rfl
abbrev s359_124 : Shape := ⟨[tS 0, tI 3, tI 4], [], 43⟩
abbrev t359_124 : List OSh := [(.exit 0, ⟨[tS 0, tI 3, tI 4], [], 43⟩)]
noncomputable def g359_124 (y : s359_124.Y) : LR s359_124 t359_124 :=
 bif (decide (y.1.2.1 < (y.1.1.length : Int))) then
(ix y.1.1 y.1.2.1).bind fun x431 =>
(f316 (((x431.toNat : Int), ()), ())).bind fun r432 =>
 bif r432.1.1 then
 some (.inl ((y.1.1, ((IntKind.i64.wrap (y.1.2.1 + (1 : Int))), (y.1.2.2.1, ()))), ()))
else
 some (.inr (((y.1.1, (y.1.2.1, (y.1.2.2.1, ()))), ())))
else
 some (.inr (((y.1.1, (y.1.2.1, (y.1.2.2.1, ()))), ())))
noncomputable def l359_124 : s359_124.Y → Option (YS t359_124) := jjv g359_124
theorem q359_124 : jjj Pz (jjc (jjh Tryz.f359) 1 124) (jjg s359_124 t359_124 l359_124) := jjf G359 (by kernel_rfl) jja fun y => by kernel_rfl
abbrev s359_252 : Shape := ⟨[tS 0, tI 3, tI 4], [], 43⟩
abbrev t359_252 : List OSh := [(.norm, ⟨[tI 3, tB 40], [], 43⟩)]
noncomputable def g359_252 (y : s359_252.Y) : Option (YS t359_252) :=
 bif (!(y.1.2.1 == y.1.2.2.1)) then
 bif (!(y.1.2.1 == (y.1.1.length : Int))) then
(ix y.1.1 y.1.2.1).bind fun x438 =>
 some (((y.1.2.1, (((x438.toNat : Int) != (93 : Int)), ())), ()))
else
 some (((y.1.2.1, (true, ())), ()))
else
 some (((y.1.2.1, (true, ())), ()))
theorem q359_252 : jjj Pz (jjc (jjh Tryz.f359) 1 252) (jjg s359_252 t359_252 g359_252) := jjr G359 (by kernel_rfl) jja fun y => by kernel_rfl
abbrev i359 : Shape := ⟨[tS 0], [], 43⟩
abbrev o359 : Shape := ⟨[tI 2], [], 43⟩
noncomputable def f359 (a : i359.Y) : Option o359.Y :=
(g359_14 ((a.1.1, ((1 : Int), ())), ())).bind fun r441 =>
(l359_124 ((r441.1.1, (r441.1.2.1, (r441.1.2.1, ()))), ())).bind fun r442 =>
(g359_252 ((r442.1.1, (r442.1.2.1, (r442.1.2.2.1, ()))), ())).bind fun r444 =>
 bif r444.1.2.1 then
 some (((0 : Int), ()), ())
else
 some (((IntKind.i64.wrap (r444.1.1 + (1 : Int))), ()), ())
noncomputable def S359 : jjA := jjE EE Tryz.f359 i359 o359 [] f359
theorem z359 : jje Pz 359 S359 := jjb G359 Tryz.func359 (by kernel_rfl) (frc q359_14 (frc q359_124 (frc q359_252 jja))) (fun y => by kernel_rfl) fun a => by kernel_rfl
noncomputable abbrev L341 : LS := [(316, S316), (359, S359)]
theorem G341 : CtxGood Pz (cx EE L341) := gd ⟨z316, z359, ⟨⟩⟩
abbrev s341_6726 : Shape := ⟨[tS 0, tI 3], [], 45⟩
abbrev t341_6726 : List OSh := [(.norm, ⟨[tS 0, tI 3, tB 26], [], 45⟩)]
noncomputable def g341_6726 (y : s341_6726.Y) : Option (YS t341_6726) :=
(ix y.1.1 y.1.2.1).bind fun x458 =>
 bif (!((x458.toNat : Int) == (42 : Int))) then
(ix y.1.1 y.1.2.1).bind fun x459 =>
 some (((y.1.1, (y.1.2.1, (((x459.toNat : Int) == (63 : Int)), ()))), ()))
else
 some (((y.1.1, (y.1.2.1, (true, ()))), ()))
theorem q341_6726 : jjj Pz (jjc (jjH (jjc (jjh Tryz.f341) 1 26)) 52 6726) (jjg s341_6726 t341_6726 g341_6726) := jjr G341 (by kernel_rfl) jja fun y => by kernel_rfl
abbrev s341_26 : Shape := ⟨[tS 0, tI 3], [], 45⟩
abbrev t341_26 : List OSh := [(.ret, ⟨[tB 2], [], 45⟩), (.exit 0, ⟨[tS 0], [], 45⟩)]
noncomputable def g341_26 (y : s341_26.Y) : LR s341_26 t341_26 :=
 bif (decide (y.1.2.1 < (y.1.1.length : Int))) then
(ix y.1.1 y.1.2.1).bind fun x466 =>
 bif ((x466.toNat : Int) == (91 : Int)) then
(jqv y.1.1 y.1.2.1 (y.1.1.length : Int)).bind fun x469 =>
(f359 ((x469, ()), ())).bind fun r470 =>
 bif (r470.1.1 == (0 : Int)) then
 some (.inr (.inl ((false, ()), ())))
else
 some (.inl ((y.1.1, ((IntKind.i64.wrap ((IntKind.i64.wrap ((IntKind.i64.wrap (y.1.2.1 + r470.1.1)) - (1 : Int))) + (1 : Int))), ())), ()))
else
(g341_6726 ((y.1.1, (y.1.2.1, ())), ())).bind fun r471 =>
 bif r471.1.2.2.1 then
 some (.inl ((r471.1.1, ((IntKind.i64.wrap (r471.1.2.1 + (1 : Int))), ())), ()))
else
(ix r471.1.1 r471.1.2.1).bind fun x474 =>
(f316 (((x474.toNat : Int), ()), ())).bind fun r475 =>
 bif (!r475.1.1) then
 some (.inr (.inl ((false, ()), ())))
else
 some (.inl ((r471.1.1, ((IntKind.i64.wrap (r471.1.2.1 + (1 : Int))), ())), ()))
else
 some (.inr (.inr ((y.1.1, ()), ())))
noncomputable def l341_26 : s341_26.Y → Option (YS t341_26) := jjv g341_26
theorem q341_26 : jjj Pz (jjc (jjh Tryz.f341) 1 26) (jjg s341_26 t341_26 l341_26) := jjf G341 (by kernel_rfl) (frc q341_6726 jja) fun y => by kernel_rfl
abbrev i341 : Shape := ⟨[tS 0], [], 45⟩
abbrev o341 : Shape := ⟨[tB 2], [], 45⟩
noncomputable def f341 (a : i341.Y) : Option o341.Y :=
(l341_26 ((a.1.1, ((0 : Int), ())), ())).bind fun r485 =>
(match r485 with
| .inl r486 =>
 some ((r486.1.1, ()), ())
| .inr r487 =>
 some (((!(r487.1.1 == ([] : Str))), ()), ()))
noncomputable def S341 : jjA := jjE EE Tryz.f341 i341 o341 [] f341
theorem z341 : jje Pz 341 S341 := jjb G341 Tryz.func341 (by kernel_rfl) (frc q341_26 jja) (fun y => by kernel_rfl) fun a => by kernel_rfl
noncomputable abbrev L302 : LS := [(179, S179), (341, S341)]
theorem G302 : CtxGood Pz (cx EE L302) := gd ⟨z179, z341, ⟨⟩⟩
abbrev s302_58 : Shape := ⟨[tS 0, tO 3 3000192, tI 4], [zR 3000192 .str 3 0], 30⟩
abbrev t302_58 : List OSh := [(.ret, ⟨[tB 2], [], 30⟩), (.exit 0, ⟨[tS 0, tO 3 3000192], [zR 3000192 .str 3 0], 30⟩)]
noncomputable def g302_58 (y : s302_58.Y) : LR s302_58 t302_58 :=
 bif (decide (y.1.2.2.1 < (y.2.1.length : Int))) then
(inb y.2.1.length y.1.2.2.1).bind fun x495 =>
(y.2.1[x495]?).bind fun x496 =>
(f341 ((x496, ()), ())).bind fun r497 =>
 bif (!r497.1.1) then
 some (.inr (.inl ((false, ()), ())))
else
 some (.inl ((y.1.1, ((), ((IntKind.i64.wrap (y.1.2.2.1 + (1 : Int))), ()))), (y.2.1, ())))
else
 some (.inr (.inr ((y.1.1, ((), ())), (y.2.1, ()))))
noncomputable def l302_58 : s302_58.Y → Option (YS t302_58) := jjv g302_58
theorem q302_58 : jjj Pz (jjc (jjh Tryz.f302) 1 58) (jjg s302_58 t302_58 l302_58) := jjf G302 (by kernel_rfl) jja fun y => by kernel_rfl
abbrev i302 : Shape := ⟨[tS 0], [], 30⟩
abbrev o302 : Shape := ⟨[tB 2], [], 30⟩
noncomputable def f302 (a : i302.Y) : Option o302.Y :=
(f179 ((a.1.1, ((47 : Int), ((IntKind.i64.wrap ((a.1.1.length : Int) + (1 : Int))), ()))), ())).bind fun r505 =>
(l302_58 ((a.1.1, ((), ((0 : Int), ()))), (r505.2.1, ()))).bind fun r509 =>
(match r509 with
| .inl r510 =>
 some ((r510.1.1, ()), ())
| .inr r511 =>
 bif (decide ((r511.2.1.length : Int) ≤ (5 : Int))) then
 some (((decide ((r511.1.1.length : Int) ≤ (40 : Int))), ()), ())
else
 some ((false, ()), ()))
noncomputable def S302 : jjA := jjE EE Tryz.f302 i302 o302 [] f302
theorem z302 : jje Pz 302 S302 := jjb G302 Tryz.func302 (by kernel_rfl) (frc q302_58 jja) (fun y => by kernel_rfl) fun a => by kernel_rfl
abbrev s360_1864 : Shape := ⟨[tS 0, (1, .lf (.d (.int .u8))), tB 5, tI 6], [], 33⟩
abbrev t360_1864 : List OSh := [(.norm, ⟨[tS 0, (1, .lf (.d (.int .u8))), tB 5, tI 6, tB 29], [], 33⟩)]
noncomputable def g360_1864 (y : s360_1864.Y) : Option (YS t360_1864) :=
(ix y.1.1 y.1.2.2.2.1).bind fun x557 =>
 bif ((x557.toNat : Int) == y.1.2.1) then
 bif (!(decide (y.1.2.2.2.1 > (1 : Int)))) then
 some (((y.1.1, (y.1.2.1, (y.1.2.2.1, (y.1.2.2.2.1, ((!y.1.2.2.1), ()))))), ()))
else
 some (((y.1.1, (y.1.2.1, (y.1.2.2.1, (y.1.2.2.2.1, (true, ()))))), ()))
else
 some (((y.1.1, (y.1.2.1, (y.1.2.2.1, (y.1.2.2.2.1, (false, ()))))), ()))
theorem q360_1864 : jjj Pz (jjc (jjH (jjc (jjh Tryz.f360) 1 58)) 116 1864) (jjg s360_1864 t360_1864 g360_1864) := jjr g0 (by kernel_rfl) jja fun y => by kernel_rfl
abbrev s360_58 : Shape := ⟨[tS 0, (1, .lf (.d (.int .u8))), tB 5, tI 6], [], 33⟩
abbrev t360_58 : List OSh := [(.ret, ⟨[tB 4], [], 33⟩), (.exit 0, ⟨[tB 5], [], 33⟩)]
noncomputable def g360_58 (y : s360_58.Y) : LR s360_58 t360_58 :=
 bif (decide (y.1.2.2.2.1 < (IntKind.i64.wrap ((y.1.1.length : Int) - (1 : Int))))) then
(g360_1864 ((y.1.1, (y.1.2.1, (y.1.2.2.1, (y.1.2.2.2.1, ())))), ())).bind fun r559 =>
 bif r559.1.2.2.2.2.1 then
 some (.inr (.inl (((!r559.1.2.2.1), ()), ())))
else
 some (.inl ((r559.1.1, (r559.1.2.1, (r559.1.2.2.1, ((IntKind.i64.wrap (r559.1.2.2.2.1 + (1 : Int))), ())))), ()))
else
 some (.inr (.inr ((y.1.2.2.1, ()), ())))
noncomputable def l360_58 : s360_58.Y → Option (YS t360_58) := jjv g360_58
theorem q360_58 : jjj Pz (jjc (jjh Tryz.f360) 1 58) (jjg s360_58 t360_58 l360_58) := jjf g0 (by kernel_rfl) (frc q360_1864 jja) fun y => by kernel_rfl
abbrev i360 : Shape := ⟨[tS 0, (1, .lf (.d (.int .u8)))], [], 33⟩
abbrev o360 : Shape := ⟨[tB 4], [], 33⟩
noncomputable def f360 (a : i360.Y) : Option o360.Y :=
(ix a.1.1 (1 : Int)).bind fun x564 =>
(l360_58 ((a.1.1, (a.1.2.1, (((x564.toNat : Int) == (33 : Int)), ((1 : Int), ())))), ())).bind fun r565 =>
(match r565 with
| .inl r566 =>
 some ((r566.1.1, ()), ())
| .inr r567 =>
 some ((r567.1.1, ()), ()))
noncomputable def S360 : jjA := jjE EE Tryz.f360 i360 o360 [] f360
theorem z360 : jje Pz 360 S360 := jjb g0 Tryz.func360 (by kernel_rfl) (frc q360_58 jja) (fun y => by kernel_rfl) fun a => by kernel_rfl
abbrev i342 : Shape := ⟨[tS 0, tS 1], [], 68⟩
abbrev o342 : Shape := ⟨[tB 4], [], 68⟩
noncomputable def SF342 (F : i342.Y → Option o342.Y) : jjA := jjE EE Tryz.f342 i342 o342 [] F
noncomputable abbrev L342 (F : i342.Y → Option o342.Y) : LS := [(342, (SF342 F)), (359, S359), (360, S360)]
theorem G342 (F : i342.Y → Option o342.Y) (hF : jje Pz 342 (SF342 F)) : CtxGood Pz (cx EE (L342 F)) := gd ⟨hF, z359, z360, ⟨⟩⟩
noncomputable def ff342 (F : i342.Y → Option o342.Y) (a : i342.Y) : Option o342.Y :=
 bif (a.1.1 == ([] : Str)) then
 some (((a.1.2.1 == ([] : Str)), ()), ())
else
(ix a.1.1 (0 : Int)).bind fun x597 =>
 bif ((x597.toNat : Int) == (42 : Int)) then
(jqv a.1.1 (1 : Int) (a.1.1.length : Int)).bind fun x598 =>
(F ((x598, (a.1.2.1, ())), ())).bind fun r599 =>
 bif (!r599.1.1) then
 bif (!(a.1.2.1 == ([] : Str))) then
(jqv a.1.2.1 (1 : Int) (a.1.2.1.length : Int)).bind fun x600 =>
(F ((a.1.1, (x600, ())), ())).bind fun r601 =>
 some ((r601.1.1, ()), ())
else
 some ((false, ()), ())
else
 some ((true, ()), ())
else
 bif (a.1.2.1 == ([] : Str)) then
 some ((false, ()), ())
else
(ix a.1.1 (0 : Int)).bind fun x616 =>
 bif ((x616.toNat : Int) == (63 : Int)) then
(jqv a.1.1 (1 : Int) (a.1.1.length : Int)).bind fun x617 =>
(jqv a.1.2.1 (1 : Int) (a.1.2.1.length : Int)).bind fun x618 =>
(F ((x617, (x618, ())), ())).bind fun r619 =>
 some ((r619.1.1, ()), ())
else
 bif ((x616.toNat : Int) == (91 : Int)) then
(f359 ((a.1.1, ()), ())).bind fun r621 =>
(jqv a.1.1 (0 : Int) r621.1.1).bind fun x622 =>
(ix a.1.2.1 (0 : Int)).bind fun x623 =>
(f360 ((x622, ((x623.toNat : Int), ())), ())).bind fun r624 =>
 bif r624.1.1 then
(jqv a.1.1 r621.1.1 (a.1.1.length : Int)).bind fun x625 =>
(jqv a.1.2.1 (1 : Int) (a.1.2.1.length : Int)).bind fun x626 =>
(F ((x625, (x626, ())), ())).bind fun r627 =>
 some ((r627.1.1, ()), ())
else
 some ((false, ()), ())
else
(ix a.1.1 (0 : Int)).bind fun x628 =>
(ix a.1.2.1 (0 : Int)).bind fun x629 =>
 bif ((x628.toNat : Int) == (x629.toNat : Int)) then
(jqv a.1.1 (1 : Int) (a.1.1.length : Int)).bind fun x630 =>
(jqv a.1.2.1 (1 : Int) (a.1.2.1.length : Int)).bind fun x631 =>
(F ((x630, (x631, ())), ())).bind fun r632 =>
 some ((r632.1.1, ()), ())
else
 some ((false, ()), ())
theorem zz342 (F : i342.Y → Option o342.Y) (hF : jje Pz 342 (SF342 F)) : jje Pz 342 (jjE EE Tryz.f342 i342 o342 [] (ff342 F)) := jjb (G342 F hF) Tryz.func342 (by kernel_rfl) jja (fun y => by kernel_rfl) fun a => by kernel_rfl
noncomputable def f342 : i342.Y → Option o342.Y := iterR ff342 fuelN
noncomputable def S342 : jjA := jjE EE Tryz.f342 i342 o342 [] f342
theorem z342 : jje Pz 342 S342 := rec_ok (ff := ff342) zz342 fuelN
abbrev i308 : Shape := ⟨[tL 0 .str, tL 1 .str], [], 49⟩
abbrev o308 : Shape := ⟨[tB 4], [], 49⟩
noncomputable def SF308 (F : i308.Y → Option o308.Y) : jjA := jjE EE Tryz.f308 i308 o308 [] F
noncomputable abbrev L308 (F : i308.Y → Option o308.Y) : LS := [(308, (SF308 F)), (342, S342)]
theorem G308 (F : i308.Y → Option o308.Y) (hF : jje Pz 308 (SF308 F)) : CtxGood Pz (cx EE (L308 F)) := gd ⟨hF, z342, ⟨⟩⟩
noncomputable def ff308 (F : i308.Y → Option o308.Y) (a : i308.Y) : Option o308.Y :=
 bif ((a.1.1.length : Int) == (0 : Int)) then
 some ((((a.1.2.1.length : Int) == (0 : Int)), ()), ())
else
(ix a.1.1 (0 : Int)).bind fun x644 =>
 bif (x644 == ([42, 42] : Str)) then
(jqv a.1.1 (1 : Int) (a.1.1.length : Int)).bind fun x645 =>
(F ((x645, (a.1.2.1, ())), ())).bind fun r646 =>
 bif (!r646.1.1) then
 bif (decide ((a.1.2.1.length : Int) > (0 : Int))) then
(jqv a.1.2.1 (1 : Int) (a.1.2.1.length : Int)).bind fun x647 =>
(F ((a.1.1, (x647, ())), ())).bind fun r648 =>
 some ((r648.1.1, ()), ())
else
 some ((false, ()), ())
else
 some ((true, ()), ())
else
 bif (decide ((a.1.2.1.length : Int) > (0 : Int))) then
(ix a.1.1 (0 : Int)).bind fun x649 =>
(ix a.1.2.1 (0 : Int)).bind fun x650 =>
(f342 ((x649, (x650, ())), ())).bind fun r651 =>
 bif r651.1.1 then
(jqv a.1.1 (1 : Int) (a.1.1.length : Int)).bind fun x652 =>
(jqv a.1.2.1 (1 : Int) (a.1.2.1.length : Int)).bind fun x653 =>
(F ((x652, (x653, ())), ())).bind fun r654 =>
 some ((r654.1.1, ()), ())
else
 some ((false, ()), ())
else
 some ((false, ()), ())
theorem zz308 (F : i308.Y → Option o308.Y) (hF : jje Pz 308 (SF308 F)) : jje Pz 308 (jjE EE Tryz.f308 i308 o308 [] (ff308 F)) := jjb (G308 F hF) Tryz.func308 (by kernel_rfl) jja (fun y => by kernel_rfl) fun a => by kernel_rfl
noncomputable def f308 : i308.Y → Option o308.Y := iterR ff308 fuelN
noncomputable def S308 : jjA := jjE EE Tryz.f308 i308 o308 [] f308
theorem z308 : jje Pz 308 S308 := rec_ok (ff := ff308) zz308 fuelN
noncomputable abbrev L238 : LS := [(179, S179), (182, S182), (302, S302), (308, S308)]
theorem G238 : CtxGood Pz (cx EE L238) := gd ⟨z179, z182, z302, z308, ⟨⟩⟩
abbrev i238 : Shape := ⟨[tS 0, tS 1], [], 24⟩
abbrev o238 : Shape := ⟨[tB 4], [], 24⟩
noncomputable def f238 (a : i238.Y) : Option o238.Y :=
(f302 ((a.1.1, ()), ())).bind fun r656 =>
 bif r656.1.1 then
(f182 ((a.1.2.1, ()), ())).bind fun r657 =>
 bif r657.1.1 then
(f179 ((a.1.1, ((47 : Int), ((IntKind.i64.wrap ((a.1.1.length : Int) + (1 : Int))), ()))), ())).bind fun r658 =>
(f179 ((a.1.2.1, ((47 : Int), ((IntKind.i64.wrap ((a.1.2.1.length : Int) + (1 : Int))), ()))), ())).bind fun r659 =>
(f308 ((r658.2.1, (r659.2.1, ())), ())).bind fun r660 =>
 some ((r660.1.1, ()), ())
else
 some ((false, ()), ())
else
 some ((false, ()), ())
noncomputable def S238 : jjA := jjE EE Tryz.f238 i238 o238 [] f238
theorem z238 : jje Pz 238 S238 := jjb G238 Tryz.func238 (by kernel_rfl) jja (fun y => by kernel_rfl) fun a => by kernel_rfl
abbrev i309 : Shape := ⟨[tS 0, tS 1], [], 30⟩
abbrev o309 : Shape := ⟨[tB 4], [], 30⟩
noncomputable def f309 (a : i309.Y) : Option o309.Y :=
 bif (!(a.1.2.1 == a.1.1)) then
 bif (decide ((a.1.2.1.length : Int) > (a.1.1.length : Int))) then
(jqv a.1.2.1 (0 : Int) (a.1.1.length : Int)).bind fun x667 =>
 bif (x667 == a.1.1) then
(ix a.1.2.1 (a.1.1.length : Int)).bind fun x668 =>
 some ((((x668.toNat : Int) == (47 : Int)), ()), ())
else
 some ((false, ()), ())
else
 some ((false, ()), ())
else
 some ((true, ()), ())
noncomputable def S309 : jjA := jjE EE Tryz.f309 i309 o309 [] f309
theorem z309 : jje Pz 309 S309 := jjb g0 Tryz.func309 (by kernel_rfl) jja (fun y => by kernel_rfl) fun a => by kernel_rfl
noncomputable abbrev L239 : LS := [(238, S238), (309, S309)]
theorem G239 : CtxGood Pz (cx EE L239) := gd ⟨z238, z309, ⟨⟩⟩
abbrev s239_840 : Shape := ⟨[tL 0 .entry, tS 1, tS 2, tI 7], [], 30⟩
abbrev t239_840 : List OSh := [(.norm, ⟨[tL 0 .entry, tS 1, tS 2, tI 7, tB 29], [], 30⟩)]
noncomputable def g239_840 (y : s239_840.Y) : Option (YS t239_840) :=
(ix y.1.1 y.1.2.2.2.1).bind fun x676 =>
(f309 ((y.1.2.2.1, (x676.path, ())), ())).bind fun r677 =>
 bif r677.1.1 then
(ix y.1.1 y.1.2.2.2.1).bind fun x678 =>
(f238 ((y.1.2.1, (x678.path, ())), ())).bind fun r679 =>
 some (((y.1.1, (y.1.2.1, (y.1.2.2.1, (y.1.2.2.2.1, (r679.1.1, ()))))), ()))
else
 some (((y.1.1, (y.1.2.1, (y.1.2.2.1, (y.1.2.2.2.1, (false, ()))))), ()))
theorem q239_840 : jjj Pz (jjc (jjH (jjc (jjh Tryz.f239) 1 26)) 52 840) (jjg s239_840 t239_840 g239_840) := jjr G239 (by kernel_rfl) jja fun y => by kernel_rfl
abbrev s239_26 : Shape := ⟨[tL 0 .entry, tS 1, tS 2, tI 7], [], 30⟩
abbrev t239_26 : List OSh := [(.ret, ⟨[tB 6], [], 30⟩), (.exit 0, ⟨[], [], 30⟩)]
noncomputable def g239_26 (y : s239_26.Y) : LR s239_26 t239_26 :=
 bif (decide (y.1.2.2.2.1 < (y.1.1.length : Int))) then
(g239_840 ((y.1.1, (y.1.2.1, (y.1.2.2.1, (y.1.2.2.2.1, ())))), ())).bind fun r681 =>
 bif r681.1.2.2.2.2.1 then
 some (.inr (.inl ((true, ()), ())))
else
 some (.inl ((r681.1.1, (r681.1.2.1, (r681.1.2.2.1, ((IntKind.i64.wrap (r681.1.2.2.2.1 + (1 : Int))), ())))), ()))
else
 some (.inr (.inr ((), ())))
noncomputable def l239_26 : s239_26.Y → Option (YS t239_26) := jjv g239_26
theorem q239_26 : jjj Pz (jjc (jjh Tryz.f239) 1 26) (jjg s239_26 t239_26 l239_26) := jjf G239 (by kernel_rfl) (frc q239_840 jja) fun y => by kernel_rfl
abbrev i239 : Shape := ⟨[tL 0 .entry, tS 1, tS 2], [], 30⟩
abbrev o239 : Shape := ⟨[tB 6], [], 30⟩
noncomputable def f239 (a : i239.Y) : Option o239.Y :=
(l239_26 ((a.1.1, (a.1.2.1, (a.1.2.2.1, ((0 : Int), ())))), ())).bind fun r685 =>
(match r685 with
| .inl r686 =>
 some ((r686.1.1, ()), ())
| .inr r687 =>
 some ((false, ()), ()))
noncomputable def S239 : jjA := jjE EE Tryz.f239 i239 o239 [] f239
theorem z239 : jje Pz 239 S239 := jjb G239 Tryz.func239 (by kernel_rfl) (frc q239_26 jja) (fun y => by kernel_rfl) fun a => by kernel_rfl
noncomputable abbrev L168 : LS := [(55, S55), (238, S238), (239, S239)]
theorem G168 : CtxGood Pz (cx EE L168) := gd ⟨z55, z238, z239, ⟨⟩⟩
abbrev s168_1864 : Shape := ⟨[tL 0 .entry, tS 1, tO 5 3000320, tI 6], [zR 3000320 .entry 5 0], 51⟩
abbrev t168_1864 : List OSh := [(.norm, ⟨[tL 0 .entry, tS 1, tO 5 3000320, tI 6, tB 42], [zR 3000320 .entry 5 0], 51⟩)]
noncomputable def g168_1864 (y : s168_1864.Y) : Option (YS t168_1864) :=
(ix y.1.1 y.1.2.2.2.1).bind fun x696 =>
(f238 ((y.1.2.1, (x696.path, ())), ())).bind fun r697 =>
 bif (!r697.1.1) then
(ix y.1.1 y.1.2.2.2.1).bind fun x698 =>
 bif (x698.kind == (1 : Int)) then
(ix y.1.1 y.1.2.2.2.1).bind fun x699 =>
(f239 ((y.1.1, (y.1.2.1, (x699.path, ()))), ())).bind fun r700 =>
 some (((y.1.1, (y.1.2.1, ((), (y.1.2.2.2.1, (r700.1.1, ()))))), (y.2.1, ())))
else
 some (((y.1.1, (y.1.2.1, ((), (y.1.2.2.2.1, (false, ()))))), (y.2.1, ())))
else
 some (((y.1.1, (y.1.2.1, ((), (y.1.2.2.2.1, (true, ()))))), (y.2.1, ())))
theorem q168_1864 : jjj Pz (jjc (jjH (jjc (jjh Tryz.f168) 1 58)) 116 1864) (jjg s168_1864 t168_1864 g168_1864) := jjr G168 (by kernel_rfl) jja fun y => by kernel_rfl
abbrev s168_58 : Shape := ⟨[tL 0 .entry, tS 1, tO 5 3000320, tI 6], [zR 3000320 .entry 5 0], 51⟩
abbrev t168_58 : List OSh := [(.exit 0, ⟨[tO 5 3000320], [zR 3000320 .entry 5 0], 51⟩)]
noncomputable def g168_58 (y : s168_58.Y) : LR s168_58 t168_58 :=
 bif (decide (y.1.2.2.2.1 < (y.1.1.length : Int))) then
(f55 ((y.1.1, ()), ())).bind fun r705 =>
 bif r705.1.1 then
(g168_1864 ((y.1.1, (y.1.2.1, ((), (y.1.2.2.2.1, ())))), (y.2.1, ()))).bind fun r706 =>
 bif r706.1.2.2.2.2.1 then
(ix r706.1.1 r706.1.2.2.2.1).bind fun x707 =>
(apd 48 r706.2.1 ([x707] : List Entry)).bind fun x708 =>
 some (.inl ((r706.1.1, (r706.1.2.1, ((), ((IntKind.i64.wrap (r706.1.2.2.2.1 + (1 : Int))), ())))), (x708, ())))
else
 some (.inl ((r706.1.1, (r706.1.2.1, ((), ((IntKind.i64.wrap (r706.1.2.2.2.1 + (1 : Int))), ())))), (r706.2.1, ())))
else
 some (.inr ((((), ()), (y.2.1, ()))))
else
 some (.inr ((((), ()), (y.2.1, ()))))
noncomputable def l168_58 : s168_58.Y → Option (YS t168_58) := jjv g168_58
theorem q168_58 : jjj Pz (jjc (jjh Tryz.f168) 1 58) (jjg s168_58 t168_58 l168_58) := jjf G168 (by kernel_rfl) (frc q168_1864 jja) fun y => by kernel_rfl
abbrev i168 : Shape := ⟨[tL 0 .entry, tS 1], [], 51⟩
abbrev o168 : Shape := ⟨[tO 4 3000256], [zR 3000256 .entry 4 0], 51⟩
noncomputable def f168 (a : i168.Y) : Option o168.Y :=
(l168_58 ((a.1.1, (a.1.2.1, ((), ((0 : Int), ())))), (([] : List Entry), ()))).bind fun r710 =>
 some (((), ()), (r710.2.1, ()))
noncomputable def S168 : jjA := jjE EE Tryz.f168 i168 o168 [] f168
theorem z168 : jje Pz 168 S168 := jjb G168 Tryz.func168 (by kernel_rfl) (frc q168_58 jja) (fun y => by kernel_rfl) fun a => by kernel_rfl
noncomputable abbrev L169v0 : LS := [(88, jz8), (128, S128), (240, S240), (241, S241v0)]
theorem G169v0 : CtxGood Pz (cx EE L169v0) := gd ⟨z88v0, z128, z240, z241v0, ⟨⟩⟩
abbrev s169v0_122 : Shape := ⟨[tP 0 500000 0, tO 3 3000192, tO 4 3000256, tI 5], [zB 500000 [eL .u8, eI], zR 3000192 .entry 3 0, zR 3000256 .str 4 0], 59⟩
abbrev t169v0_122 : List OSh := [(.exit 0, ⟨[tP 0 500000 0, tO 3 3000192], [zB 500000 [eL .u8, eI], zR 3000192 .entry 3 0], 59⟩)]
noncomputable def g169v0_122 (y : s169v0_122.Y) : LR s169v0_122 t169v0_122 :=
 bif (decide (y.1.2.2.2.1 < (y.2.2.2.1.length : Int))) then
(jxt (((), ((2 : Int), ())), ((y.2.1.1, (y.2.1.2.1, ())), ()))).bind fun r248 =>
 bif (r248.1.2.1 == (0 : Int)) then
(inb y.2.2.2.1.length y.1.2.2.2.1).bind fun x249 =>
(y.2.2.2.1[x249]?).bind fun x250 =>
(f240 ((y.2.2.1, ((x250, ((1 : Int), ((7 : Int), (([] : Str), ())))), ())), ())).bind fun r251 =>
 some (.inl (((), ((), ((), ((IntKind.i64.wrap (y.1.2.2.2.1 + (1 : Int))), ())))), ((r248.2.1.1, (r248.2.1.2.1, ())), (r251.2.1, (y.2.2.2.1, ())))))
else
 some (.inl (((), ((), ((), ((IntKind.i64.wrap (y.1.2.2.2.1 + (1 : Int))), ())))), ((r248.2.1.1, (r248.2.1.2.1, ())), (y.2.2.1, (y.2.2.2.1, ())))))
else
 some (.inr ((((), ((), ())), ((y.2.1.1, (y.2.1.2.1, ())), (y.2.2.1, ())))))
noncomputable def l169v0_122 : s169v0_122.Y → Option (YS t169v0_122) := jjv g169v0_122
theorem q169v0_122 : jjj Pz (jjc (jjh Tryz.f169) 1 122) (jjg s169v0_122 t169v0_122 l169v0_122) := jjf G169v0 (by kernel_rfl) jja fun y => by kernel_rfl
abbrev s169v0_250 : Shape := ⟨[tP 0 500000 0, tO 3 3000192, tI 6], [zB 500000 [eL .u8, eI], zR 3000192 .entry 3 0], 59⟩
abbrev t169v0_250 : List OSh := [(.exit 2, ⟨[tP 0 500000 0, tO 3 3000192], [zB 500000 [eL .u8, eI], zR 3000192 .entry 3 0], 59⟩)]
noncomputable def g169v0_250 (y : s169v0_250.Y) : LR s169v0_250 t169v0_250 :=
 bif (decide (y.1.2.2.1 > (0 : Int))) then
(f241v0 (((), ()), ((y.2.1.1, (y.2.1.2.1, ())), ()))).bind fun r307 =>
(f240 ((y.2.2.1, ((r307.2.2.1.1, (r307.2.2.1.2.1, (r307.2.2.1.2.2.1, (r307.2.2.1.2.2.2.1, ())))), ())), ())).bind fun r308 =>
 some (.inl (((), ((), ((IntKind.i64.wrap (y.1.2.2.1 - (1 : Int))), ()))), ((r307.2.1.1, (r307.2.1.2.1, ())), (r308.2.1, ()))))
else
 some (.inr ((((), ((), ())), ((y.2.1.1, (y.2.1.2.1, ())), (y.2.2.1, ())))))
noncomputable def l169v0_250 : s169v0_250.Y → Option (YS t169v0_250) := jjv g169v0_250
theorem q169v0_250 : jjj Pz (jjc (jjh Tryz.f169) 1 250) (jjg s169v0_250 t169v0_250 l169v0_250) := jjf G169v0 (by kernel_rfl) jja fun y => by kernel_rfl
abbrev s169v0_2026 : Shape := ⟨[tP 0 500000 0, tO 3 3000192, tI 7], [zB 500000 [eL .u8, eI], zR 3000192 .entry 3 0], 59⟩
abbrev jzS : List OSh := [(.exit 4, ⟨[tP 0 500000 0, tO 3 3000192], [zB 500000 [eL .u8, eI], zR 3000192 .entry 3 0], 59⟩)]
noncomputable def g169v0_2026 (y : s169v0_2026.Y) : LR s169v0_2026 jzS :=
 bif (decide (y.1.2.2.1 < (16 : Int))) then
(f128 ((y.1.2.2.1, ()), ())).bind fun r344 =>
(cat ([102] : Str) r344.1.1).bind fun x345 =>
(f240 ((y.2.2.1, ((x345, ((2 : Int), ((0 : Int), (([] : Str), ())))), ())), ())).bind fun r346 =>
 some (.inl (((), ((), ((IntKind.i64.wrap (y.1.2.2.1 + (1 : Int))), ()))), ((y.2.1.1, (y.2.1.2.1, ())), (r346.2.1, ()))))
else
 some (.inr ((((), ((), ())), ((y.2.1.1, (y.2.1.2.1, ())), (y.2.2.1, ())))))
noncomputable def l169v0_2026 : s169v0_2026.Y → Option (YS jzS) := jjv g169v0_2026
theorem q169v0_2026 : jjj Pz (jjc (jjh Tryz.f169) 1 2026) (jjg s169v0_2026 jzS l169v0_2026) := jjf G169v0 (by kernel_rfl) jja fun y => by kernel_rfl
abbrev i169v0 : Shape := ⟨[tP 0 500000 0], [zB 500000 [eL .u8, eI]], 59⟩
abbrev o169v0 : Shape := ⟨[tP 0 500000 0, tO 2 3000128], [zB 500000 [eL .u8, eI], zR 3000128 .entry 2 0], 59⟩
noncomputable def f169v0 (a : i169v0.Y) : Option o169v0.Y :=
(l169v0_122 (((), ((), ((), ((0 : Int), ())))), ((a.2.1.1, (a.2.1.2.1, ())), (([] : List Entry), (([([97] : Str), ([108, 105, 98] : Str), ([98, 105, 110] : Str), ([100, 111, 99] : Str), ([97, 47, 98] : Str)] : List Str), ()))))).bind fun r349 =>
(jxt (((), ((7 : Int), ())), ((r349.2.1.1, (r349.2.1.2.1, ())), ()))).bind fun r354 =>
(l169v0_250 (((), ((), (r354.1.2.1, ()))), ((r354.2.1.1, (r354.2.1.2.1, ())), (r349.2.2.1, ())))).bind fun r355 =>
(jxt (((), ((30 : Int), ())), ((r355.2.1.1, (r355.2.1.2.1, ())), ()))).bind fun r357 =>
 bif (r357.1.2.1 == (0 : Int)) then
(l169v0_2026 (((), ((), ((0 : Int), ()))), ((r357.2.1.1, (r357.2.1.2.1, ())), (r355.2.2.1, ())))).bind fun r358 =>
 some (((), ((), ())), ((r358.2.1.1, (r358.2.1.2.1, ())), (r358.2.2.1, ())))
else
 some (((), ((), ())), ((r357.2.1.1, (r357.2.1.2.1, ())), (r355.2.2.1, ())))
noncomputable def S169v0 : jjA := jjE EE Tryz.f169 i169v0 o169v0 [0] f169v0
theorem z169v0 : jje Pz 169 S169v0 := jjb G169v0 Tryz.func169 (by kernel_rfl) (frc q169v0_122 (frc q169v0_250 (frc q169v0_2026 jja))) (fun y => by kernel_rfl) fun a => by kernel_rfl
abbrev NoBr (g : Str) : Prop := ∀ b, b ∈ g → b.toNat ≠ 91
theorem ix_str {s : Str} {i : Int} (h0 : 0 ≤ i) (h1 : i < (s.length : Int)) : ∃ x, ix s i = some x ∧ x ∈ s := ix_in h0 h1
theorem v_l1Globbed (a) (hs : Bd a.1.1.length) (hn : NoBr a.1.1) : Ev (f341 a) (fun _ => True) := by
 obtain ⟨⟨(s : Str), u⟩, u'⟩ := a
 have hs : s.length ≤ 2097152 := hs
 unfold f341
 refine Ev.bind (P := fun _ => True) ?_ fun r _ => ?_
 ·refine Ev.loop (fun (k : Nat) y => y.1.1 = s ∧ (0 : Int) ≤ y.1.2.1 ∧ (y.1.2.1 : Int) + k = s.length) (fun k y hy => ?_) s.length _ ⟨rfl, Int.le_refl _, by show (0 : Int) + s.length = s.length; omega⟩
  obtain ⟨⟨(s1 : Str), (i : Int), u⟩, u'⟩ := y
  obtain ⟨y1, y2, y3⟩ := hy
  have y1 : s1 = s := y1
  subst y1
  have y2 : 0 ≤ i := y2
  have y3 : i + k = s1.length := y3
  unfold g341_26
  refine Ev.ite (fun hc => ?_) fun _ => Ev.ret trivial
  have hc : i < (s1.length : Int) := of_decide_eq_true hc
  obtain ⟨x, k1, k2⟩ := ix_str y2 hc
  have hx : ((x.toNat : Int) == 91) = false := by
   have := hn x k2
   simp only [beq_eq_false_iff_ne, ne_eq]; omega
  have hw : IntKind.i64.wrap (i + 1) = i + 1 := jjD (by omega) (by omega)
  refine Ev.eq k1 ?_
  refine Ev.ite (fun hd => by rw [hx] at hd; cases hd) fun _ => ?_
  have piece : Ev (g341_6726 ((s1, (i, ())), ())) (fun r => r.1.1 = s1 ∧ r.1.2.1 = i) := by
   unfold g341_6726
   refine Ev.eq k1 ?_
   exact Ev.ite (fun _ => Ev.eq k1 (Ev.ret ⟨rfl, rfl⟩)) fun _ => Ev.ret ⟨rfl, rfl⟩
  refine Ev.bind piece fun r hr => ?_
  obtain ⟨⟨(s2 : Str), (i2 : Int), (c : Bool), v⟩, v'⟩ := r
  obtain ⟨r1, r2⟩ := hr
  have r1 : s2 = s1 := r1
  have r2 : i2 = i := r2
  subst r1 r2
  refine Ev.ite (fun _ => ?_) fun _ => ?_
  ·refine Ev.ret ⟨k - 1, by omega, rfl, ?_, ?_⟩
   ·show 0 ≤ IntKind.i64.wrap (i2 + 1); rw [hw]; omega
   ·show IntKind.i64.wrap (i2 + 1) + ((k - 1 : Nat) : Int) = _; rw [hw]; omega
  ·refine Ev.eq k1 ?_
   refine Ev.eq (v_l1Small (((x.toNat : Int), ()), ())) ?_
   refine Ev.ite (fun _ => Ev.ret trivial) fun _ => ?_
   refine Ev.ret ⟨k - 1, by omega, rfl, ?_, ?_⟩
   ·show 0 ≤ IntKind.i64.wrap (i2 + 1); rw [hw]; omega
   ·show IntKind.i64.wrap (i2 + 1) + ((k - 1 : Nat) : Int) = _; rw [hw]; omega
 ·cases r with
  | inl r => exact Ev.ret trivial
  | inr r => exact Ev.ret trivial
theorem splitL_nobr {g : Str} (h : NoBr g) : ∀ x, x ∈ jjq 47 g → NoBr x := by
 induction g with
 | nil =>
  intro x hx b hb
  simp [jjq] at hx
  subst hx; cases hb
 | cons c g ih =>
  have ih := ih fun b hb => h b (List.mem_cons_of_mem _ hb)
  intro x hx b hb
  simp only [jjq] at hx
  cases hc : (c == 47) with
  | true =>
   simp only [hc, cond_true, List.mem_cons] at hx
   rcases hx with rfl | hx
   ·cases hb
   ·exact ih x hx b hb
  | false =>
   simp only [hc, cond_false] at hx
   cases hL : jjq 47 g with
   | nil => exact absurd hL (jzk 47 g)
   | cons y L =>
    rw [hL] at hx ih
    simp only [List.mem_cons] at hx
    rcases hx with rfl | hx
    ·rcases List.mem_cons.1 hb with rfl | hb
     ·exact h _ List.mem_cons_self
     ·exact ih y List.mem_cons_self b hb
    ·exact ih x (List.mem_cons_of_mem _ hx) b hb
theorem v_GlobOk (a) (hs : a.1.1.length ≤ 200) (hn : NoBr a.1.1) : Ev (f302 a) (fun _ => True) := by
 obtain ⟨⟨(g : Str), u⟩, u'⟩ := a
 have hs : g.length ≤ 200 := hs
 unfold f302
 have hw : IntKind.i64.wrap ((g.length : Int) + 1) = ((g.length + 1 : Nat) : Int) := jjk (by unfold Sm; omega)
 refine Ev.eq (v_l1Cut 47 ((g, ((47 : Int), (IntKind.i64.wrap ((g.length : Int) + 1), ()))), ()) (by show g.length ≤ 2097152; omega) rfl hw) ?_
 have hL : (jjq 47 g).length ≤ 201 := by have := jqT 47 g; omega
 refine Ev.bind (P := fun _ => True) ?_ fun r _ => ?_
 ·refine Ev.loop (fun (k : Nat) y => y.2.1 = jjq 47 g ∧ (0 : Int) ≤ y.1.2.2.1 ∧ (y.1.2.2.1 : Int) + k = (jjq 47 g).length) (fun k y hy => ?_) (jjq 47 g).length _ ⟨rfl, Int.le_refl _, by show (0 : Int) + _ = _; omega⟩
  obtain ⟨⟨(g1 : Str), u1, (i : Int), u⟩, (L : List Str), u'⟩ := y
  obtain ⟨y1, y2, y3⟩ := hy
  have y1 : L = jjq 47 g := y1
  have y2 : 0 ≤ i := y2
  have y3 : i + k = (jjq 47 g).length := y3
  subst y1
  unfold g302_58
  refine Ev.ite (fun hc => ?_) fun _ => Ev.ret trivial
  have hc : i < ((jjq 47 g).length : Int) := of_decide_eq_true hc
  obtain ⟨j, rfl⟩ := Int.eq_ofNat_of_zero_le y2
  have hj : j < (jjq 47 g).length := by omega
  have hw : IntKind.i64.wrap ((j : Int) + 1) = (j : Int) + 1 := jjD (by omega) (by omega)
  refine Ev.eq (jxY hj) ?_
  refine Ev.eq (List.getElem?_eq_getElem hj) ?_
  have hm := List.getElem_mem hj
  refine Ev.bind (v_l1Globbed (((jjq 47 g)[j], ()), ()) (by have := jqS 47 g _ hm; show ((jjq 47 g)[j]).length ≤ 2097152; omega) (splitL_nobr hn _ hm)) fun r _ => ?_
  refine Ev.ite (fun _ => Ev.ret trivial) fun _ => ?_
  refine Ev.ret ⟨k - 1, by omega, rfl, ?_, ?_⟩
  ·show 0 ≤ IntKind.i64.wrap ((j : Int) + 1); rw [hw]; omega
  ·show IntKind.i64.wrap ((j : Int) + 1) + ((k - 1 : Nat) : Int) = _; rw [hw]; omega
 ·cases r with
  | inl r => exact Ev.ret trivial
  | inr r => exact Ev.ite (fun _ => Ev.ret trivial) fun _ => Ev.ret trivial
theorem subl1 {s : Str} (h : s ≠ []) : jqv s (1 : Int) (s.length : Int) = some (s.drop 1) := jxh (a := 1) (by have := List.length_pos_iff.2 h; omega)
theorem subl1L {s : List Str} (h : 0 < s.length) : jqv s (1 : Int) (s.length : Int) = some (s.drop 1) := jxh (a := 1) h
theorem ne_of_beq {s : Str} (h : (s == ([] : Str)) = false) : s ≠ [] := by simpa using h
theorem fits_ev : ∀ (n : Nat) (g s : Str), NoBr g → g.length + s.length < n → Ev (iterR ff342 n ((g, (s, ())), ())) (fun _ => True) := by
 intro n
 induction n with
 | zero => intro g s _ h; omega
 | succ n ih =>
  intro g s hn hl
  show Ev (ff342 (iterR ff342 n) _) _
  unfold ff342
  refine Ev.ite (fun _ => Ev.ret trivial) fun hg => ?_
  have hg : g ≠ [] := ne_of_beq hg
  have hgp := List.length_pos_iff.2 hg
  obtain ⟨x, k1, k2⟩ := ix_str (s := g) (i := 0) (by omega) (by omega)
  refine Ev.eq k1 ?_
  have hd1 : NoBr (g.drop 1) := fun b hb => hn b (List.mem_of_mem_drop hb)
  have hdl : (g.drop 1).length + 1 = g.length := by rw [List.length_drop]; omega
  refine Ev.ite (fun _ => ?_) fun _ => ?_
  ·refine Ev.eq (subl1 hg) ?_
   refine Ev.bind (ih (g.drop 1) s hd1 (by omega)) fun r _ => ?_
   refine Ev.ite (fun _ => ?_) fun _ => Ev.ret trivial
   refine Ev.ite (fun hs => ?_) fun _ => Ev.ret trivial
   have hs : s ≠ [] := by
    have hs : (!(s == ([] : Str))) = true := hs
    intro e; subst e; cases hs
   have hsp := List.length_pos_iff.2 hs
   refine Ev.eq (subl1 hs) ?_
   exact Ev.bind (ih g (s.drop 1) hn (by rw [List.length_drop]; omega)) fun r _ => Ev.ret trivial
  ·refine Ev.ite (fun _ => Ev.ret trivial) fun hs => ?_
   have hs : s ≠ [] := ne_of_beq hs
   have hsp := List.length_pos_iff.2 hs
   have step : Ev (iterR ff342 n ((g.drop 1, (s.drop 1, ())), ())) (fun _ => True) := ih _ _ hd1 (by rw [List.length_drop]; rw [List.length_drop]; omega)
   refine Ev.eq k1 ?_
   refine Ev.ite (fun _ => ?_) fun _ => ?_
   ·refine Ev.eq (subl1 hg) ?_
    refine Ev.eq (subl1 hs) ?_
    exact Ev.bind step fun r _ => Ev.ret trivial
   ·have hx : ((x.toNat : Int) == 91) = false := by
     have := hn x k2
     simp only [beq_eq_false_iff_ne, ne_eq]; omega
    refine Ev.ite (fun hd => by rw [hx] at hd; cases hd) fun _ => ?_
    refine Ev.eq k1 ?_
    obtain ⟨y, l1, l2⟩ := ix_str (s := s) (i := 0) (by omega) (by omega)
    refine Ev.eq l1 ?_
    refine Ev.ite (fun _ => ?_) fun _ => Ev.ret trivial
    refine Ev.eq (subl1 hg) ?_
    refine Ev.eq (subl1 hs) ?_
    exact Ev.bind step fun r _ => Ev.ret trivial
theorem v_l1Fits (a) (h1 : Bd a.1.1.length) (h2 : Bd a.1.2.1.length) (hn : NoBr a.1.1) : Ev (f342 a) (fun _ => True) := by
 obtain ⟨⟨(g : Str), (s : Str), u⟩, u'⟩ := a
 have h1 : g.length ≤ 2097152 := h1
 have h2 : s.length ≤ 2097152 := h2
 exact fits_ev fuelN g s hn (by unfold fuelN; omega)
theorem match_ev : ∀ (n : Nat) (g s : List Str), (∀ x, x ∈ g → NoBr x ∧ Bd x.length) → (∀ x, x ∈ s → Bd x.length) → g.length + s.length < n → Ev (iterR ff308 n ((g, (s, ())), ())) (fun _ => True) := by
 intro n
 induction n with
 | zero => intro g s _ _ h; omega
 | succ n ih =>
  intro g s hn hs hl
  show Ev (ff308 (iterR ff308 n) _) _
  unfold ff308
  refine Ev.ite (fun _ => Ev.ret trivial) fun hg => ?_
  have hgp : 0 < g.length := by
   have hg : ((g.length : Int) == 0) = false := hg
   simp only [beq_eq_false_iff_ne, ne_eq] at hg; omega
  obtain ⟨x, k1, k2⟩ := ix_in (xs := g) (i := 0) (by omega) (by omega)
  refine Ev.eq k1 ?_
  have hd1 : ∀ x, x ∈ g.drop 1 → NoBr x ∧ Bd x.length := fun b hb => hn b (List.mem_of_mem_drop hb)
  have hs1 : ∀ x, x ∈ s.drop 1 → Bd x.length := fun b hb => hs b (List.mem_of_mem_drop hb)
  have hdl : (g.drop 1).length + 1 = g.length := by rw [List.length_drop]; omega
  refine Ev.ite (fun _ => ?_) fun _ => ?_
  ·refine Ev.eq (subl1L hgp) ?_
   refine Ev.bind (ih (g.drop 1) s hd1 hs (by omega)) fun r _ => ?_
   refine Ev.ite (fun _ => ?_) fun _ => Ev.ret trivial
   refine Ev.ite (fun hc => ?_) fun _ => Ev.ret trivial
   have hc : (s.length : Int) > 0 := of_decide_eq_true hc
   refine Ev.eq (subl1L (s := s) (by omega)) ?_
   exact Ev.bind (ih g (s.drop 1) hn hs1 (by rw [List.length_drop]; omega)) fun r _ => Ev.ret trivial
  ·refine Ev.ite (fun hc => ?_) fun _ => Ev.ret trivial
   have hc : (s.length : Int) > 0 := of_decide_eq_true hc
   refine Ev.eq k1 ?_
   obtain ⟨y, l1, l2⟩ := ix_in (xs := s) (i := 0) (by omega) (by omega)
   refine Ev.eq l1 ?_
   refine Ev.bind (v_l1Fits ((x, (y, ())), ()) (hn x k2).2 (hs y l2) (hn x k2).1) fun r _ => ?_
   refine Ev.ite (fun _ => ?_) fun _ => Ev.ret trivial
   refine Ev.eq (subl1L hgp) ?_
   refine Ev.eq (subl1L (s := s) (by omega)) ?_
   exact Ev.bind (ih (g.drop 1) (s.drop 1) hd1 hs1 (by rw [List.length_drop]; rw [List.length_drop]; omega)) fun r _ => Ev.ret trivial
theorem v_GlobHas (a) (h1 : a.1.1.length ≤ 200) (h2 : a.1.2.1.length ≤ 1048576) (hn : NoBr a.1.1) : Ev (f238 a) (fun _ => True) := by
 obtain ⟨⟨(g : Str), (s : Str), u⟩, u'⟩ := a
 have h1 : g.length ≤ 200 := h1
 have h2 : s.length ≤ 1048576 := h2
 unfold f238
 refine Ev.bind (v_GlobOk ((g, ()), ()) h1 hn) fun r _ => ?_
 refine Ev.ite (fun _ => ?_) fun _ => Ev.ret trivial
 refine Ev.eq (v_l1Path ((s, ()), ()) (by show s.length ≤ 2097152; omega)) ?_
 refine Ev.ite (fun _ => ?_) fun _ => Ev.ret trivial
 refine Ev.eq (v_l1Cut 47 ((g, ((47 : Int), (IntKind.i64.wrap ((g.length : Int) + 1), ()))), ()) (by show g.length ≤ 2097152; omega) rfl (jjk (by unfold Sm; omega))) ?_
 refine Ev.eq (v_l1Cut 47 ((s, ((47 : Int), (IntKind.i64.wrap ((s.length : Int) + 1), ()))), ()) (by show s.length ≤ 2097152; omega) rfl (jjk (by unfold Sm; omega))) ?_
 have g1 := jqT 47 g
 have s1 := jqT 47 s
 refine Ev.bind (P := fun _ => True) ?_ fun r _ => Ev.ret trivial
 exact match_ev fuelN (jjq 47 g) (jjq 47 s) (fun x hx => ⟨splitL_nobr hn x hx, by have := jqS 47 g x hx; unfold Bd; omega⟩) (fun x hx => by have := jqS 47 s x hx; unfold Bd; omega) (by unfold fuelN; omega)
theorem v_l1Below (a) (h1 : Bd a.1.1.length) : Ev (f309 a) (fun _ => True) := by
 obtain ⟨⟨(g : Str), (s : Str), u⟩, u'⟩ := a
 unfold f309
 refine Ev.ite (fun _ => ?_) fun _ => Ev.ret trivial
 refine Ev.ite (fun hc => ?_) fun _ => Ev.ret trivial
 have hc : (s.length : Int) > (g.length : Int) := of_decide_eq_true hc
 refine Ev.eq (jxS (xs := s) (b := g.length) (by omega)) ?_
 refine Ev.ite (fun _ => ?_) fun _ => Ev.ret trivial
 obtain ⟨x, k1, _⟩ := ix_str (s := s) (i := (g.length : Int)) (by omega) (by omega)
 exact Ev.eq k1 (Ev.ret trivial)
theorem v_l2Needed (a) (ht : ShT a.1.1) (hg : a.1.2.1.length ≤ 200) (hn : NoBr a.1.2.1) (hd : Sh a.1.2.2.1) : Ev (f239 a) (fun _ => True) := by
 obtain ⟨⟨(t : List Entry), (g : Str), (d : Str), u⟩, u'⟩ := a
 obtain ⟨ht1, ht2⟩ := ht
 have ht1 : t.length ≤ 16 := ht1
 have hd : d.length ≤ 200 := hd
 unfold f239
 refine Ev.bind (P := fun _ => True) ?_ fun r _ => ?_
 ·refine Ev.loop (fun (k : Nat) y => y.1.1 = t ∧ y.1.2.1 = g ∧ y.1.2.2.1 = d ∧ (0 : Int) ≤ y.1.2.2.2.1 ∧ (y.1.2.2.2.1 : Int) + k = t.length) (fun k y hy => ?_) t.length _ ⟨rfl, rfl, rfl, Int.le_refl _, by show (0 : Int) + _ = _; omega⟩
  obtain ⟨⟨(t1 : List Entry), (g1 : Str), (d1 : Str), (i : Int), u⟩, u'⟩ := y
  obtain ⟨y1, y2, y3, y4, y5⟩ := hy
  have y1 : t1 = t := y1
  have y2 : g1 = g := y2
  have y3 : d1 = d := y3
  subst y1 y2 y3
  have y4 : 0 ≤ i := y4
  have y5 : i + k = t1.length := y5
  unfold g239_26
  refine Ev.ite (fun hc => ?_) fun _ => Ev.ret trivial
  have hc : i < (t1.length : Int) := of_decide_eq_true hc
  have hw : IntKind.i64.wrap (i + 1) = i + 1 := jjD (by omega) (by omega)
  obtain ⟨x, k1, k2⟩ := ix_in (xs := t1) y4 hc
  have piece : Ev (g239_840 ((t1, (g1, (d1, (i, ())))), ())) (fun r => r.1.1 = t1 ∧ r.1.2.1 = g1 ∧ r.1.2.2.1 = d1 ∧ r.1.2.2.2.1 = i) := by
   unfold g239_840
   refine Ev.eq k1 ?_
   refine Ev.bind (v_l1Below ((d1, (x.path, ())), ()) (by show d1.length ≤ 2097152; omega)) fun r _ => ?_
   refine Ev.ite (fun _ => ?_) fun _ => Ev.ret ⟨rfl, rfl, rfl, rfl⟩
   refine Ev.eq k1 ?_
   exact Ev.bind (v_GlobHas ((g1, (x.path, ())), ()) hg (Nat.le_trans (ht2 x k2).1 (by decide)) hn) fun r _ => Ev.ret ⟨rfl, rfl, rfl, rfl⟩
  refine Ev.bind piece fun r hr => ?_
  obtain ⟨⟨(t2' : List Entry), (g2 : Str), (d2 : Str), (i2 : Int), (c : Bool), v⟩, v'⟩ := r
  obtain ⟨r1, r2, r3, r4⟩ := hr
  have r1 : t2' = t1 := r1
  have r2 : g2 = g1 := r2
  have r3 : d2 = d1 := r3
  have r4 : i2 = i := r4
  subst r1 r2 r3 r4
  refine Ev.ite (fun _ => Ev.ret trivial) fun _ => ?_
  refine Ev.ret ⟨k - 1, by omega, rfl, rfl, rfl, ?_, ?_⟩
  ·show 0 ≤ IntKind.i64.wrap (i2 + 1); rw [hw]; omega
  ·show IntKind.i64.wrap (i2 + 1) + ((k - 1 : Nat) : Int) = _; rw [hw]; omega
 ·cases r with
  | inl r => exact Ev.ret trivial
  | inr r => exact Ev.ret trivial
theorem v_TreePart (a) (ht : ShT a.1.1) (hg : a.1.2.1.length ≤ 200) (hn : NoBr a.1.2.1) : Ev (f168 a) (fun r => ShT r.2.1) := by
 obtain ⟨⟨(t : List Entry), (g : Str), u⟩, u'⟩ := a
 obtain ⟨ht1, ht2⟩ := ht
 have ht1 : t.length ≤ 16 := ht1
 have hg : g.length ≤ 200 := hg
 have hbE : BdEs t := ⟨by show t.length ≤ 2097152; omega, fun e he => ⟨Nat.le_trans (ht2 e he).1 (by decide), Nat.le_trans (ht2 e he).2 (by decide)⟩⟩
 unfold f168
 refine Ev.bind (P := fun r => ShT r.2.1) ?_ fun r hr => Ev.ret hr
 refine Ev.loop (fun (k : Nat) y => y.1.1 = t ∧ y.1.2.1 = g ∧ (0 : Int) ≤ y.1.2.2.2.1 ∧ (y.1.2.2.2.1 : Int) + k = t.length ∧ ((y.2.1 : List Entry).length : Int) ≤ y.1.2.2.2.1 ∧ ∀ e, e ∈ (y.2.1 : List Entry) → ShE e) (fun k y hy => ?_) t.length _
  ⟨rfl, rfl, Int.le_refl _, by show (0 : Int) + _ = _; omega, by show (0 : Int) ≤ 0; omega, fun e he => by cases he⟩
 obtain ⟨⟨(t1 : List Entry), (g1 : Str), u1, (i : Int), u⟩, (out : List Entry), u'⟩ := y
 obtain ⟨y1, y2, y3, y4, y5, y6⟩ := hy
 have y1 : t1 = t := y1
 have y2 : g1 = g := y2
 subst y1 y2
 have y3 : 0 ≤ i := y3
 have y4 : i + k = t1.length := y4
 have y5 : (out.length : Int) ≤ i := y5
 unfold g168_58
 refine Ev.ite (fun hc => ?_) fun _ => Ev.ret ⟨by show out.length ≤ 16; omega, y6⟩
 have hc : i < (t1.length : Int) := of_decide_eq_true hc
 have hw : IntKind.i64.wrap (i + 1) = i + 1 := jjD (by omega) (by omega)
 obtain ⟨x, k1, k2⟩ := ix_in (xs := t1) y3 hc
 refine Ev.eq (v_TreeOk ((t1, ()), ()) hbE) ?_
 refine Ev.ite (fun _ => ?_) fun _ => Ev.ret ⟨by show out.length ≤ 16; omega, y6⟩
 have piece : Ev (g168_1864 ((t1, (g1, ((), (i, ())))), (out, ()))) (fun r => r.1.1 = t1 ∧ r.1.2.1 = g1 ∧ r.1.2.2.2.1 = i ∧ r.2.1 = out) := by
  unfold g168_1864
  refine Ev.eq k1 ?_
  refine Ev.bind (v_GlobHas ((g1, (x.path, ())), ()) hg (Nat.le_trans (ht2 x k2).1 (by decide)) hn) fun r _ => ?_
  refine Ev.ite (fun _ => ?_) fun _ => Ev.ret ⟨rfl, rfl, rfl, rfl⟩
  refine Ev.eq k1 ?_
  refine Ev.ite (fun _ => ?_) fun _ => Ev.ret ⟨rfl, rfl, rfl, rfl⟩
  refine Ev.eq k1 ?_
  exact Ev.bind (v_l2Needed ((t1, (g1, (x.path, ()))), ()) ⟨ht1, ht2⟩ hg hn (ht2 x k2).1) fun r _ => Ev.ret ⟨rfl, rfl, rfl, rfl⟩
 refine Ev.bind piece fun r hr => ?_
 obtain ⟨⟨(t2' : List Entry), (g2 : Str), w1, (i2 : Int), (c : Bool), v⟩, (out2 : List Entry), v'⟩ := r
 obtain ⟨r1, r2, r3, r4⟩ := hr
 have r1 : t2' = t1 := r1
 have r2 : g2 = g1 := r2
 have r3 : i2 = i := r3
 have r4 : out2 = out := r4
 subst r1 r2 r3 r4
 refine Ev.ite (fun _ => ?_) fun _ => ?_
 ·refine Ev.eq k1 ?_
  refine Ev.eq (jqc (by decide) (by unfold Sm; simp; omega)) ?_
  refine Ev.ret ⟨k - 1, by omega, rfl, rfl, ?_, ?_, ?_, fun e he => ?_⟩
  ·show 0 ≤ IntKind.i64.wrap (i2 + 1); rw [hw]; omega
  ·show IntKind.i64.wrap (i2 + 1) + ((k - 1 : Nat) : Int) = _; rw [hw]; omega
  ·show ((out2 ++ [x]).length : Int) ≤ IntKind.i64.wrap (i2 + 1); rw [hw]; simp; omega
  ·have he : e ∈ out2 ++ [x] := he
   rcases List.mem_append.1 he with he | he
   ·exact y6 e he
   ·rw [List.mem_singleton.1 he]; exact ht2 x k2
 ·refine Ev.ret ⟨k - 1, by omega, rfl, rfl, ?_, ?_, ?_, y6⟩
  ·show 0 ≤ IntKind.i64.wrap (i2 + 1); rw [hw]; omega
  ·show IntKind.i64.wrap (i2 + 1) + ((k - 1 : Nat) : Int) = _; rw [hw]; omega
  ·show (out2.length : Int) ≤ IntKind.i64.wrap (i2 + 1); rw [hw]; omega
theorem dec_ev : ∀ (n : Nat) (x : Int), 0 ≤ x → x ≤ 100000 → x < n → Ev (iterR ff128 n ((x, ()), ())) (fun r => ((r.1.1 : Str).length : Int) ≤ x + 1) := by
 intro n
 induction n with
 | zero => intro x h0 _ h; omega
 | succ n ih =>
  intro x h0 h1 hl
  show Ev (ff128 (iterR ff128 n) _) _
  unfold ff128
  refine Ev.ite (fun hc => ?_) fun _ => ?_
  ·have hc : x < -9223372036854775807 := of_decide_eq_true hc
   omega
  refine Ev.ite (fun hc => ?_) fun _ => ?_
  ·have hc : x < 0 := of_decide_eq_true hc
   omega
  refine Ev.ite (fun hc => ?_) fun hc => ?_
  ·exact Ev.ret (by show ((jqR [_]).length : Int) ≤ x + 1; simp [jqR]; omega)
  ·have hc : ¬ x < 10 := of_decide_eq_false hc
   refine Ev.eq (quo_nn (x := x) rfl h0 (by omega) (by decide)) ?_
   refine Ev.bind (ih (x / 10) (by omega) (by omega) (by omega)) fun r hr => ?_
   refine Ev.eq (rem_nn (x := x) h0 (by decide)) ?_
   have hr : ((r.1.1 : Str).length : Int) ≤ x / 10 + 1 := hr
   refine Ev.eq (ev_cat (s := r.1.1) (by simp [jqR]; omega)) ?_
   exact Ev.ret (by show (((r.1.1 : Str) ++ jqR [_]).length : Int) ≤ x + 1; rw [List.length_append]; simp [jqR]; omega)
theorem v_l1Dec (a) (h0 : (0 : Int) ≤ a.1.1) (h1 : (a.1.1 : Int) ≤ 100) : Ev (f128 a) (fun r => (r.1.1 : Str).length ≤ 101) := by
 obtain ⟨⟨(x : Int), u⟩, u'⟩ := a
 have h0 : 0 ≤ x := h0
 have h1 : x ≤ 100 := h1
 exact (dec_ev fuelN x h0 (by omega) (by unfold fuelN; omega)).mono fun r hr => by have hr : ((r.1.1 : Str).length : Int) ≤ x + 1 := hr; omega
theorem v_l11Tree (a) (m : Nat) (h : RD a.2.1.1 a.2.1.2.1 m) (hm : 40 ≤ m) : Ev (f169v0 a) (fun r => RD r.2.1.1 r.2.1.2.1 (m - 40) ∧ ShT r.2.2.1) := by
 obtain ⟨⟨u1, u2⟩, ⟨⟨(b : List Int), (p : Int), u3⟩, u4⟩⟩ := a
 have h : RD b p m := h
 unfold f169v0
 refine Ev.bind (P := fun r => RD r.2.1.1 r.2.1.2.1 (m - 5) ∧ ShT r.2.2.1) ?_ fun r1 h1 => ?_
 ·refine Ev.loop (fun (k : Nat) y => k ≤ 5 ∧ (0 : Int) ≤ y.1.2.2.2.1 ∧ (y.1.2.2.2.1 : Int) + k = 5 ∧ (y.2.2.2.1 : List Str) = [[97], [108, 105, 98], [98, 105, 110], [100, 111, 99], [97, 47, 98]] ∧ RD y.2.1.1 y.2.1.2.1 (m - (5 - k)) ∧ ShT y.2.2.1) (fun k y hy => ?_) 5 _
   ⟨Nat.le_refl _, Int.le_refl _, by show (0 : Int) + (5 : Nat) = 5; rfl, rfl, h, by show (0 : Nat) ≤ 16; decide, fun e he => by cases he⟩
  obtain ⟨⟨w1, w2, w3, (i : Int), w4⟩, ⟨⟨(b' : List Int), (p' : Int), w5⟩, (t : List Entry), (L : List Str), w6⟩⟩ := y
  obtain ⟨y1, y2, y3, y4, y5, y6⟩ := hy
  have y2 : 0 ≤ i := y2
  have y3 : i + k = 5 := y3
  have y4 : L = _ := y4
  have hL : L.length = 5 := by rw [y4]; rfl
  have hLs : ∀ s, s ∈ L → Sh s := by rw [y4]; exact fun s hs => sh_all (by rfl) hs
  have y5 : RD b' p' (m - (5 - k)) := y5
  have y6 : ShT t := y6
  unfold g169v0_122
  refine Ev.ite (fun hc => ?_) fun hc => ?_
  ·have hc : i < (L.length : Int) := of_decide_eq_true hc
   have hw : IntKind.i64.wrap (i + 1) = i + 1 := jjD (by omega) (by omega)
   obtain ⟨j, rfl⟩ := Int.eq_ofNat_of_zero_le y2
   have hj : j < L.length := by omega
   refine Ev.bind (jqH _ _ y5 (by omega)) fun r hr => ?_
   have hR : RD r.2.1.1 r.2.1.2.1 (m - (5 - (k - 1))) := hr.1.less (by omega)
   refine Ev.ite (fun _ => ?_) fun _ => ?_
   ·refine Ev.eq (jxY hj) ?_
    refine Ev.eq (List.getElem?_eq_getElem hj) ?_
    have hsh : Sh L[j] := hLs _ (List.getElem_mem hj)
    refine Ev.bind (v_l2Put ((t, ((L[j], ((1 : Int), ((7 : Int), (([] : Str), ())))), ())), ()) y6 ⟨hsh, by show (0 : Nat) ≤ 200; decide⟩) fun r2 h2 => ?_
    refine Ev.ret ⟨k - 1, by omega, by omega, ?_, ?_, y4, hR, h2⟩
    ·show 0 ≤ IntKind.i64.wrap ((j : Int) + 1); rw [hw]; omega
    ·show IntKind.i64.wrap ((j : Int) + 1) + ((k - 1 : Nat) : Int) = 5; rw [hw]; omega
   ·refine Ev.ret ⟨k - 1, by omega, by omega, ?_, ?_, y4, hR, y6⟩
    ·show 0 ≤ IntKind.i64.wrap ((j : Int) + 1); rw [hw]; omega
    ·show IntKind.i64.wrap ((j : Int) + 1) + ((k - 1 : Nat) : Int) = 5; rw [hw]; omega
  ·exact Ev.ret ⟨y5.less (by omega), y6⟩
 refine Ev.bind (jqH _ _ h1.1 (by omega)) fun r2 h2 => ?_
 obtain ⟨⟨v1, (q : Int), v2⟩, ⟨⟨(b1 : List Int), (p1 : Int), v3⟩, v4⟩⟩ := r2
 have h2n : q < 7 := h2.2.2 (by show (1 : Int) ≤ 7; decide)
 have h20 : 0 ≤ q := h2.2.1
 refine Ev.bind (P := fun r => RD r.2.1.1 r.2.1.2.1 (m - 34) ∧ ShT r.2.2.1) ?_ fun r3 h3 => ?_
 ·refine Ev.loop (fun (k : Nat) y => k ≤ 6 ∧ (y.1.2.2.1 : Int) = k ∧ RD y.2.1.1 y.2.1.2.1 (m - 34 + 4 * k) ∧ ShT y.2.2.1) (fun k y hy => ?_) q.toNat _
   ⟨by omega, by show q = _; omega, (by refine h2.1.less ?_; omega), h1.2⟩
  obtain ⟨⟨w1, w2, (i : Int), w4⟩, ⟨⟨(b' : List Int), (p' : Int), w5⟩, (t : List Entry), w6⟩⟩ := y
  obtain ⟨y1, y3, y5, y6⟩ := hy
  have y3 : i = k := y3
  subst y3
  have y5 : RD b' p' (m - 34 + 4 * k) := y5
  have y6 : ShT t := y6
  unfold g169v0_250
  refine Ev.ite (fun hc => ?_) fun hc => ?_
  ·have hc : (k : Int) > 0 := of_decide_eq_true hc
   have hw : IntKind.i64.wrap ((k : Int) - 1) = ((k - 1 : Nat) : Int) := by rw [jjD (by omega) (by omega)]; omega
   refine Ev.bind (v_l11Entry _ _ y5 (by omega)) fun r hr => ?_
   refine Ev.bind (v_l2Put ((t, ((r.2.2.1.1, (r.2.2.1.2.1, (r.2.2.1.2.2.1, (r.2.2.1.2.2.2.1, ())))), ())), ()) y6 hr.2) fun r2 h2 => ?_
   exact Ev.ret ⟨k - 1, by omega, by omega, hw, hr.1.less (by omega), h2⟩
  ·exact Ev.ret ⟨y5.less (by omega), y6⟩
 refine Ev.bind (jqH _ _ h3.1 (by omega)) fun r4 h4 => ?_
 refine Ev.ite (fun _ => ?_) fun _ => Ev.ret ⟨h4.1.less (by omega), h3.2⟩
 refine Ev.bind (P := fun r => RD r.2.1.1 r.2.1.2.1 (m - 34 - 1) ∧ ShT r.2.2.1) ?_ fun r5 h5 => Ev.ret ⟨h5.1.less (by omega), h5.2⟩
 refine Ev.loop (fun (k : Nat) y => (0 : Int) ≤ y.1.2.2.1 ∧ (y.1.2.2.1 : Int) + k = 16 ∧ RD y.2.1.1 y.2.1.2.1 (m - 34 - 1) ∧ ShT y.2.2.1) (fun k y hy => ?_) 16 _ ⟨Int.le_refl _, by show (0 : Int) + (16 : Nat) = 16; rfl, h4.1, h3.2⟩
 obtain ⟨⟨w1, w2, (i : Int), w4⟩, ⟨⟨(b' : List Int), (p' : Int), w5⟩, (t : List Entry), w6⟩⟩ := y
 obtain ⟨y1, y3, y5, y6⟩ := hy
 have y1 : 0 ≤ i := y1
 have y3 : i + k = 16 := y3
 have y6 : ShT t := y6
 unfold g169v0_2026
 refine Ev.ite (fun hc => ?_) fun hc => Ev.ret ⟨y5, y6⟩
 have hc : i < 16 := of_decide_eq_true hc
 have hw : IntKind.i64.wrap (i + 1) = i + 1 := jjD (by omega) (by omega)
 refine Ev.bind (v_l1Dec ((i, ()), ()) y1 (by show i ≤ 100; omega)) fun r hr => ?_
 have hr : (r.1.1 : Str).length ≤ 101 := hr
 refine Ev.eq (ev_cat (s := [102]) (t := r.1.1) (by show 1 + _ ≤ _; omega)) ?_
 refine Ev.bind (v_l2Put ((t, (((([102] : Str) ++ r.1.1, ((2 : Int), ((0 : Int), (([] : Str), ()))))), ())), ()) y6 ⟨by show ((([102] : Str) ++ r.1.1).length) ≤ 200; simp; omega, by show (0 : Nat) ≤ 200; decide⟩) fun r2 h2 => ?_
 refine Ev.ret ⟨k - 1, by omega, ?_, ?_, y5, h2⟩
 ·show 0 ≤ IntKind.i64.wrap (i + 1); rw [hw]; omega
 ·show IntKind.i64.wrap (i + 1) + ((k - 1 : Nat) : Int) = 16; rw [hw]; omega
noncomputable abbrev L242v0 : LS := [(88, jz8), (90, S90v0), (310, S310v0)]
theorem G242v0 : CtxGood Pz (cx EE L242v0) := gd ⟨z88v0, z90v0, z310v0, ⟨⟩⟩
abbrev i242v0 : Shape := ⟨[tP 0 500000 0], [zB 500000 [eL .u8, eI]], 11⟩
abbrev o242v0 : Shape := ⟨[tP 0 500000 0, tS 2], [zB 500000 [eL .u8, eI]], 11⟩
noncomputable def f242v0 (a : i242v0.Y) : Option o242v0.Y :=
(jxt (((), ((6 : Int), ())), ((a.2.1.1, (a.2.1.2.1, ())), ()))).bind fun r1261 =>
 bif (r1261.1.2.1 == (0 : Int)) then
(jz4 (((), (([([] : Str), ([47] : Str), ([97, 47] : Str), ([47, 97] : Str), ([46] : Str), ([46, 46] : Str), ([97, 47, 47, 98] : Str), ([65] : Str), ([97, 47, 98, 47, 99, 47, 100, 47, 101, 47, 102] : Str), ([101, 108, 101, 118, 101, 110, 108, 101, 116, 116, 101] : Str), ([97, 32, 98] : Str), ([120, 47, 46, 46, 47, 121] : Str)] : List Str), ())), ((r1261.2.1.1, (r1261.2.1.2.1, ())), ()))).bind fun r1262 =>
 some (((), (r1262.1.2.1, ())), ((r1262.2.1.1, (r1262.2.1.2.1, ())), ()))
else
(f310v0 (((), ()), ((r1261.2.1.1, (r1261.2.1.2.1, ())), ()))).bind fun r1263 =>
 some (((), (r1263.1.2.1, ())), ((r1263.2.1.1, (r1263.2.1.2.1, ())), ()))
noncomputable def S242v0 : jjA := jjE EE Tryz.f242 i242v0 o242v0 [0] f242v0
theorem z242v0 : jje Pz 242 S242v0 := jjb G242v0 Tryz.func242 (by kernel_rfl) jja (fun y => by kernel_rfl) fun a => by kernel_rfl
noncomputable abbrev L171v0 : LS := [(88, jz8), (90, S90v0), (241, S241v0), (242, S242v0), (243, S243v0), (244, S244)]
theorem G171v0 : CtxGood Pz (cx EE L171v0) := gd ⟨z88v0, z90v0, z241v0, z242v0, z243v0, z244, ⟨⟩⟩
abbrev i171v0 : Shape := ⟨[tP 0 500000 0], [zB 500000 [eL .u8, eI]], 32⟩
abbrev o171v0 : Shape := ⟨[tP 0 500000 0, tP 2 2 0], [zB 500000 [eL .u8, eI], zB 2 [eS, eI, eI, eS]], 32⟩
noncomputable def f171v0 (a : i171v0.Y) : Option o171v0.Y :=
(f241v0 (((), ()), ((a.2.1.1, (a.2.1.2.1, ())), ()))).bind fun r1270 =>
(jxt (((), ((14 : Int), ())), ((r1270.2.1.1, (r1270.2.1.2.1, ())), ()))).bind fun r1272 =>
 bif (r1272.1.2.1 == (0 : Int)) then
(f242v0 (((), ()), ((r1272.2.1.1, (r1272.2.1.2.1, ())), ()))).bind fun r1273 =>
 some (((), ((), ())), ((r1273.2.1.1, (r1273.2.1.2.1, ())), ((r1273.1.2.1, (r1270.2.2.1.2.1, (r1270.2.2.1.2.2.1, (r1270.2.2.1.2.2.2.1, ())))), ())))
else
 bif (r1272.1.2.1 == (1 : Int)) then
(jxt (((), ((5 : Int), ())), ((r1272.2.1.1, (r1272.2.1.2.1, ())), ()))).bind fun r1274 =>
 some (((), ((), ())), ((r1274.2.1.1, (r1274.2.1.2.1, ())), ((r1270.2.2.1.1, (r1274.1.2.1, (r1270.2.2.1.2.2.1, (r1270.2.2.1.2.2.2.1, ())))), ())))
else
 bif (r1272.1.2.1 == (2 : Int)) then
(f243v0 (((), (([((-1) : Int), (8 : Int), (0 : Int)] : List Int), ())), ((r1272.2.1.1, (r1272.2.1.2.1, ())), ()))).bind fun r1275 =>
 some (((), ((), ())), ((r1275.2.1.1, (r1275.2.1.2.1, ())), ((r1270.2.2.1.1, (r1270.2.2.1.2.1, (r1275.1.2.1, (r1270.2.2.1.2.2.2.1, ())))), ())))
else
 bif (r1272.1.2.1 == (3 : Int)) then
(f244 ((([117] : Str), ((81 : Int), ())), ())).bind fun r1276 =>
(jz4 (((), (([([1] : Str), r1276.1.1, ([120] : Str), ([] : Str)] : List Str), ())), ((r1272.2.1.1, (r1272.2.1.2.1, ())), ()))).bind fun r1277 =>
 some (((), ((), ())), ((r1277.2.1.1, (r1277.2.1.2.1, ())), ((r1270.2.2.1.1, (r1270.2.2.1.2.1, (r1270.2.2.1.2.2.1, (r1277.1.2.1, ())))), ())))
else
 some (((), ((), ())), ((r1272.2.1.1, (r1272.2.1.2.1, ())), ((r1270.2.2.1.1, (r1270.2.2.1.2.1, (r1270.2.2.1.2.2.1, (r1270.2.2.1.2.2.2.1, ())))), ())))
noncomputable def S171v0 : jjA := jjE EE Tryz.f171 i171v0 o171v0 [0] f171v0
theorem z171v0 : jje Pz 171 S171v0 := jjb G171v0 Tryz.func171 (by kernel_rfl) jja (fun y => by kernel_rfl) fun a => by kernel_rfl
noncomputable abbrev L93v0 : LS := [(88, jz8), (90, S90v0), (167, S167v0)]
theorem G93v0 : CtxGood Pz (cx EE L93v0) := gd ⟨z88v0, z90v0, z167v0, ⟨⟩⟩
abbrev i93v0 : Shape := ⟨[tP 0 500000 0], [zB 500000 [eL .u8, eI]], 17⟩
abbrev o93v0 : Shape := ⟨[tP 0 500000 0, tP 2 2 0], [zB 500000 [eL .u8, eI], zB 2 [eS, eI, eS]], 17⟩
noncomputable def f93v0 (a : i93v0.Y) : Option o93v0.Y :=
(jz4 (((), (([([111, 110, 101] : Str), ([116, 119, 111] : Str), ([116, 104, 114, 101, 101] : Str), ([122, 105, 112] : Str)] : List Str), ())), ((a.2.1.1, (a.2.1.2.1, ())), ()))).bind fun r725 =>
(jxt (((), ((4 : Int), ())), ((r725.2.1.1, (r725.2.1.2.1, ())), ()))).bind fun r726 =>
 bif (r726.1.2.1 != (0 : Int)) then
(f167v0 (((), ()), ((r726.2.1.1, (r726.2.1.2.1, ())), ()))).bind fun r727 =>
 some (((), ((), ())), ((r727.2.1.1, (r727.2.1.2.1, ())), ((r725.1.2.1, (r726.1.2.1, (r727.1.2.1, ()))), ())))
else
 some (((), ((), ())), ((r726.2.1.1, (r726.2.1.2.1, ())), ((r725.1.2.1, (r726.1.2.1, (([] : Str), ()))), ())))
noncomputable def S93v0 : jjA := jjE EE Tryz.f93 i93v0 o93v0 [0] f93v0
theorem z93v0 : jje Pz 93 S93v0 := jjb G93v0 Tryz.func93 (by kernel_rfl) jja (fun y => by kernel_rfl) fun a => by kernel_rfl
noncomputable abbrev L89v0 : LS := [(88, jz8), (90, S90v0), (93, S93v0), (167, S167v0), (168, S168), (169, S169v0)]
theorem G89v0 : CtxGood Pz (cx EE L89v0) := gd ⟨z88v0, z90v0, z93v0, z167v0, z168, z169v0, ⟨⟩⟩
abbrev i89v0 : Shape := ⟨[tP 0 500000 0, tS 1], [zB 500000 [eL .u8, eI]], 27⟩
abbrev o89v0 : Shape := ⟨[tP 0 500000 0, tP 4 4 0], [zB 500000 [eL .u8, eI], zC 5000258 .need 4 2, zC 5000259 .entry 4 3, zB 4 [eS, eS, .own 5000258, .own 5000259]], 27⟩
noncomputable def f89v0 (a : i89v0.Y) : Option o89v0.Y :=
(f167v0 (((), ()), ((a.2.1.1, (a.2.1.2.1, ())), ()))).bind fun r734 =>
(f169v0 (((), ()), ((r734.2.1.1, (r734.2.1.2.1, ())), ()))).bind fun r735 =>
(jz4 (((), (([([42, 42] : Str), ([97, 47, 42, 42] : Str), ([108, 105, 98, 47, 42, 42] : Str), ([100, 111, 99, 47, 42, 42] : Str), ([98, 42] : Str)] : List Str), ())), ((r735.2.1.1, (r735.2.1.2.1, ())), ()))).bind fun r736 =>
(f168 ((r735.2.2.1, (r736.1.2.1, ())), ())).bind fun r737 =>
(jxt (((), ((3 : Int), ())), ((r736.2.1.1, (r736.2.1.2.1, ())), ()))).bind fun r739 =>
 bif (r739.1.2.1 == (0 : Int)) then
(f93v0 (((), ()), ((r739.2.1.1, (r739.2.1.2.1, ())), ()))).bind fun r740 =>
(apd 40 ([] : List Need) ([(Need.mk r740.2.2.1.1 r740.2.2.1.2.1 r740.2.2.1.2.2.1)] : List Need)).bind fun x741 =>
 some (((), ((), ())), ((r740.2.1.1, (r740.2.1.2.1, ())), (x741, (r737.2.1, ((a.1.2.1, (r734.1.2.1, ((), ((), ())))), ())))))
else
 some (((), ((), ())), ((r739.2.1.1, (r739.2.1.2.1, ())), (([] : List Need), (r737.2.1, ((a.1.2.1, (r734.1.2.1, ((), ((), ())))), ())))))
noncomputable def S89v0 : jjA := jjE EE Tryz.f89 i89v0 o89v0 [0] f89v0
theorem z89v0 : jje Pz 89 S89v0 := jjb G89v0 Tryz.func89 (by kernel_rfl) jja (fun y => by kernel_rfl) fun a => by kernel_rfl
noncomputable abbrev L91v0 : LS := [(88, jz8), (90, S90v0), (167, S167v0)]
theorem G91v0 : CtxGood Pz (cx EE L91v0) := gd ⟨z88v0, z90v0, z167v0, ⟨⟩⟩
abbrev i91v0 : Shape := ⟨[tP 0 500000 0], [zB 500000 [eL .u8, eI]], 11⟩
abbrev o91v0 : Shape := ⟨[tP 0 500000 0, tS 2], [zB 500000 [eL .u8, eI]], 11⟩
noncomputable def f91v0 (a : i91v0.Y) : Option o91v0.Y :=
(jxt (((), ((6 : Int), ())), ((a.2.1.1, (a.2.1.2.1, ())), ()))).bind fun r1219 =>
 bif (r1219.1.2.1 == (0 : Int)) then
(jz4 (((), (([([] : Str), ([46] : Str), ([49, 46] : Str), ([48, 49] : Str), ([49, 48, 48, 48] : Str), ([49, 46, 50, 46, 51, 46, 52, 46, 53] : Str), ([97] : Str), ([49, 46, 45, 49] : Str)] : List Str), ())), ((r1219.2.1.1, (r1219.2.1.2.1, ())), ()))).bind fun r1220 =>
 some (((), (r1220.1.2.1, ())), ((r1220.2.1.1, (r1220.2.1.2.1, ())), ()))
else
(f167v0 (((), ()), ((r1219.2.1.1, (r1219.2.1.2.1, ())), ()))).bind fun r1221 =>
 some (((), (r1221.1.2.1, ())), ((r1221.2.1.1, (r1221.2.1.2.1, ())), ()))
noncomputable def S91v0 : jjA := jjE EE Tryz.f91 i91v0 o91v0 [0] f91v0
theorem z91v0 : jje Pz 91 S91v0 := jjb G91v0 Tryz.func91 (by kernel_rfl) jja (fun y => by kernel_rfl) fun a => by kernel_rfl
noncomputable abbrev L92v0 : LS := [(88, jz8), (90, S90v0), (91, S91v0), (93, S93v0)]
theorem G92v0 : CtxGood Pz (cx EE L92v0) := gd ⟨z88v0, z90v0, z91v0, z93v0, ⟨⟩⟩
abbrev i92v0 : Shape := ⟨[tP 0 500000 0], [zB 500000 [eL .u8, eI]], 26⟩
abbrev o92v0 : Shape := ⟨[tP 0 500000 0, tP 2 2 0], [zB 500000 [eL .u8, eI], zB 2 [eS, eI, eS]], 26⟩
noncomputable def f92v0 (a : i92v0.Y) : Option o92v0.Y :=
(f93v0 (((), ()), ((a.2.1.1, (a.2.1.2.1, ())), ()))).bind fun r1231 =>
(jxt (((), ((14 : Int), ())), ((r1231.2.1.1, (r1231.2.1.2.1, ())), ()))).bind fun r1233 =>
 bif (r1233.1.2.1 == (0 : Int)) then
(jz4 (((), (([([] : Str), ([57] : Str), ([79, 110, 101] : Str), ([101, 108, 101, 118, 101, 110, 108, 101, 116, 116, 101] : Str)] : List Str), ())), ((r1233.2.1.1, (r1233.2.1.2.1, ())), ()))).bind fun r1234 =>
 some (((), ((), ())), ((r1234.2.1.1, (r1234.2.1.2.1, ())), ((r1234.1.2.1, (r1231.2.2.1.2.1, (r1231.2.2.1.2.2.1, ()))), ())))
else
 bif (r1233.1.2.1 == (1 : Int)) then
(jxt (((), ((6 : Int), ())), ((r1233.2.1.1, (r1233.2.1.2.1, ())), ()))).bind fun r1235 =>
 some (((), ((), ())), ((r1235.2.1.1, (r1235.2.1.2.1, ())), ((r1231.2.2.1.1, ((IntKind.i64.wrap (r1235.1.2.1 - (1 : Int))), (r1231.2.2.1.2.2.1, ()))), ())))
else
 bif (r1233.1.2.1 == (2 : Int)) then
(f91v0 (((), ()), ((r1233.2.1.1, (r1233.2.1.2.1, ())), ()))).bind fun r1236 =>
 some (((), ((), ())), ((r1236.2.1.1, (r1236.2.1.2.1, ())), ((r1231.2.2.1.1, (r1231.2.2.1.2.1, (r1236.1.2.1, ()))), ())))
else
 some (((), ((), ())), ((r1233.2.1.1, (r1233.2.1.2.1, ())), ((r1231.2.2.1.1, (r1231.2.2.1.2.1, (r1231.2.2.1.2.2.1, ()))), ())))
noncomputable def S92v0 : jjA := jjE EE Tryz.f92 i92v0 o92v0 [0] f92v0
theorem z92v0 : jje Pz 92 S92v0 := jjb G92v0 Tryz.func92 (by kernel_rfl) jja (fun y => by kernel_rfl) fun a => by kernel_rfl
noncomputable abbrev L94v0 : LS := [(88, jz8), (169, S169v0), (170, S170), (171, S171v0)]
theorem G94v0 : CtxGood Pz (cx EE L94v0) := gd ⟨z88v0, z169v0, z170, z171v0, ⟨⟩⟩
abbrev i94v0 : Shape := ⟨[tP 0 500000 0], [zB 500000 [eL .u8, eI]], 30⟩
abbrev o94v0 : Shape := ⟨[tP 0 500000 0, tO 2 3000128], [zB 500000 [eL .u8, eI], zR 3000128 .entry 2 0], 30⟩
noncomputable def f94v0 (a : i94v0.Y) : Option o94v0.Y :=
(f169v0 (((), ()), ((a.2.1.1, (a.2.1.2.1, ())), ()))).bind fun r1286 =>
(f170 ((r1286.2.2.1, ()), ())).bind fun r1287 =>
(jxt (((), ((14 : Int), ())), ((r1286.2.1.1, (r1286.2.1.2.1, ())), ()))).bind fun r1289 =>
 bif (r1289.1.2.1 == (0 : Int)) then
(f171v0 (((), ()), ((r1289.2.1.1, (r1289.2.1.2.1, ())), ()))).bind fun r1290 =>
(apd 48 r1287.2.1 ([(Entry.mk r1290.2.2.1.1 r1290.2.2.1.2.1 r1290.2.2.1.2.2.1 r1290.2.2.1.2.2.2.1)] : List Entry)).bind fun x1291 =>
 some (((), ((), ())), ((r1290.2.1.1, (r1290.2.1.2.1, ())), (x1291, ())))
else
 bif (r1289.1.2.1 == (1 : Int)) then
 bif (decide ((r1287.2.1.length : Int) > (0 : Int))) then
(jxt (((), ((r1287.2.1.length : Int), ())), ((r1289.2.1.1, (r1289.2.1.2.1, ())), ()))).bind fun r1292 =>
(f171v0 (((), ()), ((r1292.2.1.1, (r1292.2.1.2.1, ())), ()))).bind fun r1293 =>
(inb r1287.2.1.length r1292.1.2.1).bind fun x1294 =>
((r1287.2.1[x1294]?).bind fun q => some (Entry.mk r1293.2.2.1.1 r1293.2.2.1.2.1 r1293.2.2.1.2.2.1 r1293.2.2.1.2.2.2.1)).bind fun x1295 =>
 some (((), ((), ())), ((r1293.2.1.1, (r1293.2.1.2.1, ())), ((r1287.2.1.set x1294 x1295), ())))
else
 some (((), ((), ())), ((r1289.2.1.1, (r1289.2.1.2.1, ())), (r1287.2.1, ())))
else
 some (((), ((), ())), ((r1289.2.1.1, (r1289.2.1.2.1, ())), (r1287.2.1, ())))
noncomputable def S94v0 : jjA := jjE EE Tryz.f94 i94v0 o94v0 [0] f94v0
theorem z94v0 : jje Pz 94 S94v0 := jjb G94v0 Tryz.func94 (by kernel_rfl) jja (fun y => by kernel_rfl) fun a => by kernel_rfl
noncomputable abbrev L44v0 : LS := [(88, jz8), (89, S89v0), (90, S90v0), (91, S91v0), (92, S92v0), (93, S93v0), (94, S94v0)]
theorem G44v0 : CtxGood Pz (cx EE L44v0) := gd ⟨z88v0, z89v0, z90v0, z91v0, z92v0, z93v0, z94v0, ⟨⟩⟩
abbrev i44v0 : Shape := ⟨[tP 0 500000 0], [zB 500000 [eL .u8, eI]], 39⟩
abbrev o44v0 : Shape := ⟨[tP 0 500000 0, tP 2 2 0], [zB 500000 [eL .u8, eI], zC 5000130 .need 2 2, zC 5000131 .entry 2 3, zB 2 [eS, eS, .own 5000130, .own 5000131]], 39⟩
noncomputable def f44v0 (a : i44v0.Y) : Option o44v0.Y :=
(jz4 (((), (([([111, 110, 101] : Str), ([116, 119, 111] : Str), ([116, 104, 114, 101, 101] : Str), ([122, 105, 112] : Str)] : List Str), ())), ((a.2.1.1, (a.2.1.2.1, ())), ()))).bind fun r1299 =>
(f89v0 (((), (r1299.1.2.1, ())), ((r1299.2.1.1, (r1299.2.1.2.1, ())), ()))).bind fun r1300 =>
(jxt (((), ((14 : Int), ())), ((r1300.2.1.1, (r1300.2.1.2.1, ())), ()))).bind fun r1302 =>
 bif (r1302.1.2.1 == (0 : Int)) then
(jz4 (((), (([([] : Str), ([79, 110, 101] : Str)] : List Str), ())), ((r1302.2.1.1, (r1302.2.1.2.1, ())), ()))).bind fun r1303 =>
 some (((), ((), ())), ((r1303.2.1.1, (r1303.2.1.2.1, ())), (r1300.2.2.1, (r1300.2.2.2.1, ((r1303.1.2.1, (r1300.2.2.2.2.1.2.1, ((), ((), ())))), ())))))
else
 bif (r1302.1.2.1 == (1 : Int)) then
(f91v0 (((), ()), ((r1302.2.1.1, (r1302.2.1.2.1, ())), ()))).bind fun r1304 =>
 some (((), ((), ())), ((r1304.2.1.1, (r1304.2.1.2.1, ())), (r1300.2.2.1, (r1300.2.2.2.1, ((r1300.2.2.2.2.1.1, (r1304.1.2.1, ((), ((), ())))), ())))))
else
 bif (r1302.1.2.1 == (2 : Int)) then
(f92v0 (((), ()), ((r1302.2.1.1, (r1302.2.1.2.1, ())), ()))).bind fun r1305 =>
(f93v0 (((), ()), ((r1305.2.1.1, (r1305.2.1.2.1, ())), ()))).bind fun r1306 =>
(apd 40 r1300.2.2.1 ([(Need.mk r1305.2.2.1.1 r1305.2.2.1.2.1 r1305.2.2.1.2.2.1), (Need.mk r1306.2.2.1.1 r1306.2.2.1.2.1 r1306.2.2.1.2.2.1)] : List Need)).bind fun x1307 =>
 some (((), ((), ())), ((r1306.2.1.1, (r1306.2.1.2.1, ())), (x1307, (r1300.2.2.2.1, ((r1300.2.2.2.2.1.1, (r1300.2.2.2.2.1.2.1, ((), ((), ())))), ())))))
else
 bif (r1302.1.2.1 == (3 : Int)) then
(f94v0 (((), ()), ((r1302.2.1.1, (r1302.2.1.2.1, ())), ()))).bind fun r1308 =>
 some (((), ((), ())), ((r1308.2.1.1, (r1308.2.1.2.1, ())), (r1300.2.2.1, (r1308.2.2.1, ((r1300.2.2.2.2.1.1, (r1300.2.2.2.2.1.2.1, ((), ((), ())))), ())))))
else
 some (((), ((), ())), ((r1302.2.1.1, (r1302.2.1.2.1, ())), (r1300.2.2.1, (r1300.2.2.2.1, ((r1300.2.2.2.2.1.1, (r1300.2.2.2.2.1.2.1, ((), ((), ())))), ())))))
noncomputable def S44v0 : jjA := jjE EE Tryz.f44 i44v0 o44v0 [0] f44v0
theorem z44v0 : jje Pz 44 S44v0 := jjb G44v0 Tryz.func44 (by kernel_rfl) jja (fun y => by kernel_rfl) fun a => by kernel_rfl
abbrev OkP (p : Pack) : Prop := BdP p ∧ p.version.length ≤ 2097151 ∧ ∀ n, n ∈ p.needs → n.version.length ≤ 2097151
abbrev OkR (k : Nat) (ps : List Pack) : Prop := ps.length ≤ k ∧ ∀ p, p ∈ ps → OkP p
theorem OkR.bd {k : Nat} {ps : List Pack} (h : OkR k ps) (hk : k ≤ 2097152) : BdPs ps := ⟨Nat.le_trans h.1 hk, fun p hp => (h.2 p hp).1⟩
theorem OkR.vs {k : Nat} {ps : List Pack} (h : OkR k ps) : VS ps := fun p hp => (h.2 p hp).2
abbrev ShN (n : Need) : Prop := Sh n.name ∧ Sh n.version
def nmOut (s : Str) : Bool := !(s == [102, 114, 101, 115, 104]) && !(s == [110, 111, 98, 111, 100, 121, 115])
abbrev NmP (s : Str) : Prop := Sh s ∧ nmOut s = true
theorem nm_all {L : List Str} (h : L.all (fun s => decide (s.length ≤ 200) && nmOut s) = true) {s : Str} (hs : s ∈ L) : NmP s := by
 have := List.all_eq_true.1 h s hs
 simp only [Bool.and_eq_true, decide_eq_true_eq] at this
 exact this
abbrev ShP (p : Pack) : Prop := NmP p.name ∧ Sh p.version ∧ (p.needs.length ≤ 3 ∧ ∀ n, n ∈ p.needs → ShN n) ∧ (p.tree.length ≤ 17 ∧ ∀ e, e ∈ p.tree → ShE e)
theorem ShP.ok {p : Pack} (h : ShP p) : OkP p := by
 obtain ⟨a, b, ⟨c1, c2⟩, d1, d2⟩ := h
 have up : ∀ {s : Str}, Sh s → Bd s.length := fun h => Nat.le_trans h (by decide)
 exact ⟨⟨up a.1, up b, ⟨Nat.le_trans c1 (by decide), fun n hn => ⟨up (c2 n hn).1, up (c2 n hn).2⟩⟩, Nat.le_trans d1 (by decide), fun e he => ⟨up (d2 e he).1, up (d2 e he).2⟩⟩, Nat.le_trans b (by decide), fun n hn => Nat.le_trans (c2 n hn).2 (by decide)⟩
theorem v_l11Need (a) (m : Nat) (h : RD a.2.1.1 a.2.1.2.1 m) (hm : 3 ≤ m) : Ev (f93v0 a) (fun r => RD r.2.1.1 r.2.1.2.1 (m - 3) ∧ ShN ⟨r.2.2.1.1, r.2.2.1.2.1, r.2.2.1.2.2.1⟩) := by
 unfold f93v0
 refine Ev.bind (v_of _ m h (by omega) (by simp)) fun r1 h1 => ?_
 have s1 : Sh r1.1.2.1 := sh_all (by rfl) h1.2
 refine Ev.bind (jqH _ _ h1.1 (by omega)) fun r2 h2 => ?_
 refine Ev.ite (fun _ => ?_) fun _ => Ev.ret ⟨h2.1.less (by omega), s1, by show (0 : Nat) ≤ 200; decide⟩
 exact Ev.bind (jzf _ _ h2.1 (by omega)) fun r3 h3 => Ev.ret ⟨h3.1.less (by omega), s1, h3.2⟩
theorem v_l11Pack (a) (m : Nat) (h : RD a.2.1.1 a.2.1.2.1 m) (hm : 50 ≤ m) (hn : NmP a.1.2.1) : Ev (f89v0 a) (fun r => RD r.2.1.1 r.2.1.2.1 (m - 50) ∧ ShP ⟨r.2.2.2.2.1.1, r.2.2.2.2.1.2.1, r.2.2.1, r.2.2.2.1⟩ ∧ (r.2.2.1 : List Need).length ≤ 1) := by
 unfold f89v0
 refine Ev.bind (jzf _ m h (by omega)) fun r1 h1 => ?_
 refine Ev.bind (v_l11Tree _ _ h1.1 (by omega)) fun r2 h2 => ?_
 refine Ev.bind (v_of _ _ h2.1 (by omega) (by simp)) fun r3 h3 => ?_
 have hg : (r3.1.2.1 : Str).length ≤ 200 ∧ NoBr r3.1.2.1 := by
  have := h3.2
  simp only [List.mem_cons, List.not_mem_nil, or_false] at this
  rcases this with e | e | e | e | e
  all_goals (rw [e]; exact ⟨by decide, by decide⟩)
 refine Ev.bind (v_TreePart ((r2.2.2.1, (r3.1.2.1, ())), ()) h2.2 hg.1 hg.2) fun r4 h4 => ?_
 refine Ev.bind (jqH _ _ h3.1 (by omega)) fun r5 h5 => ?_
 have ht : (r4.2.1 : List Entry).length ≤ 17 ∧ ∀ e, e ∈ (r4.2.1 : List Entry) → ShE e := ⟨Nat.le_succ_of_le h4.1, h4.2⟩
 refine Ev.ite (fun _ => ?_) fun _ => Ev.ret ⟨h5.1.less (by omega), ⟨hn, h1.2, ⟨by show (0 : Nat) ≤ 3; decide, fun n hn => by cases hn⟩, ht⟩, by show (0 : Nat) ≤ 1; decide⟩
 refine Ev.bind (v_l11Need _ _ h5.1 (by omega)) fun r6 h6 => ?_
 refine Ev.eq (jqc (by decide) (by unfold Sm; simp)) ?_
 refine Ev.ret ⟨h6.1.less (by omega), ⟨hn, h1.2, ⟨by show (1 : Nat) ≤ 3; decide, fun n hn => ?_⟩, ht⟩, by show (1 : Nat) ≤ 1; decide⟩
 have hn : n ∈ ([] : List Need) ++ [_] := hn
 rw [List.nil_append, List.mem_singleton] at hn
 rw [hn]; exact h6.2
theorem jzg (a) (m : Nat) (h : RD a.2.1.1 a.2.1.2.1 m) (hm : 2 ≤ m) : Ev (f91v0 a) (fun r => RD r.2.1.1 r.2.1.2.1 (m - 2) ∧ Sh r.1.2.1) := by
 unfold f91v0
 refine Ev.bind (jqH _ m h (by omega)) fun r1 h1 => ?_
 refine Ev.ite (fun _ => ?_) fun _ => ?_
 ·exact Ev.bind (v_of _ _ h1.1 (by omega) (by simp)) fun r hr => Ev.ret ⟨hr.1.less (by omega), sh_all (by rfl) hr.2⟩
 ·exact Ev.bind (jzf _ _ h1.1 (by omega)) fun r hr => Ev.ret ⟨hr.1.less (by omega), hr.2⟩
theorem v_l11AnyPath (a) (m : Nat) (h : RD a.2.1.1 a.2.1.2.1 m) (hm : 2 ≤ m) : Ev (f242v0 a) (fun r => RD r.2.1.1 r.2.1.2.1 (m - 2) ∧ Sh r.1.2.1) := by
 unfold f242v0
 refine Ev.bind (jqH _ m h (by omega)) fun r1 h1 => ?_
 refine Ev.ite (fun _ => ?_) fun _ => ?_
 ·exact Ev.bind (v_of _ _ h1.1 (by omega) (by simp)) fun r hr => Ev.ret ⟨hr.1.less (by omega), sh_all (by rfl) hr.2⟩
 ·exact Ev.bind (v_l11Path _ _ h1.1 (by omega)) fun r hr => Ev.ret ⟨hr.1.less (by omega), hr.2⟩
theorem v_l11AnyNeed (a) (m : Nat) (h : RD a.2.1.1 a.2.1.2.1 m) (hm : 7 ≤ m) : Ev (f92v0 a) (fun r => RD r.2.1.1 r.2.1.2.1 (m - 7) ∧ ShN ⟨r.2.2.1.1, r.2.2.1.2.1, r.2.2.1.2.2.1⟩) := by
 unfold f92v0
 refine Ev.bind (v_l11Need _ m h (by omega)) fun r1 h1 => ?_
 refine Ev.bind (jqH _ _ h1.1 (by omega)) fun r2 h2 => ?_
 refine Ev.ite (fun _ => ?_) fun _ => Ev.ite (fun _ => ?_) fun _ => Ev.ite (fun _ => ?_) fun _ => ?_
 ·exact Ev.bind (v_of _ _ h2.1 (by omega) (by simp)) fun r hr => Ev.ret ⟨hr.1.less (by omega), sh_all (by rfl) hr.2, h1.2.2⟩
 ·exact Ev.bind (jqH _ _ h2.1 (by omega)) fun r hr => Ev.ret ⟨hr.1.less (by omega), h1.2⟩
 ·exact Ev.bind (jzg _ _ h2.1 (by omega)) fun r hr => Ev.ret ⟨hr.1.less (by omega), h1.2.1, hr.2⟩
 ·exact Ev.ret ⟨h2.1.less (by omega), h1.2⟩
theorem v_l11AnyEntry (a) (m : Nat) (h : RD a.2.1.1 a.2.1.2.1 m) (hm : 8 ≤ m) : Ev (f171v0 a) (fun r => RD r.2.1.1 r.2.1.2.1 (m - 8) ∧ ShE ⟨r.2.2.1.1, r.2.2.1.2.1, r.2.2.1.2.2.1, r.2.2.1.2.2.2.1⟩) := by
 unfold f171v0
 refine Ev.bind (v_l11Entry _ m h (by omega)) fun r1 h1 => ?_
 refine Ev.bind (jqH _ _ h1.1 (by omega)) fun r2 h2 => ?_
 refine Ev.ite (fun _ => ?_) fun _ => Ev.ite (fun _ => ?_) fun _ => Ev.ite (fun _ => ?_) fun _ => Ev.ite (fun _ => ?_) fun _ => ?_
 ·exact Ev.bind (v_l11AnyPath _ _ h2.1 (by omega)) fun r hr => Ev.ret ⟨hr.1.less (by omega), hr.2, h1.2.2⟩
 ·exact Ev.bind (jqH _ _ h2.1 (by omega)) fun r hr => Ev.ret ⟨hr.1.less (by omega), h1.2⟩
 ·exact Ev.bind (v_one _ _ h2.1 (by omega) (by simp)) fun r hr => Ev.ret ⟨hr.1.less (by omega), h1.2⟩
 ·refine Ev.bind (v_l1Many _ (by simp) (by show (0 : Int) ≤ 81; decide) (by show (81 : Int) ≤ 127; decide)) fun q hq => ?_
  refine Ev.bind (v_of _ _ h2.1 (by omega) (by simp)) fun r hr => Ev.ret ⟨hr.1.less (by omega), h1.2.1, ?_⟩
  have := hr.2
  simp only [List.mem_cons, List.not_mem_nil, or_false] at this
  rcases this with e | e | e | e
  ·show (r.1.2.1 : Str).length ≤ 200; rw [e]; decide
  ·show (r.1.2.1 : Str).length ≤ 200; rw [e]; exact hq
  ·show (r.1.2.1 : Str).length ≤ 200; rw [e]; decide
  ·show (r.1.2.1 : Str).length ≤ 200; rw [e]; decide
 ·exact Ev.ret ⟨h2.1.less (by omega), h1.2⟩
abbrev ShT' (t : List Entry) : Prop := t.length ≤ 17 ∧ ∀ e, e ∈ t → ShE e
theorem v_l11AnyTree (a) (m : Nat) (h : RD a.2.1.1 a.2.1.2.1 m) (hm : 50 ≤ m) : Ev (f94v0 a) (fun r => RD r.2.1.1 r.2.1.2.1 (m - 50) ∧ ShT' r.2.2.1) := by
 unfold f94v0
 refine Ev.bind (v_l11Tree _ m h (by omega)) fun r1 h1 => ?_
 obtain ⟨u0, ⟨u1, (t : List Entry), u2⟩⟩ := r1
 have ht : ShT t := h1.2
 have htl := ht.1
 refine Ev.eq (v_l2Copy ((t, ()), ()) (by show t.length ≤ 2097152; omega)) ?_
 refine Ev.bind (jqH _ _ h1.1 (by omega)) fun r2 h2 => ?_
 have ht' : ShT' t := ⟨Nat.le_succ_of_le ht.1, ht.2⟩
 refine Ev.ite (fun _ => ?_) fun _ => Ev.ite (fun _ => ?_) fun _ => Ev.ret ⟨h2.1.less (by omega), ht'⟩
 ·refine Ev.bind (v_l11AnyEntry _ _ h2.1 (by omega)) fun r3 h3 => ?_
  refine Ev.eq (jqc (xs := t) (by decide) (by unfold Sm; simp; omega)) ?_
  refine Ev.ret ⟨h3.1.less (by omega), by show (t ++ [_]).length ≤ 17; simp; omega, fun e he => ?_⟩
  have he : e ∈ t ++ [_] := he
  rcases List.mem_append.1 he with he | he
  ·exact ht.2 e he
  ·rw [List.mem_singleton.1 he]; exact h3.2
 ·refine Ev.ite (fun hc => ?_) fun _ => Ev.ret ⟨h2.1.less (by omega), ht'⟩
  have hc : (t.length : Int) > 0 := of_decide_eq_true hc
  refine Ev.bind (jqH _ _ h2.1 (by omega)) fun r3 h3 => ?_
  obtain ⟨⟨v1, (q : Int), v2⟩, v3⟩ := r3
  have hq0 : 0 ≤ q := h3.2.1
  have hq1 : q < (t.length : Int) := h3.2.2 (by show (1 : Int) ≤ (t.length : Int); omega)
  obtain ⟨j, rfl⟩ := Int.eq_ofNat_of_zero_le hq0
  have hj : j < t.length := by omega
  refine Ev.bind (v_l11AnyEntry _ _ h3.1 (by omega)) fun r4 h4 => ?_
  refine Ev.eq (jxY (n := t.length) (i := j) hj) ?_
  refine Ev.eq (x := Entry.mk r4.2.2.1.1 r4.2.2.1.2.1 r4.2.2.1.2.2.1 r4.2.2.1.2.2.2.1) (by show (t[j]?).bind _ = _; rw [List.getElem?_eq_getElem hj]; rfl) ?_
  exact Ev.ret ⟨h4.1.less (by omega), by show (t.set _ _).length ≤ 17; rw [List.length_set]; omega, shE_set ht.2 h4.2⟩
theorem v_l11AnyPack (a) (m : Nat) (h : RD a.2.1.1 a.2.1.2.1 m) (hm : 110 ≤ m) : Ev (f44v0 a) (fun r => RD r.2.1.1 r.2.1.2.1 (m - 110) ∧ ShP ⟨r.2.2.2.2.1.1, r.2.2.2.2.1.2.1, r.2.2.1, r.2.2.2.1⟩) := by
 unfold f44v0
 refine Ev.bind (v_of _ m h (by omega) (by simp)) fun r1 h1 => ?_
 refine Ev.bind (v_l11Pack _ _ h1.1 (by omega) (nm_all (by rfl) h1.2)) fun r2 h2 => ?_
 obtain ⟨hp1, hp2, hp3, hp4⟩ := h2.2.1
 refine Ev.bind (jqH _ _ h2.1 (by omega)) fun r3 h3 => ?_
 refine Ev.ite (fun _ => ?_) fun _ => Ev.ite (fun _ => ?_) fun _ => Ev.ite (fun _ => ?_) fun _ => Ev.ite (fun _ => ?_) fun _ => ?_
 ·exact Ev.bind (v_of _ _ h3.1 (by omega) (by simp)) fun r hr => Ev.ret ⟨hr.1.less (by omega), nm_all (by rfl) hr.2, hp2, hp3, hp4⟩
 ·exact Ev.bind (jzg _ _ h3.1 (by omega)) fun r hr => Ev.ret ⟨hr.1.less (by omega), hp1, hr.2, hp3, hp4⟩
 ·refine Ev.bind (v_l11AnyNeed _ _ h3.1 (by omega)) fun r4 h4 => ?_
  refine Ev.bind (v_l11Need _ _ h4.1 (by omega)) fun r5 h5 => ?_
  have hl := h2.2.2
  refine Ev.eq (jqc (xs := (r2.2.2.1 : List Need)) (by decide) (by unfold Sm; simp; omega)) ?_
  refine Ev.ret ⟨h5.1.less (by omega), hp1, hp2, ⟨by show ((r2.2.2.1 : List Need) ++ [_, _]).length ≤ 3; simp; omega, fun n hn => ?_⟩, hp4⟩
  have hn : n ∈ (r2.2.2.1 : List Need) ++ [_, _] := hn
  rcases List.mem_append.1 hn with hn | hn
  ·exact hp3.2 n hn
  ·simp only [List.mem_cons, List.not_mem_nil, or_false] at hn
   rcases hn with rfl | rfl
   ·exact h4.2
   ·exact h5.2
 ·exact Ev.bind (v_l11AnyTree _ _ h3.1 (by omega)) fun r hr => Ev.ret ⟨hr.1.less (by omega), hp1, hp2, hp3, hr.2⟩
 ·exact Ev.ret ⟨h3.1.less (by omega), hp1, hp2, hp3, hp4⟩
noncomputable abbrev L165 : LS := [(170, S170)]
theorem G165 : CtxGood Pz (cx EE L165) := gd ⟨z170, ⟨⟩⟩
abbrev i165 : Shape := ⟨[tA 0 [eS, eS, eL .need, eL .entry]], [], 13⟩
abbrev o165 : Shape := ⟨[tP 2 2 0], [zC 5000130 .need 2 2, zC 5000131 .entry 2 3, zB 2 [eS, eS, .own 5000130, .own 5000131]], 13⟩
noncomputable def f165 (a : i165.Y) : Option o165.Y :=
(apd 40 ([] : List Need) a.1.1.2.2.1).bind fun x939 =>
(f170 ((a.1.1.2.2.2.1, ()), ())).bind fun r940 =>
 some (((), ()), (x939, (r940.2.1, ((a.1.1.1, (a.1.1.2.1, ((), ((), ())))), ()))))
noncomputable def S165 : jjA := jjE EE Tryz.f165 i165 o165 [] f165
theorem z165 : jje Pz 165 S165 := jjb G165 Tryz.func165 (by kernel_rfl) jja (fun y => by kernel_rfl) fun a => by kernel_rfl
noncomputable abbrev L236 : LS := [(126, S126)]
theorem G236 : CtxGood Pz (cx EE L236) := gd ⟨z126, ⟨⟩⟩
abbrev i236 : Shape := ⟨[tA 0 [eL .pack], tL 1 .pack], [], 15⟩
abbrev o236 : Shape := ⟨[tP 4 4 0, tI 5], [zB 4 [eL .pack]], 15⟩
noncomputable def f236 (a : i236.Y) : Option o236.Y :=
(f126 ((a.1.2.1, ()), ())).bind fun r1168 =>
 bif (r1168.1.1 != (0 : Int)) then
 some (((), (r1168.1.1, ())), ((a.1.1.1, ()), ()))
else
 some (((), ((0 : Int), ())), ((a.1.2.1, ()), ()))
noncomputable def S236 : jjA := jjE EE Tryz.f236 i236 o236 [] f236
theorem z236 : jje Pz 236 S236 := jjb G236 Tryz.func236 (by kernel_rfl) jja (fun y => by kernel_rfl) fun a => by kernel_rfl
noncomputable abbrev L237 : LS := [(165, S165)]
theorem G237 : CtxGood Pz (cx EE L237) := gd ⟨z165, ⟨⟩⟩
abbrev s237_28 : Shape := ⟨[tL 0 .pack, tP 3 3 0, tO 4 3000256, tI 5], [zB 3 [eS, eS, eL .need, eL .entry], zR 3000256 .pack 4 0], 35⟩
abbrev t237_28 : List OSh := [(.exit 0, ⟨[tL 0 .pack, tP 3 3 0, tO 4 3000256, tI 5], [zB 3 [eS, eS, eL .need, eL .entry], zR 3000256 .pack 4 0], 35⟩)]
noncomputable def g237_28 (y : s237_28.Y) : LR s237_28 t237_28 :=
 bif (decide (y.1.2.2.2.1 < (y.1.1.length : Int))) then
(ix y.1.1 y.1.2.2.2.1).bind fun x931 =>
 bif (Op.bytesLess x931.name y.2.1.1) then
 some (.inl ((y.1.1, ((), ((), ((IntKind.i64.wrap (y.1.2.2.2.1 + (1 : Int))), ())))), ((y.2.1.1, (y.2.1.2.1, (y.2.1.2.2.1, (y.2.1.2.2.2.1, ())))), (y.2.2.1, ()))))
else
 some (.inr (((y.1.1, ((), ((), (y.1.2.2.2.1, ())))), ((y.2.1.1, (y.2.1.2.1, (y.2.1.2.2.1, (y.2.1.2.2.2.1, ())))), (y.2.2.1, ())))))
else
 some (.inr (((y.1.1, ((), ((), (y.1.2.2.2.1, ())))), ((y.2.1.1, (y.2.1.2.1, (y.2.1.2.2.1, (y.2.1.2.2.2.1, ())))), (y.2.2.1, ())))))
noncomputable def l237_28 : s237_28.Y → Option (YS t237_28) := jjv g237_28
theorem q237_28 : jjj Pz (jjc (jjh Tryz.f237) 1 28) (jjg s237_28 t237_28 l237_28) := jjf G237 (by kernel_rfl) jja fun y => by kernel_rfl
abbrev i237 : Shape := ⟨[tL 0 .pack, tA 1 [eS, eS, eL .need, eL .entry]], [], 35⟩
abbrev o237 : Shape := ⟨[tO 4 3000256], [zR 3000256 .pack 4 0], 35⟩
noncomputable def f237 (a : i237.Y) : Option o237.Y :=
(l237_28 ((a.1.1, ((), ((), ((0 : Int), ())))), ((a.1.2.1.1, (a.1.2.1.2.1, (a.1.2.1.2.2.1, (a.1.2.1.2.2.2.1, ())))), (([] : List Pack), ())))).bind fun r945 =>
(jqv r945.1.1 (0 : Int) r945.1.2.2.2.1).bind fun x946 =>
(apd 80 ([] : List Pack) x946).bind fun x947 =>
(f165 (((r945.2.1.1, (r945.2.1.2.1, (r945.2.1.2.2.1, (r945.2.1.2.2.2.1, ())))), ()), ())).bind fun r948 =>
(apd 80 x947 ([(Pack.mk r948.2.2.2.1.1 r948.2.2.2.1.2.1 r948.2.1 r948.2.2.1)] : List Pack)).bind fun x949 =>
(jqv r945.1.1 r945.1.2.2.2.1 (r945.1.1.length : Int)).bind fun x950 =>
(apd 80 x949 x950).bind fun x951 =>
 some (((), ()), (x951, ()))
noncomputable def S237 : jjA := jjE EE Tryz.f237 i237 o237 [] f237
theorem z237 : jje Pz 237 S237 := jjb G237 Tryz.func237 (by kernel_rfl) (frc q237_28 jja) (fun y => by kernel_rfl) fun a => by kernel_rfl
noncomputable abbrev L166 : LS := [(14, S14), (235, S235), (236, S236), (237, S237)]
theorem G166 : CtxGood Pz (cx EE L166) := gd ⟨z14, z235, z236, z237, ⟨⟩⟩
abbrev i166 : Shape := ⟨[tA 0 [eL .pack], tA 1 [eS, eS, eL .need, eL .entry]], [], 27⟩
abbrev o166 : Shape := ⟨[tP 4 4 0, tI 5], [zB 4 [eL .pack]], 27⟩
noncomputable def f166 (a : i166.Y) : Option o166.Y :=
(f14 (((a.1.2.1.1, (a.1.2.1.2.1, (a.1.2.1.2.2.1, (a.1.2.1.2.2.2.1, ())))), ()), ())).bind fun r1171 =>
 bif (!r1171.1.1) then
 some (((), ((1 : Int), ())), ((a.1.1.1, ()), ()))
else
(f235 ((a.1.1.1, (a.1.2.1.1, ())), ())).bind fun r1173 =>
 bif (decide (r1173.1.1 ≥ (0 : Int))) then
 some (((), ((2 : Int), ())), ((a.1.1.1, ()), ()))
else
(f237 ((a.1.1.1, ((a.1.2.1.1, (a.1.2.1.2.1, (a.1.2.1.2.2.1, (a.1.2.1.2.2.2.1, ())))), ())), ())).bind fun r1174 =>
(f236 (((a.1.1.1, ()), (r1174.2.1, ())), ())).bind fun r1175 =>
 some (((), (r1175.1.2.1, ())), ((r1175.2.1.1, ()), ()))
noncomputable def S166 : jjA := jjE EE Tryz.f166 i166 o166 [] f166
theorem z166 : jje Pz 166 S166 := jjb G166 Tryz.func166 (by kernel_rfl) jja (fun y => by kernel_rfl) fun a => by kernel_rfl
noncomputable abbrev L86 : LS := [(165, S165)]
theorem G86 : CtxGood Pz (cx EE L86) := gd ⟨z165, ⟨⟩⟩
abbrev s86_58 : Shape := ⟨[tP 1 1 0, tP 2 2 0, tP 3 3 0, tI 4], [zB 1 [eL .pack], zC 5000128 .pack 2 0, zB 2 [.own 5000128], zC 5000192 .pack 3 0, zB 3 [.own 5000192]], 25⟩
abbrev t86_58 : List OSh := [(.exit 0, ⟨[tP 2 2 0, tP 3 3 0], [zC 5000128 .pack 2 0, zB 2 [.own 5000128], zC 5000192 .pack 3 0, zB 3 [.own 5000192]], 25⟩)]
noncomputable def g86_58 (y : s86_58.Y) : LR s86_58 t86_58 :=
 bif (decide (y.1.2.2.2.1 < (y.2.1.1.length : Int))) then
(ix y.2.1.1 y.1.2.2.2.1).bind fun x1191 =>
(f165 (((x1191.name, (x1191.version, (x1191.needs, (x1191.tree, ())))), ()), ())).bind fun r1192 =>
(apd 80 y.2.2.2.2.1 ([(Pack.mk r1192.2.2.2.1.1 r1192.2.2.2.1.2.1 r1192.2.1 r1192.2.2.1)] : List Pack)).bind fun x1193 =>
 some (.inl (((), ((), ((), ((IntKind.i64.wrap (y.1.2.2.2.1 + (1 : Int))), ())))), ((y.2.1.1, ()), (y.2.2.1, (((), ()), (x1193, (((), ()), ())))))))
else
 some (.inr ((((), ((), ())), (y.2.2.1, (((), ()), (y.2.2.2.2.1, (((), ()), ())))))))
noncomputable def l86_58 : s86_58.Y → Option (YS t86_58) := jjv g86_58
theorem q86_58 : jjj Pz (jjc (jjh Tryz.f86) 1 58) (jjg s86_58 t86_58 l86_58) := jjf G86 (by kernel_rfl) jja fun y => by kernel_rfl
abbrev i86 : Shape := ⟨[tA 0 [eL .pack]], [], 25⟩
abbrev o86 : Shape := ⟨[tP 2 2 0], [zC 5000128 .pack 2 0, zB 2 [.own 5000128]], 25⟩
noncomputable def f86 (a : i86.Y) : Option o86.Y :=
(l86_58 (((), ((), ((), ((0 : Int), ())))), ((a.1.1.1, ()), (([] : List Pack), (((), ()), (([] : List Pack), (((), ()), ()))))))).bind fun r1195 =>
 some (((), ()), (r1195.2.2.2.1, (((), ()), ())))
noncomputable def S86 : jjA := jjE EE Tryz.f86 i86 o86 [] f86
theorem z86 : jje Pz 86 S86 := jjb G86 Tryz.func86 (by kernel_rfl) (frc q86_58 jja) (fun y => by kernel_rfl) fun a => by kernel_rfl
noncomputable abbrev L87v0 : LS := [(88, jz8), (89, S89v0), (90, S90v0), (166, S166)]
theorem G87v0 : CtxGood Pz (cx EE L87v0) := gd ⟨z88v0, z89v0, z90v0, z166, ⟨⟩⟩
abbrev s87v0_58 : Shape := ⟨[tP 0 500000 0, tP 2 2 0, tP 3 3 0, tI 4], [zB 500000 [eL .u8, eI], zC 5000128 .pack 2 0, zB 2 [.own 5000128], zB 3 [eL .pack]], 23⟩
abbrev t87v0_58 : List OSh := [(.exit 0, ⟨[tP 0 500000 0, tP 2 2 0, tP 3 3 0], [zB 500000 [eL .u8, eI], zC 5000128 .pack 2 0, zB 2 [.own 5000128], zB 3 [eL .pack]], 23⟩)]
noncomputable def g87v0_58 (y : s87v0_58.Y) : LR s87v0_58 t87v0_58 :=
 bif (decide (y.1.2.2.2.1 > (0 : Int))) then
(jz4 (((), (([([111, 110, 101] : Str), ([116, 119, 111] : Str), ([116, 104, 114, 101, 101] : Str), ([122, 105, 112] : Str)] : List Str), ())), ((y.2.1.1, (y.2.1.2.1, ())), ()))).bind fun r1180 =>
(f89v0 (((), (r1180.1.2.1, ())), ((r1180.2.1.1, (r1180.2.1.2.1, ())), ()))).bind fun r1181 =>
(f166 (((y.2.2.2.2.1.1, ()), ((r1181.2.2.2.2.1.1, (r1181.2.2.2.2.1.2.1, (r1181.2.2.1, (r1181.2.2.2.1, ())))), ())), ())).bind fun r1182 =>
 some (.inl (((), ((), ((), ((IntKind.i64.wrap (y.1.2.2.2.1 - (1 : Int))), ())))), ((r1181.2.1.1, (r1181.2.1.2.1, ())), (y.2.2.1, (((), ()), ((r1182.2.1.1, ()), ()))))))
else
 some (.inr ((((), ((), ((), ()))), ((y.2.1.1, (y.2.1.2.1, ())), (y.2.2.1, (((), ()), ((y.2.2.2.2.1.1, ()), ())))))))
noncomputable def l87v0_58 : s87v0_58.Y → Option (YS t87v0_58) := jjv g87v0_58
theorem q87v0_58 : jjj Pz (jjc (jjh Tryz.f87) 1 58) (jjg s87v0_58 t87v0_58 l87v0_58) := jjf G87v0 (by kernel_rfl) jja fun y => by kernel_rfl
abbrev i87v0 : Shape := ⟨[tP 0 500000 0], [zB 500000 [eL .u8, eI]], 23⟩
abbrev o87v0 : Shape := ⟨[tP 0 500000 0, tP 2 2 0], [zB 500000 [eL .u8, eI], zB 2 [eL .pack]], 23⟩
noncomputable def f87v0 (a : i87v0.Y) : Option o87v0.Y :=
(jxt (((), ((5 : Int), ())), ((a.2.1.1, (a.2.1.2.1, ())), ()))).bind fun r1185 =>
(l87v0_58 (((), ((), ((), (r1185.1.2.1, ())))), ((r1185.2.1.1, (r1185.2.1.2.1, ())), (([] : List Pack), (((), ()), ((([] : List Pack), ()), ())))))).bind fun r1186 =>
 some (((), ((), ())), ((r1186.2.1.1, (r1186.2.1.2.1, ())), ((r1186.2.2.2.2.1.1, ()), ())))
noncomputable def S87v0 : jjA := jjE EE Tryz.f87 i87v0 o87v0 [0] f87v0
theorem z87v0 : jje Pz 87 S87v0 := jjb G87v0 Tryz.func87 (by kernel_rfl) (frc q87v0_58 jja) (fun y => by kernel_rfl) fun a => by kernel_rfl
noncomputable abbrev L43v0 : LS := [(44, S44v0), (86, S86), (87, S87v0), (88, jz8)]
theorem G43v0 : CtxGood Pz (cx EE L43v0) := gd ⟨z44v0, z86, z87v0, z88v0, ⟨⟩⟩
abbrev i43v0 : Shape := ⟨[tP 0 500000 0], [zB 500000 [eL .u8, eI]], 29⟩
abbrev o43v0 : Shape := ⟨[tP 0 500000 0, tP 2 2 0], [zB 500000 [eL .u8, eI], zB 2 [eL .pack]], 29⟩
noncomputable def f43v0 (a : i43v0.Y) : Option o43v0.Y :=
(f87v0 (((), ()), ((a.2.1.1, (a.2.1.2.1, ())), ()))).bind fun r1314 =>
(f86 (((r1314.2.2.1.1, ()), ()), ())).bind fun r1315 =>
(jxt (((), ((12 : Int), ())), ((r1314.2.1.1, (r1314.2.1.2.1, ())), ()))).bind fun r1317 =>
 bif (r1317.1.2.1 == (0 : Int)) then
(f44v0 (((), ()), ((r1317.2.1.1, (r1317.2.1.2.1, ())), ()))).bind fun r1318 =>
(apd 80 r1315.2.1 ([(Pack.mk r1318.2.2.2.2.1.1 r1318.2.2.2.2.1.2.1 r1318.2.2.1 r1318.2.2.2.1)] : List Pack)).bind fun x1319 =>
 some (((), ((), ())), ((r1318.2.1.1, (r1318.2.1.2.1, ())), ((x1319, ()), ())))
else
 bif (r1317.1.2.1 == (1 : Int)) then
 bif (decide ((r1315.2.1.length : Int) > (0 : Int))) then
(jqv r1315.2.1 (1 : Int) (r1315.2.1.length : Int)).bind fun x1320 =>
 some (((), ((), ())), ((r1317.2.1.1, (r1317.2.1.2.1, ())), ((x1320, ()), ())))
else
 some (((), ((), ())), ((r1317.2.1.1, (r1317.2.1.2.1, ())), ((r1315.2.1, ()), ())))
else
 some (((), ((), ())), ((r1317.2.1.1, (r1317.2.1.2.1, ())), ((r1315.2.1, ()), ())))
noncomputable def S43v0 : jjA := jjE EE Tryz.f43 i43v0 o43v0 [0] f43v0
theorem z43v0 : jje Pz 43 S43v0 := jjb G43v0 Tryz.func43 (by kernel_rfl) jja (fun y => by kernel_rfl) fun a => by kernel_rfl
theorem v_l9Check (a) (hb : BdPs a.1.1) (hv : VS a.1.1) : f126 a = some ((jxm a.1.1, ()), ()) := by
 obtain ⟨⟨ps, u⟩, u'⟩ := a
 have hl : ps.length ≤ 2097152 := hb.1
 have key : l126_26 ((ps, ((0 : Int), ())), ()) = some (bif jqu (okP ps) 0 ps then .inr ((ps, ()), ()) else .inl (((1 : Int), ()), ())) := by
  refine jjR g126_26 ps (fun i => ((ps, ((i : Int), ())), ())) _ _ _ (fun i x hx => ?_) ?_
  ·have hi := jju hx
   have hw : Sm i := by unfold Sm; omega
   have hbx := hb.2 x (List.mem_of_getElem? hx)
   simp only [g126_26, jjx hi, cond_true, g126_840, jjs, hx, Option.bind_some]
   rw [v_PackOk _ hbx]
   simp only [Option.bind_some, okP, dgt0]
   cases jxL x with
   | false => rfl
   | true =>
    simp only [Bool.not_true, cond_false, Bool.true_and, lessP]
    cases i with
    | zero => simp only [beq_self_eq_true, Bool.not_true, cond_false, Option.bind_some, Bool.true_or, cond_true, jjk hw]
    | succ i =>
     have h0 : (i + 1 == 0) = false := rfl
     have hi' : i < ps.length := by omega
     obtain ⟨q, hq⟩ : ∃ q, ps[i]? = some q := ⟨ps[i], List.getElem?_eq_getElem hi'⟩
     simp only [h0, Bool.not_false, cond_true, wrap_sub1 (i := i) (by unfold Sm; omega), jjs, hq, hx, Option.bind_some, Bool.false_or, Nat.add_sub_cancel]
     cases Op.bytesLess q.name x.name with
     | false => rfl
     | true => simp only [Bool.not_true, cond_false, cond_true, jjk hw]
  ·simp only [g126_26, jjF, cond_false]
 rw [okP_all] at key
 have h5 : decide ((ps.length : Int) > 5) = !decide (ps.length ≤ 5) := by by_cases h : ps.length ≤ 5 <;> simp only [h, decide_true, decide_false, Bool.not_true, Bool.not_false, decide_eq_true_eq, decide_eq_false_iff_not] <;> omega
 simp only [f126, key, Option.bind_some, jxm]
 cases hA : (ps.all jxL && ascP ps) with
 | false => rfl
 | true =>
  have hk : ps.all jxL = true := by simp only [Bool.and_eq_true] at hA; exact hA.1
  obtain ⟨out, ht⟩ := v_l9Tree ((ps, ()), ()) hb hk
  have hn := v_l9Needs ((ps, ()), ()) hb hv
  simp only [cond_true, Option.bind_some, ht, h5]
  cases decide (ps.length ≤ 5) with
  | false => rfl
  | true =>
   simp only [Bool.not_true, cond_false, hn, Option.bind_some]
   cases ps.all (fun p => p.needs.all (jzp ps)) <;> cases (jj4 [] ps).isSome <;> rfl
theorem v_l9Pack (a) (h : BdP ⟨a.1.1.1, a.1.1.2.1, a.1.1.2.2.1, a.1.1.2.2.2.1⟩) : f165 a = some (((), ()), (a.1.1.2.2.1, (a.1.1.2.2.2.1, ((a.1.1.1, (a.1.1.2.1, ((), ((), ())))), ())))) := by
 obtain ⟨⟨⟨name, version, needs, tree, u⟩, u'⟩, u''⟩ := a
 have h1 : needs.length ≤ 2097152 := h.2.2.1.1
 have h2 := v_l2Copy ((tree, ()), ()) h.2.2.2.1
 simp only [f165, jqc (show (40 : Nat) ≤ 100 by decide) (show Sm (([] : List Need).length + needs.length) by unfold Sm; simp; omega), List.nil_append, Option.bind_some, h2]
def jzU (ps : List Pack) (n : Str) : Nat := (ps.takeWhile fun p => Op.bytesLess p.name n).length
theorem posP_le (ps : List Pack) (n : Str) : jzU ps n ≤ ps.length := (List.takeWhile_prefix _).length_le
def jxN (ps : List Pack) (p : Pack) : List Pack := ps.take (jzU ps p.name) ++ [p] ++ ps.drop (jzU ps p.name)
theorem withL_len (ps : List Pack) (p : Pack) : (jxN ps p).length = ps.length + 1 := by
 have := posP_le ps p.name
 unfold jxN
 simp only [List.length_append, List.length_take, List.length_drop, List.length_cons, List.length_nil]; omega
theorem withL_mem {ps : List Pack} {p x : Pack} (h : x ∈ jxN ps p) : x = p ∨ x ∈ ps := by
 unfold jxN at h
 simp only [List.mem_append, List.mem_singleton] at h
 rcases h with (h | h) | h
 ·exact .inr (List.mem_of_mem_take h)
 ·exact .inl h
 ·exact .inr (List.mem_of_mem_drop h)
theorem withL_ok {k : Nat} {ps : List Pack} {p : Pack} (h : OkR k ps) (hp : OkP p) : OkR (k + 1) (jxN ps p) :=
 ⟨by rw [withL_len]; exact Nat.succ_le_succ h.1, fun x hx => by
  rcases withL_mem hx with rfl | hx
  ·exact hp
  ·exact h.2 x hx⟩
theorem v_l9With (a) (h1 : a.1.1.length ≤ 2097151) (hp : BdP ⟨a.1.2.1.1, a.1.2.1.2.1, a.1.2.1.2.2.1, a.1.2.1.2.2.2.1⟩) : f237 a = some (((), ()), (jxN a.1.1 ⟨a.1.2.1.1, a.1.2.1.2.1, a.1.2.1.2.2.1, a.1.2.1.2.2.2.1⟩, ())) := by
 obtain ⟨⟨ps, ⟨name, version, needs, tree, u0⟩, u⟩, u'⟩ := a
 have h1 : ps.length ≤ 2097151 := h1
 have key : ∀ (r : List Pack) (k : Nat), ps.drop k = r → k ≤ ps.length → l237_28 ((ps, ((), ((), ((k : Int), ())))), ((name, (version, (needs, (tree, ())))), (([] : List Pack), ()))) =
   some ((ps, ((), ((), (((k + (r.takeWhile fun p => Op.bytesLess p.name name).length : Nat) : Int), ())))), ((name, (version, (needs, (tree, ())))), (([] : List Pack), ()))) := by
  intro r
  induction r with
  | nil =>
   intro k hr hk
   have := drop_nil hr
   obtain rfl : k = ps.length := by omega
   refine jjP ?_
   simp only [g237_28, jjF, cond_false, List.takeWhile_nil, List.length_nil, Nat.add_zero]
  | cons q r ih =>
   intro k hr hk
   obtain ⟨c1, c2, c3⟩ := jqw hr
   have hw : Sm k := by unfold Sm; omega
   rw [List.takeWhile_cons]
   cases hq : Op.bytesLess q.name name with
   | false =>
    refine jjP ?_
    simp only [g237_28, jjx c3, cond_true, jjs, c1, Option.bind_some, hq, cond_false]
    rfl
   | true =>
    have step : g237_28 ((ps, ((), ((), ((k : Int), ())))), ((name, (version, (needs, (tree, ())))), (([] : List Pack), ()))) = some (.inl ((ps, ((), ((), (((k + 1 : Nat) : Int), ())))), ((name, (version, (needs, (tree, ())))), (([] : List Pack), ())))) := by
     simp only [g237_28, jjx c3, cond_true, jjs, c1, Option.bind_some, hq, jjk hw]
    refine Eq.trans (jqr step) (Eq.trans (ih (k + 1) c2 c3) ?_)
    simp only [if_true, List.length_cons]
    have e : k + 1 + (r.takeWhile fun p => Op.bytesLess p.name name).length = k + ((r.takeWhile fun p => Op.bytesLess p.name name).length + 1) := by omega
    rw [e]
 have key := key ps 0 rfl (Nat.zero_le _)
 rw [Nat.zero_add] at key
 have hk : (ps.takeWhile fun p => Op.bytesLess p.name name).length = jzU ps name := rfl
 rw [hk] at key
 have key : l237_28 ((ps, ((), ((), ((0 : Int), ())))), ((name, (version, (needs, (tree, ())))), (([] : List Pack), ()))) = _ := key
 have hle := posP_le ps name
 have e2 := v_l9Pack (((name, (version, (needs, (tree, ())))), ()), ()) hp
 simp only [f237, key, Option.bind_some, jxS hle, jxh hle, e2]
 rw [jqc (show (80 : Nat) ≤ 100 by decide) (by unfold Sm; simp; omega)]
 simp only [List.nil_append, Option.bind_some]
 rw [jqc (show (80 : Nat) ≤ 100 by decide) (by unfold Sm; simp; omega)]
 simp only [Option.bind_some]
 rw [jqc (show (80 : Nat) ≤ 100 by decide) (by unfold Sm; simp; omega)]
 rfl
theorem v_l9Try (a) (hb : BdPs a.1.2.1) (hv : VS a.1.2.1) : f236 a = some (((), (jxm a.1.2.1, ())), (((bif jxm a.1.2.1 == 0 then a.1.2.1 else a.1.1.1), ()), ())) := by
 obtain ⟨⟨⟨r, u0⟩, list, u⟩, u'⟩ := a
 have e := v_l9Check ((list, ()), ()) hb hv
 simp only [f236, e, Option.bind_some]
 have z : (jxm list != 0) = !(jxm list == 0) := rfl
 rw [z]
 cases hc : (jxm list == 0) with
 | false => rfl
 | true =>
  have hc : jxm list = 0 := by simpa using hc
  simp only [Bool.not_true, cond_false, cond_true]
  rw [hc]
def inL (ps : List Pack) (p : Pack) : List Pack × Int := bif jxL p then (match ps.find? (fun q => q.name == p.name) with
 | some _ => (ps, 2)
 | none => (bif jxm (jxN ps p) == 0 then jxN ps p else ps, jxm (jxN ps p))) else (ps, 1)
theorem v_l9In (a) (k : Nat) (hk : k ≤ 2000000) (h : OkR k a.1.1.1) (hp : OkP ⟨a.1.2.1.1, a.1.2.1.2.1, a.1.2.1.2.2.1, a.1.2.1.2.2.2.1⟩) : f166 a = some (((), ((inL a.1.1.1 ⟨a.1.2.1.1, a.1.2.1.2.1, a.1.2.1.2.2.1, a.1.2.1.2.2.2.1⟩).2, ())), (((inL a.1.1.1 ⟨a.1.2.1.1, a.1.2.1.2.1, a.1.2.1.2.2.1, a.1.2.1.2.2.2.1⟩).1, ()), ())) := by
 obtain ⟨⟨⟨ps, u0⟩, ⟨name, version, needs, tree, u1⟩, u⟩, u'⟩ := a
 have h : OkR k ps := h
 have hp : OkP ⟨name, version, needs, tree⟩ := hp
 have hl : ps.length ≤ 2000000 := Nat.le_trans h.1 hk
 have e1 := v_PackOk (((name, (version, (needs, (tree, ())))), ()), ()) hp.1
 simp only [f166, e1, Option.bind_some, inL]
 cases jxL ⟨name, version, needs, tree⟩ with
 | false => rfl
 | true =>
  simp only [Bool.not_true, cond_false, cond_true]
  rcases v_l8Pack ((ps, (name, ())), ()) (show ps.length ≤ 2097152 by omega) with ⟨j, q, g1, g2, g3⟩ | ⟨g1, g2⟩
  ·have g3 : ps.find? (fun p => p.name == name) = some q := g3
   have hj : decide ((j : Int) ≥ 0) = true := by simp
   simp only [g1, Option.bind_some, hj, cond_true, g3]
  ·have g2 : ps.find? (fun p => p.name == name) = none := g2
   have hj : decide ((-1 : Int) ≥ 0) = false := rfl
   have hw := withL_ok h hp
   have e2 := v_l9With ((ps, ((name, (version, (needs, (tree, ())))), ())), ()) (show ps.length ≤ 2097151 by omega) hp.1
   have e3 := v_l9Try (((ps, ()), (jxN ps ⟨name, version, needs, tree⟩, ())), ()) (hw.bd (by omega)) hw.vs
   simp only [g1, Option.bind_some, hj, cond_false, g2, e2, e3]
theorem v_l9Copy (a) (h : BdPs a.1.1.1) : f86 a = some (((), ()), (a.1.1.1, (((), ()), ()))) := by
 obtain ⟨⟨⟨ps, u0⟩, u⟩, u'⟩ := a
 have hl : ps.length ≤ 2097152 := h.1
 have key := loop_fold (S := List Pack) g86_58 ps (fun i acc => (((), ((), ((), ((i : Int), ())))), ((ps, ()), (([] : List Pack), (((), ()), (acc, (((), ()), ()))))))) (fun x acc => acc ++ [x]) (fun acc => (((), ((), ())), (([] : List Pack), (((), ()), (acc, (((), ()), ())))))) (fun i acc => acc.length = i) [] rfl (fun i x acc hx hI => ?_) (fun acc hI => ?_)
 ·have key : l86_58 (((), ((), ((), ((0 : Int), ())))), ((ps, ()), (([] : List Pack), (((), ()), (([] : List Pack), (((), ()), ())))))) = _ := key
  have e : ∀ (l acc : List Pack), l.foldl (fun s x => s ++ [x]) acc = acc ++ l := by
   intro l
   induction l with
   | nil => intro acc; simp
   | cons x l ih => intro acc; simp only [List.foldl_cons]; rw [ih]; simp
  simp only [f86, key, Option.bind_some]
  rw [e]; rfl
 ·have hi := jju hx
  have hw : Sm i := by unfold Sm; omega
  have e2 := v_l9Pack (((x.name, (x.version, (x.needs, (x.tree, ())))), ()), ()) (h.2 x (List.mem_of_getElem? hx))
  have ha : apd 80 acc [x] = some (acc ++ [x]) := jqc (by decide) (by unfold Sm; simp; omega)
  simp only [g86_58, jjx hi, cond_true, jjs, hx, Option.bind_some, e2, ha, jjk hw]
  exact ⟨trivial, by simp [hI]⟩
 ·simp only [g86_58, jjF, cond_false]
abbrev ShR (k : Nat) (ps : List Pack) : Prop := ps.length ≤ k ∧ ∀ p, p ∈ ps → ShP p
theorem ShR.ok {k : Nat} {ps : List Pack} (h : ShR k ps) : OkR k ps := ⟨h.1, fun p hp => (h.2 p hp).ok⟩
theorem inL_sh {k : Nat} {ps : List Pack} {p : Pack} (h : ShR k ps) (hp : ShP p) : ShR (k + 1) (inL ps p).1 := by
 have h' : ShR (k + 1) ps := ⟨Nat.le_succ_of_le h.1, h.2⟩
 unfold inL
 cases jxL p with
 | false => exact h'
 | true =>
  simp only [cond_true]
  cases ps.find? (fun q => q.name == p.name) with
  | some q => exact h'
  | none =>
   simp only
   cases jxm (jxN ps p) == 0 with
   | false => exact h'
   | true =>
    refine ⟨by show (jxN ps p).length ≤ k + 1; rw [withL_len]; exact Nat.succ_le_succ h.1, fun x hx => ?_⟩
    rcases withL_mem hx with rfl | hx
    ·exact hp
    ·exact h.2 x hx
theorem v_l11Root (a) (m : Nat) (h : RD a.2.1.1 a.2.1.2.1 m) (hm : 300 ≤ m) : Ev (f87v0 a) (fun r => RD r.2.1.1 r.2.1.2.1 (m - 300) ∧ ShR 4 r.2.2.1.1) := by
 unfold f87v0
 refine Ev.bind (jqH _ m h (by omega)) fun r1 h1 => ?_
 obtain ⟨⟨v1, (q : Int), v2⟩, ⟨⟨(b1 : List Int), (p1 : Int), v3⟩, v4⟩⟩ := r1
 have hn : q < 5 := h1.2.2 (by show (1 : Int) ≤ 5; decide)
 have h0 : 0 ≤ q := h1.2.1
 refine Ev.bind (P := fun r => RD r.2.1.1 r.2.1.2.1 (m - 300) ∧ ShR 4 r.2.2.2.2.1.1) ?_ fun r hr => Ev.ret hr
 refine Ev.loop (fun (k : Nat) y => k ≤ 4 ∧ (y.1.2.2.2.1 : Int) = k ∧ RD y.2.1.1 y.2.1.2.1 (m - 300 + 55 * k) ∧ ShR (4 - k) y.2.2.2.2.1.1) (fun k y hy => ?_) q.toNat _ ⟨by omega, by show q = _; omega, h1.1.less (by omega), by show (0 : Nat) ≤ _; omega, fun p hp => by cases hp⟩
 obtain ⟨⟨w1, w2, w3, (i : Int), w4⟩, ⟨⟨(b' : List Int), (p' : Int), w5⟩, w6, w7, ⟨(ps : List Pack), w8⟩, w9⟩⟩ := y
 obtain ⟨y1, y3, y5, y6⟩ := hy
 have y3 : i = k := y3
 subst y3
 have y5 : RD b' p' (m - 300 + 55 * k) := y5
 have y6 : ShR (4 - k) ps := y6
 unfold g87v0_58
 refine Ev.ite (fun hc => ?_) fun hc => Ev.ret ⟨y5.less (by omega), Nat.le_trans y6.1 (by omega), y6.2⟩
 have hc : (k : Int) > 0 := of_decide_eq_true hc
 have hw : IntKind.i64.wrap ((k : Int) - 1) = ((k - 1 : Nat) : Int) := by rw [jjD (by omega) (by omega)]; omega
 refine Ev.bind (v_of _ _ y5 (by omega) (by simp)) fun r2 h2 => ?_
 refine Ev.bind (v_l11Pack _ _ h2.1 (by omega) (nm_all (by rfl) h2.2)) fun r3 h3 => ?_
 refine Ev.eq (v_l9In (((ps, ()), ((r3.2.2.2.2.1.1, (r3.2.2.2.2.1.2.1, (r3.2.2.1, (r3.2.2.2.1, ())))), ())), ()) (4 - k) (by omega) y6.ok h3.2.1.ok) ?_
 refine Ev.ret ⟨k - 1, by omega, by omega, hw, h3.1.less (by omega), ?_⟩
 have := inL_sh y6 h3.2.1
 exact ⟨Nat.le_trans this.1 (by omega), this.2⟩
theorem v_l11AnyRoot (a) (m : Nat) (h : RD a.2.1.1 a.2.1.2.1 m) (hm : 500 ≤ m) : Ev (f43v0 a) (fun r => RD r.2.1.1 r.2.1.2.1 (m - 500) ∧ ShR 5 r.2.2.1.1) := by
 unfold f43v0
 refine Ev.bind (v_l11Root _ m h (by omega)) fun r1 h1 => ?_
 obtain ⟨u0, ⟨u1, ⟨(ps : List Pack), u2⟩, u3⟩⟩ := r1
 have hr : ShR 4 ps := h1.2
 have hrl := hr.1
 refine Ev.eq (v_l9Copy (((ps, ()), ()), ()) (hr.ok.bd (by decide))) ?_
 refine Ev.bind (jqH _ _ h1.1 (by omega)) fun r2 h2 => ?_
 have hr' : ShR 5 ps := ⟨Nat.le_succ_of_le hr.1, hr.2⟩
 refine Ev.ite (fun _ => ?_) fun _ => Ev.ite (fun _ => ?_) fun _ => Ev.ret ⟨h2.1.less (by omega), hr'⟩
 ·refine Ev.bind (v_l11AnyPack _ _ h2.1 (by omega)) fun r3 h3 => ?_
  refine Ev.eq (jqc (xs := ps) (by decide) (by unfold Sm; simp; omega)) ?_
  refine Ev.ret ⟨h3.1.less (by omega), by show (ps ++ [_]).length ≤ 5; simp; omega, fun e he => ?_⟩
  have he : e ∈ ps ++ [_] := he
  rcases List.mem_append.1 he with he | he
  ·exact hr.2 e he
  ·rw [List.mem_singleton.1 he]; exact h3.2
 ·refine Ev.ite (fun hc => ?_) fun _ => Ev.ret ⟨h2.1.less (by omega), hr'⟩
  have hc : (ps.length : Int) > 0 := of_decide_eq_true hc
  refine Ev.eq (jxh (xs := ps) (a := 1) (by omega)) ?_
  exact Ev.ret ⟨h2.1.less (by omega), by show (ps.drop 1).length ≤ 5; rw [List.length_drop]; omega, fun e he => hr.2 e (List.mem_of_mem_drop he)⟩
def getL (t : List Entry) (p : Str) : Option Entry := match t[jjZ t p]? with
 | some e => bif e.path == p then some e else none
 | none => none
theorem getL_at {t : List Entry} {p : Str} {e : Entry} (h : getL t p = some e) : t[jjZ t p]? = some e ∧ e.path = p := by
 unfold getL at h
 cases ht : t[jjZ t p]? with
 | none => rw [ht] at h; cases h
 | some x =>
  rw [ht] at h
  cases hx : (x.path == p) with
  | false => simp [hx] at h
  | true => simp only [hx, cond_true, Option.some.injEq] at h; subst h; exact ⟨rfl, eq_of_beq hx⟩
noncomputable abbrev L17 : LS := [(18, S18), (60, S60)]
theorem G17 : CtxGood Pz (cx EE L17) := gd ⟨z18, z60, ⟨⟩⟩
abbrev i17 : Shape := ⟨[tA 0 [eL .pack]], [], 15⟩
abbrev o17 : Shape := ⟨[tO 2 3000128], [zR 3000128 .entry 2 0], 15⟩
noncomputable def f17 (a : i17.Y) : Option o17.Y :=
(f18 (((a.1.1.1, ()), ()), ())).bind fun r2018 =>
 bif (!r2018.1.1) then
 some (((), ()), (([] : List Entry), ()))
else
(f60 ((a.1.1.1, ()), ())).bind fun r2019 =>
 some (((), ()), (r2019.2.1, ()))
noncomputable def S17 : jjA := jjE EE Tryz.f17 i17 o17 [] f17
theorem z17 : jje Pz 17 S17 := jjb G17 Tryz.func17 (by kernel_rfl) jja (fun y => by kernel_rfl) fun a => by kernel_rfl
theorem pos_of {t : List Entry} (ha : Asc t) {k : Nat} {e : Entry} (h : t[k]? = some e) : jjZ t e.path = k := by
 have h1 := jqm (p := e.path) ha k e h
 have h2 : Op.bytesLess e.path e.path = false := bl_irr _
 rw [h1] at h2
 have h2 : ¬ k < jjZ t e.path := of_decide_eq_false h2
 rcases Nat.lt_or_ge (jjZ t e.path) k with h3 | h3
 ·exfalso
  have h4 : jjZ t e.path < t.length := Nat.lt_trans h3 (jju h)
  have h5 := List.getElem?_eq_getElem h4
  have h6 := jqm (p := e.path) ha (jjZ t e.path) t[jjZ t e.path] h5
  have h7 : Op.bytesLess (t[jjZ t e.path]).path e.path = true := by
   have hp := List.pairwise_iff_getElem.1 ha (jjZ t e.path) k h4 (jju h) h3
   have : t[k]'(jju h) = e := by
    have := List.getElem?_eq_getElem (jju h)
    rw [h] at this
    exact (Option.some.inj this).symm
   rw [this] at hp
   exact hp
  rw [h7] at h6
  have := of_decide_eq_true h6.symm
  omega
 ·omega
theorem getL_iff {t : List Entry} (ha : Asc t) {p : Str} {e : Entry} : getL t p = some e ↔ e ∈ t ∧ e.path = p := by
 constructor
 ·intro h
  obtain ⟨h1, h2⟩ := getL_at h
  exact ⟨List.mem_of_getElem? h1, h2⟩
 ·rintro ⟨h1, rfl⟩
  obtain ⟨k, hk⟩ := List.mem_iff_getElem?.1 h1
  have := pos_of ha hk
  unfold getL
  rw [this, hk]
  simp
theorem eqE_eq {a b : Entry} (h : eqE a b = true) : a = b := by
 unfold eqE at h
 simp only [Bool.and_eq_true, beq_iff_eq] at h
 obtain ⟨h1, h2, h3, h4⟩ := h
 cases a; cases b
 simp only at h1 h2 h3 h4
 subst h1 h2 h3 h4
 rfl
theorem eqE_refl (a : Entry) : eqE a a = true := by unfold eqE; simp
theorem insAt_in {t : List Entry} {k : Nat} {e x : Entry} : x ∈ jz0 t k e ↔ x = e ∨ x ∈ t := by
 constructor
 ·exact insAt_mem
 ·unfold jz0
  intro h
  rcases h with rfl | h
  ·simp
  ·have : x ∈ t.take k ++ t.drop k := by rw [List.take_append_drop]; exact h
   simp only [List.mem_append, List.mem_singleton] at this ⊢
   rcases this with h | h
   ·exact .inl (.inl h)
   ·exact .inr h
theorem stepJ_in {out o : List Entry} {e : Entry} (h : jxq out e = some o) (x : Entry) : x ∈ o ↔ x = e ∨ x ∈ out := by
 unfold jxq at h
 split at h
 ·rename_i q hq
  cases hp : (q.path == e.path) with
  | true =>
   rw [hp] at h
   cases hc : conf e q with
   | true => rw [hc] at h; cases h
   | false =>
    rw [hc] at h
    cases h
    have : eqE e q = true := by
     unfold conf at hc
     simp only [Bool.or_eq_false_iff, Bool.not_eq_false'] at hc
     exact hc.2
    have := eqE_eq this
    subst this
    constructor
    ·exact .inr
    ·rintro (rfl | h)
     ·exact List.mem_of_getElem? hq
     ·exact h
  | false => rw [hp] at h; cases h; exact insAt_in
 ·cases h; exact insAt_in
theorem joinL_in : ∀ {es out o : List Entry}, jq0 out es = some o → ∀ x, x ∈ o ↔ x ∈ out ∨ x ∈ es := by
 intro es
 induction es with
 | nil => intro out o h x; simp only [jq0, Option.some.injEq] at h; subst h; simp
 | cons e r ih =>
  intro out o h x
  rw [jqV] at h
  obtain ⟨o1, h1, h2⟩ := Option.bind_eq_some_iff.1 h
  rw [ih h2, stepJ_in h1, List.mem_cons]
  constructor
  ·rintro ((h | h) | h)
   ·exact .inr (.inl h)
   ·exact .inl h
   ·exact .inr (.inr h)
  ·rintro (h | h | h)
   ·exact .inl (.inr h)
   ·exact .inl (.inl h)
   ·exact .inr h
theorem joinL_asc : ∀ {es out o : List Entry}, Asc out → jq0 out es = some o → Asc o := by
 intro es
 induction es with
 | nil => intro out o ha h; simp only [jq0, Option.some.injEq] at h; subst h; exact ha
 | cons e r ih =>
  intro out o ha h
  rw [jqV] at h
  obtain ⟨o1, h1, h2⟩ := Option.bind_eq_some_iff.1 h
  exact ih (stepJ_asc ha h1) h2
theorem treesL_in : ∀ {ps : List Pack} {out t : List Entry}, jj4 out ps = some t → ∀ x, x ∈ t ↔ x ∈ out ∨ ∃ p, p ∈ ps ∧ x ∈ p.tree := by
 intro ps
 induction ps with
 | nil => intro out t h x; simp only [jj4, Option.some.injEq] at h; subst h; simp
 | cons p r ih =>
  intro out t h x
  rw [jxP] at h
  obtain ⟨o, h1, h2⟩ := Option.bind_eq_some_iff.1 h
  rw [ih h2, joinL_in (stepT_ok h1).2]
  constructor
  ·rintro ((h | h) | ⟨q, h, h'⟩)
   ·exact .inl h
   ·exact .inr ⟨p, List.mem_cons_self, h⟩
   ·exact .inr ⟨q, List.mem_cons_of_mem _ h, h'⟩
  ·rintro (h | ⟨q, h, h'⟩)
   ·exact .inl (.inl h)
   ·rcases List.mem_cons.1 h with rfl | h
    ·exact .inl (.inr h')
    ·exact .inr ⟨q, h, h'⟩
theorem treesL_ok : ∀ {ps : List Pack} {out t : List Entry}, jjU out = true → jj4 out ps = some t → jjU t = true := by
 intro ps
 induction ps with
 | nil => intro out t ho h; simp only [jj4, Option.some.injEq] at h; subst h; exact ho
 | cons p r ih =>
  intro out t ho h
  rw [jxP] at h
  obtain ⟨o, h1, h2⟩ := Option.bind_eq_some_iff.1 h
  exact ih (stepT_ok h1).1 h2
structure Rt (ps : List Pack) (t : List Entry) : Prop where
 tree : jj4 [] ps = some t
 packs : ps.all jxL = true
 asc : ps.Pairwise fun p q => Op.bytesLess p.name q.name = true
theorem rt_of {ps : List Pack} (h : jqK ps = true) : ∃ t, Rt ps t := by
 unfold jqK at h
 simp only [Bool.and_eq_true] at h
 obtain ⟨⟨⟨⟨h1, h2⟩, h3⟩, h4⟩, h5⟩ := h
 obtain ⟨t, ht⟩ := Option.isSome_iff_exists.1 h5
 exact ⟨t, ht, h1, ascP_of h2⟩
section
variable {ps : List Pack} {t : List Entry} (R : Rt ps t)
include R
theorem Rt.ok : jjU t = true := treesL_ok (by rfl) R.tree
theorem Rt.pk {p : Pack} (h : p ∈ ps) : jx8 p.name = true ∧ jjU p.tree = true := by
 have := List.all_eq_true.1 R.packs p h
 unfold jxL at this
 simp only [Bool.and_eq_true] at this
 exact ⟨this.1.1.1, this.2⟩
theorem Rt.tr {p : Pack} (h : p ∈ ps) : Asc p.tree := jzy (R.pk h).2
theorem Rt.up {p : Pack} (h : p ∈ ps) {path : Str} {e : Entry} (he : getL p.tree path = some e) : getL t path = some e := by
 obtain ⟨k1, k2⟩ := (getL_iff (R.tr h)).1 he
 exact (getL_iff (jzy R.ok)).2 ⟨(treesL_in R.tree e).2 (.inr ⟨p, h, k1⟩), k2⟩
end
theorem v_iRootTree (a) (hb : BdPs a.1.1.1) (hv : VS a.1.1.1) : f17 a = some (((), ()), ((bif jqK a.1.1.1 then (jj4 [] a.1.1.1).getD [] else []), ())) := by
 obtain ⟨⟨⟨ps, u⟩, u'⟩, u''⟩ := a
 have e1 := v_iRootOk (((ps, ()), ()), ()) hb hv
 simp only [f17, e1, Option.bind_some]
 cases hr : jqK ps with
 | false => rfl
 | true =>
  obtain ⟨t, R⟩ := rt_of hr
  have e2 := v_joinTreesV ((ps, ()), ()) hb R.packs
  simp only [Bool.not_true, cond_false, cond_true, e2, Option.bind_some]
abbrev s16_58 : Shape := ⟨[tL 0 .entry, tL 1 .entry, tI 5], [], 26⟩
abbrev t16_58 : List OSh := [(.ret, ⟨[tB 4], [], 26⟩), (.exit 0, ⟨[], [], 26⟩)]
noncomputable def g16_58 (y : s16_58.Y) : LR s16_58 t16_58 :=
 bif (decide (y.1.2.2.1 < (y.1.1.length : Int))) then
(ix y.1.1 y.1.2.2.1).bind fun x2027 =>
(ix y.1.2.1 y.1.2.2.1).bind fun x2028 =>
 bif (!((x2027.path == x2028.path) && ((x2027.kind == x2028.kind) && ((x2027.mode == x2028.mode) && (x2027.text == x2028.text))))) then
 some (.inr (.inl ((false, ()), ())))
else
 some (.inl ((y.1.1, (y.1.2.1, ((IntKind.i64.wrap (y.1.2.2.1 + (1 : Int))), ()))), ()))
else
 some (.inr (.inr ((), ())))
noncomputable def l16_58 : s16_58.Y → Option (YS t16_58) := jjv g16_58
theorem q16_58 : jjj Pz (jjc (jjh Tryz.f16) 1 58) (jjg s16_58 t16_58 l16_58) := jjf g0 (by kernel_rfl) jja fun y => by kernel_rfl
abbrev i16 : Shape := ⟨[tL 0 .entry, tL 1 .entry], [], 26⟩
abbrev o16 : Shape := ⟨[tB 4], [], 26⟩
noncomputable def f16 (a : i16.Y) : Option o16.Y :=
 bif ((a.1.1.length : Int) != (a.1.2.1.length : Int)) then
 some ((false, ()), ())
else
(l16_58 ((a.1.1, (a.1.2.1, ((0 : Int), ()))), ())).bind fun r2029 =>
(match r2029 with
| .inl r2030 =>
 some ((r2030.1.1, ()), ())
| .inr r2031 =>
 some ((true, ()), ()))
noncomputable def S16 : jjA := jjE EE Tryz.f16 i16 o16 [] f16
theorem z16 : jje Pz 16 S16 := jjb g0 Tryz.func16 (by kernel_rfl) (frc q16_58 jja) (fun y => by kernel_rfl) fun a => by kernel_rfl
theorem wf_sl {t : Ty} {xs : List (den t)} (h : WfD (.sl t xs)) : xs.length ≤ maxLen ∧ ∀ x, x ∈ xs → ∀ d, d ∈ enc t x → WfD d := by cases h; exact ⟨by assumption, by assumption⟩
theorem wf_bytes {xs : List Int} (h : WfD (.sl .u8 xs)) : ∀ x, x ∈ xs → 0 ≤ x ∧ x ≤ 255 := by
 intro x hx
 have := (wf_sl h).2 x hx (.int .u8 x) (by simp [enc])
 cases this with
 | int k n hw =>
  simp only [Lit.wf, Bool.and_eq_true, decide_eq_true_eq] at hw
  have h1 : (0 : Int) ≤ x := hw.1
  have h2 : x ≤ (255 : Int) := hw.2
  exact ⟨h1, h2⟩
theorem rd_code {code : List Int} (h : ∀ x, x ∈ code → 0 ≤ x ∧ x ≤ 255) : RD (code.take 2000) 0 1000000 :=
 ⟨by rw [List.length_take]; omega, fun x hx => h x (List.mem_of_mem_take hx), Int.le_refl _, by decide⟩
theorem allI_true' {α : Type} : ∀ (xs : List α) (i : Nat), jqu (fun _ _ => true) i xs = true := by
 intro xs
 induction xs with
 | nil => intro i; rfl
 | cons x r ih => intro i; simp only [jqu, ih, Bool.and_self]
theorem v_jsTree (a) (h : a.1.1 = a.1.2.1) (hl : Bd a.1.1.length) : f16 a = some ((true, ()), ()) := by
 obtain ⟨⟨xs, ys, u⟩, u'⟩ := a
 have h : xs = ys := h
 subst h
 have hs : xs.length ≤ 2097152 := hl
 have key : l16_58 ((xs, (xs, ((0 : Int), ()))), ()) = some (bif jqu (fun _ _ => true) 0 xs then .inr ((), ()) else .inl ((false, ()), ())) := by
  refine jjR g16_58 xs (fun i => ((xs, (xs, ((i : Int), ()))), ())) _ _ _ (fun i x hx => ?_) ?_
  ·have hi := jju hx
   have hw : Sm i := by unfold Sm; omega
   simp only [g16_58, jjx hi, cond_true, jjs, hx, Option.bind_some, beq_self_eq_true, Bool.and_self, Bool.not_true, cond_false, jjk hw]
  ·simp only [g16_58, jjF, cond_false]
 rw [allI_true'] at key
 have hb : ((xs.length : Int) != (xs.length : Int)) = false := by simp
 simp only [f16, hb, cond_false, key, cond_true, Option.bind_some]
abbrev i186 : Shape := ⟨[tL 0 .need], [], 8⟩
abbrev o186 : Shape := ⟨[tO 2 3000128], [zR 3000128 .need 2 0], 8⟩
noncomputable def f186 (a : i186.Y) : Option o186.Y :=
 jq7 (t := .need) a.1.1 (some (((), ()), (([] : List Need), ()))) ((apd 40 ([] : List Need) a.1.1).bind fun x1903 =>
 some (((), ()), (x1903, ())))
noncomputable def S186 : jjA := jjE EE Tryz.f186 i186 o186 [] f186
theorem z186 : jje Pz 186 S186 := jjb g0 Tryz.func186 (by kernel_rfl) jja (fun y => by kernel_rfl) fun a => by kernel_rfl
noncomputable abbrev L111 : LS := [(186, S186), (187, S187)]
theorem G111 : CtxGood Pz (cx EE L111) := gd ⟨z186, z187, ⟨⟩⟩
abbrev i111 : Shape := ⟨[tA 0 [eS, eS, eL .need, eL .entry]], [], 12⟩
abbrev o111 : Shape := ⟨[tP 2 2 0], [zC 5000130 .need 2 2, zC 5000131 .entry 2 3, zB 2 [eS, eS, .own 5000130, .own 5000131]], 12⟩
noncomputable def f111 (a : i111.Y) : Option o111.Y :=
(f186 ((a.1.1.2.2.1, ()), ())).bind fun r1908 =>
(f187 ((a.1.1.2.2.2.1, ()), ())).bind fun r1909 =>
 some (((), ()), (r1908.2.1, (r1909.2.1, ((a.1.1.1, (a.1.1.2.1, ((), ((), ())))), ()))))
noncomputable def S111 : jjA := jjE EE Tryz.f111 i111 o111 [] f111
theorem z111 : jje Pz 111 S111 := jjb G111 Tryz.func111 (by kernel_rfl) jja (fun y => by kernel_rfl) fun a => by kernel_rfl
noncomputable abbrev L107 : LS := [(111, S111)]
theorem G107 : CtxGood Pz (cx EE L107) := gd ⟨z111, ⟨⟩⟩
abbrev s107_58 : Shape := ⟨[tO 3 3000192, tL 6 .pack, tI 7, tI 8], [zR 3000192 .pack 3 0], 19⟩
abbrev t107_58 : List OSh := [(.exit 0, ⟨[tO 3 3000192], [zR 3000192 .pack 3 0], 19⟩)]
noncomputable def g107_58 (y : s107_58.Y) : LR s107_58 t107_58 :=
 bif (decide (y.1.2.2.2.1 < y.1.2.2.1)) then
(ix y.1.2.1 y.1.2.2.2.1).bind fun x1913 =>
(f111 (((x1913.name, (x1913.version, (x1913.needs, (x1913.tree, ())))), ()), ())).bind fun r1914 =>
(apd 80 y.2.1 ([(Pack.mk r1914.2.2.2.1.1 r1914.2.2.2.1.2.1 r1914.2.1 r1914.2.2.1)] : List Pack)).bind fun x1915 =>
 some (.inl (((), (y.1.2.1, (y.1.2.2.1, ((IntKind.i64.wrap (y.1.2.2.2.1 + (1 : Int))), ())))), (x1915, ())))
else
 some (.inr ((((), ()), (y.2.1, ()))))
noncomputable def l107_58 : s107_58.Y → Option (YS t107_58) := jjv g107_58
theorem q107_58 : jjj Pz (jjc (jjh Tryz.f107) 1 58) (jjg s107_58 t107_58 l107_58) := jjf G107 (by kernel_rfl) jja fun y => by kernel_rfl
abbrev i107 : Shape := ⟨[tL 0 .pack], [], 19⟩
abbrev o107 : Shape := ⟨[tO 2 3000128], [zR 3000128 .pack 2 0], 19⟩
noncomputable def f107 (a : i107.Y) : Option o107.Y :=
(l107_58 (((), (a.1.1, ((a.1.1.length : Int), ((0 : Int), ())))), (([] : List Pack), ()))).bind fun r1917 =>
 some (((), ()), (r1917.2.1, ()))
noncomputable def S107 : jjA := jjE EE Tryz.f107 i107 o107 [] f107
theorem z107 : jje Pz 107 S107 := jjb G107 Tryz.func107 (by kernel_rfl) (frc q107_58 jja) (fun y => by kernel_rfl) fun a => by kernel_rfl
noncomputable abbrev L109 : LS := [(110, S110)]
theorem G109 : CtxGood Pz (cx EE L109) := gd ⟨z110, ⟨⟩⟩
abbrev i109 : Shape := ⟨[tA 0 [eS, eS, eL .need, eL .entry], tS 1], [], 9⟩
abbrev o109 : Shape := ⟨[tI 4], [], 9⟩
noncomputable def f109 (a : i109.Y) : Option o109.Y :=
(f110 ((a.1.1.1, (a.1.2.1, ())), ())).bind fun r1928 =>
 some ((r1928.1.1, ()), ())
noncomputable def S109 : jjA := jjE EE Tryz.f109 i109 o109 [] f109
theorem z109 : jje Pz 109 S109 := jjb G109 Tryz.func109 (by kernel_rfl) jja (fun y => by kernel_rfl) fun a => by kernel_rfl
noncomputable abbrev L108v0 : LS := [(109, S109)]
theorem G108v0 : CtxGood Pz (cx EE L108v0) := gd ⟨z109, ⟨⟩⟩
abbrev s108v0_60 : Shape := ⟨[tL 0 .pack, tS 1, (2, .lf (.fn 109 [])), tI 8, tI 9, tI 10], [], 49⟩
abbrev t108v0_60 : List OSh := [(.exit 0, ⟨[tL 0 .pack, tS 1, (2, .lf (.fn 109 [])), tI 8, tI 9], [], 49⟩)]
noncomputable def g108v0_60 (y : s108v0_60.Y) : LR s108v0_60 t108v0_60 :=
 bif (decide (y.1.2.2.2.2.1 < y.1.2.2.2.2.2.1)) then
(shrI .u64 (IntKind.u64.wrap (IntKind.i64.wrap (y.1.2.2.2.2.1 + y.1.2.2.2.2.2.1))) (1 : Int)).bind fun x1933 =>
(ix y.1.1 (IntKind.i64.wrap x1933)).bind fun x1936 =>
(f109 (((x1936.name, (x1936.version, (x1936.needs, (x1936.tree, ())))), (y.1.2.1, ())), ())).bind fun r1937 =>
 bif (decide (r1937.1.1 < (0 : Int))) then
 some (.inl ((y.1.1, (y.1.2.1, ((), (y.1.2.2.2.1, ((IntKind.i64.wrap ((IntKind.i64.wrap x1933) + (1 : Int))), (y.1.2.2.2.2.2.1, ())))))), ()))
else
 some (.inl ((y.1.1, (y.1.2.1, ((), (y.1.2.2.2.1, (y.1.2.2.2.2.1, ((IntKind.i64.wrap x1933), ())))))), ()))
else
 some (.inr (((y.1.1, (y.1.2.1, ((), (y.1.2.2.2.1, (y.1.2.2.2.2.1, ()))))), ())))
noncomputable def l108v0_60 : s108v0_60.Y → Option (YS t108v0_60) := jjv g108v0_60
theorem q108v0_60 : jjj Pz (jjc (jjh Tryz.f108) 1 60) (jjg s108v0_60 t108v0_60 l108v0_60) := jjf G108v0 (by kernel_rfl) jja fun y => by kernel_rfl
abbrev i108v0 : Shape := ⟨[tL 0 .pack, tS 1, (2, .lf (.fn 109 []))], [], 49⟩
abbrev o108v0 : Shape := ⟨[tI 6, tB 7], [], 49⟩
noncomputable def f108v0 (a : i108v0.Y) : Option o108v0.Y :=
(l108v0_60 ((a.1.1, (a.1.2.1, ((), ((a.1.1.length : Int), ((0 : Int), ((a.1.1.length : Int), ())))))), ())).bind fun r1941 =>
 bif (decide (r1941.1.2.2.2.2.1 < r1941.1.2.2.2.1)) then
(ix r1941.1.1 r1941.1.2.2.2.2.1).bind fun x1942 =>
(f109 (((x1942.name, (x1942.version, (x1942.needs, (x1942.tree, ())))), (r1941.1.2.1, ())), ())).bind fun r1943 =>
 some ((r1941.1.2.2.2.2.1, ((r1943.1.1 == (0 : Int)), ())), ())
else
 some ((r1941.1.2.2.2.2.1, (false, ())), ())
noncomputable def S108v0 : jjA := jjE EE Tryz.f108 i108v0 o108v0 [] f108v0
theorem z108v0 : jje Pz 108 S108v0 := jjb G108v0 Tryz.func108 (by kernel_rfl) (frc q108v0_60 jja) (fun y => by kernel_rfl) fun a => by kernel_rfl
noncomputable abbrev L56 : LS := [(107, S107)]
theorem G56 : CtxGood Pz (cx EE L56) := gd ⟨z107, ⟨⟩⟩
abbrev i56 : Shape := ⟨[tA 0 [eL .pack]], [], 7⟩
abbrev o56 : Shape := ⟨[tP 2 2 0], [zC 5000128 .pack 2 0, zB 2 [.own 5000128]], 7⟩
noncomputable def f56 (a : i56.Y) : Option o56.Y :=
(f107 ((a.1.1.1, ()), ())).bind fun r1919 =>
 some (((), ()), (r1919.2.1, (((), ()), ())))
noncomputable def S56 : jjA := jjE EE Tryz.f56 i56 o56 [] f56
theorem z56 : jje Pz 56 S56 := jjb G56 Tryz.func56 (by kernel_rfl) jja (fun y => by kernel_rfl) fun a => by kernel_rfl
noncomputable abbrev L57 : LS := [(108, S108v0)]
theorem G57 : CtxGood Pz (cx EE L57) := gd ⟨z108v0, ⟨⟩⟩
abbrev i57 : Shape := ⟨[tL 0 .pack, tS 1], [], 11⟩
abbrev o57 : Shape := ⟨[tI 4, tB 5], [], 11⟩
noncomputable def f57 (a : i57.Y) : Option o57.Y :=
(f108v0 ((a.1.1, (a.1.2.1, ((), ()))), ())).bind fun r1945 =>
 some ((r1945.1.1, (r1945.1.2.1, ())), ())
noncomputable def S57 : jjA := jjE EE Tryz.f57 i57 o57 [] f57
theorem z57 : jje Pz 57 S57 := jjb G57 Tryz.func57 (by kernel_rfl) jja (fun y => by kernel_rfl) fun a => by kernel_rfl
noncomputable abbrev L58 : LS := [(56, S56), (61, S61)]
theorem G58 : CtxGood Pz (cx EE L58) := gd ⟨z56, z61, ⟨⟩⟩
abbrev i58 : Shape := ⟨[tL 0 .pack, tA 1 [eL .pack]], [], 16⟩
abbrev o58 : Shape := ⟨[tP 4 4 0, tI 5], [zB 4 [eL .pack]], 16⟩
noncomputable def f58 (a : i58.Y) : Option o58.Y :=
(f61 ((a.1.1, ()), ())).bind fun r1987 =>
 bif (r1987.1.1 != (0 : Int)) then
(f56 (((a.1.2.1.1, ()), ()), ())).bind fun r1988 =>
 some (((), (r1987.1.1, ())), ((r1988.2.1, ()), ()))
else
 some (((), ((0 : Int), ())), ((a.1.1, ()), ()))
noncomputable def S58 : jjA := jjE EE Tryz.f58 i58 o58 [] f58
theorem z58 : jje Pz 58 S58 := jjb G58 Tryz.func58 (by kernel_rfl) jja (fun y => by kernel_rfl) fun a => by kernel_rfl
theorem ins_shiftpack (g n c i vb m vc : Nat) (cur vcur : Array Value) (te ve : TypeId) (w : World) (hi : i < n) (hm : 0 < m) (hroom : n + m ≤ c) (hc63 : c ≤ 9223372036854775807) (hne : vb ≠ g)
  (hg : w.heap[g]? = some (.cells cur te (0, 0))) (hv : w.heap[vb]? = some (.cells vcur ve (0, 0))) (hcs : cur.size = c * 4) (hvs : m * 4 ≤ vcur.size)
  (h1c : ∀ v ∈ cur.toList.take (n * 4), v.oneCell' = true) (h1v : ∀ v ∈ vcur.toList.take (m * 4), v.oneCell' = true) :
  Calls Pz 112 #[.slice (some ⟨g, 0, none⟩) n c, .int .i64 i, .slice (some ⟨vb, 0, none⟩) m vc] w fun e w' =>
   e = .returned (.slice (some ⟨g, 0, none⟩) (n + m) c) ∧ w' = w.drew.setRow g (splice (splice cur.toList ((i + m) * 4) ((cur.toList.take (n * 4)).drop (i * 4))) (i * 4) (vcur.toList.take (m * 4))).toArray := by
 have t33 : Pz.underlying 23 = some (.slice 29) := by kernel_rfl
 have hsz : (Pz.info? 29).map (·.size) = some 4 := by kernel_rfl
 have hz1 : ¬ ((m : Int) = 0) := by omega
 have hz2 : ¬ ((i : Int) = (n : Int)) := by omega
 have hov : ∀ off lb cb, (callFunc 188 #[.slice (some ⟨vb, 0, none⟩) m vc, .slice (some ⟨g, off, none⟩) lb cb]).run Pz w = .ok (.value (.bool false)) w := fun off lb cb => by
  rw [run_callFunc_extern Tryz.func188 (by kernel_rfl) (by kernel_rfl) (by kernel_rfl) (e := Extern.SlicesOverlaps.overlaps #[23, 23] #[4]) (by kernel_rfl),
   Lib.run_overlaps_apart w 23 4 29 t33 4 (fun w => by kernel_rfl) ⟨vb, 0, none⟩ ⟨g, off, none⟩ m vc lb cb hne ve te vcur.size cur.size (by simp [World.shape?, hv]) (by simp [World.shape?, hg]) (by omega) (by simp [World.frozen?, hv]) (by simp [World.frozen?, hv])]
  rfl
 have hdl : ((cur.toList.take (n * 4)).drop (i * 4)).length = (n - i) * 4 := by simp only [List.length_drop, List.length_take, Array.length_toList, hcs]; rw [Nat.min_eq_left (by omega), Nat.sub_mul]
 have hcl : ∀ j v, (cur.toList.take (n * 4))[j]? = some v → w.cell? ⟨g, j, none⟩ = some v := fun j v h => by
  rw [List.getElem?_take] at h
  split at h
  ·simpa [World.cell?, hg] using h
  ·cases h
 have hcv : ∀ j v, (vcur.toList.take (m * 4))[j]? = some v → w.cell? ⟨vb, j, none⟩ = some v := fun j v h => by
  rw [List.getElem?_take] at h
  split at h
  ·simpa [World.cell?, hv] using h
  ·cases h
 have hcp1 : ∀ ty dc sc, (Builtin.copy_ #[23, 23] ty #[.slice (some ⟨g, (i + m) * 4, none⟩) (n + m - (i + m)) dc, .slice (some ⟨g, i * 4, none⟩) (n + m - i) sc]).run Pz w.drew =
   .ok (goInt (Nat.min (n + m - i) (n + m - (i + m)))) (w.drew.setRow g (splice cur.toList ((i + m) * 4) ((cur.toList.take (n * 4)).drop (i * 4))).toArray) := fun ty dc sc =>
  jqC w.drew _ _ ty 29 4 g ((i + m) * 4) (n + m - (i + m)) dc ⟨g, i * 4, none⟩ (n + m - i) sc cur te _ t33 hsz hg (by rw [hdl]; simp only [Nat.min_def]; split <;> omega)
   (fun j v hj => by rw [Addr.add_lit]; exact hcl (i * 4 + j) v (by rwa [List.getElem?_drop] at hj)) (by rw [hdl, hcs]; omega) (fun v hv => h1c v (List.mem_of_mem_drop hv))
 obtain ⟨cur1, hcur1⟩ : ∃ cur1, cur1 = (splice cur.toList ((i + m) * 4) ((cur.toList.take (n * 4)).drop (i * 4))).toArray := ⟨_, rfl⟩
 rw [← hcur1] at hcp1
 have hc1s : cur1.size = c * 4 := by rw [hcur1]; simp only [splice, List.size_toArray, List.length_append, List.length_drop, List.length_take, Array.length_toList, hcs]; omega
 have hcp2 : ∀ (W : World), W.heap = (w.drew.setRow g cur1).heap → ∀ ty dc, (Builtin.copy_ #[23, 23] ty #[.slice (some ⟨g, i * 4, none⟩) (n + m - i) dc, .slice (some ⟨vb, 0, none⟩) m vc]).run Pz W =
   .ok (goInt (Nat.min m (n + m - i))) (W.setRow g (splice cur1.toList (i * 4) (vcur.toList.take (m * 4))).toArray) := fun W hW ty dc =>
  jqC W _ _ ty 29 4 g (i * 4) (n + m - i) dc ⟨vb, 0, none⟩ m vc cur1 te _ t33 hsz (by rw [hW]; exact setRow_heap w.drew g cur cur1 te (0, 0) hg)
   (by simp only [List.length_take, Array.length_toList, Nat.min_def]; split <;> split <;> omega)
   (fun j v hj => by
    have := hcv j v hj
    rw [Addr.add_lit, Nat.zero_add]
    unfold World.cell? at this ⊢
    rw [hW, show (w.drew.setRow g cur1).heap[vb]? = w.heap[vb]? from setRow_other w.drew g vb cur1 hne]; exact this) (by simp only [List.length_take, Array.length_toList]; omega) h1v
 have hE : w.drew.setRow g (splice (splice cur.toList ((i + m) * 4) ((cur.toList.take (n * 4)).drop (i * 4))) (i * 4) (vcur.toList.take (m * 4))).toArray = (w.drew.setRow g cur1).setRow g (splice cur1.toList (i * 4) (vcur.toList.take (m * 4))).toArray := by
  rw [setRow_setRow, hcur1]
 rw [hE]
 clear hE hcur1
 have hw1 : IntKind.i64.wrap ((i : Int) + (m : Int)) = (i : Int) + (m : Int) := by rw [IntKind.wrap_i64]; omega
 have hb1 : (0 : Int) ≤ (i : Int) + (m : Int) := by omega
 have hin : i ≤ n := by omega
 have htn : ((i : Int) + (m : Int)).toNat = i + m := by omega
 have hb2 : ¬ (c = i + m) := by omega
 have hb3 : (i : Int) ≤ (n : Int) + (m : Int) := by omega
 have hb4 : ¬ (c = i) := by omega
 go_enter Tryz.func112, Tryz.ntmps112
 go_wp2_with (simp only [hov])
 go_region_law (refine jxT rfl _ _ 23 23 rfl (.slice (some ⟨g, (i + m) * 4, none⟩) (n + m - (i + m)) (c - (i + m))) (.slice (some ⟨g, i * 4, none⟩) (n + m - i) (c - i)) (by simp [Act.eval, Act.put]) (by simp [Act.eval, Act.put]) (hcp1 _ _ _) ?_)
 go_wp2_with (at_builtin; refine jq6 _ rfl _ _ 23 23 rfl _ _ rfl rfl (hcp2 _ rfl _ _) ?_)
 go_ret
 exact ⟨rfl, rfl⟩
theorem ins_none0pack (xa : Option Addr) (vc : Nat) (w : World) :
  Calls Pz 112 #[.slice none 0 0, .int .i64 0, .slice xa 0 vc] w fun e w' => e = .returned (.slice none 0 0) ∧ w' = w := by
 go_enter Tryz.func112, Tryz.ntmps112
 go_wp2
 go_ret
 exact ⟨rfl, rfl⟩
theorem ins_none1pack (g n c i : Nat) (xa : Option Addr) (vc : Nat) (w : World) (hi : i ≤ n) (hnc : n ≤ c) (hc63 : c ≤ 9223372036854775807) :
  Calls Pz 112 #[.slice (some ⟨g, 0, none⟩) n c, .int .i64 i, .slice xa 0 vc] w fun e w' => e = .returned (.slice (some ⟨g, 0, none⟩) n c) ∧ w' = w := by
 go_enter Tryz.func112, Tryz.ntmps112
 go_wp2
 all_goals (go_ret; exact ⟨rfl, rfl⟩)
theorem ins_end0pack (xa : Option Addr) (m vc : Nat) (w : World) (hm : 0 < m) (v' : Value) (W : World) (hr : ∀ ty, (Builtin.append_ #[23, 23] ty #[.slice none 0 0, .slice xa m vc]).run Pz w = .ok v' W) :
  Calls Pz 112 #[.slice none 0 0, .int .i64 0, .slice xa m vc] w fun e w' => e = .returned v' ∧ w' = W := by
 have hz1 : ¬ ((m : Int) = 0) := by omega
 go_enter Tryz.func112, Tryz.ntmps112
 go_wp2_with (at_builtin; refine jqe _ rfl _ _ 23 23 rfl _ _ rfl rfl (hr _) ?_)
 go_ret
 exact ⟨rfl, rfl⟩
theorem ins_end1pack (g n c : Nat) (xa : Option Addr) (m vc : Nat) (w : World) (hnc : n ≤ c) (hc63 : c ≤ 9223372036854775807) (hm : 0 < m) (v' : Value) (W : World) (hr : ∀ ty, (Builtin.append_ #[23, 23] ty #[.slice (some ⟨g, 0, none⟩) n c, .slice xa m vc]).run Pz w = .ok v' W) :
  Calls Pz 112 #[.slice (some ⟨g, 0, none⟩) n c, .int .i64 n, .slice xa m vc] w fun e w' => e = .returned v' ∧ w' = W := by
 have hz1 : ¬ ((m : Int) = 0) := by omega
 go_enter Tryz.func112, Tryz.ntmps112
 go_wp2_with (at_builtin; refine jqe _ rfl _ _ 23 23 rfl _ _ rfl rfl (hr _) ?_)
 all_goals (go_ret; exact ⟨rfl, rfl⟩)
theorem ins_growpack (g n c i vb m vc : Nat) (cur vcur : Array Value) (te ve : TypeId) (w : World) (hi : i < n) (hm : 0 < m) (hnc : n ≤ c) (hroom : c < n + m) (hc63 : c ≤ 9223372036854775807) (hbig : (n + m) * 80 ≤ 140737488355328)
  (hg : w.heap[g]? = some (.cells cur te (0, 0))) (hv : w.heap[vb]? = some (.cells vcur ve (0, 0))) (hcs : cur.size = c * 4) (hvs : m * 4 ≤ vcur.size)
  (h1c : ∀ v ∈ cur.toList.take (n * 4), v.oneCell' = true) (h1v : ∀ v ∈ vcur.toList.take (m * 4), v.oneCell' = true) :
  ∃ G ROW, ∃ W : World, G ≤ maxLen ∧ n + m ≤ G ∧ ROW.size = G * 4 ∧ ROW.toList.take (i * 4) = cur.toList.take (i * 4) ∧ W.os = w.os ∧ W.tape = w.tape ∧ W.output = w.output ∧ W.heap = w.heap.push (.cells ROW 29 (0, 0)) ∧
  Calls Pz 112 #[.slice (some ⟨g, 0, none⟩) n c, .int .i64 i, .slice (some ⟨vb, 0, none⟩) m vc] w fun e w' =>
   e = .returned (.slice (some ⟨w.heap.size, 0, none⟩) (n + m) G) ∧ w'.os = w.os ∧ w'.tape = w.tape ∧ w'.output = w.output ∧
    w'.heap = (W.setRow w.heap.size (splice (splice ROW.toList (i * 4) (vcur.toList.take (m * 4))) ((i + m) * 4) ((cur.toList.take (n * 4)).drop (i * 4))).toArray).heap := by
 have t33 : Pz.underlying 23 = some (.slice 29) := by kernel_rfl
 have t3 : Pz.underlying 3 = some (.int .i64) := by kernel_rfl
 have hsz : (Pz.info? 29).map (·.size) = some 4 := by kernel_rfl
 have hinfo : (Pz.info? 29).map (fun i => (i.zero.map (·.cells.size), i.size, i.bytes)) = some (some 4, 4, 80) := by kernel_rfl
 obtain ⟨i0, hi0, hzz⟩ := Option.map_eq_some_iff.1 hinfo
 simp only [Prod.mk.injEq] at hzz
 obtain ⟨hz0, hzs, hzb⟩ := hzz
 obtain ⟨z, hz, hzc⟩ := Option.map_eq_some_iff.1 hz0
 have hz1 : ¬ ((m : Int) = 0) := by omega
 have hz2 : ¬ ((i : Int) = (n : Int)) := by omega
 have hz3 : (c : Int) < (n : Int) + (m : Int) := by omega
 have hgw : g < w.heap.size := (Array.getElem?_eq_some_iff.1 hg).1
 have hvw : vb < w.heap.size := (Array.getElem?_eq_some_iff.1 hv).1
 have hkk : (n : Int) + (m : Int) - (i : Int) = ((n + m - i : Nat) : Int) := by omega
 have hik : i + (n + m - i) = n + m := by omega
 have hdl : ((cur.toList.take (n * 4)).drop (i * 4)).length = (n - i) * 4 := by simp only [List.length_drop, List.length_take, Array.length_toList, hcs]; rw [Nat.min_eq_left (by omega), Nat.sub_mul]
 have hcl : ∀ j v, (cur.toList.take (n * 4))[j]? = some v → w.cell? ⟨g, j, none⟩ = some v := fun j v h => by
  rw [List.getElem?_take] at h
  split at h
  ·simpa [World.cell?, hg] using h
  ·cases h
 have hcv : ∀ j v, (vcur.toList.take (m * 4))[j]? = some v → w.cell? ⟨vb, j, none⟩ = some v := fun j v h => by
  rw [List.getElem?_take] at h
  split at h
  ·simpa [World.cell?, hv] using h
  ·cases h
 have hold : (Builtin.firstCells i0.size i (.slice (some ⟨g, 0, none⟩) i c)).run Pz w.drew = .ok (cur.toList.take (i * 4)).toArray w.drew := by
  rw [hzs]
  exact run_firstCells_some w.drew 4 i ⟨g, 0, none⟩ i c (cur.toList.take (i * 4)) (by simp only [List.length_take, Array.length_toList, hcs]; omega) (fun j v hj => by
   rw [Addr.add_lit, Nat.zero_add]
   refine hcl j v ?_
   rw [List.getElem?_take] at hj ⊢
   split at hj
   ·rw [if_pos (by omega)]; exact hj
   ·cases hj)
 have hrz : ∀ ty, (Builtin.append_ #[23, 3] ty #[.slice (some ⟨g, 0, none⟩) i c, .int .i64 ((n : Int) + (m : Int) - (i : Int))]).run Pz w =
   .ok (.slice (some ⟨w.heap.size, 0, none⟩) (n + m) (grownCap w (n + m) c 29)) (w.drew.alloc (.cells ((cur.toList.take (i * 4)).toArray ++ Builtin.zeroCells z.cells (n + m - i) ++ Builtin.zeroCells z.cells (grownCap w (n + m) c 29 - (n + m))) 29)) := fun ty => by
  have h := Lib.run_append_grow_zeros w 23 3 ty 29 i0 z .i64 .i64 t33 t3 hi0 hz (some ⟨g, 0, none⟩) i c (cur.toList.take (i * 4)) hold (n + m - i) (by omega) (by omega) (by omega) (by omega) (by rw [hzb]; omega) (by rw [hzb, hik]; exact growslice_fits hroom hbig)
  rw [hik] at h
  rw [hkk]
  exact h
 obtain ⟨G, hG⟩ : ∃ G, G = grownCap w (n + m) c 29 := ⟨_, rfl⟩
 obtain ⟨ROW, hROW⟩ : ∃ ROW : Array Value, ROW = (cur.toList.take (i * 4)).toArray ++ Builtin.zeroCells z.cells (n + m - i) ++ Builtin.zeroCells z.cells (G - (n + m)) := ⟨_, rfl⟩
 rw [← hG] at hrz
 rw [← hROW] at hrz
 have hGn : n + m ≤ G := by rw [hG]; exact grownCap_ge w _ _ _
 have hGm : G ≤ maxLen := by rw [hG]; exact grownCap_le_maxLen w (n + m) c 29 (by unfold maxLen; omega)
 have hG63 : G ≤ 9223372036854775807 := by unfold maxLen at hGm; omega
 have hRl : ROW.size = G * 4 := by
  rw [hROW]
  simp only [Array.size_append, List.size_toArray, size_zeroCells, hzc, List.length_take, Array.length_toList, hcs]
  omega
 have hRt : ROW.toList.take (i * 4) = cur.toList.take (i * 4) := by
  rw [hROW]
  simp only [Array.toList_append, List.append_assoc]
  have : i * 4 = (cur.toList.take (i * 4)).length := by simp only [List.length_take, Array.length_toList, hcs]; omega
  exact List.take_left' this.symm
 refine ⟨G, ROW, w.drew.alloc (.cells ROW 29), hGm, hGn, hRl, hRt, rfl, rfl, rfl, rfl, ?_⟩
 obtain ⟨W1, hW1⟩ : ∃ W1, W1 = w.drew.alloc (.cells ROW 29) := ⟨_, rfl⟩
 rw [← hW1] at hrz ⊢
 have hNew : W1.heap[w.heap.size]? = some (.cells ROW 29 (0, 0)) := by rw [hW1]; exact heap_alloc_new w.drew _
 have hOld : ∀ b, b < w.heap.size → W1.heap[b]? = w.heap[b]? := fun b hb => by rw [hW1]; exact RowKit.Below.heap_alloc w.drew _ b hb
 have hos : W1.os = w.os ∧ W1.tape = w.tape ∧ W1.output = w.output := by rw [hW1]; exact ⟨rfl, rfl, rfl⟩
 have hgN : g ≠ w.heap.size := by omega
 have hvN : vb ≠ w.heap.size := by omega
 have hcpA : ∀ (W : World), W.heap = W1.heap → ∀ ty dc, (Builtin.copy_ #[23, 23] ty #[.slice (some ⟨w.heap.size, i * 4, none⟩) (n + m - i) dc, .slice (some ⟨vb, 0, none⟩) m vc]).run Pz W =
   .ok (goInt (Nat.min m (n + m - i))) (W.setRow w.heap.size (splice ROW.toList (i * 4) (vcur.toList.take (m * 4))).toArray) := fun W hW ty dc =>
  jqC W _ _ ty 29 4 w.heap.size (i * 4) (n + m - i) dc ⟨vb, 0, none⟩ m vc ROW 29 _ t33 hsz (by rw [hW]; exact hNew)
   (by simp only [List.length_take, Array.length_toList, Nat.min_def]; split <;> split <;> omega)
   (fun j v hj => by
    have := hcv j v hj
    rw [Addr.add_lit, Nat.zero_add]
    unfold World.cell? at this ⊢
    rw [hW, show W1.heap[vb]? = w.heap[vb]? from hOld vb hvw]; exact this) (by simp only [List.length_take, Array.length_toList]; omega) h1v
 obtain ⟨R2, hR2⟩ : ∃ R2, R2 = (splice ROW.toList (i * 4) (vcur.toList.take (m * 4))).toArray := ⟨_, rfl⟩
 have hE : W1.setRow w.heap.size (splice (splice ROW.toList (i * 4) (vcur.toList.take (m * 4))) ((i + m) * 4) ((cur.toList.take (n * 4)).drop (i * 4))).toArray =
   (W1.setRow w.heap.size R2).setRow w.heap.size (splice R2.toList ((i + m) * 4) ((cur.toList.take (n * 4)).drop (i * 4))).toArray := by rw [setRow_setRow, hR2]
 rw [hE]
 have hR2s : R2.size = G * 4 := by rw [hR2]; simp only [splice, List.size_toArray, List.length_append, List.length_drop, List.length_take, Array.length_toList, hRl]; omega
 rw [← hR2] at hcpA
 clear hE hR2
 have hcpB : ∀ (W : World), W.heap = (W1.setRow w.heap.size R2).heap → ∀ ty dc sc, (Builtin.copy_ #[23, 23] ty #[.slice (some ⟨w.heap.size, (i + m) * 4, none⟩) (n + m - (i + m)) dc, .slice (some ⟨g, i * 4, none⟩) (n - i) sc]).run Pz W =
   .ok (goInt (Nat.min (n - i) (n + m - (i + m)))) (W.setRow w.heap.size (splice R2.toList ((i + m) * 4) ((cur.toList.take (n * 4)).drop (i * 4))).toArray) := fun W hW ty dc sc =>
  jqC W _ _ ty 29 4 w.heap.size ((i + m) * 4) (n + m - (i + m)) dc ⟨g, i * 4, none⟩ (n - i) sc R2 29 _ t33 hsz (by rw [hW]; exact setRow_heap W1 w.heap.size ROW R2 29 (0, 0) hNew)
   (by rw [hdl]; simp only [Nat.min_def]; split <;> omega)
   (fun j v hj => by
    have := hcl (i * 4 + j) v (by rwa [List.getElem?_drop] at hj)
    rw [Addr.add_lit]
    unfold World.cell? at this ⊢
    rw [hW, show (W1.setRow w.heap.size R2).heap[g]? = w.heap[g]? from (setRow_other W1 w.heap.size g R2 hgN).trans (hOld g hgw)]; exact this) (by rw [hdl, hR2s]; omega) (fun v hv => h1c v (List.mem_of_mem_drop hv))
 have hGi : ¬ (G = i) := by omega
 have hGim : ¬ (G = i + m) := by omega
 have hci : ¬ (c = i) := by omega
 have hw1 : IntKind.i64.wrap ((i : Int) + (m : Int)) = (i : Int) + (m : Int) := by rw [IntKind.wrap_i64]; omega
 have hb1 : (0 : Int) ≤ (i : Int) + (m : Int) := by omega
 have hin : i ≤ n := by omega
 have htn : ((i : Int) + (m : Int)).toNat = i + m := by omega
 have hb3 : (i : Int) ≤ (n : Int) := by omega
 clear hkk hik hold hROW hG hRl hW1
 go_enter Tryz.func112, Tryz.ntmps112
 go_wp2_with (first
  | (at_builtin; refine jqe _ rfl _ _ 23 3 rfl _ _ rfl rfl (hrz _) ?_)
  | (at_builtin; refine jq6 _ rfl _ _ 23 23 rfl _ _ rfl rfl (hcpA _ rfl _ _) ?_))
 go_region_law (refine jxT rfl _ _ 23 23 rfl (.slice (some ⟨w.heap.size, (i + m) * 4, none⟩) (n + m - (i + m)) (G - (i + m))) (.slice (some ⟨g, i * 4, none⟩) (n - i) (c - i)) (by simp [Act.eval, Act.put]) (by simp [Act.eval, Act.put]) (hcpB (W1.setRow w.heap.size R2).drew rfl 3 (G - (i + m)) (c - i)) ?_)
 go_wp2
 go_ret
 exact ⟨rfl, hos.1, hos.2.1, hos.2.2, rfl⟩
noncomputable def SH112 : jjA := insSumm .pack 80
theorem zH112 : jje Pz 112 SH112 := insert_ok (t := .pack) (bt := 80) rfl (by decide) (T := 23) (e := 29) ⟨ins_none0pack, ins_none1pack, ins_end0pack, ins_end1pack, ins_shiftpack, ins_growpack⟩ (fun vs w => enters_of Tryz.func112 (by kernel_rfl) rfl _ _) (by kernel_rfl) (by kernel_rfl)
noncomputable abbrev L59 : LS := [(57, S57), (107, S107), (111, S111), (112, SH112)]
theorem G59 : CtxGood Pz (cx EE L59) := gd ⟨z57, z107, z111, zH112, ⟨⟩⟩
abbrev i59 : Shape := ⟨[tL 0 .pack, tA 1 [eS, eS, eL .need, eL .entry]], [], 30⟩
abbrev o59 : Shape := ⟨[tO 4 3000256], [zR 3000256 .pack 4 0], 30⟩
noncomputable def f59 (a : i59.Y) : Option o59.Y :=
(f107 ((a.1.1, ()), ())).bind fun r1965 =>
(f57 ((r1965.2.1, (a.1.2.1.1, ())), ())).bind fun r1967 =>
 bif r1967.1.2.1 then
(f111 (((a.1.2.1.1, (a.1.2.1.2.1, (a.1.2.1.2.2.1, (a.1.2.1.2.2.2.1, ())))), ()), ())).bind fun r1971 =>
(inb r1965.2.1.length r1967.1.1).bind fun x1972 =>
((r1965.2.1[x1972]?).bind fun q => some (Pack.mk r1971.2.2.2.1.1 r1971.2.2.2.1.2.1 r1971.2.1 r1971.2.2.1)).bind fun x1973 =>
 some (((), ()), ((r1965.2.1.set x1972 x1973), ()))
else
(f111 (((a.1.2.1.1, (a.1.2.1.2.1, (a.1.2.1.2.2.1, (a.1.2.1.2.2.2.1, ())))), ()), ())).bind fun r1974 =>
(insL 80 r1965.2.1 r1967.1.1 ([(Pack.mk r1974.2.2.2.1.1 r1974.2.2.2.1.2.1 r1974.2.1 r1974.2.2.1)] : List Pack)).bind fun r1975 =>
 some (((), ()), (r1975, ()))
noncomputable def S59 : jjA := jjE EE Tryz.f59 i59 o59 [] f59
theorem z59 : jje Pz 59 S59 := jjb G59 Tryz.func59 (by kernel_rfl) jja (fun y => by kernel_rfl) fun a => by kernel_rfl
noncomputable abbrev L15 : LS := [(13, S13), (18, S18), (56, S56), (57, S57), (58, S58), (59, S59)]
theorem G15 : CtxGood Pz (cx EE L15) := gd ⟨z13, z18, z56, z57, z58, z59, ⟨⟩⟩
abbrev i15 : Shape := ⟨[tA 0 [eL .pack], tA 1 [eS, eS, eL .need, eL .entry]], [], 36⟩
abbrev o15 : Shape := ⟨[tP 4 4 0, tI 5], [zB 4 [eL .pack]], 36⟩
noncomputable def f15 (a : i15.Y) : Option o15.Y :=
(f18 (((a.1.1.1, ()), ()), ())).bind fun r1993 =>
 bif (!r1993.1.1) then
 some (((), ((1 : Int), ())), ((([] : List Pack), ()), ()))
else
(f13 (((a.1.2.1.1, (a.1.2.1.2.1, (a.1.2.1.2.2.1, (a.1.2.1.2.2.2.1, ())))), ()), ())).bind fun r1998 =>
 bif (!r1998.1.1) then
(f56 (((a.1.1.1, ()), ()), ())).bind fun r1999 =>
 some (((), ((1 : Int), ())), ((r1999.2.1, ()), ()))
else
(f57 ((a.1.1.1, (a.1.2.1.1, ())), ())).bind fun r2004 =>
 bif r2004.1.2.1 then
(f56 (((a.1.1.1, ()), ()), ())).bind fun r2005 =>
 some (((), ((2 : Int), ())), ((r2005.2.1, ()), ()))
else
(f59 ((a.1.1.1, ((a.1.2.1.1, (a.1.2.1.2.1, (a.1.2.1.2.2.1, (a.1.2.1.2.2.2.1, ())))), ())), ())).bind fun r2006 =>
(f58 ((r2006.2.1, ((a.1.1.1, ()), ())), ())).bind fun r2007 =>
 some (((), (r2007.1.2.1, ())), ((r2007.2.1.1, ()), ()))
noncomputable def S15 : jjA := jjE EE Tryz.f15 i15 o15 [] f15
theorem z15 : jje Pz 15 S15 := jjb G15 Tryz.func15 (by kernel_rfl) jja (fun y => by kernel_rfl) fun a => by kernel_rfl
theorem v_CloneN (a) (hs : Bd a.1.1.length) : f186 a = some (((), ()), (a.1.1, ())) := by
 obtain ⟨⟨xs, u⟩, u'⟩ := a
 have hs : xs.length ≤ 2097152 := hs
 have h2 : (apd 40 ([] : List Need) xs).bind (fun x => some (((), ()), (x, ()))) = (some (((), ()), (xs, ())) : Option o186.Y) := by
  rw [jqc (by decide) (by unfold Sm; simp only [List.length_nil]; omega)]; rfl
 simp only [f186]
 rw [h2]
 unfold jq7
 split
 ·rfl
 ·rename_i h
  exact absurd (fun he : xs = [] => by subst he; rfl) h
theorem v_clonePack (a) (h : BdP ⟨a.1.1.1, a.1.1.2.1, a.1.1.2.2.1, a.1.1.2.2.2.1⟩) : f111 a = some (((), ()), (a.1.1.2.2.1, (a.1.1.2.2.2.1, ((a.1.1.1, (a.1.1.2.1, ((), ((), ())))), ())))) := by
 obtain ⟨⟨⟨name, version, needs, tree, u⟩, u'⟩, u''⟩ := a
 have e1 := v_CloneN ((needs, ()), ()) h.2.2.1.1
 have e2 := v_CloneE ((tree, ()), ()) h.2.2.2.1
 simp only [f111, e1, e2, Option.bind_some]
theorem v_clonePacks (a) (h : BdPs a.1.1) : f107 a = some (((), ()), (a.1.1, ())) := by
 obtain ⟨⟨ps, u⟩, u'⟩ := a
 have hl : ps.length ≤ 2097152 := h.1
 have key := loop_fold (S := List Pack) g107_58 ps (fun i acc => (((), (ps, ((ps.length : Int), ((i : Int), ())))), (acc, ()))) (fun x acc => acc ++ [x]) (fun acc => (((), ()), (acc, ()))) (fun i acc => acc.length = i) [] rfl (fun i x acc hx hI => ?_) (fun acc hI => ?_)
 ·have key : l107_58 (((), (ps, ((ps.length : Int), ((0 : Int), ())))), (([] : List Pack), ())) = _ := key
  have e : ∀ (l acc : List Pack), l.foldl (fun s x => s ++ [x]) acc = acc ++ l := by
   intro l
   induction l with
   | nil => intro acc; simp
   | cons x l ih => intro acc; simp only [List.foldl_cons]; rw [ih]; simp
  simp only [f107, key, Option.bind_some]
  rw [e]; rfl
 ·have hi := jju hx
  have hw : Sm i := by unfold Sm; omega
  have e2 := v_clonePack (((x.name, (x.version, (x.needs, (x.tree, ())))), ()), ()) (h.2 x (List.mem_of_getElem? hx))
  have ha : apd 80 acc [x] = some (acc ++ [x]) := jqc (by decide) (by unfold Sm; simp; omega)
  simp only [g107_58, jjx hi, cond_true, jjs, hx, Option.bind_some, e2, ha, jjk hw]
  exact ⟨trivial, by simp [hI]⟩
 ·simp only [g107_58, jjF, cond_false]
theorem v_cloneRoot (a) (h : BdPs a.1.1.1) : f56 a = some (((), ()), (a.1.1.1, (((), ()), ()))) := by
 obtain ⟨⟨⟨ps, u0⟩, u⟩, u'⟩ := a
 have e := v_clonePacks ((ps, ()), ()) h
 simp only [f56, e, Option.bind_some]
abbrev AscN (ps : List Pack) : Prop := ps.Pairwise fun p q => Op.bytesLess p.name q.name = true
def asE (p : Pack) : Entry := ⟨p.name, 0, 0, []⟩
theorem posP_E (ps : List Pack) (n : Str) : jjZ (ps.map asE) n = jzU ps n := by
 unfold jjZ jzU
 rw [List.takeWhile_map, List.length_map]; rfl
theorem ascE {ps : List Pack} (h : AscN ps) : Asc (ps.map asE) := by
 unfold Asc
 rw [List.pairwise_map]; exact h
theorem posP_spec {ps : List Pack} {n : Str} (ha : AscN ps) (h : Nat) (p : Pack) (hp : ps[h]? = some p) : Op.bytesLess p.name n = decide (h < jzU ps n) := by
 have := jqm (p := n) (ascE ha) h (asE p) (by rw [List.getElem?_map, hp]; rfl)
 rw [posP_E] at this
 exact this
def hasP (ps : List Pack) (n : Str) : Bool := match ps[jzU ps n]? with
 | some q => q.name == n
 | none => false
theorem v_findPack (a) (hs : Bd a.1.1.length) (ha : AscN a.1.1) : f57 a = some (((jzU a.1.1 a.1.2.1 : Int), (hasP a.1.1 a.1.2.1, ())), ()) := by
 obtain ⟨⟨t, p, u⟩, u'⟩ := a
 have hs : t.length ≤ 2097152 := hs
 have hP := posP_le t p
 have hc : ∀ x : Pack, f109 (((x.name, (x.version, (x.needs, (x.tree, ())))), (p, ())), ()) = some ((cmpI x.name p, ()), ()) := by
  intro x
  have h1 : (x.name == x.name) = true := by simp
  have h2 : (p == p) = true := by simp
  simp only [f109, f110, f185, Option.bind_some, h1, h2, Bool.not_true, cond_false, cmpI]
  cases Op.bytesLess x.name p <;> cases (x.name == p) <;> rfl
 have key : ∀ d i j : Nat, j - i = d → i ≤ jzU t p → jzU t p ≤ j → j ≤ t.length →
   l108v0_60 ((t, (p, ((), ((t.length : Int), ((i : Int), ((j : Int), ())))))), ()) =
    some (((t, (p, ((), ((t.length : Int), ((jzU t p : Int), ()))))), ())) := by
  intro d
  induction d using Nat.strongRecOn with
  | _ d ih =>
   intro i j hd hi hj hl
   by_cases hij : i < j
   ·have hh : (i + j) / 2 < t.length := by omega
    obtain ⟨e, he⟩ : ∃ e, t[(i + j) / 2]? = some e := ⟨t[(i + j) / 2], List.getElem?_eq_getElem hh⟩
    have hsh : shrI .u64 (IntKind.u64.wrap (IntKind.i64.wrap ((i : Int) + (j : Int)))) 1 = some ((((i + j) / 2 : Nat)) : Int) := by
     rw [← shr1 (n := i + j) (by omega)]; rw [Int.natCast_add]
    have hwh : IntKind.i64.wrap (((i + j) / 2 : Nat) : Int) = (((i + j) / 2 : Nat) : Int) := jjD (by omega) (by omega)
    have hps := posP_spec (n := p) ha ((i + j) / 2) e he
    cases hb : Op.bytesLess e.name p with
    | true =>
     rw [hb] at hps
     have hlt : (i + j) / 2 < jzU t p := by simpa using hps.symm
     refine (jqr ?_).trans (ih (j - ((i + j) / 2 + 1)) (by omega) ((i + j) / 2 + 1) j rfl (by omega) hj hl)
     simp only [g108v0_60, jjx hij, cond_true, hsh, hwh, jjs, he, Option.bind_some, hc, cmpI_neg, hb, jjk (i := (i + j) / 2) (by unfold Sm; omega)]
    | false =>
     rw [hb] at hps
     have hge : ¬ (i + j) / 2 < jzU t p := by simpa using hps.symm
     refine (jqr ?_).trans (ih ((i + j) / 2 - i) (by omega) i ((i + j) / 2) rfl hi (by omega) (by omega))
     simp only [g108v0_60, jjx hij, cond_true, hsh, hwh, jjs, he, Option.bind_some, hc, cmpI_neg, hb, cond_false]
   ·have hi' : i = jzU t p := by omega
    have hlt : decide ((i : Int) < (j : Int)) = false := by simp only [decide_eq_false_iff_not]; omega
    refine jjP ?_
    simp only [g108v0_60, hlt, cond_false]
    rw [hi']
 have k0 : l108v0_60 ((t, (p, ((), ((t.length : Int), ((0 : Int), ((t.length : Int), ())))))), ()) = _ := key t.length 0 t.length (Nat.sub_zero _) (Nat.zero_le _) hP (Nat.le_refl _)
 have fb : f108v0 ((t, (p, ((), ()))), ()) = some (((jzU t p : Int), (hasP t p, ())), ()) := by
  simp only [f108v0, k0, Option.bind_some, hasP, jjs, hc, cmpI_zero]
  cases ht : t[jzU t p]? with
  | none =>
   have := List.getElem?_eq_none_iff.1 ht
   have : decide ((jzU t p : Int) < (t.length : Int)) = false := by simp only [decide_eq_false_iff_not]; omega
   rw [this]; rfl
  | some e => rw [jjx (jju ht)]; rfl
 simp only [f57, fb, Option.bind_some]
theorem find_pos {ps : List Pack} (ha : AscN ps) (n : Str) : ps.find? (fun q => q.name == n) = bif hasP ps n then ps[jzU ps n]? else none := by
 have hu : ∀ (k : Nat) (q : Pack), ps[k]? = some q → q.name = n → k = jzU ps n := by
  intro k q hk hq
  have h1 := posP_spec (n := n) ha k q hk
  have h2 : Op.bytesLess q.name n = false := by rw [hq]; exact bl_irr _
  rw [h1] at h2
  have h2 : ¬ k < jzU ps n := of_decide_eq_false h2
  rcases Nat.lt_or_ge (jzU ps n) k with h3 | h3
  ·have h4 : jzU ps n < ps.length := Nat.lt_trans h3 (jju hk)
   have h5 := List.getElem?_eq_getElem h4
   have h6 := posP_spec (n := n) ha (jzU ps n) ps[jzU ps n] h5
   have h7 := List.pairwise_iff_getElem.1 ha (jzU ps n) k h4 (jju hk) h3
   have h8 : ps[k]'(jju hk) = q := by
    have := List.getElem?_eq_getElem (jju hk)
    rw [hk] at this
    exact (Option.some.inj this).symm
   rw [h8, hq] at h7
   rw [h7] at h6
   have := of_decide_eq_true h6.symm
   omega
  ·omega
 cases hf : ps.find? (fun q => q.name == n) with
 | none =>
  have h0 := List.find?_eq_none.1 hf
  unfold hasP
  cases hq : ps[jzU ps n]? with
  | none => rfl
  | some q =>
   have := h0 q (List.mem_of_getElem? hq)
   simp only [Bool.not_eq_true] at this
   simp only [this, cond_false]
 | some q =>
  have h1 : q.name = n := by have := List.find?_some hf; simpa using this
  obtain ⟨k, hk⟩ := List.mem_iff_getElem?.1 (List.mem_of_find?_eq_some hf)
  have := hu k q hk h1
  subst this
  unfold hasP
  simp only [hk, h1, beq_self_eq_true, cond_true]
theorem v_packsWith (a) (hb : BdPs a.1.1) (hl : a.1.1.length ≤ 2000000) (hp : BdP ⟨a.1.2.1.1, a.1.2.1.2.1, a.1.2.1.2.2.1, a.1.2.1.2.2.2.1⟩) (ha : AscN a.1.1) : f59 a = some (((), ()), ((bif hasP a.1.1 a.1.2.1.1 then a.1.1.set (jzU a.1.1 a.1.2.1.1) ⟨a.1.2.1.1, a.1.2.1.2.1, a.1.2.1.2.2.1, a.1.2.1.2.2.2.1⟩ else jxN a.1.1 ⟨a.1.2.1.1, a.1.2.1.2.1, a.1.2.1.2.2.1, a.1.2.1.2.2.2.1⟩), ())) := by
 obtain ⟨⟨ps, ⟨name, version, needs, tree, u0⟩, u⟩, u'⟩ := a
 have hl : ps.length ≤ 2000000 := hl
 have e1 := v_clonePacks ((ps, ()), ()) hb
 have e2 := v_findPack ((ps, (name, ())), ()) hb.1 ha
 have e3 := v_clonePack (((name, (version, (needs, (tree, ())))), ()), ()) hp
 have hpl := posP_le ps name
 simp only [f59, e1, e2, e3, Option.bind_some]
 cases hh : hasP ps name with
 | true =>
  unfold hasP at hh
  cases hq : ps[jzU ps name]? with
  | none => rw [hq] at hh; cases hh
  | some q => simp only [cond_true, jxY (jju hq), hq, Option.bind_some]
 | false =>
  have grow : insL 80 ps (jzU ps name : Int) [(⟨name, version, needs, tree⟩ : Pack)] = some (jxN ps ⟨name, version, needs, tree⟩) := by
   unfold insL
   rw [if_pos ⟨by omega, by omega, by unfold room; simp only [List.length_cons, List.length_nil]; omega, by unfold maxLen; simp only [List.length_cons, List.length_nil]; omega⟩, Int.toNat_natCast]
   rfl
  simp only [cond_false, grow, Option.bind_some]
theorem v_rootOr (a) (hb : BdPs a.1.1) (hv : VS a.1.1) (hr : BdPs a.1.2.1.1) : f58 a = some (((), (jxm a.1.1, ())), (((bif jxm a.1.1 == 0 then a.1.1 else a.1.2.1.1), ()), ())) := by
 obtain ⟨⟨list, ⟨r, u0⟩, u⟩, u'⟩ := a
 have e := v_rootCode ((list, ()), ()) hb hv
 have e2 := v_cloneRoot (((r, ()), ()), ()) hr
 simp only [f58, e, Option.bind_some]
 have z : (jxm list != 0) = !(jxm list == 0) := rfl
 rw [z]
 cases hc : (jxm list == 0) with
 | false => simp only [Bool.not_false, cond_true, cond_false, e2, Option.bind_some]
 | true =>
  have hc : jxm list = 0 := by simpa using hc
  simp only [Bool.not_true, cond_false, cond_true]
  rw [hc]
def inR (ps : List Pack) (p : Pack) : List Pack × Int := bif jqK ps then inL ps p else ([], 1)
theorem rootOk_asc {ps : List Pack} (h : jqK ps = true) : AscN ps := by
 obtain ⟨t, R⟩ := rt_of h
 exact R.asc
theorem rootOk_len {ps : List Pack} (h : jqK ps = true) : ps.length ≤ 5 := by
 unfold jqK at h
 simp only [Bool.and_eq_true, decide_eq_true_eq] at h
 exact h.1.1.2
theorem v_iRootIn (a) (k : Nat) (hk : k ≤ 1999999) (h : OkR k a.1.1.1) (hp : OkP ⟨a.1.2.1.1, a.1.2.1.2.1, a.1.2.1.2.2.1, a.1.2.1.2.2.2.1⟩) : f15 a = some (((), ((inR a.1.1.1 ⟨a.1.2.1.1, a.1.2.1.2.1, a.1.2.1.2.2.1, a.1.2.1.2.2.2.1⟩).2, ())), (((inR a.1.1.1 ⟨a.1.2.1.1, a.1.2.1.2.1, a.1.2.1.2.2.1, a.1.2.1.2.2.2.1⟩).1, ()), ())) := by
 obtain ⟨⟨⟨ps, u0⟩, ⟨name, version, needs, tree, u1⟩, u⟩, u'⟩ := a
 have h : OkR k ps := h
 have hp : OkP ⟨name, version, needs, tree⟩ := hp
 have hb : BdPs ps := h.bd (by omega)
 have e0 := v_iRootOk (((ps, ()), ()), ()) hb h.vs
 simp only [f15, e0, Option.bind_some, inR]
 cases hr : jqK ps with
 | false => rfl
 | true =>
  have ha := rootOk_asc hr
  have hl := rootOk_len hr
  have e1 := v_iPackOk (((name, (version, (needs, (tree, ())))), ()), ()) hp.1
  have e2 := v_cloneRoot (((ps, ()), ()), ()) hb
  have e3 := v_findPack ((ps, (name, ())), ()) hb.1 ha
  have e4 := v_packsWith ((ps, ((name, (version, (needs, (tree, ())))), ())), ()) hb (show ps.length ≤ 2000000 by omega) hp.1 ha
  simp only [Bool.not_true, cond_false, cond_true, e1, Option.bind_some, inL, find_pos ha]
  cases jxL ⟨name, version, needs, tree⟩ with
  | false => simp only [Bool.not_false, cond_true, cond_false, e2, Option.bind_some]
  | true =>
   simp only [Bool.not_true, cond_false, cond_true, e3, Option.bind_some]
   cases hh : hasP ps name with
   | true =>
    have hh' := hh
    unfold hasP at hh'
    cases hq : ps[jzU ps name]? with
    | none => rw [hq] at hh'; cases hh'
    | some q => simp only [cond_true, e2, Option.bind_some]
   | false =>
    rw [hh] at e4
    simp only [cond_false] at e4
    have hw := withL_ok (k := 5) ⟨hl, h.2⟩ hp
    have e5 := v_rootOr ((jxN ps ⟨name, version, needs, tree⟩, ((ps, ()), ())), ()) (hw.bd (by decide)) hw.vs hb
    simp only [cond_false, e4, e5, Option.bind_some]
noncomputable abbrev L12 : LS := [(43, S43v0), (44, S44v0)]
theorem G12 : CtxGood Pz (cx EE L12) := gd ⟨z43v0, z44v0, ⟨⟩⟩
abbrev i12 : Shape := ⟨[tL 0 .u8], [], 11⟩
abbrev o12 : Shape := ⟨[tP 2 2 0, tP 3 3 0], [zB 2 [eL .pack], zC 5000194 .need 3 2, zC 5000195 .entry 3 3, zB 3 [eS, eS, .own 5000194, .own 5000195]], 11⟩
noncomputable def f12 (a : i12.Y) : Option o12.Y :=
(f43v0 (((), ()), (((a.1.1.take 2000), ((0 : Int), ())), ()))).bind fun r1323 =>
(f44v0 (((), ()), ((r1323.2.1.1, (r1323.2.1.2.1, ())), ()))).bind fun r1324 =>
 some (((), ((), ())), ((r1323.2.2.1.1, ()), (r1324.2.2.1, (r1324.2.2.2.1, ((r1324.2.2.2.2.1.1, (r1324.2.2.2.2.1.2.1, ((), ((), ())))), ())))))
noncomputable def S12 : jjA := jjE EE Tryz.f12 i12 o12 [] f12
theorem z12 : jje Pz 12 S12 := jjb G12 Tryz.func12 (by kernel_rfl) jja (fun y => by kernel_rfl) fun a => by kernel_rfl
theorem asc_sub {α : Type} {key : α → Str} : ∀ {b a : List α}, a.Pairwise (fun x y => Op.bytesLess (key x) (key y) = true) → b.Pairwise (fun x y => Op.bytesLess (key x) (key y) = true) → (∀ x, x ∈ a → x ∈ b) → a.Sublist b := by
 intro b
 induction b with
 | nil =>
  intro a _ _ h
  cases a with
  | nil => exact List.Sublist.refl _
  | cons x r => exact absurd (h x List.mem_cons_self) (by simp)
 | cons y b ih =>
  intro a ha hb h
  cases a with
  | nil => exact List.nil_sublist _
  | cons x a =>
   obtain ⟨a1, a2⟩ := List.pairwise_cons.1 ha
   obtain ⟨b1, b2⟩ := List.pairwise_cons.1 hb
   have later : ∀ z, Op.bytesLess (key y) (key z) = true → z ∈ y :: b → z ∈ b := by
    intro z hz hm
    rcases List.mem_cons.1 hm with rfl | hm
    ·rw [bl_irr] at hz; cases hz
    ·exact hm
   rcases List.mem_cons.1 (h x List.mem_cons_self) with rfl | hx
   ·exact List.Sublist.cons_cons _ (ih a2 b2 fun z hz => later z (a1 z hz) (h z (List.mem_cons_of_mem _ hz)))
   ·refine List.Sublist.cons _ (ih ha b2 fun z hz => ?_)
    rcases List.mem_cons.1 hz with rfl | hz'
    ·exact hx
    ·exact later z (jzI _ _ _ (b1 x hx) (a1 z hz')) (h z hz)
theorem asc_eq {α : Type} {key : α → Str} {a b : List α} (ha : a.Pairwise fun x y => Op.bytesLess (key x) (key y) = true) (hb : b.Pairwise fun x y => Op.bytesLess (key x) (key y) = true) (h : ∀ x, x ∈ a ↔ x ∈ b) : a = b :=
 (asc_sub ha hb fun x hx => (h x).1 hx).eq_of_length_le (asc_sub hb ha fun x hx => (h x).2 hx).length_le
theorem find_no {ps : List Pack} {n : Str} : ps.find? (fun q => q.name == n) = none ↔ ∀ q, q ∈ ps → q.name ≠ n := by
 rw [List.find?_eq_none]
 constructor
 ·intro h q hq he; exact h q hq (by simpa using he)
 ·intro h q hq he; exact h q hq (by simpa using he)
structure InOk (ps : List Pack) (p : Pack) : Prop where
 ok : jqK ps = true
 pk : jxL p = true
 new : ∀ q, q ∈ ps → q.name ≠ p.name
 code : jxm (jxN ps p) = 0
theorem InOk.out {ps : List Pack} {p : Pack} (h : InOk ps p) : inR ps p = (jxN ps p, 0) := by
 unfold inR inL
 rw [h.ok, h.pk, find_no.2 h.new, h.code]
 rfl
theorem v_DrawRootIn (a) (h : RD (a.1.1.take 2000) 0 1000000) : Ev (f12 a) (fun r => ShR 5 r.2.1.1 ∧ ShP ⟨r.2.2.2.2.1.1, r.2.2.2.2.1.2.1, r.2.2.1, r.2.2.2.1⟩) := by
 unfold f12
 refine Ev.bind (v_l11AnyRoot _ 1000000 h (by decide)) fun r1 h1 => ?_
 exact Ev.bind (v_l11AnyPack _ _ h1.1 (by decide)) fun r2 h2 => Ev.ret ⟨h1.2, h2.2⟩
def Cmp (a b : List Entry) : Prop := ∀ e, e ∈ b → ∀ y, y ∈ a → y.path = e.path → y = e ∧ e.kind = 1
theorem joinL_can : ∀ (es out : List Entry), Asc out → Asc es → Cmp out es → ∃ o, jq0 out es = some o := by
 intro es
 induction es with
 | nil => intro out _ _ _; exact ⟨out, rfl⟩
 | cons e r ih =>
  intro out ha he hc
  obtain ⟨he1, he2⟩ := List.pairwise_cons.1 he
  have step : ∃ o, jxq out e = some o := by
   unfold jxq
   cases hq : out[jjZ out e.path]? with
   | none => exact ⟨_, rfl⟩
   | some q =>
    simp only
    cases hp : (q.path == e.path) with
    | false => exact ⟨_, rfl⟩
    | true =>
     obtain ⟨rfl, h2⟩ := hc e List.mem_cons_self q (List.mem_of_getElem? hq) (eq_of_beq hp)
     have : conf q q = false := by unfold conf; rw [h2, eqE_refl]; rfl
     rw [this]
     exact ⟨_, rfl⟩
  obtain ⟨o, ho⟩ := step
  rw [jqV, ho]
  refine ih o (stepJ_asc ha ho) he2 fun e' he' y hy hp => ?_
  rcases (stepJ_in ho y).1 hy with rfl | hy
  ·have := he1 e' he'
   rw [hp, bl_irr] at this
   cases this
  ·exact hc e' (List.mem_cons_of_mem _ he') y hy hp
abbrev frS : Str := [102, 114, 101, 115, 104]
section
variable {ps : List Pack} (hr : jqK ps = true) (hl : ps.length < 5) (hn : ∀ q, q ∈ ps → q.name ≠ frS) {x : Pack} (hx : x ∈ ps)
include hr hl hn hx
end
noncomputable abbrev L194 : LS := [(48, S48)]
theorem G194 : CtxGood Pz (cx EE L194) := gd ⟨z48, ⟨⟩⟩
abbrev i194 : Shape := ⟨[tA 0 [eS, eI, eS]], [], 34⟩
abbrev o194 : Shape := ⟨[tS 2], [], 34⟩
noncomputable def f194 (a : i194.Y) : Option o194.Y :=
(f48 (((a.1.1.1, (a.1.1.2.1, (a.1.1.2.2.1, ()))), ()), ())).bind fun r2094 =>
 bif (!r2094.1.1) then
 some ((([] : Str), ()), ())
else
 bif (a.1.1.2.1 == (1 : Int)) then
(cat a.1.1.1 ([61] : Str)).bind fun x2101 =>
(cat x2101 a.1.1.2.2.1).bind fun x2102 =>
 some ((x2102, ()), ())
else
 bif (a.1.1.2.1 == (2 : Int)) then
(cat a.1.1.1 ([62, 61] : Str)).bind fun x2103 =>
(cat x2103 a.1.1.2.2.1).bind fun x2104 =>
 some ((x2104, ()), ())
else
 bif (a.1.1.2.1 == (3 : Int)) then
(cat a.1.1.1 ([60] : Str)).bind fun x2105 =>
(cat x2105 a.1.1.2.2.1).bind fun x2106 =>
 some ((x2106, ()), ())
else
 some ((a.1.1.1, ()), ())
noncomputable def S194 : jjA := jjE EE Tryz.f194 i194 o194 [] f194
theorem z194 : jje Pz 194 S194 := jjb G194 Tryz.func194 (by kernel_rfl) jja (fun y => by kernel_rfl) fun a => by kernel_rfl
abbrev i63v0 : Shape := ⟨[tP 0 500000 0, tS 1], [zC 37000001 .u8 500000 1, zB 500000 [.slf, .own 37000001]], 19⟩
abbrev o63v0 : Shape := ⟨[tP 0 500000 0, tI 4, (5, .lf (.nilI))], [zC 37000001 .u8 500000 1, zB 500000 [.slf, .own 37000001]], 19⟩
noncomputable def f63v0 (a : i63v0.Y) : Option o63v0.Y :=
(apd 1 a.2.1 (jqs a.1.2.1)).bind fun x2056 =>
 some (((), ((a.1.2.1.length : Int), ((), ()))), (x2056, (((), ((), ())), ())))
noncomputable def S63v0 : jjA := jjE EE Tryz.f63 i63v0 o63v0 [0] f63v0
theorem z63v0 : jje Pz 63 S63v0 := jjb g0 Tryz.func63 (by kernel_rfl) jja (fun y => by kernel_rfl) fun a => by kernel_rfl
open Go.Shelf
def Tryz.laysM171_ren : Go.Shelf.Ren := ⟨fun | 171 => 64 | 243 => 124 | 246 => 199 | 283 => 258 | 284 => 259 | 285 => 260 | 286 => 261 | 129 => 300 | 317 => 321 | 318 => 322 | 319 => 323 | 320 => 324 | 337 => 348 | 338 => 349 | n => n, fun | 3 => 3 | 9 => 9 | 2 => 2 | 4 => 4 | 171 => 264 | 0 => 0 | 53 => 215 | 37 => 22 | 5 => 5 | 173 => 267 | 212 => 307 | 51 => 213 | 20 => 20 | 213 => 308 | 46 => 208 | 232 => 346 | 233 => 347 | n => n, fun | 17 => 2 | 18 => 5 | 19 => 6 | n => n⟩
theorem Tryz.laysM171 : Go.Proofs.LaysM.n171 Pz Tryz.laysM171_ren := {
 mixed := by kernel_rfl
 f129 := Tryz.func300.trans (congrArg some (by kernel_rfl))
 f171 := Tryz.func64.trans (congrArg some (by kernel_rfl))
 f243 := Tryz.func124.trans (congrArg some (by kernel_rfl))
 f246 := Tryz.func199.trans (congrArg some (by kernel_rfl))
 f283 := Tryz.func258.trans (congrArg some (by kernel_rfl))
 f284 := Tryz.func259.trans (congrArg some (by kernel_rfl))
 f285 := Tryz.func260.trans (congrArg some (by kernel_rfl))
 f286 := Tryz.func261.trans (congrArg some (by kernel_rfl))
 f317 := Tryz.func321.trans (congrArg some (by kernel_rfl))
 f318 := Tryz.func322.trans (congrArg some (by kernel_rfl))
 f319 := Tryz.func323.trans (congrArg some (by kernel_rfl))
 f320 := Tryz.func324.trans (congrArg some (by kernel_rfl))
 f337 := Tryz.func348.trans (congrArg some (by kernel_rfl))
 f338 := Tryz.func349.trans (congrArg some (by kernel_rfl))
 t0 := Tryz.underlying0
 a0 := Tryz.isAgg0
 z0 := Tryz.sizeOf0
 v0 := Tryz.zeroValue0
 t2 := Tryz.underlying2
 a2 := Tryz.isAgg2
 z2 := Tryz.sizeOf2
 v2 := Tryz.zeroValue2
 t3 := Tryz.underlying3
 a3 := Tryz.isAgg3
 z3 := Tryz.sizeOf3
 v3 := Tryz.zeroValue3
 t4 := Tryz.underlying4
 a4 := Tryz.isAgg4
 z4 := Tryz.sizeOf4
 v4 := Tryz.zeroValue4
 t5 := Tryz.underlying5
 a5 := Tryz.isAgg5
 z5 := Tryz.sizeOf5
 v5 := Tryz.zeroValue5
 t9 := Tryz.underlying9
 a9 := Tryz.isAgg9
 z9 := Tryz.sizeOf9
 v9 := Tryz.zeroValue9
 t20 := Tryz.underlying20
 a20 := Tryz.isAgg20
 z20 := Tryz.sizeOf20
 v20 := Tryz.zeroValue20
 t37 := Tryz.underlying22
 a37 := Tryz.isAgg22
 z37 := Tryz.sizeOf22
 v37 := Tryz.zeroValue22
 t46 := Tryz.underlying208
 a46 := Tryz.isAgg208
 z46 := Tryz.sizeOf208
 v46 := Tryz.zeroValue208
 t51 := Tryz.underlying213
 a51 := Tryz.isAgg213
 z51 := Tryz.sizeOf213
 v51 := Tryz.zeroValue213
 t53 := Tryz.underlying215
 a53 := Tryz.isAgg215
 z53 := Tryz.sizeOf215
 v53 := Tryz.zeroValue215
 t171 := Tryz.underlying264
 a171 := Tryz.isAgg264
 z171 := Tryz.sizeOf264
 v171 := Tryz.zeroValue264
 t173 := Tryz.underlying267
 a173 := Tryz.isAgg267
 z173 := Tryz.sizeOf267
 v173 := Tryz.zeroValue267
 t212 := Tryz.underlying307
 a212 := Tryz.isAgg307
 z212 := Tryz.sizeOf307
 v212 := Tryz.zeroValue307
 t213 := Tryz.underlying308
 a213 := Tryz.isAgg308
 z213 := Tryz.sizeOf308
 t232 := Tryz.underlying346
 a232 := Tryz.isAgg346
 z232 := Tryz.sizeOf346
 v232 := Tryz.zeroValue346
 t233 := Tryz.underlying347
 a233 := Tryz.isAgg347
 z233 := Tryz.sizeOf347
 v233 := Tryz.zeroValue347
 g17 := by kernel_rfl
 g18 := by kernel_rfl
 g19 := by kernel_rfl
 i0 := by kernel_rfl
 i2 := by kernel_rfl
 i3 := by kernel_rfl
 i4 := by kernel_rfl
 i5 := by kernel_rfl
 i9 := by kernel_rfl
 i20 := by kernel_rfl
 i37 := by kernel_rfl
 i46 := by kernel_rfl
 i51 := by kernel_rfl
 i53 := by kernel_rfl
 i171 := by kernel_rfl
 i173 := by kernel_rfl
 i212 := by kernel_rfl
 i232 := by kernel_rfl
 i233 := by kernel_rfl
 m17 := by kernel_rfl
 m18 := by kernel_rfl
 m19 := by kernel_rfl }
open Go.RowKit Go.Sort Go.Lib in
theorem Tryz.strconv_Itoa (n : Int) (h0 : -9223372036854775808 ≤ n) (h1 : n ≤ 9223372036854775807) (w : World) (htab : Lib.TabIs Pz w "internal/strconv.uint64pow10" .u64 Lib.pow10Tab) :
  Calls Pz 64 #[.int .i64 n] w fun e w' => e = .returned (.string ⟨(Lib.itoa n).toArray⟩) ∧ ∃ k os, w' = grow (w.drewN k) os := Any.strconv_Itoa Tryz.laysM171 n h0 h1 w htab
noncomputable def SH64 : jjA := itoaSumm
theorem zH64 : jje Pz 64 SH64 := itoa_ok (fun _ _ => enters_of Tryz.func64 (by kernel_rfl) rfl _ _) fun n h0 h1 w hw => Tryz.strconv_Itoa n h0 h1 w (tabIs_of (by kernel_rfl) (show TabAt w 2 .u64 Lib.pow10Tab from hw.2))
noncomputable abbrev L195 : LS := [(51, S51), (63, S63v0), (64, SH64)]
theorem G195 : CtxGood Pz (cx EE L195) := gd ⟨z51, z63v0, zH64, ⟨⟩⟩
abbrev s195_122 : Shape := ⟨[tP 3 3 0, tL 10 .entry, tI 11, tI 12], [zC 5000193 .u8 3 1, zB 3 [.slf, .own 5000193]], 64⟩
abbrev t195_122 : List OSh := [(.exit 0, ⟨[tP 3 3 0], [zC 5000193 .u8 3 1, zB 3 [.slf, .own 5000193]], 64⟩)]
noncomputable def g195_122 (y : s195_122.Y) : LR s195_122 t195_122 :=
 bif (decide (y.1.2.2.2.1 < y.1.2.2.1)) then
(ix y.1.2.1 y.1.2.2.2.1).bind fun x2160 =>
((if -9223372036854775808 ≤ x2160.mode ∧ x2160.mode ≤ 9223372036854775807 then some () else none)).bind fun r2162 =>
 bif (x2160.kind == (1 : Int)) then
(cat ([100, 105, 114, 32] : Str) (Lib.itoa x2160.mode)).bind fun x2163 =>
(cat x2163 ([32] : Str)).bind fun x2164 =>
(cat x2164 x2160.path).bind fun x2165 =>
(cat x2165 ([10] : Str)).bind fun x2166 =>
(f63v0 (((), (x2166, ())), (y.2.1, (((), ((), ())), ())))).bind fun r2167 =>
 some (.inl (((), (y.1.2.1, (y.1.2.2.1, ((IntKind.i64.wrap (y.1.2.2.2.1 + (1 : Int))), ())))), (r2167.2.1, (((), ((), ())), ()))))
else
 bif (x2160.kind == (2 : Int)) then
(cat ([102, 105, 108, 101, 32] : Str) (Lib.itoa x2160.mode)).bind fun x2176 =>
(cat x2176 ([32] : Str)).bind fun x2177 =>
(cat x2177 x2160.path).bind fun x2178 =>
(cat x2178 ([32] : Str)).bind fun x2179 =>
((if -9223372036854775808 ≤ (x2160.text.length : Int) ∧ (x2160.text.length : Int) ≤ 9223372036854775807 then some () else none)).bind fun r2180 =>
(cat x2179 (Lib.itoa (x2160.text.length : Int))).bind fun x2181 =>
(cat x2181 ([10] : Str)).bind fun x2182 =>
(f63v0 (((), (x2182, ())), (y.2.1, (((), ((), ())), ())))).bind fun r2183 =>
(cat x2160.text ([10] : Str)).bind fun x2184 =>
(f63v0 (((), (x2184, ())), (r2183.2.1, (((), ((), ())), ())))).bind fun r2185 =>
 some (.inl (((), (y.1.2.1, (y.1.2.2.1, ((IntKind.i64.wrap (y.1.2.2.2.1 + (1 : Int))), ())))), (r2185.2.1, (((), ((), ())), ()))))
else
 bif (x2160.kind == (3 : Int)) then
(cat ([108, 105, 110, 107, 32] : Str) x2160.path).bind fun x2186 =>
(cat x2186 ([32] : Str)).bind fun x2187 =>
(cat x2187 x2160.text).bind fun x2188 =>
(cat x2188 ([10] : Str)).bind fun x2189 =>
(f63v0 (((), (x2189, ())), (y.2.1, (((), ((), ())), ())))).bind fun r2190 =>
 some (.inl (((), (y.1.2.1, (y.1.2.2.1, ((IntKind.i64.wrap (y.1.2.2.2.1 + (1 : Int))), ())))), (r2190.2.1, (((), ((), ())), ()))))
else
 some (.inl (((), (y.1.2.1, (y.1.2.2.1, ((IntKind.i64.wrap (y.1.2.2.2.1 + (1 : Int))), ())))), (y.2.1, (((), ((), ())), ()))))
else
 some (.inr ((((), ()), (y.2.1, (((), ((), ())), ())))))
noncomputable def l195_122 : s195_122.Y → Option (YS t195_122) := jjv g195_122
theorem q195_122 : jjj Pz (jjc (jjh Tryz.f195) 1 122) (jjg s195_122 t195_122 l195_122) := jjf G195 (by kernel_rfl) jja fun y => by kernel_rfl
abbrev i195 : Shape := ⟨[tL 0 .entry], [], 64⟩
abbrev o195 : Shape := ⟨[tS 2], [], 64⟩
noncomputable def f195 (a : i195.Y) : Option o195.Y :=
(f51 ((a.1.1, ()), ())).bind fun r2126 =>
 bif (!r2126.1.1) then
 some ((([] : Str), ()), ())
else
(l195_122 (((), (a.1.1, ((a.1.1.length : Int), ((0 : Int), ())))), (([] : List Int), (((), ((), ())), ())))).bind fun r2191 =>
 some (((jqR r2191.2.1), ()), ())
noncomputable def S195 : jjA := jjE EE Tryz.f195 i195 o195 [] f195
theorem z195 : jje Pz 195 S195 := jjb G195 Tryz.func195 (by kernel_rfl) (frc q195_122 jja) (fun y => by kernel_rfl) fun a => by kernel_rfl
noncomputable abbrev L121 : LS := [(63, S63v0), (194, S194), (195, S195)]
theorem G121 : CtxGood Pz (cx EE L121) := gd ⟨z63v0, z194, z195, ⟨⟩⟩
abbrev s121_122 : Shape := ⟨[tP 1 1 0, tP 3 3 0, tL 16 .need, tI 17, tI 18], [zB 1 [eS, eS, eL .need, eL .entry], zC 5000193 .u8 3 1, zB 3 [.slf, .own 5000193]], 34⟩
abbrev t121_122 : List OSh := [(.exit 0, ⟨[tP 1 1 0, tP 3 3 0], [zB 1 [eS, eS, eL .need, eL .entry], zC 5000193 .u8 3 1, zB 3 [.slf, .own 5000193]], 34⟩)]
noncomputable def g121_122 (y : s121_122.Y) : LR s121_122 t121_122 :=
 bif (decide (y.1.2.2.2.2.1 < y.1.2.2.2.1)) then
(ix y.1.2.2.1 y.1.2.2.2.2.1).bind fun x2112 =>
(f194 (((x2112.name, (x2112.kind, (x2112.version, ()))), ()), ())).bind fun r2113 =>
(cat ([110, 101, 101, 100, 32] : Str) r2113.1.1).bind fun x2114 =>
(cat x2114 ([10] : Str)).bind fun x2115 =>
(f63v0 (((), (x2115, ())), (y.2.2.1, (((), ((), ())), ())))).bind fun r2116 =>
 some (.inl (((), ((), (y.1.2.2.1, (y.1.2.2.2.1, ((IntKind.i64.wrap (y.1.2.2.2.2.1 + (1 : Int))), ()))))), ((y.2.1.1, (y.2.1.2.1, (y.2.1.2.2.1, (y.2.1.2.2.2.1, ())))), (r2116.2.1, (((), ((), ())), ())))))
else
 some (.inr ((((), ((), ())), ((y.2.1.1, (y.2.1.2.1, (y.2.1.2.2.1, (y.2.1.2.2.2.1, ())))), (y.2.2.1, (((), ((), ())), ()))))))
noncomputable def l121_122 : s121_122.Y → Option (YS t121_122) := jjv g121_122
theorem q121_122 : jjj Pz (jjc (jjh Tryz.f121) 1 122) (jjg s121_122 t121_122 l121_122) := jjf G121 (by kernel_rfl) jja fun y => by kernel_rfl
abbrev i121 : Shape := ⟨[tA 0 [eS, eS, eL .need, eL .entry]], [], 34⟩
abbrev o121 : Shape := ⟨[tS 2], [], 34⟩
noncomputable def f121 (a : i121.Y) : Option o121.Y :=
(cat ([112, 97, 99, 107, 32] : Str) a.1.1.1).bind fun x2200 =>
(cat x2200 ([32] : Str)).bind fun x2201 =>
(cat x2201 a.1.1.2.1).bind fun x2202 =>
(cat x2202 ([10] : Str)).bind fun x2203 =>
(f63v0 (((), (x2203, ())), (([] : List Int), (((), ((), ())), ())))).bind fun r2204 =>
(l121_122 (((), ((), (a.1.1.2.2.1, ((a.1.1.2.2.1.length : Int), ((0 : Int), ()))))), ((a.1.1.1, (a.1.1.2.1, (a.1.1.2.2.1, (a.1.1.2.2.2.1, ())))), (r2204.2.1, (((), ((), ())), ()))))).bind fun r2206 =>
(f195 ((r2206.2.1.2.2.2.1, ()), ())).bind fun r2207 =>
(cat ([10] : Str) r2207.1.1).bind fun x2208 =>
(f63v0 (((), (x2208, ())), (r2206.2.2.1, (((), ((), ())), ())))).bind fun r2209 =>
 some (((jqR r2209.2.1), ()), ())
noncomputable def S121 : jjA := jjE EE Tryz.f121 i121 o121 [] f121
theorem z121 : jje Pz 121 S121 := jjb G121 Tryz.func121 (by kernel_rfl) (frc q121_122 jja) (fun y => by kernel_rfl) fun a => by kernel_rfl
abbrev i320 : Shape := ⟨[(0, .lf (.d (.int .u32))), tI 1], [], 17⟩
abbrev o320 : Shape := ⟨[(4, .lf (.d (.int .u32)))], [], 17⟩
noncomputable def f320 (a : i320.Y) : Option o320.Y :=
(shlI .u32 a.1.1 (andI .u64 (IntKind.u64.wrap a.1.2.1) (31 : Int))).bind fun x2285 =>
(shrI .u32 a.1.1 (IntKind.u64.wrap ((32 : Int) - (andI .u64 (IntKind.u64.wrap a.1.2.1) (31 : Int))))).bind fun x2286 =>
 some (((orI .u32 x2285 x2286), ()), ())
noncomputable def S320 : jjA := jjE EE Tryz.f320 i320 o320 [] f320
theorem z320 : jje Pz 320 S320 := jjb g0 Tryz.func320 (by kernel_rfl) jja (fun y => by kernel_rfl) fun a => by kernel_rfl
noncomputable abbrev L257 : LS := [(320, S320)]
theorem G257 : CtxGood Pz (cx EE L257) := gd ⟨z320, ⟨⟩⟩
abbrev i257 : Shape := ⟨[(0, .lf (.d (.int .u32))), tI 1], [], 9⟩
abbrev o257 : Shape := ⟨[(4, .lf (.d (.int .u32)))], [], 9⟩
noncomputable def f257 (a : i257.Y) : Option o257.Y :=
(f320 ((a.1.1, ((IntKind.i64.wrap (0 - a.1.2.1)), ())), ())).bind fun r2288 =>
 some ((r2288.1.1, ()), ())
noncomputable def S257 : jjA := jjE EE Tryz.f257 i257 o257 [] f257
theorem z257 : jje Pz 257 S257 := jjb G257 Tryz.func257 (by kernel_rfl) jja (fun y => by kernel_rfl) fun a => by kernel_rfl
noncomputable abbrev L196 : LS := [(257, S257)]
theorem G196 : CtxGood Pz (cx EE L196) := gd ⟨z257, ⟨⟩⟩
abbrev s196_14950 : Shape := ⟨[tL 1 .u8, tQ 2 2 .u32, tQ 4 4 .u32, tQ 5 5 .u32, tI 6, tI 27, tL 36 .u8, tI 37, tI 38], [(2, .row .u32, .same), (4, .row .u32, .same), (5, .row .u32, .same)], 208⟩
abbrev t196_14950 : List OSh := [(.exit 2, ⟨[tL 1 .u8, tQ 2 2 .u32, tQ 4 4 .u32, tQ 5 5 .u32, tI 27], [(2, .row .u32, .same), (4, .row .u32, .same), (5, .row .u32, .same)], 208⟩)]
noncomputable def g196_14950 (y : s196_14950.Y) : LR s196_14950 t196_14950 :=
 bif (decide (y.1.2.2.2.2.2.2.2.2.1 < y.1.2.2.2.2.2.2.2.1)) then
(ix y.1.2.2.2.2.2.2.1 y.1.2.2.2.2.2.2.2.2.1).bind fun x2267 =>
((jxM 64 y.2.2.2.1).bind fun q => inb q.length y.1.2.2.2.2.1).bind fun x2268 =>
(y.2.2.2.1[x2268]?).bind fun x2269 =>
(shlI .u32 x2269 (8 : Int)).bind fun x2270 =>
((jxM 64 y.2.2.2.1).bind fun q => inb q.length y.1.2.2.2.2.1).bind fun x2271 =>
((y.2.2.2.1[x2271]?).bind fun q => some (orI .u32 x2270 (IntKind.u32.wrap x2267))).bind fun x2272 =>
 some (.inl ((y.1.1, ((), ((), ((), (y.1.2.2.2.2.1, (y.1.2.2.2.2.2.1, (y.1.2.2.2.2.2.2.1, (y.1.2.2.2.2.2.2.2.1, ((IntKind.i64.wrap (y.1.2.2.2.2.2.2.2.2.1 + (1 : Int))), ()))))))))), (y.2.1, (y.2.2.1, ((y.2.2.2.1.set x2271 x2272), ())))))
else
 some (.inr (((y.1.1, ((), ((), ((), (y.1.2.2.2.2.2.1, ()))))), (y.2.1, (y.2.2.1, (y.2.2.2.1, ()))))))
noncomputable def l196_14950 : s196_14950.Y → Option (YS t196_14950) := jjv g196_14950
theorem q196_14950 : jjj Pz (jjc (jjH (jjc (jjh Tryz.f196) 1 58)) 116 14950) (jjg s196_14950 t196_14950 l196_14950) := jjf G196 (by kernel_rfl) jja fun y => by kernel_rfl
abbrev s196_58 : Shape := ⟨[tL 1 .u8, tQ 2 2 .u32, tQ 4 4 .u32, tQ 5 5 .u32, tI 27], [(2, .row .u32, .same), (4, .row .u32, .same), (5, .row .u32, .same)], 208⟩
abbrev t196_58 : List OSh := [(.exit 0, ⟨[tQ 2 2 .u32, tQ 4 4 .u32, tQ 5 5 .u32], [(2, .row .u32, .same), (4, .row .u32, .same), (5, .row .u32, .same)], 208⟩)]
noncomputable def g196_58 (y : s196_58.Y) : LR s196_58 t196_58 :=
 bif (decide (y.1.2.2.2.2.1 < (16 : Int))) then
(jqv y.1.1 (IntKind.i64.wrap ((4 : Int) * y.1.2.2.2.2.1)) (IntKind.i64.wrap ((IntKind.i64.wrap ((4 : Int) * y.1.2.2.2.2.1)) + (4 : Int)))).bind fun x2275 =>
(l196_14950 ((y.1.1, ((), ((), ((), (y.1.2.2.2.2.1, (y.1.2.2.2.2.1, (x2275, ((x2275.length : Int), ((0 : Int), ()))))))))), (y.2.1, (y.2.2.1, (y.2.2.2.1, ()))))).bind fun r2276 =>
 some (.inl ((r2276.1.1, ((), ((), ((), ((IntKind.i64.wrap (r2276.1.2.2.2.2.1 + (1 : Int))), ()))))), (r2276.2.1, (r2276.2.2.1, (r2276.2.2.2.1, ())))))
else
 some (.inr ((((), ((), ((), ()))), (y.2.1, (y.2.2.1, (y.2.2.2.1, ()))))))
noncomputable def l196_58 : s196_58.Y → Option (YS t196_58) := jjv g196_58
theorem q196_58 : jjj Pz (jjc (jjh Tryz.f196) 1 58) (jjg s196_58 t196_58 l196_58) := jjf G196 (by kernel_rfl) (frc q196_14950 jja) fun y => by kernel_rfl
abbrev s196_122 : Shape := ⟨[tQ 2 2 .u32, tQ 4 4 .u32, tQ 5 5 .u32, tI 9], [(2, .row .u32, .same), (4, .row .u32, .same), (5, .row .u32, .same)], 208⟩
abbrev t196_122 : List OSh := [(.exit 4, ⟨[tQ 2 2 .u32, tQ 4 4 .u32, tQ 5 5 .u32], [(2, .row .u32, .same), (4, .row .u32, .same), (5, .row .u32, .same)], 208⟩)]
noncomputable def g196_122 (y : s196_122.Y) : LR s196_122 t196_122 :=
 bif (decide (y.1.2.2.2.1 < (64 : Int))) then
((jxM 64 y.2.2.2.1).bind fun q => inb q.length (IntKind.i64.wrap (y.1.2.2.2.1 - (15 : Int)))).bind fun x2338 =>
(y.2.2.2.1[x2338]?).bind fun x2339 =>
(f257 ((x2339, ((7 : Int), ())), ())).bind fun r2340 =>
((jxM 64 y.2.2.2.1).bind fun q => inb q.length (IntKind.i64.wrap (y.1.2.2.2.1 - (15 : Int)))).bind fun x2341 =>
(y.2.2.2.1[x2341]?).bind fun x2342 =>
(f257 ((x2342, ((18 : Int), ())), ())).bind fun r2343 =>
((jxM 64 y.2.2.2.1).bind fun q => inb q.length (IntKind.i64.wrap (y.1.2.2.2.1 - (15 : Int)))).bind fun x2344 =>
(y.2.2.2.1[x2344]?).bind fun x2345 =>
(shrI .u32 x2345 (3 : Int)).bind fun x2346 =>
((jxM 64 y.2.2.2.1).bind fun q => inb q.length (IntKind.i64.wrap (y.1.2.2.2.1 - (2 : Int)))).bind fun x2356 =>
(y.2.2.2.1[x2356]?).bind fun x2357 =>
(f257 ((x2357, ((17 : Int), ())), ())).bind fun r2358 =>
((jxM 64 y.2.2.2.1).bind fun q => inb q.length (IntKind.i64.wrap (y.1.2.2.2.1 - (2 : Int)))).bind fun x2359 =>
(y.2.2.2.1[x2359]?).bind fun x2360 =>
(f257 ((x2360, ((19 : Int), ())), ())).bind fun r2361 =>
((jxM 64 y.2.2.2.1).bind fun q => inb q.length (IntKind.i64.wrap (y.1.2.2.2.1 - (2 : Int)))).bind fun x2362 =>
(y.2.2.2.1[x2362]?).bind fun x2363 =>
(shrI .u32 x2363 (10 : Int)).bind fun x2364 =>
((jxM 64 y.2.2.2.1).bind fun q => inb q.length (IntKind.i64.wrap (y.1.2.2.2.1 - (16 : Int)))).bind fun x2365 =>
(y.2.2.2.1[x2365]?).bind fun x2366 =>
((jxM 64 y.2.2.2.1).bind fun q => inb q.length (IntKind.i64.wrap (y.1.2.2.2.1 - (7 : Int)))).bind fun x2367 =>
(y.2.2.2.1[x2367]?).bind fun x2368 =>
((jxM 64 y.2.2.2.1).bind fun q => inb q.length y.1.2.2.2.1).bind fun x2369 =>
((y.2.2.2.1[x2369]?).bind fun q => some (IntKind.u32.wrap ((IntKind.u32.wrap ((IntKind.u32.wrap (x2366 + (xorI .u32 (xorI .u32 r2340.1.1 r2343.1.1) x2346))) + x2368)) + (xorI .u32 (xorI .u32 r2358.1.1 r2361.1.1) x2364)))).bind fun x2370 =>
 some (.inl (((), ((), ((), ((IntKind.i64.wrap (y.1.2.2.2.1 + (1 : Int))), ())))), (y.2.1, (y.2.2.1, ((y.2.2.2.1.set x2369 x2370), ())))))
else
 some (.inr ((((), ((), ((), ()))), (y.2.1, (y.2.2.1, (y.2.2.2.1, ()))))))
noncomputable def l196_122 : s196_122.Y → Option (YS t196_122) := jjv g196_122
theorem q196_122 : jjj Pz (jjc (jjh Tryz.f196) 1 122) (jjg s196_122 t196_122 l196_122) := jjf G196 (by kernel_rfl) jja fun y => by kernel_rfl
abbrev s196_1018 : Shape := ⟨[tQ 2 2 .u32, tQ 4 4 .u32, tQ 5 5 .u32, (12, .lf (.d (.int .u32))), (13, .lf (.d (.int .u32))), (14, .lf (.d (.int .u32))), (15, .lf (.d (.int .u32))), (16, .lf (.d (.int .u32))), (17, .lf (.d (.int .u32))), (18, .lf (.d (.int .u32))), (19, .lf (.d (.int .u32))), tI 122], [(2, .row .u32, .same), (4, .row .u32, .same), (5, .row .u32, .same)], 208⟩
abbrev t196_1018 : List OSh := [(.exit 6, ⟨[tQ 2 2 .u32, tQ 4 4 .u32, (12, .lf (.d (.int .u32))), (13, .lf (.d (.int .u32))), (14, .lf (.d (.int .u32))), (15, .lf (.d (.int .u32))), (16, .lf (.d (.int .u32))), (17, .lf (.d (.int .u32))), (18, .lf (.d (.int .u32))), (19, .lf (.d (.int .u32)))], [(2, .row .u32, .same), (4, .row .u32, .same)], 208⟩)]
noncomputable def g196_1018 (y : s196_1018.Y) : LR s196_1018 t196_1018 :=
 bif (decide (y.1.2.2.2.2.2.2.2.2.2.2.2.1 < (64 : Int))) then
(f257 ((y.1.2.2.2.2.2.2.2.1, ((6 : Int), ())), ())).bind fun r2465 =>
(f257 ((y.1.2.2.2.2.2.2.2.1, ((11 : Int), ())), ())).bind fun r2466 =>
(f257 ((y.1.2.2.2.2.2.2.2.1, ((25 : Int), ())), ())).bind fun r2467 =>
(ix shaK y.1.2.2.2.2.2.2.2.2.2.2.2.1).bind fun x2468 =>
((jxM 64 y.2.2.2.1).bind fun q => inb q.length y.1.2.2.2.2.2.2.2.2.2.2.2.1).bind fun x2469 =>
(y.2.2.2.1[x2469]?).bind fun x2470 =>
(f257 ((y.1.2.2.2.1, ((2 : Int), ())), ())).bind fun r2474 =>
(f257 ((y.1.2.2.2.1, ((13 : Int), ())), ())).bind fun r2475 =>
(f257 ((y.1.2.2.2.1, ((22 : Int), ())), ())).bind fun r2476 =>
 some (.inl (((), ((), ((), ((IntKind.u32.wrap ((IntKind.u32.wrap ((IntKind.u32.wrap ((IntKind.u32.wrap ((IntKind.u32.wrap (y.1.2.2.2.2.2.2.2.2.2.2.1 + (xorI .u32 (xorI .u32 r2465.1.1 r2466.1.1) r2467.1.1))) + (xorI .u32 (andI .u32 y.1.2.2.2.2.2.2.2.1 y.1.2.2.2.2.2.2.2.2.1) (andI .u32 (xorI .u32 4294967295 y.1.2.2.2.2.2.2.2.1) y.1.2.2.2.2.2.2.2.2.2.1)))) + x2468)) + x2470)) + (IntKind.u32.wrap ((xorI .u32 (xorI .u32 r2474.1.1 r2475.1.1) r2476.1.1) + (xorI .u32 (xorI .u32 (andI .u32 y.1.2.2.2.1 y.1.2.2.2.2.1) (andI .u32 y.1.2.2.2.1 y.1.2.2.2.2.2.1)) (andI .u32 y.1.2.2.2.2.1 y.1.2.2.2.2.2.1)))))), (y.1.2.2.2.1, (y.1.2.2.2.2.1, (y.1.2.2.2.2.2.1, ((IntKind.u32.wrap (y.1.2.2.2.2.2.2.1 + (IntKind.u32.wrap ((IntKind.u32.wrap ((IntKind.u32.wrap ((IntKind.u32.wrap (y.1.2.2.2.2.2.2.2.2.2.2.1 + (xorI .u32 (xorI .u32 r2465.1.1 r2466.1.1) r2467.1.1))) + (xorI .u32 (andI .u32 y.1.2.2.2.2.2.2.2.1 y.1.2.2.2.2.2.2.2.2.1) (andI .u32 (xorI .u32 4294967295 y.1.2.2.2.2.2.2.2.1) y.1.2.2.2.2.2.2.2.2.2.1)))) + x2468)) + x2470)))), (y.1.2.2.2.2.2.2.2.1, (y.1.2.2.2.2.2.2.2.2.1, (y.1.2.2.2.2.2.2.2.2.2.1, ((IntKind.i64.wrap (y.1.2.2.2.2.2.2.2.2.2.2.2.1 + (1 : Int))), ())))))))))))), (y.2.1, (y.2.2.1, (y.2.2.2.1, ())))))
else
 some (.inr ((((), ((), (y.1.2.2.2.1, (y.1.2.2.2.2.1, (y.1.2.2.2.2.2.1, (y.1.2.2.2.2.2.2.1, (y.1.2.2.2.2.2.2.2.1, (y.1.2.2.2.2.2.2.2.2.1, (y.1.2.2.2.2.2.2.2.2.2.1, (y.1.2.2.2.2.2.2.2.2.2.2.1, ())))))))))), (y.2.1, (y.2.2.1, ())))))
noncomputable def l196_1018 : s196_1018.Y → Option (YS t196_1018) := jjv g196_1018
theorem q196_1018 : jjj Pz (jjc (jjh Tryz.f196) 1 1018) (jjg s196_1018 t196_1018 l196_1018) := jjf G196 (by kernel_rfl) jja fun y => by kernel_rfl
abbrev s196_2042 : Shape := ⟨[tQ 2 2 .u32, tQ 4 4 .u32, tA 195 [.d (.int .u32), .d (.int .u32), .d (.int .u32), .d (.int .u32), .d (.int .u32), .d (.int .u32), .d (.int .u32), .d (.int .u32)], tI 196], [(2, .row .u32, .same), (4, .row .u32, .same)], 208⟩
abbrev t196_2042 : List OSh := [(.exit 8, ⟨[tQ 2 2 .u32, tQ 4 4 .u32], [(2, .row .u32, .same), (4, .row .u32, .same)], 208⟩)]
noncomputable def g196_2042 (y : s196_2042.Y) : LR s196_2042 t196_2042 :=
 bif (decide (y.1.2.2.2.1 < (8 : Int))) then
(ix ([y.1.2.2.1.1, y.1.2.2.1.2.1, y.1.2.2.1.2.2.1, y.1.2.2.1.2.2.2.1, y.1.2.2.1.2.2.2.2.1, y.1.2.2.1.2.2.2.2.2.1, y.1.2.2.1.2.2.2.2.2.2.1, y.1.2.2.1.2.2.2.2.2.2.2.1] : List Int) y.1.2.2.2.1).bind fun x2524 =>
((jxM 8 y.2.1).bind fun q => inb q.length y.1.2.2.2.1).bind fun x2525 =>
(y.2.1[x2525]?).bind fun x2526 =>
((jxM 8 y.2.1).bind fun q => inb q.length y.1.2.2.2.1).bind fun x2527 =>
((y.2.1[x2527]?).bind fun q => some (IntKind.u32.wrap (x2526 + x2524))).bind fun x2528 =>
 some (.inl (((), ((), ((y.1.2.2.1.1, (y.1.2.2.1.2.1, (y.1.2.2.1.2.2.1, (y.1.2.2.1.2.2.2.1, (y.1.2.2.1.2.2.2.2.1, (y.1.2.2.1.2.2.2.2.2.1, (y.1.2.2.1.2.2.2.2.2.2.1, (y.1.2.2.1.2.2.2.2.2.2.2.1, ())))))))), ((IntKind.i64.wrap (y.1.2.2.2.1 + (1 : Int))), ())))), ((y.2.1.set x2527 x2528), (y.2.2.1, ()))))
else
 some (.inr ((((), ((), ())), (y.2.1, (y.2.2.1, ())))))
noncomputable def l196_2042 : s196_2042.Y → Option (YS t196_2042) := jjv g196_2042
theorem q196_2042 : jjj Pz (jjc (jjh Tryz.f196) 1 2042) (jjg s196_2042 t196_2042 l196_2042) := jjf G196 (by kernel_rfl) jja fun y => by kernel_rfl
abbrev i196 : Shape := ⟨[tA 0 [.d (.int .u32), .d (.int .u32), .d (.int .u32), .d (.int .u32), .d (.int .u32), .d (.int .u32), .d (.int .u32), .d (.int .u32)], tL 1 .u8], [], 208⟩
abbrev o196 : Shape := ⟨[tQ 4 4 .u32], [(4, .rowN .u32 8, .same)], 208⟩
noncomputable def f196 (a : i196.Y) : Option o196.Y :=
(l196_58 ((a.1.2.1, ((), ((), ((), ((0 : Int), ()))))), (([a.1.1.1, a.1.1.2.1, a.1.1.2.2.1, a.1.1.2.2.2.1, a.1.1.2.2.2.2.1, a.1.1.2.2.2.2.2.1, a.1.1.2.2.2.2.2.2.1, a.1.1.2.2.2.2.2.2.2.1] : List Int), ((List.replicate 8 (0 : Int)), ((List.replicate 64 (0 : Int)), ()))))).bind fun r2533 =>
(l196_122 (((), ((), ((), ((16 : Int), ())))), (r2533.2.1, (r2533.2.2.1, (r2533.2.2.2.1, ()))))).bind fun r2535 =>
((jxM 8 r2535.2.1).bind fun q => inb q.length (0 : Int)).bind fun x2544 =>
(r2535.2.1[x2544]?).bind fun x2545 =>
((jxM 8 r2535.2.1).bind fun q => inb q.length (1 : Int)).bind fun x2546 =>
(r2535.2.1[x2546]?).bind fun x2547 =>
((jxM 8 r2535.2.1).bind fun q => inb q.length (2 : Int)).bind fun x2548 =>
(r2535.2.1[x2548]?).bind fun x2549 =>
((jxM 8 r2535.2.1).bind fun q => inb q.length (3 : Int)).bind fun x2550 =>
(r2535.2.1[x2550]?).bind fun x2551 =>
((jxM 8 r2535.2.1).bind fun q => inb q.length (4 : Int)).bind fun x2560 =>
(r2535.2.1[x2560]?).bind fun x2561 =>
((jxM 8 r2535.2.1).bind fun q => inb q.length (5 : Int)).bind fun x2562 =>
(r2535.2.1[x2562]?).bind fun x2563 =>
((jxM 8 r2535.2.1).bind fun q => inb q.length (6 : Int)).bind fun x2564 =>
(r2535.2.1[x2564]?).bind fun x2565 =>
((jxM 8 r2535.2.1).bind fun q => inb q.length (7 : Int)).bind fun x2566 =>
(r2535.2.1[x2566]?).bind fun x2567 =>
(l196_1018 (((), ((), ((), (x2545, (x2547, (x2549, (x2551, (x2561, (x2563, (x2565, (x2567, ((0 : Int), ())))))))))))), (r2535.2.1, (r2535.2.2.1, (r2535.2.2.2.1, ()))))).bind fun r2569 =>
(l196_2042 (((), ((), ((r2569.1.2.2.1, (r2569.1.2.2.2.1, (r2569.1.2.2.2.2.1, (r2569.1.2.2.2.2.2.1, (r2569.1.2.2.2.2.2.2.1, (r2569.1.2.2.2.2.2.2.2.1, (r2569.1.2.2.2.2.2.2.2.2.1, (r2569.1.2.2.2.2.2.2.2.2.2.1, ())))))))), ((0 : Int), ())))), (r2569.2.1, (r2569.2.2.1, ())))).bind fun r2570 =>
(jxM 8 r2570.2.1).bind fun x2571 =>
(jxM 8 r2570.2.2.1).bind fun x2572 =>
((jxM 8 ([(x2571.getD 0 (0 : Int)), (x2571.getD 1 (0 : Int)), (x2571.getD 2 (0 : Int)), (x2571.getD 3 (0 : Int)), (x2571.getD 4 (0 : Int)), (x2571.getD 5 (0 : Int)), (x2571.getD 6 (0 : Int)), (x2571.getD 7 (0 : Int))] : List Int)).bind fun q => some (q, ())).bind fun z => some (((), ()), z)
noncomputable def S196 : jjA := jjE EE Tryz.f196 i196 o196 [] f196
theorem z196 : jje Pz 196 S196 := jjb G196 Tryz.func196 (by kernel_rfl) (frc q196_58 (frc q196_122 (frc q196_1018 (frc q196_2042 jja)))) (fun y => by kernel_rfl) fun a => by kernel_rfl
abbrev i197v0 : Shape := ⟨[tP 0 500000 0, (1, .lf (.d (.int .u8)))], [zC 37000001 .u8 500000 1, zB 500000 [.slf, .own 37000001]], 17⟩
abbrev o197v0 : Shape := ⟨[tP 0 500000 0, (4, .lf (.nilI))], [zC 37000001 .u8 500000 1, zB 500000 [.slf, .own 37000001]], 17⟩
noncomputable def f197v0 (a : i197v0.Y) : Option o197v0.Y :=
(apd 1 a.2.1 ([a.1.2.1] : List Int)).bind fun x2607 =>
 some (((), ((), ())), (x2607, (((), ((), ())), ())))
noncomputable def S197v0 : jjA := jjE EE Tryz.f197 i197v0 o197v0 [0] f197v0
theorem z197v0 : jje Pz 197 S197v0 := jjb g0 Tryz.func197 (by kernel_rfl) jja (fun y => by kernel_rfl) fun a => by kernel_rfl
noncomputable abbrev L122 : LS := [(196, S196), (197, S197v0)]
theorem G122 : CtxGood Pz (cx EE L122) := gd ⟨z196, z197v0, ⟨⟩⟩
abbrev s122_60 : Shape := ⟨[tS 0, tQ 3 3 .u32, tO 4 3000256], [(3, .row .u32, .same), zR 3000256 .u8 4 0], 70⟩
abbrev t122_60 : List OSh := [(.exit 0, ⟨[tS 0, tQ 3 3 .u32, tO 4 3000256], [(3, .row .u32, .same), zR 3000256 .u8 4 0], 70⟩)]
noncomputable def g122_60 (y : s122_60.Y) : LR s122_60 t122_60 :=
(remI (y.2.2.1.length : Int) (64 : Int)).bind fun x2228 =>
 bif (x2228 != (56 : Int)) then
(apd 1 y.2.2.1 ([(0 : Int)] : List Int)).bind fun x2229 =>
 some (.inl ((y.1.1, ((), ((), ()))), (y.2.1, (x2229, ()))))
else
 some (.inr (((y.1.1, ((), ((), ()))), (y.2.1, (y.2.2.1, ())))))
noncomputable def l122_60 : s122_60.Y → Option (YS t122_60) := jjv g122_60
theorem q122_60 : jjj Pz (jjc (jjh Tryz.f122) 1 60) (jjg s122_60 t122_60 l122_60) := jjf G122 (by kernel_rfl) jja fun y => by kernel_rfl
abbrev s122_506 : Shape := ⟨[tQ 3 3 .u32, tO 4 3000256, (5, .lf (.d (.int .u64))), tI 6], [(3, .row .u32, .same), zR 3000256 .u8 4 0], 70⟩
abbrev t122_506 : List OSh := [(.exit 2, ⟨[tQ 3 3 .u32, tO 4 3000256], [(3, .row .u32, .same), zR 3000256 .u8 4 0], 70⟩)]
noncomputable def g122_506 (y : s122_506.Y) : LR s122_506 t122_506 :=
 bif (decide (y.1.2.2.2.1 ≥ (0 : Int))) then
(shrI .u64 y.1.2.2.1 y.1.2.2.2.1).bind fun x2240 =>
(apd 1 y.2.2.1 ([(IntKind.u8.wrap x2240)] : List Int)).bind fun x2241 =>
 some (.inl (((), ((), (y.1.2.2.1, ((IntKind.i64.wrap (y.1.2.2.2.1 - (8 : Int))), ())))), (y.2.1, (x2241, ()))))
else
 some (.inr ((((), ((), ())), (y.2.1, (y.2.2.1, ())))))
noncomputable def l122_506 : s122_506.Y → Option (YS t122_506) := jjv g122_506
theorem q122_506 : jjj Pz (jjc (jjh Tryz.f122) 1 506) (jjg s122_506 t122_506 l122_506) := jjf G122 (by kernel_rfl) jja fun y => by kernel_rfl
abbrev s122_1018 : Shape := ⟨[tQ 3 3 .u32, tL 4 .u8, tI 7], [(3, .row .u32, .same)], 70⟩
abbrev t122_1018 : List OSh := [(.exit 4, ⟨[tQ 3 3 .u32], [(3, .row .u32, .same)], 70⟩)]
noncomputable def g122_1018 (y : s122_1018.Y) : LR s122_1018 t122_1018 :=
 bif (decide (y.1.2.2.1 < (y.1.2.1.length : Int))) then
(jxM 8 y.2.1).bind fun x2579 =>
(jqv y.1.2.1 y.1.2.2.1 (IntKind.i64.wrap (y.1.2.2.1 + (64 : Int)))).bind fun x2580 =>
(f196 ((((x2579.getD 0 (0 : Int)), ((x2579.getD 1 (0 : Int)), ((x2579.getD 2 (0 : Int)), ((x2579.getD 3 (0 : Int)), ((x2579.getD 4 (0 : Int)), ((x2579.getD 5 (0 : Int)), ((x2579.getD 6 (0 : Int)), ((x2579.getD 7 (0 : Int)), ())))))))), (x2580, ())), ())).bind fun r2581 =>
(jxM 8 y.2.1).bind fun x2582 =>
 some (.inl (((), (y.1.2.1, ((IntKind.i64.wrap (y.1.2.2.1 + (64 : Int))), ()))), (([((pad (t := .u32) 8 r2581.2.1).getD 0 (0 : Int)), ((pad (t := .u32) 8 r2581.2.1).getD 1 (0 : Int)), ((pad (t := .u32) 8 r2581.2.1).getD 2 (0 : Int)), ((pad (t := .u32) 8 r2581.2.1).getD 3 (0 : Int)), ((pad (t := .u32) 8 r2581.2.1).getD 4 (0 : Int)), ((pad (t := .u32) 8 r2581.2.1).getD 5 (0 : Int)), ((pad (t := .u32) 8 r2581.2.1).getD 6 (0 : Int)), ((pad (t := .u32) 8 r2581.2.1).getD 7 (0 : Int))] : List Int), ())))
else
 some (.inr ((((), ()), (y.2.1, ()))))
noncomputable def l122_1018 : s122_1018.Y → Option (YS t122_1018) := jjv g122_1018
theorem q122_1018 : jjj Pz (jjc (jjh Tryz.f122) 1 1018) (jjg s122_1018 t122_1018 l122_1018) := jjf G122 (by kernel_rfl) jja fun y => by kernel_rfl
abbrev s122_1047142 : Shape := ⟨[tP 8 8 0, (10, .lf (.d (.int .u32))), tI 11, tL 52 .u32, tI 53, tI 54], [zC 5000513 .u8 8 1, zB 8 [.slf, .own 5000513]], 70⟩
abbrev jzj : List OSh := [(.exit 8, ⟨[tP 8 8 0, tL 52 .u32, tI 53, tI 54], [zC 5000513 .u8 8 1, zB 8 [.slf, .own 5000513]], 70⟩)]
noncomputable def g122_1047142 (y : s122_1047142.Y) : LR s122_1047142 jzj :=
 bif (decide (y.1.2.2.1 ≥ (0 : Int))) then
(shrI .u32 y.1.2.1 y.1.2.2.1).bind fun x2609 =>
(ix ([48, 49, 50, 51, 52, 53, 54, 55, 56, 57, 97, 98, 99, 100, 101, 102] : Str) (andI .u32 x2609 (15 : Int))).bind fun x2610 =>
(f197v0 (((), ((x2610.toNat : Int), ())), (y.2.1, (((), ((), ())), ())))).bind fun r2611 =>
 some (.inl (((), (y.1.2.1, ((IntKind.i64.wrap (y.1.2.2.1 - (4 : Int))), (y.1.2.2.2.1, (y.1.2.2.2.2.1, (y.1.2.2.2.2.2.1, ())))))), (r2611.2.1, (((), ((), ())), ()))))
else
 some (.inr ((((), (y.1.2.2.2.1, (y.1.2.2.2.2.1, (y.1.2.2.2.2.2.1, ())))), (y.2.1, (((), ((), ())), ())))))
noncomputable def l122_1047142 : s122_1047142.Y → Option (YS jzj) := jjv g122_1047142
theorem q122_1047142 : jjj Pz (jjc (jjH (jjc (jjh Tryz.f122) 1 4090)) 8180 1047142) (jjg s122_1047142 jzj l122_1047142) := jjf G122 (by kernel_rfl) jja fun y => by kernel_rfl
abbrev s122_4090 : Shape := ⟨[tP 8 8 0, tL 52 .u32, tI 53, tI 54], [zC 5000513 .u8 8 1, zB 8 [.slf, .own 5000513]], 70⟩
abbrev t122_4090 : List OSh := [(.exit 6, ⟨[tP 8 8 0], [zC 5000513 .u8 8 1, zB 8 [.slf, .own 5000513]], 70⟩)]
noncomputable def g122_4090 (y : s122_4090.Y) : LR s122_4090 t122_4090 :=
 bif (decide (y.1.2.2.2.1 < y.1.2.2.1)) then
(ix y.1.2.1 y.1.2.2.2.1).bind fun x2614 =>
(l122_1047142 (((), (x2614, ((28 : Int), (y.1.2.1, (y.1.2.2.1, (y.1.2.2.2.1, ())))))), (y.2.1, (((), ((), ())), ())))).bind fun r2615 =>
 some (.inl (((), (r2615.1.2.1, (r2615.1.2.2.1, ((IntKind.i64.wrap (r2615.1.2.2.2.1 + (1 : Int))), ())))), (r2615.2.1, (((), ((), ())), ()))))
else
 some (.inr ((((), ()), (y.2.1, (((), ((), ())), ())))))
noncomputable def l122_4090 : s122_4090.Y → Option (YS t122_4090) := jjv g122_4090
theorem q122_4090 : jjj Pz (jjc (jjh Tryz.f122) 1 4090) (jjg s122_4090 t122_4090 l122_4090) := jjf G122 (by kernel_rfl) (frc q122_1047142 jja) fun y => by kernel_rfl
abbrev i122 : Shape := ⟨[tS 0], [], 70⟩
abbrev o122 : Shape := ⟨[tS 2], [], 70⟩
noncomputable def f122 (a : i122.Y) : Option o122.Y :=
(jxM 8 (List.replicate 8 (0 : Int))).bind fun x2618 =>
((if a.1.1.length ≤ maxLen then some () else none)).bind fun x2621 =>
(apd 1 (jqs a.1.1) ([(128 : Int)] : List Int)).bind fun x2622 =>
(l122_60 ((a.1.1, ((), ((), ()))), (([(1779033703 : Int), (3144134277 : Int), (1013904242 : Int), (2773480762 : Int), (1359893119 : Int), (2600822924 : Int), (528734635 : Int), (1541459225 : Int)] : List Int), (x2622, ())))).bind fun r2623 =>
(l122_506 (((), ((), ((IntKind.u64.wrap ((IntKind.u64.wrap (r2623.1.1.length : Int)) * (8 : Int))), ((56 : Int), ())))), (r2623.2.1, (r2623.2.2.1, ())))).bind fun r2625 =>
(l122_1018 (((), (r2625.2.2.1, ((0 : Int), ()))), (r2625.2.1, ()))).bind fun r2627 =>
((jxM 8 r2627.2.1).bind fun q => jqv q (0 : Int) (2 : Int)).bind fun x2629 =>
(l122_4090 (((), (x2629, ((x2629.length : Int), ((0 : Int), ())))), (([] : List Int), (((), ((), ())), ())))).bind fun r2630 =>
 some (((jqR r2630.2.1), ()), ())
noncomputable def S122 : jjA := jjE EE Tryz.f122 i122 o122 [] f122
theorem z122 : jje Pz 122 S122 := jjb G122 Tryz.func122 (by kernel_rfl) (frc q122_60 (frc q122_506 (frc q122_1018 (frc q122_4090 jja)))) (fun y => by kernel_rfl) fun a => by kernel_rfl
noncomputable abbrev L62 : LS := [(13, S13), (121, S121), (122, S122)]
theorem G62 : CtxGood Pz (cx EE L62) := gd ⟨z13, z121, z122, ⟨⟩⟩
abbrev i62 : Shape := ⟨[tA 0 [eS, eS, eL .need, eL .entry]], [], 15⟩
abbrev o62 : Shape := ⟨[tS 2], [], 15⟩
noncomputable def f62 (a : i62.Y) : Option o62.Y :=
(f13 (((a.1.1.1, (a.1.1.2.1, (a.1.1.2.2.1, (a.1.1.2.2.2.1, ())))), ()), ())).bind fun r2638 =>
 bif (!r2638.1.1) then
 some ((([] : Str), ()), ())
else
(f121 (((a.1.1.1, (a.1.1.2.1, (a.1.1.2.2.1, (a.1.1.2.2.2.1, ())))), ()), ())).bind fun r2640 =>
(f122 ((r2640.1.1, ()), ())).bind fun r2641 =>
(cat ([115, 117, 109, 32] : Str) r2641.1.1).bind fun x2642 =>
(cat x2642 ([10] : Str)).bind fun x2643 =>
(cat x2643 r2640.1.1).bind fun x2644 =>
 some ((x2644, ()), ())
noncomputable def S62 : jjA := jjE EE Tryz.f62 i62 o62 [] f62
theorem z62 : jje Pz 62 S62 := jjb G62 Tryz.func62 (by kernel_rfl) jja (fun y => by kernel_rfl) fun a => by kernel_rfl
end Go.Proofs
