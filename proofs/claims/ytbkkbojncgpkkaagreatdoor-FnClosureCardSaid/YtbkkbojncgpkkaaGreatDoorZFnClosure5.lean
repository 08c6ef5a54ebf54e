/- It is proved that dependencies come first in a closure (FnClosure). (part 6 of 7: JkEF4, JkEPuCg, JkEFH162, JkEF158, JkEF156, JkEF147, JkESp, JkEIt, JkEOp, JkEA4) Conditions: none beyond the statement. -/
import Derived.Test.YtbkkbojncgpkkaaGreatDoorZFnClosure4
import Derived.Tactics
import Derived.Deep.RegionLaw
import Derived.Shelf.Abstract
import Derived.Test.YtbkkbojncgpkkaaGreatDoorProg
import Derived.KernelRfl
set_option linter.unusedSimpArgs false
set_option maxRecDepth 100000
set_option linter.unusedVariables false
namespace Go.Proofs
open Go.Jk
noncomputable def c4 : Ctx := { tt := tt, fs := fun n => match n with | 7 => some S7 | 8 => some S8 | 9 => some S9 | 10 => some S10 | 11 => some S11 | _ => none }
theorem k4 (h : ∀ T, (tt T).ok Tryz.prog T) (h7 : jja Tryz.prog 7 S7) (h8 : jja Tryz.prog 8 S8) (h9 : jja Tryz.prog 9 S9) (h10 : jja Tryz.prog 10 S10) (h11 : jja Tryz.prog 11 S11) : CtxGood Tryz.prog c4 := ⟨⟨h⟩, fun g S hg => (by
 simp only [c4] at hg
 split at hg
 ·cases hg; exact h7
 ·cases hg; exact h8
 ·cases hg; exact h9
 ·cases hg; exact h10
 ·cases hg; exact h11
 ·cases hg), jjv, fun _ _ h => (by cases h), fun _ h => (by cases h)⟩
noncomputable def b4 : Code := jjj Tryz.f4
@[reducible] noncomputable def s4_252 : Shape := ⟨[(3, .lf (.d (.sl .pack))), (4, .lf (.d (.sl .str))), (5, .lf (.own 3000320)), (6, .lf (.d (.int .i64))), (7, .lf (.d (.sl .str))), (8, .lf (.d (.int .i64)))], [(3000320, .row .str, .slot 5 0)], 138⟩
@[reducible] noncomputable def t4_252 : List OSh := [(.norm, ⟨[(3, .lf (.d (.sl .pack))), (4, .lf (.d (.sl .str))), (5, .lf (.own 3000320)), (6, .lf (.d (.int .i64))), (7, .lf (.d (.sl .str))), (8, .lf (.d (.int .i64))), (47, .lf (.d (.bool)))], [(3000320, .row .str, .slot 5 0)], 138⟩)]
noncomputable def g4_252 (y : s4_252.Y) : Option (YS t4_252) :=
 bif (!(y.1.2.2.2.1 != y.1.2.2.2.2.2.1)) then
(f10 ((y.2.1, (y.1.2.2.2.2.1, ())), ())).bind fun r1870 =>
 bif (!(!r1870.1.1)) then
 some (((y.1.1, (y.1.2.1, ((), (y.1.2.2.2.1, (y.1.2.2.2.2.1, (y.1.2.2.2.2.2.1, ((y.1.2.2.2.1 != (0 : Int)), ()))))))), (y.2.1, ())))
else
 some (((y.1.1, (y.1.2.1, ((), (y.1.2.2.2.1, (y.1.2.2.2.2.1, (y.1.2.2.2.2.2.1, (true, ()))))))), (y.2.1, ())))
else
 some (((y.1.1, (y.1.2.1, ((), (y.1.2.2.2.1, (y.1.2.2.2.2.1, (y.1.2.2.2.2.2.1, (true, ()))))))), (y.2.1, ())))
theorem r4_252 : ∀ y, g4_252 y = jjL (jjd c4 []) (jjc b4 1 252) 252 s4_252 t4_252 y := fun y => by kernel_rfl
theorem q4_252 (H : CtxGood Tryz.prog c4) : jjk Tryz.prog (jjc b4 1 252) (jjb s4_252 t4_252 g4_252) :=
 jjx (fr := []) H (by kernel_rfl) jje r4_252
@[reducible] noncomputable def s4_1018 : Shape := ⟨[(3, .lf (.d (.sl .pack))), (4, .lf (.d (.sl .str))), (5, .lf (.own 3000320)), (9, .lf (.d (.int .i64)))], [(3000320, .row .str, .slot 5 0)], 138⟩
@[reducible] noncomputable def t4_1018 : List OSh := [(.ret, ⟨[(2, .lf (.d (.bool)))], [], 138⟩), (.exit 0, ⟨[(3, .lf (.d (.sl .pack))), (5, .lf (.own 3000320))], [(3000320, .row .str, .slot 5 0)], 138⟩)]
noncomputable def g4_1018 (y : s4_1018.Y) : Option (Sum s4_1018.Y (YS t4_1018)) :=
 bif (decide (y.1.2.2.2.1 < (y.1.2.1.length : Int))) then
(ix y.1.2.1 y.1.2.2.2.1).bind fun x1901 =>
(f11 ((y.2.1, (x1901, ())), ())).bind fun r1902 =>
 bif (!r1902.1.1) then
 some (.inr (.inl ((false, ()), ())))
else
 some (.inl ((y.1.1, (y.1.2.1, ((), ((IntKind.i64.wrap (y.1.2.2.2.1 + (1 : Int))), ())))), (y.2.1, ())))
else
 some (.inr (.inr ((y.1.1, ((), ())), (y.2.1, ()))))
theorem r4_1018 : ∀ y, g4_1018 y = jjz (jjd c4 []) (jjl (jjc b4 1 1018)) 1018 s4_1018 t4_1018 y := fun y => by kernel_rfl
noncomputable def l4_1018 : s4_1018.Y → Option (YS t4_1018) := jjH g4_1018
theorem q4_1018 (H : CtxGood Tryz.prog c4) : jjk Tryz.prog (jjc b4 1 1018) (jjb s4_1018 t4_1018 l4_1018) :=
 jjr (fr := []) H (by kernel_rfl) (by kernel_rfl) jje (fun y => jji r4_1018 y)
@[reducible] noncomputable def s4_16730514 : Shape := ⟨[(3, .lf (.d (.sl .pack))), (5, .lf (.d (.sl .str))), (10, .lf (.d (.int .i64))), (11, .lf (.d (.int .i64))), (12, .lf (.d (.int .i64))), (75, .lf (.d (.sl .str))), (76, .lf (.d (.int .i64))), (77, .lf (.d (.sl .str))), (78, .lf (.d (.sl .str))), (79, .lf (.d (.int .i64))), (81, .lf (.d (.str))), (82, .lf (.d (.bool)))], [], 138⟩
@[reducible] noncomputable def jqJ : List OSh := [(.ret, ⟨[(2, .lf (.d (.bool)))], [], 138⟩), (.exit 6, ⟨[(3, .lf (.d (.sl .pack))), (5, .lf (.d (.sl .str))), (10, .lf (.d (.int .i64))), (11, .lf (.d (.int .i64))), (75, .lf (.d (.sl .str))), (76, .lf (.d (.int .i64))), (77, .lf (.d (.sl .str))), (78, .lf (.d (.sl .str))), (79, .lf (.d (.int .i64))), (81, .lf (.d (.str))), (82, .lf (.d (.bool))), (89, .lf (.d (.int .i64))), (90, .lf (.d (.sl .pack))), (91, .lf (.d (.int .i64))), (92, .lf (.rptr [.str, .str, .sl .need, .sl .entry] 0)), (93, .lf (.rptr [.str, .str, .sl .need, .sl .entry] 2)), (94, .lf (.d (.sl .need))), (95, .lf (.d (.int .i64))), (96, .lf (.d (.bool))), (97, .lf (.d (.bool))), (108, .lf (.d (.bool)))], [], 138⟩)]
noncomputable def jJp (y : s4_16730514.Y) : Option (Sum s4_16730514.Y (YS jqJ)) :=
(ix y.1.1 y.1.2.2.2.1).bind fun x1974 =>
 bif (decide (y.1.2.2.2.2.1 < (x1974.needs.length : Int))) then
(ix y.1.1 y.1.2.2.2.1).bind fun x1975 =>
(ix y.1.2.1 y.1.2.2.1).bind fun x1976 =>
 bif (x1975.name == x1976) then
(jqK y.1.2.1 (0 : Int) y.1.2.2.1).bind fun x1981 =>
(ix y.1.1 y.1.2.2.2.1).bind fun x1982 =>
(ix x1982.needs y.1.2.2.2.2.1).bind fun x1983 =>
(f11 ((x1981, (x1983.name, ())), ())).bind fun r1984 =>
 bif (!r1984.1.1) then
 some (.inr (.inl ((false, ()), ())))
else
 some (.inl ((y.1.1, (y.1.2.1, (y.1.2.2.1, (y.1.2.2.2.1, ((IntKind.i64.wrap (y.1.2.2.2.2.1 + (1 : Int))), (y.1.2.2.2.2.2.1, (y.1.2.2.2.2.2.2.1, (y.1.2.2.2.2.2.2.2.1, (y.1.2.2.2.2.2.2.2.2.1, (y.1.2.2.2.2.2.2.2.2.2.1, (y.1.2.2.2.2.2.2.2.2.2.2.1, (y.1.2.2.2.2.2.2.2.2.2.2.2.1, ())))))))))))), ()))
else
 some (.inr (.inr ((y.1.1, (y.1.2.1, (y.1.2.2.1, (y.1.2.2.2.1, (y.1.2.2.2.2.2.1, (y.1.2.2.2.2.2.2.1, (y.1.2.2.2.2.2.2.2.1, (y.1.2.2.2.2.2.2.2.2.1, (y.1.2.2.2.2.2.2.2.2.2.1, (y.1.2.2.2.2.2.2.2.2.2.2.1, (y.1.2.2.2.2.2.2.2.2.2.2.2.1, (y.1.2.2.2.2.1, (y.1.1, (y.1.2.2.2.1, ((x1974.name, (x1974.version, (x1974.needs, (x1974.tree, ())))), ((x1974.name, (x1974.version, (x1974.needs, (x1974.tree, ())))), (x1974.needs, ((x1974.needs.length : Int), ((decide (y.1.2.2.2.2.1 < (x1974.needs.length : Int))), (true, ((x1975.name == x1976), ()))))))))))))))))))))), ())))
else
 some (.inr (.inr ((y.1.1, (y.1.2.1, (y.1.2.2.1, (y.1.2.2.2.1, (y.1.2.2.2.2.2.1, (y.1.2.2.2.2.2.2.1, (y.1.2.2.2.2.2.2.2.1, (y.1.2.2.2.2.2.2.2.2.1, (y.1.2.2.2.2.2.2.2.2.2.1, (y.1.2.2.2.2.2.2.2.2.2.2.1, (y.1.2.2.2.2.2.2.2.2.2.2.2.1, (y.1.2.2.2.2.1, (y.1.1, (y.1.2.2.2.1, ((x1974.name, (x1974.version, (x1974.needs, (x1974.tree, ())))), ((x1974.name, (x1974.version, (x1974.needs, (x1974.tree, ())))), (x1974.needs, ((x1974.needs.length : Int), ((decide (y.1.2.2.2.2.1 < (x1974.needs.length : Int))), (false, (false, ()))))))))))))))))))))), ())))
theorem r4_16730514 : ∀ y, jJp y = jjz (jjd c4 []) (jjl (jjc (jjl (jjc (jjl (jjc b4 1 2042)) 4084 261414)) 522828 16730514)) 16730514 s4_16730514 jqJ y := fun y => by kernel_rfl
noncomputable def jxf : s4_16730514.Y → Option (YS jqJ) := jjH jJp
theorem q4_16730514 (H : CtxGood Tryz.prog c4) : jjk Tryz.prog (jjc (jjl (jjc (jjl (jjc b4 1 2042)) 4084 261414)) 522828 16730514) (jjb s4_16730514 jqJ jxf) :=
 jjr (fr := []) H (by kernel_rfl) (by kernel_rfl) jje (fun y => jji r4_16730514 y)
@[reducible] noncomputable def s4_261414 : Shape := ⟨[(3, .lf (.d (.sl .pack))), (5, .lf (.d (.sl .str))), (10, .lf (.d (.int .i64))), (11, .lf (.d (.int .i64))), (75, .lf (.d (.sl .str))), (76, .lf (.d (.int .i64))), (77, .lf (.d (.sl .str))), (78, .lf (.d (.sl .str))), (79, .lf (.d (.int .i64))), (81, .lf (.d (.str))), (82, .lf (.d (.bool)))], [], 138⟩
@[reducible] noncomputable def jxI : List OSh := [(.ret, ⟨[(2, .lf (.d (.bool)))], [], 138⟩), (.exit 4, ⟨[(3, .lf (.d (.sl .pack))), (5, .lf (.d (.sl .str))), (10, .lf (.d (.int .i64))), (75, .lf (.d (.sl .str))), (76, .lf (.d (.int .i64))), (77, .lf (.d (.sl .str))), (78, .lf (.d (.sl .str))), (79, .lf (.d (.int .i64))), (81, .lf (.d (.str))), (82, .lf (.d (.bool)))], [], 138⟩)]
noncomputable def g4_261414 (y : s4_261414.Y) : Option (Sum s4_261414.Y (YS jxI)) :=
 bif (decide (y.1.2.2.2.1 < (y.1.1.length : Int))) then
(jxf ((y.1.1, (y.1.2.1, (y.1.2.2.1, (y.1.2.2.2.1, ((0 : Int), (y.1.2.2.2.2.1, (y.1.2.2.2.2.2.1, (y.1.2.2.2.2.2.2.1, (y.1.2.2.2.2.2.2.2.1, (y.1.2.2.2.2.2.2.2.2.1, (y.1.2.2.2.2.2.2.2.2.2.1, (y.1.2.2.2.2.2.2.2.2.2.2.1, ())))))))))))), ())).bind fun r1988 =>
(match r1988 with
| .inl r1989 =>
 some (.inr (.inl ((r1989.1.1, ()), ())))
| .inr r1990 =>
 some (.inl ((r1990.1.1, (r1990.1.2.1, (r1990.1.2.2.1, ((IntKind.i64.wrap (r1990.1.2.2.2.1 + (1 : Int))), (r1990.1.2.2.2.2.1, (r1990.1.2.2.2.2.2.1, (r1990.1.2.2.2.2.2.2.1, (r1990.1.2.2.2.2.2.2.2.1, (r1990.1.2.2.2.2.2.2.2.2.1, (r1990.1.2.2.2.2.2.2.2.2.2.1, (r1990.1.2.2.2.2.2.2.2.2.2.2.1, ()))))))))))), ())))
else
 some (.inr (.inr ((y.1.1, (y.1.2.1, (y.1.2.2.1, (y.1.2.2.2.2.1, (y.1.2.2.2.2.2.1, (y.1.2.2.2.2.2.2.1, (y.1.2.2.2.2.2.2.2.1, (y.1.2.2.2.2.2.2.2.2.1, (y.1.2.2.2.2.2.2.2.2.2.1, (y.1.2.2.2.2.2.2.2.2.2.2.1, ())))))))))), ())))
theorem r4_261414 : ∀ y, g4_261414 y = jjz (jjd c4 [(16730514, jjb s4_16730514 jqJ jxf)]) (jjl (jjc (jjl (jjc b4 1 2042)) 4084 261414)) 261414 s4_261414 jxI y := fun y => by kernel_rfl
noncomputable def jzK : s4_261414.Y → Option (YS jxI) := jjH g4_261414
theorem q4_261414 (H : CtxGood Tryz.prog c4) : jjk Tryz.prog (jjc (jjl (jjc b4 1 2042)) 4084 261414) (jjb s4_261414 jxI jzK) :=
 jjr (fr := [(16730514, jjb s4_16730514 jqJ jxf)]) H (by kernel_rfl) (by kernel_rfl) ⟨q4_16730514 H, trivial⟩ (fun y => jji r4_261414 y)
@[reducible] noncomputable def s4_2042 : Shape := ⟨[(3, .lf (.d (.sl .pack))), (5, .lf (.d (.sl .str))), (10, .lf (.d (.int .i64)))], [], 138⟩
@[reducible] noncomputable def t4_2042 : List OSh := [(.ret, ⟨[(2, .lf (.d (.bool)))], [], 138⟩), (.exit 2, ⟨[(3, .lf (.d (.sl .pack))), (5, .lf (.d (.sl .str)))], [], 138⟩)]
noncomputable def g4_2042 (y : s4_2042.Y) : Option (Sum s4_2042.Y (YS t4_2042)) :=
 bif (decide (y.1.2.2.1 < (y.1.2.1.length : Int))) then
(jqK y.1.2.1 (0 : Int) y.1.2.2.1).bind fun x2018 =>
(ix y.1.2.1 y.1.2.2.1).bind fun x2019 =>
(f11 ((x2018, (x2019, ())), ())).bind fun r2020 =>
 bif r2020.1.1 then
 some (.inr (.inl ((false, ()), ())))
else
(jzK ((y.1.1, (y.1.2.1, (y.1.2.2.1, ((0 : Int), (y.1.2.1, (y.1.2.2.1, (x2018, (y.1.2.1, (y.1.2.2.1, (x2019, (r2020.1.1, ()))))))))))), ())).bind fun r2021 =>
(match r2021 with
| .inl r2022 =>
 some (.inr (.inl ((r2022.1.1, ()), ())))
| .inr r2023 =>
 some (.inl ((r2023.1.1, (r2023.1.2.1, ((IntKind.i64.wrap (r2023.1.2.2.1 + (1 : Int))), ()))), ())))
else
 some (.inr (.inr ((y.1.1, (y.1.2.1, ())), ())))
theorem r4_2042 : ∀ y, g4_2042 y = jjz (jjd c4 [(261414, jjb s4_261414 jxI jzK)]) (jjl (jjc b4 1 2042)) 2042 s4_2042 t4_2042 y := fun y => by kernel_rfl
noncomputable def l4_2042 : s4_2042.Y → Option (YS t4_2042) := jjH g4_2042
theorem q4_2042 (H : CtxGood Tryz.prog c4) : jjk Tryz.prog (jjc b4 1 2042) (jjb s4_2042 t4_2042 l4_2042) :=
 jjr (fr := [(261414, jjb s4_261414 jxI jzK)]) H (by kernel_rfl) (by kernel_rfl) ⟨q4_261414 H, trivial⟩ (fun y => jji r4_2042 y)
@[reducible] noncomputable def i4 : Shape := ⟨[(0, .lf (.d (.sl .u8)))], [], 138⟩
@[reducible] noncomputable def o4 : Shape := ⟨[(2, .lf (.d (.bool)))], [], 138⟩
noncomputable def f4 (a : i4.Y) : Option o4.Y :=
 bif (decide ((a.1.1.length : Int) > (1048576 : Int))) then
 some ((true, ()), ())
else
(f7 ((a.1.1, ()), ())).bind fun r1910 =>
(f8 ((r1910.2.1, (r1910.2.2.1, ())), ())).bind fun r1912 =>
(f9 ((r1910.2.1, (r1910.2.2.1, ())), ())).bind fun r1914 =>
(g4_252 ((r1910.2.1, (r1910.2.2.1, ((), (r1912.1.2.1, (r1914.1.1, (r1914.1.2.1, ())))))), (r1912.2.1, ()))).bind fun r1917 =>
 bif r1917.1.2.2.2.2.2.2.1 then
 bif (r1917.1.2.2.2.1 == r1917.1.2.2.2.2.2.1) then
(f10 ((r1917.2.1, (r1917.1.2.2.2.2.1, ())), ())).bind fun r1918 =>
 some ((r1918.1.1, ()), ())
else
 some ((false, ()), ())
else
(l4_1018 ((r1917.1.1, (r1917.1.2.1, ((), ((0 : Int), ())))), (r1917.2.1, ()))).bind fun r1922 =>
(match r1922 with
| .inl r1923 =>
 some ((r1923.1.1, ()), ())
| .inr r1924 =>
(l4_2042 ((r1924.1.1, (r1924.2.1, ((0 : Int), ()))), ())).bind fun r2027 =>
(match r2027 with
| .inl r2028 =>
 some ((r2028.1.1, ()), ())
| .inr r2029 =>
(f8 ((r2029.1.1, (r2029.1.2.1, ())), ())).bind fun r2031 =>
 bif (r2031.1.2.1 == (0 : Int)) then
(f10 ((r2031.2.1, (r2029.1.2.1, ())), ())).bind fun r2032 =>
 some ((r2032.1.1, ()), ())
else
 some ((false, ()), ())))
theorem e4 : ∀ a, f4 a = jjt (jjd c4 [(252, jjb s4_252 t4_252 g4_252), (1018, jjb s4_1018 t4_1018 l4_1018), (2042, jjb s4_2042 t4_2042 l4_2042)]) b4 i4 o4 a := fun a => by kernel_rfl
noncomputable def S4 : jjM := jjg tt 138 i4 o4 [.tmp 2] [] f4
theorem z4 (h : ∀ T, (tt T).ok Tryz.prog T) (h7 : jja Tryz.prog 7 S7) (h8 : jja Tryz.prog 8 S8) (h9 : jja Tryz.prog 9 S9) (h10 : jja Tryz.prog 10 S10) (h11 : jja Tryz.prog 11 S11) : jja Tryz.prog 4 S4 :=
 have H := k4 h h7 h8 h9 h10 h11
 jjm (fn := Tryz.f4) (fr := [(252, jjb s4_252 t4_252 g4_252), (1018, jjb s4_1018 t4_1018 l4_1018), (2042, jjb s4_2042 t4_2042 l4_2042)]) H (by kernel_rfl) (by kernel_rfl) (by kernel_rfl) (by kernel_rfl) (by kernel_rfl) ⟨q4_252 H, q4_1018 H, q4_2042 H, trivial⟩ (by kernel_rfl) (fun y => ⟨_, _, rfl, rfl, rfl⟩) e4
theorem closeL_ok {ps : List Pack} {names : List Str} (h : (jqx ps names).2 = 0) : jqA ps = 0 ∧ jqq ps (ps.length + 1) names [] = .inl (jqx ps names).1 := by
 unfold jqx at h ⊢
 cases hz : (jqA ps == 0) with
 | false =>
  rw [hz] at h
  have h : jqA ps = 0 := h
  rw [h] at hz; cases hz
 | true =>
  rw [hz] at h
  simp only [cond_true] at h ⊢
  refine ⟨by simpa using hz, ?_⟩
  cases hc : jqq ps (ps.length + 1) names [] with
  | inl o => rfl
  | inr c =>
   rw [hc] at h
   have h : c = 0 := h
   rcases cloAll_code ps _ _ _ _ hc with k | k <;> rw [k] at h <;> cases h
theorem v_FnClosure (a) (h : ∀ x, x ∈ (a.1.1 : List Int) → 0 ≤ x ∧ x ≤ 255) : Ev (f4 a) (fun r => r.1.1 = true) := by
 unfold f4
 refine Ev.ite (fun _ => Ev.ret rfl) fun _ => ?_
 refine Ev.bind (v_DrawClosure _ (rd_code' h)) fun r hr => ?_
 obtain ⟨u0, ⟨(ps : List Pack), (names : List Str), u2⟩⟩ := r
 have hq : ShQ 5 ps := hr.1
 have hn : names.length ≤ 3 := hr.2
 have hb := hq.bd (by decide)
 have hv := hq.vs
 have hpl : ps.length ≤ 5 := hq.1
 have hl : ps.length ≤ 1000000 := Nat.le_trans hq.1 (by decide)
 have e1 := v_iClosure ((ps, (names, ())), ()) hb hv hl (show names.length ≤ 1000000 by omega)
 have e2 := v_Closure ((ps, (names, ())), ()) hb hv hl (show names.length ≤ 1000000 by omega)
 have ej := v_jsTexts (((jqx ps names).1, ((jqx ps names).1, ())), ()) rfl (closeL_bd hb hv hl names)
 refine Ev.eq e1 (Ev.eq e2 ?_)
 simp only [g4_252, bne_self_eq_false, Bool.not_false, cond_true, ej, Bool.not_true, Option.bind_some, cond_false]
 cases hk : ((jqx ps names).2 != 0) with
 | true =>
  have zz : ((jqx ps names).2 == (jqx ps names).2) = true := by simp
  simp only [cond_true, zz, ej, Option.bind_some]
  exact Ev.ret rfl
 | false =>
  have hk : (jqx ps names).2 = 0 := by simpa using hk
  obtain ⟨hz, hcl⟩ := closeL_ok hk
  generalize (jqx ps names).1 = o at hcl ej
  have hnm := closeL_len hb hv hl names [] ⟨Nms.nil ps, fun s hs => by cases hs⟩ o hcl
  have hol := hnm.len
  obtain ⟨hg, _, hall⟩ := cloAll_good ps _ _ _ _ hcl (fun i s hs => by simp at hs)
  have hagain : jqx ps o = (o, 0) := by
   have := cloAll_again ps hg hnm.1 o 0 rfl (Nat.zero_le _)
   rw [List.take_zero] at this
   unfold jqx
   rw [hz, this]
   rfl
  simp only [cond_false]
  have l1 : l4_1018 ((ps, (names, ((), ((0 : Int), ())))), (o, ())) = some (bif jqy (fun _ _ => true) 0 names then .inr ((ps, ((), ())), (o, ())) else .inl ((false, ()), ())) := by
   refine jjY g4_1018 names (fun i => ((ps, (names, ((), ((i : Int), ())))), (o, ()))) (fun _ _ => true) _ _ (fun i x hx => ?_) ?_
   ·have hi := jjF hx
    have hw : Sm i := by unfold Sm; omega
    have hh := v_jsHas ((o, (x, ())), ()) (show o.length ≤ 2097152 by omega)
    have hc : o.contains x = true := by simpa using hall x (List.mem_of_getElem? hx)
    simp only [hc] at hh
    simp only [g4_1018, jjB hi, cond_true, jjw, hx, Option.bind_some, hh, Bool.not_true, cond_false, jjn hw]
   ·simp only [g4_1018, jjR, cond_false]
  rw [allI_tt] at l1
  have inner : ∀ (n i : Nat) (s : Str) (q : Pack), o[n]? = some s → ps[i]? = some q → ∀ y : s4_16730514.Y, y.1.1 = ps → y.1.2.1 = o → (y.1.2.2.1 : Int) = n → (y.1.2.2.2.1 : Int) = i → (y.1.2.2.2.2.1 : Int) = 0 →
    Ev (jxf y) (fun r => match r with | .inl _ => False | .inr r => r.1.1 = ps ∧ r.1.2.1 = o ∧ (r.1.2.2.1 : Int) = n ∧ (r.1.2.2.2.1 : Int) = i) := by
   intro n i s q hs hqi y0 p1 p2 p3 p4 p5
   have hnl := jjF hs
   obtain ⟨p, hp, hf⟩ := hg n s hs
   have hqm := List.mem_of_getElem? hqi
   have hql : q.needs.length ≤ 2097152 := (hb.2 q hqm).2.2.1.1
   refine Ev.loop (fun (k : Nat) y => k ≤ q.needs.length ∧ y.1.1 = ps ∧ y.1.2.1 = o ∧ (y.1.2.2.1 : Int) = n ∧ (y.1.2.2.2.1 : Int) = i ∧ (y.1.2.2.2.2.1 : Int) = ((q.needs.length - k : Nat) : Int)) (fun k y hy => ?_) q.needs.length y0 ⟨Nat.le_refl _, p1, p2, p3, p4, by rw [p5]; simp⟩
   obtain ⟨y0, y1, y2, y3, y4, y5⟩ := hy
   unfold jJp
   refine Ev.eq (x := q) (by rw [y1, y4, jjw]; exact hqi) ?_
   refine Ev.ite (fun hc => ?_) fun _ => Ev.ret ⟨y1, y2, y3, y4⟩
   have hc : ((q.needs.length - k : Nat) : Int) < (q.needs.length : Int) := Int.lt_of_le_of_lt (Int.le_of_eq y5.symm) (of_decide_eq_true hc)
   have hj : q.needs.length - k < q.needs.length := by omega
   have hne := List.getElem?_eq_getElem hj
   refine Ev.eq (x := q) (by rw [y1, y4, jjw]; exact hqi) ?_
   refine Ev.eq (x := s) (by rw [y2, y3, jjw]; exact hs) ?_
   refine Ev.ite (fun hsn => ?_) fun _ => Ev.ret ⟨y1, y2, y3, y4⟩
   refine Ev.eq (x := o.take n) (by rw [y2, y3]; exact jx4 (Nat.le_of_lt hnl)) ?_
   refine Ev.eq (x := q) (by rw [y1, y4, jjw]; exact hqi) ?_
   refine Ev.eq (x := q.needs[q.needs.length - k]) (by rw [y5, jjw]; exact hne) ?_
   have hsn : q.name = s := eq_of_beq hsn
   have hpq : p = q := by
    have hd : dupA [] (ps.map (·.name)) = false := by
     unfold jqA at hz
     cases h1 : ps.all pkOk with
     | false => rw [h1] at hz; cases hz
     | true =>
      rw [h1] at hz
      cases h2 : dupA [] (ps.map (·.name)) with
      | false => rfl
      | true => rw [h2] at hz; cases hz
    have I := idx_zip hd
    obtain ⟨k', k1, k2, _⟩ := I.hit _ _ hp
    have := I.nod k' i p q k1 hqi (k2.trans hsn.symm)
    subst this
    rw [k1] at hqi
    exact Option.some.inj hqi
   subst hpq
   have hfit := hf _ (List.getElem_mem hj)
   have hcon : (o.take n).contains (p.needs[p.needs.length - k]).name = true := by simpa using hfit.1
   have hh := v_jsHas ((o.take n, ((p.needs[p.needs.length - k]).name, ())), ()) (by show (o.take n).length ≤ 2097152; rw [List.length_take]; omega)
   simp only [hcon] at hh
   refine Ev.eq hh ?_
   refine Ev.ite (fun hx => by cases hx) fun _ => Ev.ret ⟨k - 1, by omega, by omega, y1, y2, y3, y4, ?_⟩
   show IntKind.i64.wrap ((y.1.2.2.2.2.1 : Int) + 1) = _
   rw [y5, jjC (by omega) (by omega)]; omega
  have middle : ∀ (n : Nat) (s : Str), o[n]? = some s → ∀ y : s4_261414.Y, y.1.1 = ps → y.1.2.1 = o → (y.1.2.2.1 : Int) = n → (y.1.2.2.2.1 : Int) = 0 →
    Ev (jzK y) (fun r => match r with | .inl _ => False | .inr r => r.1.1 = ps ∧ r.1.2.1 = o ∧ (r.1.2.2.1 : Int) = n) := by
   intro n s hs y0 p1 p2 p3 p4
   refine Ev.loop (fun (k : Nat) y => k ≤ ps.length ∧ y.1.1 = ps ∧ y.1.2.1 = o ∧ (y.1.2.2.1 : Int) = n ∧ (y.1.2.2.2.1 : Int) = ((ps.length - k : Nat) : Int)) (fun k y hy => ?_) ps.length y0 ⟨Nat.le_refl _, p1, p2, p3, by rw [p4]; simp⟩
   obtain ⟨y0, y1, y2, y3, y4⟩ := hy
   unfold g4_261414
   refine Ev.ite (fun hc => ?_) fun _ => Ev.ret ⟨y1, y2, y3⟩
   have hc : ((ps.length - k : Nat) : Int) < ((y.1.1 : List Pack).length : Int) := Int.lt_of_le_of_lt (Int.le_of_eq y4.symm) (of_decide_eq_true hc)
   rw [y1] at hc
   have hi : ps.length - k < ps.length := by omega
   refine Ev.bind (inner n (ps.length - k) s _ hs (List.getElem?_eq_getElem hi) _ y1 y2 y3 y4 rfl) fun r hr => ?_
   cases r with
   | inl b => exact hr.elim
   | inr r =>
    obtain ⟨q1, q2, q3, q4⟩ := hr
    refine Ev.ret ⟨k - 1, by omega, by omega, q1, q2, q3, ?_⟩
    show IntKind.i64.wrap ((r.1.2.2.2.1 : Int) + 1) = _
    rw [q4, jjC (by omega) (by omega)]; omega
  have l2 : l4_2042 ((ps, (o, ((0 : Int), ()))), ()) = some (bif jqy (fun _ _ => true) 0 o then .inr ((ps, (o, ())), ()) else .inl ((false, ()), ())) := by
   refine jjY g4_2042 o (fun i => ((ps, (o, ((i : Int), ()))), ())) (fun _ _ => true) _ _ (fun i x hx => ?_) ?_
   ·have hi := jjF hx
    have hw : Sm i := by unfold Sm; omega
    have hsub : jqK o (0 : Int) (i : Int) = some (o.take i) := jx4 (Nat.le_of_lt hi)
    have hh := v_jsHas ((o.take i, (x, ())), ()) (by show (o.take i).length ≤ 2097152; rw [List.length_take]; omega)
    have hno : (o.take i).contains x = false := by
     cases hc : (o.take i).contains x with
     | false => rfl
     | true =>
      have hm : x ∈ o.take i := by simpa using hc
      obtain ⟨j, hj⟩ := List.mem_iff_getElem?.1 hm
      have hji : j < i := by have := jjF hj; rw [List.length_take] at this; omega
      rw [List.getElem?_take, if_pos hji] at hj
      have hpw := List.pairwise_iff_getElem.1 hnm.1 j i (jjF hj) hi hji
      rw [(List.getElem?_eq_some_iff.1 hj).2, (List.getElem?_eq_some_iff.1 hx).2] at hpw
      exact absurd rfl hpw
    simp only [hno] at hh
    obtain ⟨s, hs, hp⟩ := middle i x hx ((ps, (o, ((i : Int), ((0 : Int), (o, ((i : Int), (o.take i, (o, ((i : Int), (x, (false, ()))))))))))), ()) rfl rfl rfl rfl
    cases s with
    | inl b => exact hp.elim
    | inr r =>
     obtain ⟨q1, q2, q3⟩ := hp
     simp only [g4_2042, jjB hi, cond_true, hsub, jjw, hx, Option.bind_some, hh, cond_false, hs, q1, q2, q3, jjn hw]
   ·simp only [g4_2042, jjR, cond_false]
  rw [allI_tt] at l2
  have e3 := v_iClosure ((ps, (o, ())), ()) hb hv hl (show o.length ≤ 1000000 by omega)
  simp only [hagain] at e3
  refine Ev.eq l1 ?_
  refine Ev.eq l2 ?_
  refine Ev.eq e3 ?_
  simp only [beq_self_eq_true, cond_true, ej, Option.bind_some]
  exact Ev.ret rfl
theorem pure_FnClosure : LawOk S4 [(false, [.sl .u8])] := by
 rintro ⟨⟨code, u⟩, u'⟩ ⟨h, _⟩
 obtain ⟨r, hr, hq⟩ := v_FnClosure ((code, ()), ()) (wf_bytes' (h (.sl .u8 code) (by simp [mkDs, SD.mk])))
 obtain ⟨⟨b, v⟩, v'⟩ := r
 have hq : b = true := hq
 subst hq
 exact ⟨((true, ()), ()), hr, rfl⟩
noncomputable def SH162 : jjM := indexSumm
theorem zH162 (h : ∀ T, (tt T).ok Tryz.prog T) : jja Tryz.prog 162 SH162 := indexByte_ok (fn := Tryz.f162) (by kernel_rfl) (by kernel_rfl) (by kernel_rfl) (by kernel_rfl) (by kernel_rfl)
noncomputable def c158 : Ctx := { tt := tt, fs := fun n => match n with | 162 => some SH162 | _ => none }
theorem k158 (h : ∀ T, (tt T).ok Tryz.prog T) (hH162 : jja Tryz.prog 162 SH162) : CtxGood Tryz.prog c158 := ⟨⟨h⟩, fun g S hg => (by
 simp only [c158] at hg
 split at hg
 ·cases hg; exact hH162
 ·cases hg), jjv, fun _ _ h => (by cases h), fun _ h => (by cases h)⟩
noncomputable def b158 : Code := jjj Tryz.f158
@[reducible] noncomputable def i158 : Shape := ⟨[(0, .lf (.d (.str))), (1, .lf (.d (.int .u8)))], [], 8⟩
@[reducible] noncomputable def o158 : Shape := ⟨[(4, .lf (.d (.int .i64)))], [], 8⟩
noncomputable def f158 (a : i158.Y) : Option o158.Y :=
(some ()).bind fun r2696 =>
 some (((Lib.indexByte a.1.1 (a.1.2.1).toNat.toUInt8), ()), ())
theorem e158 : ∀ a, f158 a = jjt (jjd c158 []) b158 i158 o158 a := fun a => by kernel_rfl
noncomputable def S158 : jjM := jjg tt 8 i158 o158 [.tmp 4] [] f158
theorem z158 (h : ∀ T, (tt T).ok Tryz.prog T) (hH162 : jja Tryz.prog 162 SH162) : jja Tryz.prog 158 S158 :=
 have H := k158 h hH162
 jjm (fn := Tryz.f158) (fr := []) H (by kernel_rfl) (by kernel_rfl) (by kernel_rfl) (by kernel_rfl) (by kernel_rfl) jje (by kernel_rfl) (fun y => ⟨_, _, rfl, rfl, rfl⟩) e158
noncomputable def c156 : Ctx := { tt := tt, fs := fun n => match n with | 158 => some S158 | _ => none }
theorem k156 (h : ∀ T, (tt T).ok Tryz.prog T) (h158 : jja Tryz.prog 158 S158) : CtxGood Tryz.prog c156 := ⟨⟨h⟩, fun g S hg => (by
 simp only [c156] at hg
 split at hg
 ·cases hg; exact h158
 ·cases hg), jjv, fun _ _ h => (by cases h), fun _ h => (by cases h)⟩
noncomputable def b156 : Code := jjj Tryz.f156
@[reducible] noncomputable def s156_56 : Shape := ⟨[(0, .lf (.d (.str))), (1, .lf (.d (.str))), (5, .lf (.d (.int .i64)))], [], 143⟩
@[reducible] noncomputable def t156_56 : List OSh := [(.norm, ⟨[(0, .lf (.d (.str))), (1, .lf (.d (.str))), (5, .lf (.d (.int .i64))), (16, .lf (.d (.bool)))], [], 143⟩)]
noncomputable def g156_56 (y : s156_56.Y) : Option (YS t156_56) :=
 bif (!(y.1.2.2.1 == (0 : Int))) then
 some (((y.1.1, (y.1.2.1, (y.1.2.2.1, ((y.1.2.1 == y.1.1), ())))), ()))
else
 some (((y.1.1, (y.1.2.1, (y.1.2.2.1, (true, ())))), ()))
theorem r156_56 : ∀ y, g156_56 y = jjL (jjd c156 []) (jjc b156 1 56) 56 s156_56 t156_56 y := fun y => by kernel_rfl
theorem q156_56 (H : CtxGood Tryz.prog c156) : jjk Tryz.prog (jjc b156 1 56) (jjb s156_56 t156_56 g156_56) :=
 jjx (fr := []) H (by kernel_rfl) jje r156_56
@[reducible] noncomputable def i156 : Shape := ⟨[(0, .lf (.d (.str))), (1, .lf (.d (.str)))], [], 143⟩
@[reducible] noncomputable def o156 : Shape := ⟨[(4, .lf (.d (.int .i64)))], [], 143⟩
noncomputable def f156 (a : i156.Y) : Option o156.Y :=
(g156_56 ((a.1.1, (a.1.2.1, ((a.1.2.1.length : Int), ()))), ())).bind fun r2698 =>
 bif r2698.1.2.2.2.1 then
 some (((0 : Int), ()), ())
else
 bif (r2698.1.2.2.1 == (1 : Int)) then
(ix r2698.1.2.1 (0 : Int)).bind fun x2699 =>
(f158 ((r2698.1.1, ((x2699.toNat : Int), ())), ())).bind fun r2700 =>
 some ((r2700.1.1, ()), ())
else
 bif (decide (r2698.1.2.2.1 ≥ (r2698.1.1.length : Int))) then
 some ((((-1) : Int), ()), ())
else
 none
theorem e156 : ∀ a, f156 a = jjt (jjd c156 [(56, jjb s156_56 t156_56 g156_56)]) b156 i156 o156 a := fun a => by kernel_rfl
noncomputable def S156 : jjM := jjg tt 143 i156 o156 [.tmp 4] [] f156
theorem z156 (h : ∀ T, (tt T).ok Tryz.prog T) (h158 : jja Tryz.prog 158 S158) : jja Tryz.prog 156 S156 :=
 have H := k156 h h158
 jjm (fn := Tryz.f156) (fr := [(56, jjb s156_56 t156_56 g156_56)]) H (by kernel_rfl) (by kernel_rfl) (by kernel_rfl) (by kernel_rfl) (by kernel_rfl) ⟨q156_56 H, trivial⟩ (by kernel_rfl) (fun y => ⟨_, _, rfl, rfl, rfl⟩) e156
noncomputable def c147 : Ctx := { tt := tt, fs := fun n => match n with | 156 => some S156 | _ => none }
theorem k147 (h : ∀ T, (tt T).ok Tryz.prog T) (h156 : jja Tryz.prog 156 S156) : CtxGood Tryz.prog c147 := ⟨⟨h⟩, fun g S hg => (by
 simp only [c147] at hg
 split at hg
 ·cases hg; exact h156
 ·cases hg), jjv, fun _ _ h => (by cases h), fun _ h => (by cases h)⟩
noncomputable def b147 : Code := jjj Tryz.f147
@[reducible] noncomputable def i147 : Shape := ⟨[(0, .lf (.d (.str))), (1, .lf (.d (.str)))], [], 8⟩
@[reducible] noncomputable def o147 : Shape := ⟨[(4, .lf (.d (.int .i64)))], [], 8⟩
noncomputable def f147 (a : i147.Y) : Option o147.Y :=
(f156 ((a.1.1, (a.1.2.1, ())), ())).bind fun r2702 =>
 some ((r2702.1.1, ()), ())
theorem e147 : ∀ a, f147 a = jjt (jjd c147 []) b147 i147 o147 a := fun a => by kernel_rfl
noncomputable def S147 : jjM := jjg tt 8 i147 o147 [.tmp 4] [] f147
theorem z147 (h : ∀ T, (tt T).ok Tryz.prog T) (h156 : jja Tryz.prog 156 S156) : jja Tryz.prog 147 S147 :=
 have H := k147 h h156
 jjm (fn := Tryz.f147) (fr := []) H (by kernel_rfl) (by kernel_rfl) (by kernel_rfl) (by kernel_rfl) (by kernel_rfl) jje (by kernel_rfl) (fun y => ⟨_, _, rfl, rfl, rfl⟩) e147
theorem sp136 (s p : ByteArray) (k : Int) (w : World) : Calls Tryz.prog 136 #[.string s, .string p, .int .i64 k] w fun e w' =>
  e = .returned (.func (.func 145) #[] #[.pointer (some ⟨w.heap.size + 1, 0, none⟩), .pointer (some ⟨w.heap.size, 0, none⟩), .pointer (some ⟨w.heap.size + 2, 0, none⟩)]) ∧
  w' = ((w.alloc (.cells #[.string s] 9)).alloc (.cells #[.string p] 9)).alloc (.cells #[.int .i64 k] 3) := by
 go_enter Tryz.func136, Tryz.ntmps136
 go_wp2
 go_ret
 exact ⟨rfl, rfl⟩
theorem sp115 (s p : ByteArray) (w : World) : Calls Tryz.prog 115 #[.string s, .string p] w fun e w' =>
  e = .returned (.func (.func 145) #[] #[.pointer (some ⟨w.heap.size + 1, 0, none⟩), .pointer (some ⟨w.heap.size, 0, none⟩), .pointer (some ⟨w.heap.size + 2, 0, none⟩)]) ∧
  w' = ((w.alloc (.cells #[.string s] 9)).alloc (.cells #[.string p] 9)).alloc (.cells #[.int .i64 0] 3) := by
 go_enter Tryz.func115, Tryz.ntmps115
 go_wp2_with (go_at_call 136; refine (sp136 _ _ _ _).mono ?_; rintro e w' ⟨rfl, rfl⟩)
 go_ret
 exact ⟨rfl, rfl⟩
theorem y115 : jJt Tryz.prog 115 145 := fun a b w => .inl ⟨enters_of Tryz.func115 (by kernel_rfl) rfl _ _, (sp115 a b w).mono fun e w' h => by obtain ⟨rfl, rfl⟩ := h; exact ⟨9, 3, rfl, rfl⟩⟩
noncomputable def c145 : Ctx := { tt := tt, fs := fun n => match n with | 147 => some S147 | _ => none }
theorem k145 (h : ∀ T, (tt T).ok Tryz.prog T) (h147 : jja Tryz.prog 147 S147) : CtxGood Tryz.prog c145 := ⟨⟨h⟩, fun g S hg => (by
 simp only [c145] at hg
 split at hg
 ·cases hg; exact h147
 ·cases hg), jjv, fun _ _ h => (by cases h), fun _ h => (by cases h)⟩
noncomputable def b145 : Code := jjj Tryz.f145
noncomputable def l145 : Code := jjl (jjc b145 1 12)
noncomputable def op145 (p j : Nat) : Oper := (opsOf (jjc l145 24 p)).getD j default
def ridOf : Code → Nat
 | .region i _ _ => i
 | _ => 0
noncomputable def oq145 (j : Nat) : Oper := (opsOf (jjc b145 1 7)).getD j default
theorem idx147 (c : UInt8) (r : Str) : f147 ((r, ([c], ())), ()) = some ((Lib.indexByte r c, ()), ()) := by
 have h0 : ix ([c] : Str) (0 : Int) = some c := rfl
 have h1 : ((([c] : Str).length : Int) == 0) = false := rfl
 have h2 : ((([c] : Str).length : Int) == 1) = true := rfl
 have h3 : ((c.toNat : Int)).toNat.toUInt8 = c := by simp
 simp only [f147, f156, g156_56, f158, h0, h1, h2, h3, Bool.not_false, cond_true, cond_false, Option.bind_some, Option.bind]
 by_cases h : (([c] : Str) == r) = true
 ·have : r = [c] := (by simpa using h : [c] = r).symm
  subst this
  simp [Lib.indexByte] <;> rfl
 ·simp [h] <;> rfl
theorem e145B (c : UInt8) (r : Str) : exec (jjd c145 []) (jjc l145 24 96) 96 (ist 52 c r) (kIdx (jjd c145 []) 52 7 8 (jjc l145 24 194) (jjc l145 24 390) 194 390) =
 (f147 ((r, ([c], ())), ())).bind fun q => bif decide (q.1.1 < 0) then some (.inl (iy 52 c r)) else (jqK r 0 (IntKind.i64.wrap (q.1.1 + 0))).bind fun x => some (.inr ((q.1.1, x), iy 52 c r)) := by kernel_rfl
theorem x145 (h : ∀ T, (tt T).ok Tryz.prog T) (h147 : jja Tryz.prog 147 S147) : jxZ Tryz.prog 145 :=
 iter_ok (C := jjd c145 []) (k145 h h147) (fn := Tryz.f145) (k := 52) (A := jjc b145 1 2) (r5 := jjc l145 24 96) (c6 := jjc l145 24 194) (r7 := jjc l145 24 390) (r9 := jjc l145 24 783)
  (o0 := op145 1564 0) (o1 := op145 1564 1) (o2 := op145 1564 2) (o3 := op145 1564 3) (q0 := oq145 0) (q1 := oq145 1) (q2 := oq145 2) (pA := 2) (p5 := 96) (p6 := 194) (p7 := 390) (p9 := 783) (t7 := 7) (t8 := 8) (a1 := 39) (a2 := 40)
  (t41 := 41) (t42 := 42) (u1 := 49) (u2 := 50) (ty := #[9]) (ty' := #[9])
  {isFn := (by kernel_rfl), nt := (by kernel_rfl), k4 := (by decide), res := (by kernel_rfl), ent := enters_of Tryz.func145 (by kernel_rfl) rfl, body := ⟨ridOf (jjc l145 24 1564), ridOf (jjc b145 1 7), (by kernel_rfl)⟩, nr := (by kernel_rfl), wr := (by kernel_rfl),
   gd := ⟨(by kernel_rfl), (by kernel_rfl), (by kernel_rfl), (by kernel_rfl), (by kernel_rfl), (by kernel_rfl), (by kernel_rfl)⟩, wo := (by kernel_rfl), wq := (by kernel_rfl), d2 := (by kernel_rfl), lt41 := (by decide), c2 := (by kernel_rfl), d5 := (by kernel_rfl),
   orcs := ⟨jqo (by kernel_rfl) jje, jqo (by kernel_rfl) jje, jqo (by kernel_rfl) jje, jqo (by kernel_rfl) jje, jqo (by kernel_rfl) jje⟩,
   hA := fun c r => (by kernel_rfl), hB := fun c r => (e145B c r).trans (by rw [idx147]; rfl), hT := fun c r i x v => (by kernel_rfl), h3 := fun c r b => (by kernel_rfl), h30 := (by kernel_rfl), hC := fun c r i => (by kernel_rfl), hQ := fun c r v => (by kernel_rfl) }
  (by kernel_rfl) (by decide)
theorem oqn (w : World) : Calls Tryz.prog 16 #[.slice none 0 0] w fun e w' => e = .returned (.pointer (some ⟨w.heap.size, 0, none⟩)) ∧ w' = w.alloc (.cells #[.slice none 0 0, .int .i64 0] 66) := by
 go_enter Tryz.func16, Tryz.ntmps16
 go_wp2
 go_ret
 exact ⟨rfl, rfl⟩
theorem oqs (w : World) (a : Addr) (n c : Nat) (h : n ≤ 2000) : Calls Tryz.prog 16 #[.slice (some a) n c] w fun e w' => e = .returned (.pointer (some ⟨w.heap.size, 0, none⟩)) ∧ w' = w.alloc (.cells #[.slice (some a) n c, .int .i64 0] 66) := by
 have h1 : ¬ ((n : Int) > 2000) := by omega
 go_enter Tryz.func16, Tryz.ntmps16
 go_wp2
 go_ret
 exact ⟨rfl, rfl⟩
theorem oqb (w : World) (a : Addr) (n c : Nat) (h : 2000 < n) (hc : n ≤ c) : Calls Tryz.prog 16 #[.slice (some a) n c] w fun e w' => e = .returned (.pointer (some ⟨w.heap.size, 0, none⟩)) ∧ w' = w.alloc (.cells #[.slice (some a) 2000 c, .int .i64 0] 66) := by
 have h1 : ((n : Int) > 2000) := by omega
 go_enter Tryz.func16, Tryz.ntmps16
 go_wp2
 go_ret
 exact ⟨rfl, rfl⟩
theorem op16 : OpenOk Tryz.prog 16 := fun xs v w av hr => .inl ⟨enters_of Tryz.func16 (by kernel_rfl) rfl _ _, by
 have fin : ∀ {v : Value} {u : Value}, Rd w av (.sl .u8 (xs.take 2000)) u → Calls Tryz.prog 16 #[v] w (fun e w' => e = .returned (.pointer (some ⟨w.heap.size, 0, none⟩)) ∧ w' = w.alloc (.cells #[u, .int .i64 0] 66)) →
   Calls Tryz.prog 16 #[v] w fun e w' => match e, w' with
    | .returned v', w' => ∃ u T, Rd w av (.sl .u8 (xs.take 2000)) u ∧ v' = .pointer (some ⟨w.heap.size, 0, none⟩) ∧ w' = w.alloc (.cells #[u, .int .i64 0] T)
    | _, _ => False := fun hu hc => hc.mono fun e w' h => by obtain ⟨rfl, rfl⟩ := h; exact ⟨_, _, hu, rfl, rfl⟩
 cases hr with
 | nil => exact fin (.nil .u8) (oqn w)
 | sl t xs a cap cs n hn hcap hb hl hc hr =>
  by_cases h : 2000 < n
  ·refine fin (u := .slice (some a) 2000 cap) ?_ (oqb w a n cap h hcap)
   have hlen : (xs.take 2000).length = 2000 := by simp only [List.length_take]; omega
   have hf : jj3 .u8 (xs.take 2000) = (jj3 .u8 xs).take 2000 := by rw [flat_take]; rfl
   refine .sl .u8 (xs.take 2000) a cap (cs.take 2000) 2000 hlen.symm (by omega) (fun hx => hb (fun e => hx (by rw [e]; rfl))) (by rw [hf, List.length_take, List.length_take, hl]) (fun j u hu => ?_) (fun j h1 h2 => ?_)
   ·rw [List.getElem?_take] at hu
    split at hu
    ·exact hc j u hu
    ·cases hu
   ·have h1' : j < (jj3 .u8 xs).length := by rw [hf, List.length_take] at h1; omega
    have h2' : j < cs.length := by rw [List.length_take] at h2; omega
    have e1 : (jj3 .u8 (xs.take 2000))[j] = (jj3 .u8 xs)[j] := by simp only [hf, List.getElem_take]
    have e2 : (cs.take 2000)[j] = cs[j] := List.getElem_take
    rw [e1, e2]
    exact hr j h1' h2'
  ·refine fin (u := .slice (some a) n cap) ?_ (oqs w a n cap (by omega))
   rw [List.take_of_length_le (by omega)]
   exact .sl .u8 xs a cap cs n hn hcap hb hl hc hr⟩
theorem xH162 : jja Tryz.prog 162 SH162 := zH162 jju
theorem x158 : jja Tryz.prog 158 S158 := z158 jju xH162
theorem x156 : jja Tryz.prog 156 S156 := z156 jju x158
theorem x147 : jja Tryz.prog 147 S147 := z147 jju x156
theorem it145 : jxZ Tryz.prog 145 := x145 jju x147
theorem x10 : jja Tryz.prog 10 S10 := z10 jju
theorem x11 : jja Tryz.prog 11 S11 := z11 jju
theorem x17v0 : jja Tryz.prog 17 jj6 := z17v0 jju
theorem x18v0 : jja Tryz.prog 18 jqi := z18v0 jju x17v0
theorem x32v0 : jja Tryz.prog 32 S32v0 := z32v0 jju x18v0
theorem x60v0 : jja Tryz.prog 60 S60v0 := z60v0 jju x17v0 x18v0 x32v0
theorem x122 : jja Tryz.prog 122 S122 := z122 jju
theorem x151 : jja Tryz.prog 151 S151 := z151 jju
theorem x94 : jja Tryz.prog 94 S94 := z94 jju
theorem x141 : jja Tryz.prog 141 S141 := z141 jju x94 x151
theorem x125 : jja Tryz.prog 125 S125 := z125 jju x122 x141
theorem x153 : jja Tryz.prog 153 S153 := z153 jju x151
theorem x143 : jja Tryz.prog 143 S143 := z143 jju x151 x153
theorem x131 : jja Tryz.prog 131 S131 := z131 jju x122 x143
theorem x154 : jja Tryz.prog 154 S154 := z154 jju
theorem x144 : jja Tryz.prog 144 S144 := z144 jju x153 x154
theorem x132 : jja Tryz.prog 132 S132 := z132 jju x144
theorem x107 : jja Tryz.prog 107 S107 := z107 jju x122 x125 x131 x132
theorem x133 : jja Tryz.prog 133 S133 := z133 jju
theorem x108 : jja Tryz.prog 108 S108 := z108 jju x107 x133
theorem x126 : jja Tryz.prog 126 S126 := z126 jju x94
theorem x97 : jja Tryz.prog 97 S97 := z97 jju x94 x125 x126
theorem x106 : jja Tryz.prog 106 S106 := z106 jju
theorem x98 : jja Tryz.prog 98 S98 := z98 jju x106
theorem x99 : jja Tryz.prog 99 S99 := z99 jju
theorem x73 : jja Tryz.prog 73 S73 := z73 jju x97 x98 x99
theorem x84 : jja Tryz.prog 84 S84 := z84 jju x73 x107 x108
theorem x86 : jja Tryz.prog 86 S86 := z86 jju
theorem x109 : jja Tryz.prog 109 S109 := z109 jju x86 x97 x98 x99 x106
theorem x113v0 : jja Tryz.prog 113 S113v0 := z113v0 jju x17v0
theorem x134v0 : jja Tryz.prog 134 S134v0 := z134v0 jju x18v0
theorem x114 : jja Tryz.prog 114 S114 := z114 jju
theorem x135v0 : jja Tryz.prog 135 S135v0 := z135v0 jju x18v0 x114
theorem x110v0 : jja Tryz.prog 110 S110v0 := z110v0 jju x17v0 x113v0 x134v0 x135v0
theorem x111 : jja Tryz.prog 111 S111 := z111 jju
theorem x85v0 : jja Tryz.prog 85 S85v0 := z85v0 jju x17v0 x109 x110v0 x111
theorem x57v0 : jja Tryz.prog 57 S57v0 := z57v0 jju x17v0 x18v0 x32v0 x60v0 x84 x85v0
theorem x58v0 : jja Tryz.prog 58 S58v0 := z58v0 jju x17v0 x18v0 x32v0
theorem x59v0 : jja Tryz.prog 59 S59v0 := z59v0 jju x17v0 x18v0 x58v0 x60v0
theorem x112v0 : jja Tryz.prog 112 S112v0 := z112v0 jju x17v0 x18v0 x134v0
theorem x87v0 : jja Tryz.prog 87 S87v0 := z87v0 jju x17v0 x18v0 x110v0 x112v0 x113v0 x114
theorem x61v0 : jja Tryz.prog 61 S61v0 := z61v0 jju x17v0 x85v0 x86 x87v0
theorem x33v0 : jja Tryz.prog 33 S33v0 := z33v0 jju x17v0 x18v0 x57v0 x58v0 x59v0 x60v0 x61v0
theorem x19v0 : jja Tryz.prog 19 S19v0 := z19v0 jju x17v0 x18v0 x32v0 x33v0
theorem x7 : jja Tryz.prog 7 S7 := z7 jju x17v0 x18v0 x19v0 op16
theorem x62 : jja Tryz.prog 62 S62 := z62 jju
theorem x116 : jja Tryz.prog 116 S116 := z116 jju
theorem x88 : jja Tryz.prog 88 S88 := z88 jju x116 y115 it145
theorem x63 : jja Tryz.prog 63 S63 := z63 jju x88
theorem x65 : jja Tryz.prog 65 S65 := z65 jju x62 x63
theorem x64v0 : jja Tryz.prog 64 S64v0 := z64v0 jju x65
theorem x67 : jja Tryz.prog 67 S67 := z67 jju
theorem x89 : jja Tryz.prog 89 S89 := z89 jju
theorem x117 : jja Tryz.prog 117 S117 := z117 jju
theorem x90 : jja Tryz.prog 90 S90 := z90 jju x117
theorem x66v0 : jja Tryz.prog 66 S66v0 := z66v0 jju x67 x89 x90
theorem x157 : jja Tryz.prog 157 S157 := z157 jju
theorem x148 : jja Tryz.prog 148 S148 := z148 jju x157
theorem x137 : jja Tryz.prog 137 S137 := z137 jju x148
theorem x118 : jja Tryz.prog 118 S118 := z118 jju x137 y115 it145
theorem x138 : jja Tryz.prog 138 S138 := z138 jju
theorem x119 : jja Tryz.prog 119 S119 := z119 jju x138
theorem x91 : jja Tryz.prog 91 S91 := z91 jju x118 x119
theorem x81 : jja Tryz.prog 81 S81 := z81 jju
theorem x55 : jja Tryz.prog 55 S55 := z55 jju x81
theorem x128 : jja Tryz.prog 128 S128 := z128 jju x55
theorem x127v0 : jja Tryz.prog 127 S127v0 := z127v0 jju x128
theorem x104 : jja Tryz.prog 104 S104 := z104 jju x127v0
theorem x149 : jja Tryz.prog 149 S149 := z149 jju
theorem x139 : jja Tryz.prog 139 S139 := z139 jju x149
theorem x120 : jja Tryz.prog 120 S120 := z120 jju x118 x139
theorem x92 : jja Tryz.prog 92 S92 := z92 jju x104 x120
theorem x68 : jja Tryz.prog 68 S68 := z68 jju x91 x92
theorem x35 : jja Tryz.prog 35 S35 := z35 jju x62 x63 x64v0 x66v0 x68
theorem x34v0 : jja Tryz.prog 34 S34v0 := z34v0 jju x35
theorem x20 : jja Tryz.prog 20 S20 := z20 jju x34v0
theorem x150 : jja Tryz.prog 150 S150 := z150 jju
theorem x140 : jja Tryz.prog 140 S140 := z140 jju x150
theorem x121 : jja Tryz.prog 121 S121 := z121 jju x140
theorem x93 : jja Tryz.prog 93 S93 := z93 jju x121
theorem x69 : jja Tryz.prog 69 S69 := z69 jju x88 x93
theorem x36 : jja Tryz.prog 36 S36 := z36 jju x63 x65 x69
theorem x21v0 : jja Tryz.prog 21 S21v0 := z21v0 jju x36
theorem x8 : jja Tryz.prog 8 S8 := z8 jju x20 x21v0
theorem x70 : jja Tryz.prog 70 S70 := z70 jju x94
theorem x123 : jja Tryz.prog 123 S123 := z123 jju
theorem x95 : jja Tryz.prog 95 S95 := z95 jju x94 x122 x123
theorem x71 : jja Tryz.prog 71 S71 := z71 jju x95
theorem x38 : jja Tryz.prog 38 S38 := z38 jju
theorem x124 : jja Tryz.prog 124 S124 := z124 jju x70 x71 x94
theorem x96 : jja Tryz.prog 96 S96 := z96 jju x124
theorem x72 : jja Tryz.prog 72 S72 := z72 jju x38 x96
theorem x37 : jja Tryz.prog 37 S37 := z37 jju x70 x71 x72 x73
theorem x22 : jja Tryz.prog 22 S22 := z22 jju x37 x38
theorem x39 : jja Tryz.prog 39 S39 := z39 jju
theorem x40 : jja Tryz.prog 40 S40 := z40 jju
theorem x100 : jja Tryz.prog 100 S100 := z100 jju
theorem x74 : jja Tryz.prog 74 S74 := z74 jju x95 x100
theorem x41 : jja Tryz.prog 41 S41 := z41 jju x74
theorem x23 : jja Tryz.prog 23 S23 := z23 jju x39 x40 x41
theorem x9 : jja Tryz.prog 9 S9 := z9 jju x22 x23
theorem x4 : jja Tryz.prog 4 S4 := z4 jju x7 x8 x9 x10 x11
end Go.Proofs
