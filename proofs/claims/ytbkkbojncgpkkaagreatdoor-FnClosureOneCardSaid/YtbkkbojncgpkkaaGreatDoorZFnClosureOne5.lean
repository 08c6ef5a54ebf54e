/- It is proved that closures can be combined (FnClosureOne). (part 6 of 7: JkEF4, JkEPuCg, JkEPuCh, JkEF5, JkEPuCi, JkEFH162, JkEF158, JkEF156, JkEF147, JkESp, JkEIt, JkEOp, JkEA5) Conditions: none beyond the statement. -/
import Derived.Test.YtbkkbojncgpkkaaGreatDoorZFnClosureOne4
import Derived.Tactics
import Derived.Deep.RegionLaw
import Derived.Shelf.Abstract
import Derived.Test.YtbkkbojncgpkkaaGreatDoorProg
import Derived.KernelRfl
set_option linter.unusedSimpArgs false
set_option maxRecDepth 100000
set_option linter.unusedVariables false
namespace Go.Proofs
open Go.Jk
noncomputable def c4 : Ctx := { tt := tt, fs := fun n => match n with | 7 => some S7 | 8 => some S8 | 9 => some S9 | 10 => some S10 | 11 => some S11 | _ => none }
theorem k4 (h : ∀ T, (tt T).ok Tryz.prog T) (h7 : jja Tryz.prog 7 S7) (h8 : jja Tryz.prog 8 S8) (h9 : jja Tryz.prog 9 S9) (h10 : jja Tryz.prog 10 S10) (h11 : jja Tryz.prog 11 S11) : CtxGood Tryz.prog c4 := ⟨⟨h⟩, fun g S hg => (by
 simp only [c4] at hg
 split at hg
 ·cases hg; exact h7
 ·cases hg; exact h8
 ·cases hg; exact h9
 ·cases hg; exact h10
 ·cases hg; exact h11
 ·cases hg), jjv, fun _ _ h => (by cases h), fun _ h => (by cases h)⟩
noncomputable def b4 : Code := jjl Tryz.f4
@[reducible] noncomputable def s4_252 : Shape := ⟨[(3, .lf (.d (.sl .pack))), (4, .lf (.d (.sl .str))), (5, .lf (.own 3000320)), (6, .lf (.d (.int .i64))), (7, .lf (.d (.sl .str))), (8, .lf (.d (.int .i64)))], [(3000320, .row .str, .slot 5 0)], 138⟩
@[reducible] noncomputable def t4_252 : List OSh := [(.norm, ⟨[(3, .lf (.d (.sl .pack))), (4, .lf (.d (.sl .str))), (5, .lf (.own 3000320)), (6, .lf (.d (.int .i64))), (7, .lf (.d (.sl .str))), (8, .lf (.d (.int .i64))), (47, .lf (.d (.bool)))], [(3000320, .row .str, .slot 5 0)], 138⟩)]
noncomputable def g4_252 (y : s4_252.Y) : Option (YS t4_252) :=
 bif (!(y.1.2.2.2.1 != y.1.2.2.2.2.2.1)) then
(f10 ((y.2.1, (y.1.2.2.2.2.1, ())), ())).bind fun r1870 =>
 bif (!(!r1870.1.1)) then
 some (((y.1.1, (y.1.2.1, ((), (y.1.2.2.2.1, (y.1.2.2.2.2.1, (y.1.2.2.2.2.2.1, ((y.1.2.2.2.1 != (0 : Int)), ()))))))), (y.2.1, ())))
else
 some (((y.1.1, (y.1.2.1, ((), (y.1.2.2.2.1, (y.1.2.2.2.2.1, (y.1.2.2.2.2.2.1, (true, ()))))))), (y.2.1, ())))
else
 some (((y.1.1, (y.1.2.1, ((), (y.1.2.2.2.1, (y.1.2.2.2.2.1, (y.1.2.2.2.2.2.1, (true, ()))))))), (y.2.1, ())))
theorem r4_252 : ∀ y, g4_252 y = jjL (jjd c4 []) (jjc b4 1 252) 252 s4_252 t4_252 y := fun y => by kernel_rfl
theorem q4_252 (H : CtxGood Tryz.prog c4) : jjj Tryz.prog (jjc b4 1 252) (jjb s4_252 t4_252 g4_252) :=
 jjs (fr := []) H (by kernel_rfl) jje r4_252
@[reducible] noncomputable def s4_1018 : Shape := ⟨[(3, .lf (.d (.sl .pack))), (4, .lf (.d (.sl .str))), (5, .lf (.own 3000320)), (9, .lf (.d (.int .i64)))], [(3000320, .row .str, .slot 5 0)], 138⟩
@[reducible] noncomputable def t4_1018 : List OSh := [(.ret, ⟨[(2, .lf (.d (.bool)))], [], 138⟩), (.exit 0, ⟨[(3, .lf (.d (.sl .pack))), (5, .lf (.own 3000320))], [(3000320, .row .str, .slot 5 0)], 138⟩)]
noncomputable def g4_1018 (y : s4_1018.Y) : Option (Sum s4_1018.Y (YS t4_1018)) :=
 bif (decide (y.1.2.2.2.1 < (y.1.2.1.length : Int))) then
(ix y.1.2.1 y.1.2.2.2.1).bind fun x1901 =>
(f11 ((y.2.1, (x1901, ())), ())).bind fun r1902 =>
 bif (!r1902.1.1) then
 some (.inr (.inl ((false, ()), ())))
else
 some (.inl ((y.1.1, (y.1.2.1, ((), ((IntKind.i64.wrap (y.1.2.2.2.1 + (1 : Int))), ())))), (y.2.1, ())))
else
 some (.inr (.inr ((y.1.1, ((), ())), (y.2.1, ()))))
theorem r4_1018 : ∀ y, g4_1018 y = jjz (jjd c4 []) (jjk (jjc b4 1 1018)) 1018 s4_1018 t4_1018 y := fun y => by kernel_rfl
noncomputable def l4_1018 : s4_1018.Y → Option (YS t4_1018) := jjF g4_1018
theorem q4_1018 (H : CtxGood Tryz.prog c4) : jjj Tryz.prog (jjc b4 1 1018) (jjb s4_1018 t4_1018 l4_1018) :=
 jjr (fr := []) H (by kernel_rfl) (by kernel_rfl) jje (fun y => jjh r4_1018 y)
@[reducible] noncomputable def s4_16730514 : Shape := ⟨[(3, .lf (.d (.sl .pack))), (5, .lf (.d (.sl .str))), (10, .lf (.d (.int .i64))), (11, .lf (.d (.int .i64))), (12, .lf (.d (.int .i64))), (75, .lf (.d (.sl .str))), (76, .lf (.d (.int .i64))), (77, .lf (.d (.sl .str))), (78, .lf (.d (.sl .str))), (79, .lf (.d (.int .i64))), (81, .lf (.d (.str))), (82, .lf (.d (.bool)))], [], 138⟩
@[reducible] noncomputable def jqL : List OSh := [(.ret, ⟨[(2, .lf (.d (.bool)))], [], 138⟩), (.exit 6, ⟨[(3, .lf (.d (.sl .pack))), (5, .lf (.d (.sl .str))), (10, .lf (.d (.int .i64))), (11, .lf (.d (.int .i64))), (75, .lf (.d (.sl .str))), (76, .lf (.d (.int .i64))), (77, .lf (.d (.sl .str))), (78, .lf (.d (.sl .str))), (79, .lf (.d (.int .i64))), (81, .lf (.d (.str))), (82, .lf (.d (.bool))), (89, .lf (.d (.int .i64))), (90, .lf (.d (.sl .pack))), (91, .lf (.d (.int .i64))), (92, .lf (.rptr [.str, .str, .sl .need, .sl .entry] 0)), (93, .lf (.rptr [.str, .str, .sl .need, .sl .entry] 2)), (94, .lf (.d (.sl .need))), (95, .lf (.d (.int .i64))), (96, .lf (.d (.bool))), (97, .lf (.d (.bool))), (108, .lf (.d (.bool)))], [], 138⟩)]
noncomputable def g4_16730514 (y : s4_16730514.Y) : Option (Sum s4_16730514.Y (YS jqL)) :=
(ix y.1.1 y.1.2.2.2.1).bind fun x1974 =>
 bif (decide (y.1.2.2.2.2.1 < (x1974.needs.length : Int))) then
(ix y.1.1 y.1.2.2.2.1).bind fun x1975 =>
(ix y.1.2.1 y.1.2.2.1).bind fun x1976 =>
 bif (x1975.name == x1976) then
(jqE y.1.2.1 (0 : Int) y.1.2.2.1).bind fun x1981 =>
(ix y.1.1 y.1.2.2.2.1).bind fun x1982 =>
(ix x1982.needs y.1.2.2.2.2.1).bind fun x1983 =>
(f11 ((x1981, (x1983.name, ())), ())).bind fun r1984 =>
 bif (!r1984.1.1) then
 some (.inr (.inl ((false, ()), ())))
else
 some (.inl ((y.1.1, (y.1.2.1, (y.1.2.2.1, (y.1.2.2.2.1, ((IntKind.i64.wrap (y.1.2.2.2.2.1 + (1 : Int))), (y.1.2.2.2.2.2.1, (y.1.2.2.2.2.2.2.1, (y.1.2.2.2.2.2.2.2.1, (y.1.2.2.2.2.2.2.2.2.1, (y.1.2.2.2.2.2.2.2.2.2.1, (y.1.2.2.2.2.2.2.2.2.2.2.1, (y.1.2.2.2.2.2.2.2.2.2.2.2.1, ())))))))))))), ()))
else
 some (.inr (.inr ((y.1.1, (y.1.2.1, (y.1.2.2.1, (y.1.2.2.2.1, (y.1.2.2.2.2.2.1, (y.1.2.2.2.2.2.2.1, (y.1.2.2.2.2.2.2.2.1, (y.1.2.2.2.2.2.2.2.2.1, (y.1.2.2.2.2.2.2.2.2.2.1, (y.1.2.2.2.2.2.2.2.2.2.2.1, (y.1.2.2.2.2.2.2.2.2.2.2.2.1, (y.1.2.2.2.2.1, (y.1.1, (y.1.2.2.2.1, ((x1974.name, (x1974.version, (x1974.needs, (x1974.tree, ())))), ((x1974.name, (x1974.version, (x1974.needs, (x1974.tree, ())))), (x1974.needs, ((x1974.needs.length : Int), ((decide (y.1.2.2.2.2.1 < (x1974.needs.length : Int))), (true, ((x1975.name == x1976), ()))))))))))))))))))))), ())))
else
 some (.inr (.inr ((y.1.1, (y.1.2.1, (y.1.2.2.1, (y.1.2.2.2.1, (y.1.2.2.2.2.2.1, (y.1.2.2.2.2.2.2.1, (y.1.2.2.2.2.2.2.2.1, (y.1.2.2.2.2.2.2.2.2.1, (y.1.2.2.2.2.2.2.2.2.2.1, (y.1.2.2.2.2.2.2.2.2.2.2.1, (y.1.2.2.2.2.2.2.2.2.2.2.2.1, (y.1.2.2.2.2.1, (y.1.1, (y.1.2.2.2.1, ((x1974.name, (x1974.version, (x1974.needs, (x1974.tree, ())))), ((x1974.name, (x1974.version, (x1974.needs, (x1974.tree, ())))), (x1974.needs, ((x1974.needs.length : Int), ((decide (y.1.2.2.2.2.1 < (x1974.needs.length : Int))), (false, (false, ()))))))))))))))))))))), ())))
theorem r4_16730514 : ∀ y, g4_16730514 y = jjz (jjd c4 []) (jjk (jjc (jjk (jjc (jjk (jjc b4 1 2042)) 4084 261414)) 522828 16730514)) 16730514 s4_16730514 jqL y := fun y => by kernel_rfl
noncomputable def jzc : s4_16730514.Y → Option (YS jqL) := jjF g4_16730514
theorem q4_16730514 (H : CtxGood Tryz.prog c4) : jjj Tryz.prog (jjc (jjk (jjc (jjk (jjc b4 1 2042)) 4084 261414)) 522828 16730514) (jjb s4_16730514 jqL jzc) :=
 jjr (fr := []) H (by kernel_rfl) (by kernel_rfl) jje (fun y => jjh r4_16730514 y)
@[reducible] noncomputable def s4_261414 : Shape := ⟨[(3, .lf (.d (.sl .pack))), (5, .lf (.d (.sl .str))), (10, .lf (.d (.int .i64))), (11, .lf (.d (.int .i64))), (75, .lf (.d (.sl .str))), (76, .lf (.d (.int .i64))), (77, .lf (.d (.sl .str))), (78, .lf (.d (.sl .str))), (79, .lf (.d (.int .i64))), (81, .lf (.d (.str))), (82, .lf (.d (.bool)))], [], 138⟩
@[reducible] noncomputable def jxK : List OSh := [(.ret, ⟨[(2, .lf (.d (.bool)))], [], 138⟩), (.exit 4, ⟨[(3, .lf (.d (.sl .pack))), (5, .lf (.d (.sl .str))), (10, .lf (.d (.int .i64))), (75, .lf (.d (.sl .str))), (76, .lf (.d (.int .i64))), (77, .lf (.d (.sl .str))), (78, .lf (.d (.sl .str))), (79, .lf (.d (.int .i64))), (81, .lf (.d (.str))), (82, .lf (.d (.bool)))], [], 138⟩)]
noncomputable def g4_261414 (y : s4_261414.Y) : Option (Sum s4_261414.Y (YS jxK)) :=
 bif (decide (y.1.2.2.2.1 < (y.1.1.length : Int))) then
(jzc ((y.1.1, (y.1.2.1, (y.1.2.2.1, (y.1.2.2.2.1, ((0 : Int), (y.1.2.2.2.2.1, (y.1.2.2.2.2.2.1, (y.1.2.2.2.2.2.2.1, (y.1.2.2.2.2.2.2.2.1, (y.1.2.2.2.2.2.2.2.2.1, (y.1.2.2.2.2.2.2.2.2.2.1, (y.1.2.2.2.2.2.2.2.2.2.2.1, ())))))))))))), ())).bind fun r1988 =>
(match r1988 with
| .inl r1989 =>
 some (.inr (.inl ((r1989.1.1, ()), ())))
| .inr r1990 =>
 some (.inl ((r1990.1.1, (r1990.1.2.1, (r1990.1.2.2.1, ((IntKind.i64.wrap (r1990.1.2.2.2.1 + (1 : Int))), (r1990.1.2.2.2.2.1, (r1990.1.2.2.2.2.2.1, (r1990.1.2.2.2.2.2.2.1, (r1990.1.2.2.2.2.2.2.2.1, (r1990.1.2.2.2.2.2.2.2.2.1, (r1990.1.2.2.2.2.2.2.2.2.2.1, (r1990.1.2.2.2.2.2.2.2.2.2.2.1, ()))))))))))), ())))
else
 some (.inr (.inr ((y.1.1, (y.1.2.1, (y.1.2.2.1, (y.1.2.2.2.2.1, (y.1.2.2.2.2.2.1, (y.1.2.2.2.2.2.2.1, (y.1.2.2.2.2.2.2.2.1, (y.1.2.2.2.2.2.2.2.2.1, (y.1.2.2.2.2.2.2.2.2.2.1, (y.1.2.2.2.2.2.2.2.2.2.2.1, ())))))))))), ())))
theorem r4_261414 : ∀ y, g4_261414 y = jjz (jjd c4 [(16730514, jjb s4_16730514 jqL jzc)]) (jjk (jjc (jjk (jjc b4 1 2042)) 4084 261414)) 261414 s4_261414 jxK y := fun y => by kernel_rfl
noncomputable def l4_261414 : s4_261414.Y → Option (YS jxK) := jjF g4_261414
theorem q4_261414 (H : CtxGood Tryz.prog c4) : jjj Tryz.prog (jjc (jjk (jjc b4 1 2042)) 4084 261414) (jjb s4_261414 jxK l4_261414) :=
 jjr (fr := [(16730514, jjb s4_16730514 jqL jzc)]) H (by kernel_rfl) (by kernel_rfl) ⟨q4_16730514 H, trivial⟩ (fun y => jjh r4_261414 y)
@[reducible] noncomputable def s4_2042 : Shape := ⟨[(3, .lf (.d (.sl .pack))), (5, .lf (.d (.sl .str))), (10, .lf (.d (.int .i64)))], [], 138⟩
@[reducible] noncomputable def t4_2042 : List OSh := [(.ret, ⟨[(2, .lf (.d (.bool)))], [], 138⟩), (.exit 2, ⟨[(3, .lf (.d (.sl .pack))), (5, .lf (.d (.sl .str)))], [], 138⟩)]
noncomputable def g4_2042 (y : s4_2042.Y) : Option (Sum s4_2042.Y (YS t4_2042)) :=
 bif (decide (y.1.2.2.1 < (y.1.2.1.length : Int))) then
(jqE y.1.2.1 (0 : Int) y.1.2.2.1).bind fun x2018 =>
(ix y.1.2.1 y.1.2.2.1).bind fun x2019 =>
(f11 ((x2018, (x2019, ())), ())).bind fun r2020 =>
 bif r2020.1.1 then
 some (.inr (.inl ((false, ()), ())))
else
(l4_261414 ((y.1.1, (y.1.2.1, (y.1.2.2.1, ((0 : Int), (y.1.2.1, (y.1.2.2.1, (x2018, (y.1.2.1, (y.1.2.2.1, (x2019, (r2020.1.1, ()))))))))))), ())).bind fun r2021 =>
(match r2021 with
| .inl r2022 =>
 some (.inr (.inl ((r2022.1.1, ()), ())))
| .inr r2023 =>
 some (.inl ((r2023.1.1, (r2023.1.2.1, ((IntKind.i64.wrap (r2023.1.2.2.1 + (1 : Int))), ()))), ())))
else
 some (.inr (.inr ((y.1.1, (y.1.2.1, ())), ())))
theorem r4_2042 : ∀ y, g4_2042 y = jjz (jjd c4 [(261414, jjb s4_261414 jxK l4_261414)]) (jjk (jjc b4 1 2042)) 2042 s4_2042 t4_2042 y := fun y => by kernel_rfl
noncomputable def l4_2042 : s4_2042.Y → Option (YS t4_2042) := jjF g4_2042
theorem q4_2042 (H : CtxGood Tryz.prog c4) : jjj Tryz.prog (jjc b4 1 2042) (jjb s4_2042 t4_2042 l4_2042) :=
 jjr (fr := [(261414, jjb s4_261414 jxK l4_261414)]) H (by kernel_rfl) (by kernel_rfl) ⟨q4_261414 H, trivial⟩ (fun y => jjh r4_2042 y)
@[reducible] noncomputable def i4 : Shape := ⟨[(0, .lf (.d (.sl .u8)))], [], 138⟩
@[reducible] noncomputable def o4 : Shape := ⟨[(2, .lf (.d (.bool)))], [], 138⟩
noncomputable def f4 (a : i4.Y) : Option o4.Y :=
 bif (decide ((a.1.1.length : Int) > (1048576 : Int))) then
 some ((true, ()), ())
else
(f7 ((a.1.1, ()), ())).bind fun r1910 =>
(f8 ((r1910.2.1, (r1910.2.2.1, ())), ())).bind fun r1912 =>
(f9 ((r1910.2.1, (r1910.2.2.1, ())), ())).bind fun r1914 =>
(g4_252 ((r1910.2.1, (r1910.2.2.1, ((), (r1912.1.2.1, (r1914.1.1, (r1914.1.2.1, ())))))), (r1912.2.1, ()))).bind fun r1917 =>
 bif r1917.1.2.2.2.2.2.2.1 then
 bif (r1917.1.2.2.2.1 == r1917.1.2.2.2.2.2.1) then
(f10 ((r1917.2.1, (r1917.1.2.2.2.2.1, ())), ())).bind fun r1918 =>
 some ((r1918.1.1, ()), ())
else
 some ((false, ()), ())
else
(l4_1018 ((r1917.1.1, (r1917.1.2.1, ((), ((0 : Int), ())))), (r1917.2.1, ()))).bind fun r1922 =>
(match r1922 with
| .inl r1923 =>
 some ((r1923.1.1, ()), ())
| .inr r1924 =>
(l4_2042 ((r1924.1.1, (r1924.2.1, ((0 : Int), ()))), ())).bind fun r2027 =>
(match r2027 with
| .inl r2028 =>
 some ((r2028.1.1, ()), ())
| .inr r2029 =>
(f8 ((r2029.1.1, (r2029.1.2.1, ())), ())).bind fun r2031 =>
 bif (r2031.1.2.1 == (0 : Int)) then
(f10 ((r2031.2.1, (r2029.1.2.1, ())), ())).bind fun r2032 =>
 some ((r2032.1.1, ()), ())
else
 some ((false, ()), ())))
theorem e4 : ∀ a, f4 a = jjt (jjd c4 [(252, jjb s4_252 t4_252 g4_252), (1018, jjb s4_1018 t4_1018 l4_1018), (2042, jjb s4_2042 t4_2042 l4_2042)]) b4 i4 o4 a := fun a => by kernel_rfl
noncomputable def S4 : jjM := jjg tt 138 i4 o4 [.tmp 2] [] f4
theorem z4 (h : ∀ T, (tt T).ok Tryz.prog T) (h7 : jja Tryz.prog 7 S7) (h8 : jja Tryz.prog 8 S8) (h9 : jja Tryz.prog 9 S9) (h10 : jja Tryz.prog 10 S10) (h11 : jja Tryz.prog 11 S11) : jja Tryz.prog 4 S4 :=
 have H := k4 h h7 h8 h9 h10 h11
 jjm (fn := Tryz.f4) (fr := [(252, jjb s4_252 t4_252 g4_252), (1018, jjb s4_1018 t4_1018 l4_1018), (2042, jjb s4_2042 t4_2042 l4_2042)]) H (by kernel_rfl) (by kernel_rfl) (by kernel_rfl) (by kernel_rfl) (by kernel_rfl) ⟨q4_252 H, q4_1018 H, q4_2042 H, trivial⟩ (by kernel_rfl) (fun y => ⟨_, _, rfl, rfl, rfl⟩) e4
theorem closeL_ok {ps : List Pack} {names : List Str} (h : (jqx ps names).2 = 0) : jqI ps = 0 ∧ jqk ps (ps.length + 1) names [] = .inl (jqx ps names).1 := by
 unfold jqx at h ⊢
 cases hz : (jqI ps == 0) with
 | false =>
  rw [hz] at h
  have h : jqI ps = 0 := h
  rw [h] at hz; cases hz
 | true =>
  rw [hz] at h
  simp only [cond_true] at h ⊢
  refine ⟨by simpa using hz, ?_⟩
  cases hc : jqk ps (ps.length + 1) names [] with
  | inl o => rfl
  | inr c =>
   rw [hc] at h
   have h : c = 0 := h
   rcases cloAll_code ps _ _ _ _ hc with k | k <;> rw [k] at h <;> cases h
def jqF (a b : List Str) : List Str := b.filter fun s => !a.contains s
theorem notIn_mem {a b : List Str} {s : Str} : s ∈ jqF a b ↔ s ∈ b ∧ s ∉ a := by
 unfold jqF
 rw [List.mem_filter]
 simp
theorem own_run (ps : List Pack) {o : List Str} (hg : Good ps o) (hn : o.Nodup) : ∀ (i : Nat) (n : Str), o[i]? = some n → ∀ (m : Nat) (op b : List Str), (∀ s, s ∈ op → ∀ j, j ≤ i → o[j]? ≠ some s) → i < m →
  ∃ ext, clo ps m op n b = .inl (b ++ ext) ∧ (∀ s, s ∈ ext → s ∈ o) ∧ n ∈ b ++ ext := by
 intro i
 induction i using Nat.strongRecOn with
 | _ i ih =>
  intro n hi m op b hop hm
  obtain ⟨m, rfl⟩ : ∃ m', m = m' + 1 := ⟨m - 1, by omega⟩
  simp only [clo]
  cases h1 : b.contains n with
  | true => exact ⟨[], by simp, fun s hs => (by cases hs), by simpa using h1⟩
  | false =>
   obtain ⟨p, hp, hf⟩ := hg i n hi
   have h2 : op.contains n = false := by
    cases hc : op.contains n with
    | false => rfl
    | true => exact absurd hi (hop n (by simpa using hc) i (Nat.le_refl _))
   simp only [cond_false, hp, h2]
   have go : ∀ (ns : List Need), (∀ x, x ∈ ns → Fit ps (o.take i) x) → ∀ b, ∃ ext, jxo (clo ps m (op ++ [n])) ps ns b = .inl (b ++ ext) ∧ ∀ s, s ∈ ext → s ∈ o := by
    intro ns
    induction ns with
    | nil => intro _ b; exact ⟨[], by simp [jxo], fun s hs => by cases hs⟩
    | cons x r ih2 =>
     intro hx b
     obtain ⟨hxm, q, hq, hfit⟩ := hx x List.mem_cons_self
     obtain ⟨j, hj⟩ := List.mem_iff_getElem?.1 hxm
     have hji : j < i := by have := jjH hj; rw [List.length_take] at this; omega
     rw [List.getElem?_take, if_pos hji] at hj
     obtain ⟨e1, k1, k2, _⟩ := ih j hji x.name hj m (op ++ [n]) b (fun s hs j' hj' he => by
      rcases List.mem_append.1 hs with hs | hs
      ·exact hop s hs j' (by omega) he
      ·rw [List.mem_singleton.1 hs] at he
       have hpw := List.pairwise_iff_getElem.1 hn j' i (jjH he) (jjH hi) (by omega)
       rw [(List.getElem?_eq_some_iff.1 he).2, (List.getElem?_eq_some_iff.1 hi).2] at hpw
       exact absurd rfl hpw) (by omega)
     obtain ⟨e2, k3, k4⟩ := ih2 (fun y hy => hx y (List.mem_cons_of_mem _ hy)) (b ++ e1)
     refine ⟨e1 ++ e2, ?_, fun s hs => ?_⟩
     ·simp only [jxo, hq, hfit, cond_true, k1, k3, List.append_assoc]
     ·rcases List.mem_append.1 hs with hs | hs
      ·exact k2 s hs
      ·exact k4 s hs
   obtain ⟨ext, k1, k2⟩ := go p.needs hf b
   refine ⟨ext ++ [n], by simp only [k1, List.append_assoc], fun s hs => ?_, by simp⟩
   rcases List.mem_append.1 hs with hs | hs
   ·exact k2 s hs
   ·rw [List.mem_singleton.1 hs]; exact List.mem_of_getElem? hi
theorem notIn_ext {o b ext : List Str} (h : ∀ s, s ∈ ext → s ∈ o) : jqF o (b ++ ext) = jqF o b := by
 unfold jqF
 rw [List.filter_append]
 have : ext.filter (fun s => !o.contains s) = [] := by
  rw [List.filter_eq_nil_iff]
  intro s hs
  have : o.contains s = true := by simpa using h s hs
  rw [this]; decide
 rw [this, List.append_nil]
theorem two_runs (ps : List Pack) {o : List Str} (hg : Good ps o) (ho : Nms ps o) : ∀ (m : Nat) (op : List Str), Nms ps op → Dis op o → ps.length < m + op.length → ∀ (n : Str) (b o' : List Str), clo ps m op n (o ++ jqF o b) = .inl o' →
  ∃ b', clo ps m op n b = .inl b' ∧ o' = o ++ jqF o b' := by
 intro m
 induction m with
 | zero => intro op hop _ hm; have := hop.len; omega
 | succ m ih =>
  intro op hop hdis hm n b o' h
  simp only [clo] at h ⊢
  cases h1 : b.contains n with
  | true =>
   have h2 : (o ++ jqF o b).contains n = true := by
    have hb : n ∈ b := by simpa using h1
    by_cases hno : n ∈ o
    ·simp [hno]
    ·simpa using Or.inr (notIn_mem.2 ⟨hb, hno⟩)
   rw [h2] at h
   cases h
   exact ⟨b, rfl, rfl⟩
  | false =>
   have hnb : n ∉ b := by simpa using h1
   cases h2 : (o ++ jqF o b).contains n with
   | true =>
    rw [h2] at h
    cases h
    have hno : n ∈ o := by
     have : n ∈ o ++ jqF o b := by simpa using h2
     rcases List.mem_append.1 this with k | k
     ·exact k
     ·exact absurd (notIn_mem.1 k).1 hnb
    obtain ⟨i, hi⟩ := List.mem_iff_getElem?.1 hno
    have hlen : (op ++ o).length ≤ ps.length := by
     have : Nms ps (op ++ o) := by
      refine ⟨?_, fun s hs => ?_⟩
      ·rw [List.nodup_append]
       exact ⟨hop.1, ho.1, fun a ha c hc e => hdis a ha (e ▸ hc)⟩
      ·rcases List.mem_append.1 hs with hs | hs
       ·exact hop.2 s hs
       ·exact ho.2 s hs
     exact this.len
    rw [List.length_append] at hlen
    have hil := jjH hi
    obtain ⟨ext, k1, k2, k3⟩ := own_run ps hg ho.1 i n hi (m + 1) op b (fun s hs j _ he => hdis s hs (List.mem_of_getElem? he)) (by omega)
    simp only [clo, h1, cond_false] at k1
    exact ⟨b ++ ext, k1, by rw [notIn_ext k2]⟩
   | false =>
    rw [h2] at h
    have hno : n ∉ o := by
     intro hm'
     have : n ∈ o ++ jqF o b := List.mem_append.2 (.inl hm')
     simp [this] at h2
    simp only [cond_false] at h ⊢
    cases hp : ps.find? (fun q => q.name == n) with
    | none => rw [hp] at h; cases h
    | some p =>
     rw [hp] at h
     simp only at h ⊢
     cases h3 : op.contains n with
     | true => rw [h3] at h; cases h
     | false =>
      rw [h3] at h
      simp only [cond_false] at h ⊢
      have hop' := hop.add h3 hp
      have hdis' : Dis (op ++ [n]) o := fun s hs => by
       rcases List.mem_append.1 hs with hs | hs
       ·exact hdis s hs
       ·rw [List.mem_singleton.1 hs]; exact hno
      have go : ∀ (ns : List Need) (b o' : List Str), jxo (clo ps m (op ++ [n])) ps ns (o ++ jqF o b) = .inl o' → ∃ b', jxo (clo ps m (op ++ [n])) ps ns b = .inl b' ∧ o' = o ++ jqF o b' := by
       intro ns
       induction ns with
       | nil => intro b o' h; simp only [jxo, Sum.inl.injEq] at h ⊢; exact ⟨b, rfl, h.symm⟩
       | cons x r ih2 =>
        intro b o' h
        simp only [jxo] at h ⊢
        cases hq : ps.find? (fun q => q.name == x.name) with
        | none => rw [hq] at h; cases h
        | some q =>
         rw [hq] at h
         simp only at h ⊢
         cases hf : fitsV x q.version with
         | false => rw [hf] at h; cases h
         | true =>
          rw [hf] at h
          simp only [cond_true] at h ⊢
          cases hc : clo ps m (op ++ [n]) x.name (o ++ jqF o b) with
          | inr c => rw [hc] at h; cases h
          | inl o1 =>
           rw [hc] at h
           obtain ⟨b1, k1, k2⟩ := ih (op ++ [n]) hop' hdis' (by simp; omega) x.name b o1 hc
           subst k2
           rw [k1]
           exact ih2 b1 o' h
      cases hc : jxo (clo ps m (op ++ [n])) ps p.needs (o ++ jqF o b) with
      | inr c => rw [hc] at h; cases h
      | inl o1 =>
       rw [hc] at h
       cases h
       obtain ⟨b1, k1, k2⟩ := go p.needs b o1 hc
       rw [k1]
       refine ⟨b1 ++ [n], rfl, ?_⟩
       rw [k2]
       have : jqF o (b1 ++ [n]) = jqF o b1 ++ [n] := by
        unfold jqF
        rw [List.filter_append]
        have hcn : o.contains n = false := by simpa using hno
        simp [hcn, hno]
       rw [this, List.append_assoc]
theorem clo_last {ps : List Pack} {m : Nat} {op : List Str} {n : Str} {b : List Str} (h : clo ps m op n [] = .inl b) : ∃ b1, b = b1 ++ [n] := by
 cases m with
 | zero => cases h
 | succ m =>
  simp only [clo] at h
  have h0 : ([] : List Str).contains n = false := rfl
  rw [h0] at h
  simp only [cond_false] at h
  split at h
  ·cases h
  ·cases h3 : op.contains n with
   | true => rw [h3] at h; cases h
   | false =>
    rw [h3] at h
    simp only [cond_false] at h
    split at h
    ·rename_i o1 _
     cases h
     exact ⟨o1, rfl⟩
    ·cases h
def addN (s : List Str) (x : Str) : List Str := bif s.contains x then s else s ++ [x]
theorem addN_all : ∀ (b s : List Str), b.Nodup → b.foldl addN s = s ++ jqF s b := by
 intro b
 induction b with
 | nil => intro s _; simp [jqF]
 | cons x b ih =>
  intro s hn
  obtain ⟨h1, h2⟩ := List.nodup_cons.1 hn
  rw [List.foldl_cons, ih _ h2]
  unfold addN jqF
  cases hc : s.contains x with
  | true =>
   have hx : x ∈ s := by simpa using hc
   simp [List.filter_cons, hx]
  | false =>
   have hx : x ∉ s := by simpa using hc
   simp only [cond_false, List.filter_cons, hc, Bool.not_false, if_true, List.append_assoc, List.singleton_append]
   congr 2
   apply List.filter_congr
   intro y hy
   have : y ≠ x := fun e => h1 (e ▸ hy)
   rw [con_app]
   simp [this]
noncomputable def c5 : Ctx := { tt := tt, fs := fun n => match n with | 7 => some S7 | 8 => some S8 | 9 => some S9 | 10 => some S10 | 11 => some S11 | _ => none }
theorem k5 (h : ∀ T, (tt T).ok Tryz.prog T) (h7 : jja Tryz.prog 7 S7) (h8 : jja Tryz.prog 8 S8) (h9 : jja Tryz.prog 9 S9) (h10 : jja Tryz.prog 10 S10) (h11 : jja Tryz.prog 11 S11) : CtxGood Tryz.prog c5 := ⟨⟨h⟩, fun g S hg => (by
 simp only [c5] at hg
 split at hg
 ·cases hg; exact h7
 ·cases hg; exact h8
 ·cases hg; exact h9
 ·cases hg; exact h10
 ·cases hg; exact h11
 ·cases hg), jjv, fun _ _ h => (by cases h), fun _ h => (by cases h)⟩
noncomputable def b5 : Code := jjl Tryz.f5
@[reducible] noncomputable def s5_252 : Shape := ⟨[(3, .lf (.d (.sl .pack))), (4, .lf (.d (.sl .str))), (5, .lf (.own 3000320)), (6, .lf (.d (.int .i64))), (7, .lf (.d (.sl .str))), (8, .lf (.d (.int .i64)))], [(3000320, .row .str, .slot 5 0)], 117⟩
@[reducible] noncomputable def t5_252 : List OSh := [(.norm, ⟨[(3, .lf (.d (.sl .pack))), (4, .lf (.d (.sl .str))), (5, .lf (.own 3000320)), (6, .lf (.d (.int .i64))), (7, .lf (.d (.sl .str))), (8, .lf (.d (.int .i64))), (46, .lf (.d (.bool)))], [(3000320, .row .str, .slot 5 0)], 117⟩)]
noncomputable def g5_252 (y : s5_252.Y) : Option (YS t5_252) :=
 bif (!(y.1.2.2.2.1 != y.1.2.2.2.2.2.1)) then
(f10 ((y.2.1, (y.1.2.2.2.2.1, ())), ())).bind fun r2047 =>
 bif (!(!r2047.1.1)) then
 some (((y.1.1, (y.1.2.1, ((), (y.1.2.2.2.1, (y.1.2.2.2.2.1, (y.1.2.2.2.2.2.1, ((y.1.2.2.2.1 != (0 : Int)), ()))))))), (y.2.1, ())))
else
 some (((y.1.1, (y.1.2.1, ((), (y.1.2.2.2.1, (y.1.2.2.2.2.1, (y.1.2.2.2.2.2.1, (true, ()))))))), (y.2.1, ())))
else
 some (((y.1.1, (y.1.2.1, ((), (y.1.2.2.2.1, (y.1.2.2.2.2.1, (y.1.2.2.2.2.2.1, (true, ()))))))), (y.2.1, ())))
theorem r5_252 : ∀ y, g5_252 y = jjL (jjd c5 []) (jjc b5 1 252) 252 s5_252 t5_252 y := fun y => by kernel_rfl
theorem q5_252 (H : CtxGood Tryz.prog c5) : jjj Tryz.prog (jjc b5 1 252) (jjb s5_252 t5_252 g5_252) :=
 jjs (fr := []) H (by kernel_rfl) jje r5_252
@[reducible] noncomputable def s5_261412 : Shape := ⟨[(3, .lf (.d (.sl .pack))), (4, .lf (.d (.sl .str))), (5, .lf (.own 3000320)), (9, .lf (.own 3000576)), (10, .lf (.d (.int .i64))), (11, .lf (.own 3000704)), (12, .lf (.d (.int .i64)))], [(3000320, .row .str, .slot 5 0), (3000576, .row .str, .slot 9 0), (3000704, .row .str, .slot 11 0)], 117⟩
@[reducible] noncomputable def jzz : List OSh := [(.norm, ⟨[(3, .lf (.d (.sl .pack))), (4, .lf (.d (.sl .str))), (5, .lf (.own 3000320)), (9, .lf (.own 3000576)), (10, .lf (.d (.int .i64))), (11, .lf (.own 3000704)), (72, .lf (.d (.int .i64))), (73, .lf (.d (.bool))), (74, .lf (.d (.bool))), (86, .lf (.d (.bool)))], [(3000320, .row .str, .slot 5 0), (3000576, .row .str, .slot 9 0), (3000704, .row .str, .slot 11 0)], 117⟩)]
noncomputable def jxV (y : s5_261412.Y) : Option (YS jzz) :=
 bif (y.1.2.2.2.2.2.2.1 != (0 : Int)) then
 some (((y.1.1, (y.1.2.1, ((), ((), (y.1.2.2.2.2.1, ((), (y.1.2.2.2.2.2.2.1, ((y.1.2.2.2.2.2.2.1 != (0 : Int)), (true, (true, ())))))))))), (y.2.1, (y.2.2.1, (y.2.2.2.1, ())))))
else
(inb y.2.2.2.1.length (IntKind.i64.wrap ((y.2.2.2.1.length : Int) - (1 : Int)))).bind fun x2076 =>
(y.2.2.2.1[x2076]?).bind fun x2077 =>
(ix y.1.2.1 y.1.2.2.2.2.1).bind fun x2078 =>
 some (((y.1.1, (y.1.2.1, ((), ((), (y.1.2.2.2.2.1, ((), (y.1.2.2.2.2.2.2.1, ((y.1.2.2.2.2.2.2.1 != (0 : Int)), (false, ((!(x2077 == x2078)), ())))))))))), (y.2.1, (y.2.2.1, (y.2.2.2.1, ())))))
theorem r5_261412 : ∀ y, jxV y = jjL (jjd c5 []) (jjc (jjk (jjc b5 1 2042)) 4084 261412) 261412 s5_261412 jzz y := fun y => by kernel_rfl
theorem q5_261412 (H : CtxGood Tryz.prog c5) : jjj Tryz.prog (jjc (jjk (jjc b5 1 2042)) 4084 261412) (jjb s5_261412 jzz jxV) :=
 jjs (fr := []) H (by kernel_rfl) jje r5_261412
@[reducible] noncomputable def s5_522830 : Shape := ⟨[(3, .lf (.d (.sl .pack))), (4, .lf (.d (.sl .str))), (5, .lf (.own 3000320)), (9, .lf (.own 3000576)), (10, .lf (.d (.int .i64))), (11, .lf (.own 3000704)), (13, .lf (.d (.int .i64))), (72, .lf (.d (.int .i64))), (73, .lf (.d (.bool))), (74, .lf (.d (.bool))), (86, .lf (.d (.bool)))], [(3000320, .row .str, .slot 5 0), (3000576, .row .str, .slot 9 0), (3000704, .row .str, .slot 11 0)], 117⟩
@[reducible] noncomputable def jxe : List OSh := [(.ret, ⟨[(2, .lf (.d (.bool)))], [], 117⟩), (.exit 2, ⟨[(3, .lf (.d (.sl .pack))), (4, .lf (.d (.sl .str))), (5, .lf (.own 3000320)), (9, .lf (.own 3000576)), (10, .lf (.d (.int .i64))), (72, .lf (.d (.int .i64))), (73, .lf (.d (.bool))), (74, .lf (.d (.bool))), (86, .lf (.d (.bool)))], [(3000320, .row .str, .slot 5 0), (3000576, .row .str, .slot 9 0)], 117⟩)]
noncomputable def jzR (y : s5_522830.Y) : Option (Sum s5_522830.Y (YS jxe)) :=
 bif (decide (y.1.2.2.2.2.2.2.1 < (y.2.2.2.1.length : Int))) then
(inb y.2.2.2.1.length y.1.2.2.2.2.2.2.1).bind fun x2117 =>
(y.2.2.2.1[x2117]?).bind fun x2118 =>
(f11 ((y.2.1, (x2118, ())), ())).bind fun r2119 =>
 bif (!r2119.1.1) then
 some (.inr (.inl ((false, ()), ())))
else
(inb y.2.2.2.1.length y.1.2.2.2.2.2.2.1).bind fun x2123 =>
(y.2.2.2.1[x2123]?).bind fun x2124 =>
(f11 ((y.2.2.1, (x2124, ())), ())).bind fun r2125 =>
 bif (!r2125.1.1) then
(inb y.2.2.2.1.length y.1.2.2.2.2.2.2.1).bind fun x2126 =>
(y.2.2.2.1[x2126]?).bind fun x2127 =>
(apd 16 y.2.2.1 ([x2127] : List Str)).bind fun x2128 =>
 some (.inl ((y.1.1, (y.1.2.1, ((), ((), (y.1.2.2.2.2.1, ((), ((IntKind.i64.wrap (y.1.2.2.2.2.2.2.1 + (1 : Int))), (y.1.2.2.2.2.2.2.2.1, (y.1.2.2.2.2.2.2.2.2.1, (y.1.2.2.2.2.2.2.2.2.2.1, (y.1.2.2.2.2.2.2.2.2.2.2.1, ()))))))))))), (y.2.1, (x2128, (y.2.2.2.1, ())))))
else
 some (.inl ((y.1.1, (y.1.2.1, ((), ((), (y.1.2.2.2.2.1, ((), ((IntKind.i64.wrap (y.1.2.2.2.2.2.2.1 + (1 : Int))), (y.1.2.2.2.2.2.2.2.1, (y.1.2.2.2.2.2.2.2.2.1, (y.1.2.2.2.2.2.2.2.2.2.1, (y.1.2.2.2.2.2.2.2.2.2.2.1, ()))))))))))), (y.2.1, (y.2.2.1, (y.2.2.2.1, ())))))
else
 some (.inr (.inr ((y.1.1, (y.1.2.1, ((), ((), (y.1.2.2.2.2.1, (y.1.2.2.2.2.2.2.2.1, (y.1.2.2.2.2.2.2.2.2.1, (y.1.2.2.2.2.2.2.2.2.2.1, (y.1.2.2.2.2.2.2.2.2.2.2.1, ()))))))))), (y.2.1, (y.2.2.1, ())))))
theorem r5_522830 : ∀ y, jzR y = jjz (jjd c5 []) (jjk (jjc (jjk (jjc b5 1 2042)) 4084 522830)) 522830 s5_522830 jxe y := fun y => by kernel_rfl
noncomputable def jzO : s5_522830.Y → Option (YS jxe) := jjF jzR
theorem q5_522830 (H : CtxGood Tryz.prog c5) : jjj Tryz.prog (jjc (jjk (jjc b5 1 2042)) 4084 522830) (jjb s5_522830 jxe jzO) :=
 jjr (fr := []) H (by kernel_rfl) (by kernel_rfl) jje (fun y => jjh r5_522830 y)
@[reducible] noncomputable def s5_2042 : Shape := ⟨[(3, .lf (.d (.sl .pack))), (4, .lf (.d (.sl .str))), (5, .lf (.own 3000320)), (9, .lf (.own 3000576)), (10, .lf (.d (.int .i64)))], [(3000320, .row .str, .slot 5 0), (3000576, .row .str, .slot 9 0)], 117⟩
@[reducible] noncomputable def t5_2042 : List OSh := [(.ret, ⟨[(2, .lf (.d (.bool)))], [], 117⟩), (.exit 0, ⟨[(5, .lf (.own 3000320)), (9, .lf (.own 3000576))], [(3000320, .row .str, .slot 5 0), (3000576, .row .str, .slot 9 0)], 117⟩)]
noncomputable def g5_2042 (y : s5_2042.Y) : Option (Sum s5_2042.Y (YS t5_2042)) :=
 bif (decide (y.1.2.2.2.2.1 < (y.1.2.1.length : Int))) then
(jqE y.1.2.1 y.1.2.2.2.2.1 (IntKind.i64.wrap (y.1.2.2.2.2.1 + (1 : Int)))).bind fun x2134 =>
(f8 ((y.1.1, (x2134, ())), ())).bind fun r2135 =>
(jxV ((y.1.1, (y.1.2.1, ((), ((), (y.1.2.2.2.2.1, ((), (r2135.1.2.1, ()))))))), (y.2.1, (y.2.2.1, (r2135.2.1, ()))))).bind fun r2137 =>
 bif r2137.1.2.2.2.2.2.2.2.2.2.1 then
 some (.inr (.inl ((false, ()), ())))
else
(jzO ((r2137.1.1, (r2137.1.2.1, ((), ((), (r2137.1.2.2.2.2.1, ((), ((0 : Int), (r2137.1.2.2.2.2.2.2.1, (r2137.1.2.2.2.2.2.2.2.1, (r2137.1.2.2.2.2.2.2.2.2.1, (r2137.1.2.2.2.2.2.2.2.2.2.1, ()))))))))))), (r2137.2.1, (r2137.2.2.1, (r2137.2.2.2.1, ()))))).bind fun r2138 =>
(match r2138 with
| .inl r2139 =>
 some (.inr (.inl ((r2139.1.1, ()), ())))
| .inr r2140 =>
 some (.inl ((r2140.1.1, (r2140.1.2.1, ((), ((), ((IntKind.i64.wrap (r2140.1.2.2.2.2.1 + (1 : Int))), ()))))), (r2140.2.1, (r2140.2.2.1, ())))))
else
 some (.inr (.inr (((), ((), ())), (y.2.1, (y.2.2.1, ())))))
theorem r5_2042 : ∀ y, g5_2042 y = jjz (jjd c5 [(261412, jjb s5_261412 jzz jxV), (522830, jjb s5_522830 jxe jzO)]) (jjk (jjc b5 1 2042)) 2042 s5_2042 t5_2042 y := fun y => by kernel_rfl
noncomputable def jJs : s5_2042.Y → Option (YS t5_2042) := jjF g5_2042
theorem q5_2042 (H : CtxGood Tryz.prog c5) : jjj Tryz.prog (jjc b5 1 2042) (jjb s5_2042 t5_2042 jJs) :=
 jjr (fr := [(261412, jjb s5_261412 jzz jxV), (522830, jjb s5_522830 jxe jzO)]) H (by kernel_rfl) (by kernel_rfl) ⟨q5_261412 H, q5_522830 H, trivial⟩ (fun y => jjh r5_2042 y)
@[reducible] noncomputable def i5 : Shape := ⟨[(0, .lf (.d (.sl .u8)))], [], 117⟩
@[reducible] noncomputable def o5 : Shape := ⟨[(2, .lf (.d (.bool)))], [], 117⟩
noncomputable def f5 (a : i5.Y) : Option o5.Y :=
 bif (decide ((a.1.1.length : Int) > (1048576 : Int))) then
 some ((true, ()), ())
else
(f7 ((a.1.1, ()), ())).bind fun r2053 =>
(f8 ((r2053.2.1, (r2053.2.2.1, ())), ())).bind fun r2055 =>
(f9 ((r2053.2.1, (r2053.2.2.1, ())), ())).bind fun r2057 =>
(g5_252 ((r2053.2.1, (r2053.2.2.1, ((), (r2055.1.2.1, (r2057.1.1, (r2057.1.2.1, ())))))), (r2055.2.1, ()))).bind fun r2060 =>
 bif r2060.1.2.2.2.2.2.2.1 then
 bif (r2060.1.2.2.2.1 == r2060.1.2.2.2.2.2.1) then
(f10 ((r2060.2.1, (r2060.1.2.2.2.2.1, ())), ())).bind fun r2061 =>
 some ((r2061.1.1, ()), ())
else
 some ((false, ()), ())
else
(jJs ((r2060.1.1, (r2060.1.2.1, ((), ((), ((0 : Int), ()))))), (r2060.2.1, (([] : List Str), ())))).bind fun r2144 =>
(match r2144 with
| .inl r2145 =>
 some ((r2145.1.1, ()), ())
| .inr r2146 =>
(f10 ((r2146.2.2.1, (r2146.2.1, ())), ())).bind fun r2147 =>
 some ((r2147.1.1, ()), ()))
theorem e5 : ∀ a, f5 a = jjt (jjd c5 [(252, jjb s5_252 t5_252 g5_252), (2042, jjb s5_2042 t5_2042 jJs)]) b5 i5 o5 a := fun a => by kernel_rfl
noncomputable def S5 : jjM := jjg tt 117 i5 o5 [.tmp 2] [] f5
theorem z5 (h : ∀ T, (tt T).ok Tryz.prog T) (h7 : jja Tryz.prog 7 S7) (h8 : jja Tryz.prog 8 S8) (h9 : jja Tryz.prog 9 S9) (h10 : jja Tryz.prog 10 S10) (h11 : jja Tryz.prog 11 S11) : jja Tryz.prog 5 S5 :=
 have H := k5 h h7 h8 h9 h10 h11
 jjm (fn := Tryz.f5) (fr := [(252, jjb s5_252 t5_252 g5_252), (2042, jjb s5_2042 t5_2042 jJs)]) H (by kernel_rfl) (by kernel_rfl) (by kernel_rfl) (by kernel_rfl) (by kernel_rfl) ⟨q5_252 H, q5_2042 H, trivial⟩ (by kernel_rfl) (fun y => ⟨_, _, rfl, rfl, rfl⟩) e5
theorem v_FnClosureOne (a) (h : ∀ x, x ∈ (a.1.1 : List Int) → 0 ≤ x ∧ x ≤ 255) : Ev (f5 a) (fun r => r.1.1 = true) := by
 unfold f5
 refine Ev.ite (fun _ => Ev.ret rfl) fun _ => ?_
 refine Ev.bind (v_DrawClosure _ (rd_code' h)) fun r hr => ?_
 obtain ⟨u0, ⟨(ps : List Pack), (names : List Str), u2⟩⟩ := r
 have hq : ShQ 5 ps := hr.1
 have hn : names.length ≤ 3 := hr.2
 have hb := hq.bd (by decide)
 have hv := hq.vs
 have hpl : ps.length ≤ 5 := hq.1
 have hl : ps.length ≤ 1000000 := Nat.le_trans hq.1 (by decide)
 have e1 := v_iClosure ((ps, (names, ())), ()) hb hv hl (show names.length ≤ 1000000 by omega)
 have e2 := v_Closure ((ps, (names, ())), ()) hb hv hl (show names.length ≤ 1000000 by omega)
 have ej := v_jsTexts (((jqx ps names).1, ((jqx ps names).1, ())), ()) rfl (closeL_bd hb hv hl names)
 refine Ev.eq e1 (Ev.eq e2 ?_)
 simp only [g5_252, bne_self_eq_false, Bool.not_false, cond_true, ej, Bool.not_true, Option.bind_some, cond_false]
 cases hk : ((jqx ps names).2 != 0) with
 | true =>
  have zz : ((jqx ps names).2 == (jqx ps names).2) = true := by simp
  simp only [cond_true, zz, ej, Option.bind_some]
  exact Ev.ret rfl
 | false =>
  have hk : (jqx ps names).2 = 0 := by simpa using hk
  obtain ⟨hz, hcl⟩ := closeL_ok hk
  generalize (jqx ps names).1 = o at hcl ej
  have hnm := closeL_len hb hv hl names [] ⟨Nms.nil ps, fun s hs => by cases hs⟩ o hcl
  have hol := hnm.len
  simp only [cond_false]
  have key : ∀ (r : List Str) (i : Nat) (sum : List Str), names.drop i = r → i ≤ names.length → Nms ps sum → Good ps sum → jqk ps (ps.length + 1) r sum = .inl o →
    jJs ((ps, (names, ((), ((), ((i : Int), ()))))), (o, (sum, ()))) = some (.inr (((), ((), ())), (o, (o, ())))) := by
   intro r
   induction r with
   | nil =>
    intro i sum hr hi hs hg hc
    have := drop_nil hr
    have d1 : decide ((i : Int) < (names.length : Int)) = false := by simp only [decide_eq_false_iff_not]; omega
    simp only [jqk, Sum.inl.injEq] at hc
    subst hc
    refine jjC ?_
    simp only [g5_2042, d1, cond_false]
   | cons n r ih =>
    intro i sum hr hi hs hg hc
    obtain ⟨c1, c2, c3⟩ := jj1 hr
    have hw : Sm i := by unfold Sm; omega
    simp only [jqk] at hc
    cases hclo : clo ps (ps.length + 1) [] n sum with
    | inr c => rw [hclo] at hc; cases hc
    | inl o1 =>
     rw [hclo] at hc
     have hc : jqk ps (ps.length + 1) r o1 = .inl o := hc
     have hclo' : clo ps (ps.length + 1) [] n (sum ++ jqF sum []) = .inl o1 := by simpa [jqF] using hclo
     obtain ⟨b, k1, k2⟩ := two_runs ps hg hs (ps.length + 1) [] (Nms.nil ps) (fun s hs => by cases hs) (by simp) n [] o1 hclo'
     obtain ⟨b1, hb1⟩ := clo_last k1
     obtain ⟨g1, g2, g3⟩ := clo_good ps _ _ _ _ _ hclo hg
     obtain ⟨_, g4, _⟩ := cloAll_good ps _ _ _ _ hc g1
     have hbn : Nms ps b := by
      rcases v_l8Close ps hb hv hl (ps.length + 1) [] (Nms.nil ps) (by simp) jxk (fuel_big (by omega)) n [] ⟨Nms.nil ps, fun s hs => by cases hs⟩ with ⟨o', q1, q2, _⟩ | ⟨c, o', q1, _, _⟩
      ·rw [k1] at q1; cases q1; exact q2.1
      ·rw [k1] at q1; cases q1
     have ho1 : Nms ps o1 := by
      rcases v_l8Close ps hb hv hl (ps.length + 1) [] (Nms.nil ps) (by simp) jxk (fuel_big (by omega)) n sum ⟨hs, fun s hs => by cases hs⟩ with ⟨o', q1, q2, _⟩ | ⟨c, o', q1, _, _⟩
      ·rw [hclo] at q1; cases q1; exact q2.1
      ·rw [hclo] at q1; cases q1
     have hbl := hbn.len
     have hsl := hs.len
     have hone : jqx ps [n] = (b, 0) := by
      unfold jqx
      rw [hz]
      simp only [jqk, k1]
      rfl
     have e3 := v_iClosure ((ps, ([n], ())), ()) hb hv hl (by show (1 : Nat) ≤ 1000000; decide)
     simp only [hone] at e3
     have hsub : jqE names (i : Int) ((i + 1 : Nat) : Int) = some [n] := by
      unfold jqE
      rw [if_pos ⟨by omega, by omega, by omega⟩, Int.toNat_natCast, Int.toNat_natCast]
      congr 1
      have : names.take (i + 1) = names.take i ++ [n] := by rw [List.take_add_one, c1]; rfl
      rw [this, List.drop_left' (by rw [List.length_take]; omega)]
     have hlast : IntKind.i64.wrap ((b.length : Int) - 1) = ((b.length - 1 : Nat) : Int) := by
      have : 0 < b.length := by rw [hb1]; simp
      rw [jjE (by omega) (by omega)]; omega
     have hbpos : b.length - 1 < b.length := by rw [hb1]; simp
     have hlv : b[b.length - 1]? = some n := by rw [hb1]; simp
     have inner : jzO ((ps, (names, ((), ((), ((i : Int), ((), ((0 : Int), ((0 : Int), (false, (false, (false, ()))))))))))), (o, (sum, (b, ())))) = some (.inr ((ps, (names, ((), ((), ((i : Int), ((0 : Int), (false, (false, (false, ()))))))))), (o, (o1, ())))) := by
      have kk := loop_fold (S := List Str) jzR b (fun k s => ((ps, (names, ((), ((), ((i : Int), ((), ((k : Int), ((0 : Int), (false, (false, (false, ()))))))))))), (o, (s, (b, ()))))) (fun x s => addN s x)
       (fun s => (.inr ((ps, (names, ((), ((), ((i : Int), ((0 : Int), (false, (false, (false, ()))))))))), (o, (s, ()))) : YS jxe)) (fun k s => s.length ≤ sum.length + k) sum (by omega) (fun k x s hx hI => ?_) (fun s hI => ?_)
      ·rw [addN_all b sum hbn.1, ← k2] at kk
       exact kk
      ·have hk := jjH hx
       have hw2 : Sm k := by unfold Sm; omega
       have hxo : o.contains x = true := by
        have hxb := List.mem_of_getElem? hx
        have : x ∈ o1 := by
         rw [k2]
         by_cases hxs : x ∈ sum
         ·exact List.mem_append.2 (.inl hxs)
         ·exact List.mem_append.2 (.inr (notIn_mem.2 ⟨hxb, hxs⟩))
        simpa using g4.subset this
       have h1 := v_jsHas ((o, (x, ())), ()) (show o.length ≤ 2097152 by omega)
       have h2 := v_jsHas ((s, (x, ())), ()) (show s.length ≤ 2097152 by omega)
       simp only [hxo] at h1
       have ha : apd 16 s [x] = some (s ++ [x]) := jqi (by decide) (by unfold Sm; simp; omega)
       unfold addN
       simp only [jzR, jjB hk, cond_true, jqP hk, hx, Option.bind_some, h1, h2, Bool.not_true, cond_false, ha, jjn hw2]
       cases s.contains x with
       | true => exact ⟨rfl, by simp only [cond_true]; omega⟩
       | false => exact ⟨rfl, by simp only [cond_false, List.length_append, List.length_cons, List.length_nil]; omega⟩
      ·simp only [jzR, jjR, cond_false]
     have hwi := jjn hw
     have step : g5_2042 ((ps, (names, ((), ((), ((i : Int), ()))))), (o, (sum, ()))) = some (.inl ((ps, (names, ((), ((), (((i + 1 : Nat) : Int), ()))))), (o, (o1, ())))) := by
      simp only [g5_2042, jjB c3, cond_true, hwi, hsub, Option.bind_some, e3, jxV, bne_self_eq_false, cond_false, hlast, jqP hbpos, hlv, jjx, c1, beq_self_eq_true, Bool.not_true, inner]
     have e : jJs ((ps, (names, ((), ((), ((i : Int), ()))))), (o, (sum, ()))) = _ := jqc step
     rw [e]
     exact ih (i + 1) o1 c2 c3 ho1 g1 hc
  have l1 : jJs ((ps, (names, ((), ((), ((0 : Int), ()))))), (o, (([] : List Str), ()))) = _ := key names 0 [] rfl (Nat.zero_le _) (Nms.nil ps) (fun i s hs => by simp at hs) hcl
  refine Ev.eq l1 ?_
  simp only [ej, Option.bind_some]
  exact Ev.ret rfl
theorem pure_FnClosureOne : LawOk S5 [(false, [.sl .u8])] := by
 rintro ⟨⟨code, u⟩, u'⟩ ⟨h, _⟩
 obtain ⟨r, hr, hq⟩ := v_FnClosureOne ((code, ()), ()) (wf_bytes' (h (.sl .u8 code) (by simp [mkDs, SD.mk])))
 obtain ⟨⟨b, v⟩, v'⟩ := r
 have hq : b = true := hq
 subst hq
 exact ⟨((true, ()), ()), hr, rfl⟩
noncomputable def SH162 : jjM := indexSumm
theorem zH162 (h : ∀ T, (tt T).ok Tryz.prog T) : jja Tryz.prog 162 SH162 := indexByte_ok (fn := Tryz.f162) (by kernel_rfl) (by kernel_rfl) (by kernel_rfl) (by kernel_rfl) (by kernel_rfl)
noncomputable def c158 : Ctx := { tt := tt, fs := fun n => match n with | 162 => some SH162 | _ => none }
theorem k158 (h : ∀ T, (tt T).ok Tryz.prog T) (hH162 : jja Tryz.prog 162 SH162) : CtxGood Tryz.prog c158 := ⟨⟨h⟩, fun g S hg => (by
 simp only [c158] at hg
 split at hg
 ·cases hg; exact hH162
 ·cases hg), jjv, fun _ _ h => (by cases h), fun _ h => (by cases h)⟩
noncomputable def b158 : Code := jjl Tryz.f158
@[reducible] noncomputable def i158 : Shape := ⟨[(0, .lf (.d (.str))), (1, .lf (.d (.int .u8)))], [], 8⟩
@[reducible] noncomputable def o158 : Shape := ⟨[(4, .lf (.d (.int .i64)))], [], 8⟩
noncomputable def f158 (a : i158.Y) : Option o158.Y :=
(some ()).bind fun r2696 =>
 some (((Lib.indexByte a.1.1 (a.1.2.1).toNat.toUInt8), ()), ())
theorem e158 : ∀ a, f158 a = jjt (jjd c158 []) b158 i158 o158 a := fun a => by kernel_rfl
noncomputable def S158 : jjM := jjg tt 8 i158 o158 [.tmp 4] [] f158
theorem z158 (h : ∀ T, (tt T).ok Tryz.prog T) (hH162 : jja Tryz.prog 162 SH162) : jja Tryz.prog 158 S158 :=
 have H := k158 h hH162
 jjm (fn := Tryz.f158) (fr := []) H (by kernel_rfl) (by kernel_rfl) (by kernel_rfl) (by kernel_rfl) (by kernel_rfl) jje (by kernel_rfl) (fun y => ⟨_, _, rfl, rfl, rfl⟩) e158
noncomputable def c156 : Ctx := { tt := tt, fs := fun n => match n with | 158 => some S158 | _ => none }
theorem k156 (h : ∀ T, (tt T).ok Tryz.prog T) (h158 : jja Tryz.prog 158 S158) : CtxGood Tryz.prog c156 := ⟨⟨h⟩, fun g S hg => (by
 simp only [c156] at hg
 split at hg
 ·cases hg; exact h158
 ·cases hg), jjv, fun _ _ h => (by cases h), fun _ h => (by cases h)⟩
noncomputable def b156 : Code := jjl Tryz.f156
@[reducible] noncomputable def s156_56 : Shape := ⟨[(0, .lf (.d (.str))), (1, .lf (.d (.str))), (5, .lf (.d (.int .i64)))], [], 143⟩
@[reducible] noncomputable def t156_56 : List OSh := [(.norm, ⟨[(0, .lf (.d (.str))), (1, .lf (.d (.str))), (5, .lf (.d (.int .i64))), (16, .lf (.d (.bool)))], [], 143⟩)]
noncomputable def g156_56 (y : s156_56.Y) : Option (YS t156_56) :=
 bif (!(y.1.2.2.1 == (0 : Int))) then
 some (((y.1.1, (y.1.2.1, (y.1.2.2.1, ((y.1.2.1 == y.1.1), ())))), ()))
else
 some (((y.1.1, (y.1.2.1, (y.1.2.2.1, (true, ())))), ()))
theorem r156_56 : ∀ y, g156_56 y = jjL (jjd c156 []) (jjc b156 1 56) 56 s156_56 t156_56 y := fun y => by kernel_rfl
theorem q156_56 (H : CtxGood Tryz.prog c156) : jjj Tryz.prog (jjc b156 1 56) (jjb s156_56 t156_56 g156_56) :=
 jjs (fr := []) H (by kernel_rfl) jje r156_56
@[reducible] noncomputable def i156 : Shape := ⟨[(0, .lf (.d (.str))), (1, .lf (.d (.str)))], [], 143⟩
@[reducible] noncomputable def o156 : Shape := ⟨[(4, .lf (.d (.int .i64)))], [], 143⟩
noncomputable def f156 (a : i156.Y) : Option o156.Y :=
(g156_56 ((a.1.1, (a.1.2.1, ((a.1.2.1.length : Int), ()))), ())).bind fun r2698 =>
 bif r2698.1.2.2.2.1 then
 some (((0 : Int), ()), ())
else
 bif (r2698.1.2.2.1 == (1 : Int)) then
(ix r2698.1.2.1 (0 : Int)).bind fun x2699 =>
(f158 ((r2698.1.1, ((x2699.toNat : Int), ())), ())).bind fun r2700 =>
 some ((r2700.1.1, ()), ())
else
 bif (decide (r2698.1.2.2.1 ≥ (r2698.1.1.length : Int))) then
 some ((((-1) : Int), ()), ())
else
 none
theorem e156 : ∀ a, f156 a = jjt (jjd c156 [(56, jjb s156_56 t156_56 g156_56)]) b156 i156 o156 a := fun a => by kernel_rfl
noncomputable def S156 : jjM := jjg tt 143 i156 o156 [.tmp 4] [] f156
theorem z156 (h : ∀ T, (tt T).ok Tryz.prog T) (h158 : jja Tryz.prog 158 S158) : jja Tryz.prog 156 S156 :=
 have H := k156 h h158
 jjm (fn := Tryz.f156) (fr := [(56, jjb s156_56 t156_56 g156_56)]) H (by kernel_rfl) (by kernel_rfl) (by kernel_rfl) (by kernel_rfl) (by kernel_rfl) ⟨q156_56 H, trivial⟩ (by kernel_rfl) (fun y => ⟨_, _, rfl, rfl, rfl⟩) e156
noncomputable def c147 : Ctx := { tt := tt, fs := fun n => match n with | 156 => some S156 | _ => none }
theorem k147 (h : ∀ T, (tt T).ok Tryz.prog T) (h156 : jja Tryz.prog 156 S156) : CtxGood Tryz.prog c147 := ⟨⟨h⟩, fun g S hg => (by
 simp only [c147] at hg
 split at hg
 ·cases hg; exact h156
 ·cases hg), jjv, fun _ _ h => (by cases h), fun _ h => (by cases h)⟩
noncomputable def b147 : Code := jjl Tryz.f147
@[reducible] noncomputable def i147 : Shape := ⟨[(0, .lf (.d (.str))), (1, .lf (.d (.str)))], [], 8⟩
@[reducible] noncomputable def o147 : Shape := ⟨[(4, .lf (.d (.int .i64)))], [], 8⟩
noncomputable def f147 (a : i147.Y) : Option o147.Y :=
(f156 ((a.1.1, (a.1.2.1, ())), ())).bind fun r2702 =>
 some ((r2702.1.1, ()), ())
theorem e147 : ∀ a, f147 a = jjt (jjd c147 []) b147 i147 o147 a := fun a => by kernel_rfl
noncomputable def S147 : jjM := jjg tt 8 i147 o147 [.tmp 4] [] f147
theorem z147 (h : ∀ T, (tt T).ok Tryz.prog T) (h156 : jja Tryz.prog 156 S156) : jja Tryz.prog 147 S147 :=
 have H := k147 h h156
 jjm (fn := Tryz.f147) (fr := []) H (by kernel_rfl) (by kernel_rfl) (by kernel_rfl) (by kernel_rfl) (by kernel_rfl) jje (by kernel_rfl) (fun y => ⟨_, _, rfl, rfl, rfl⟩) e147
theorem sp136 (s p : ByteArray) (k : Int) (w : World) : Calls Tryz.prog 136 #[.string s, .string p, .int .i64 k] w fun e w' =>
  e = .returned (.func (.func 145) #[] #[.pointer (some ⟨w.heap.size + 1, 0, none⟩), .pointer (some ⟨w.heap.size, 0, none⟩), .pointer (some ⟨w.heap.size + 2, 0, none⟩)]) ∧
  w' = ((w.alloc (.cells #[.string s] 9)).alloc (.cells #[.string p] 9)).alloc (.cells #[.int .i64 k] 3) := by
 go_enter Tryz.func136, Tryz.ntmps136
 go_wp2
 go_ret
 exact ⟨rfl, rfl⟩
theorem sp115 (s p : ByteArray) (w : World) : Calls Tryz.prog 115 #[.string s, .string p] w fun e w' =>
  e = .returned (.func (.func 145) #[] #[.pointer (some ⟨w.heap.size + 1, 0, none⟩), .pointer (some ⟨w.heap.size, 0, none⟩), .pointer (some ⟨w.heap.size + 2, 0, none⟩)]) ∧
  w' = ((w.alloc (.cells #[.string s] 9)).alloc (.cells #[.string p] 9)).alloc (.cells #[.int .i64 0] 3) := by
 go_enter Tryz.func115, Tryz.ntmps115
 go_wp2_with (go_at_call 136; refine (sp136 _ _ _ _).mono ?_; rintro e w' ⟨rfl, rfl⟩)
 go_ret
 exact ⟨rfl, rfl⟩
theorem y115 : jJy Tryz.prog 115 145 := fun a b w => .inl ⟨enters_of Tryz.func115 (by kernel_rfl) rfl _ _, (sp115 a b w).mono fun e w' h => by obtain ⟨rfl, rfl⟩ := h; exact ⟨9, 3, rfl, rfl⟩⟩
noncomputable def c145 : Ctx := { tt := tt, fs := fun n => match n with | 147 => some S147 | _ => none }
theorem k145 (h : ∀ T, (tt T).ok Tryz.prog T) (h147 : jja Tryz.prog 147 S147) : CtxGood Tryz.prog c145 := ⟨⟨h⟩, fun g S hg => (by
 simp only [c145] at hg
 split at hg
 ·cases hg; exact h147
 ·cases hg), jjv, fun _ _ h => (by cases h), fun _ h => (by cases h)⟩
noncomputable def b145 : Code := jjl Tryz.f145
noncomputable def l145 : Code := jjk (jjc b145 1 12)
noncomputable def op145 (p j : Nat) : Oper := (opsOf (jjc l145 24 p)).getD j default
def ridOf : Code → Nat
 | .region i _ _ => i
 | _ => 0
noncomputable def oq145 (j : Nat) : Oper := (opsOf (jjc b145 1 7)).getD j default
theorem idx147 (c : UInt8) (r : Str) : f147 ((r, ([c], ())), ()) = some ((Lib.indexByte r c, ()), ()) := by
 have h0 : ix ([c] : Str) (0 : Int) = some c := rfl
 have h1 : ((([c] : Str).length : Int) == 0) = false := rfl
 have h2 : ((([c] : Str).length : Int) == 1) = true := rfl
 have h3 : ((c.toNat : Int)).toNat.toUInt8 = c := by simp
 simp only [f147, f156, g156_56, f158, h0, h1, h2, h3, Bool.not_false, cond_true, cond_false, Option.bind_some, Option.bind]
 by_cases h : (([c] : Str) == r) = true
 ·have : r = [c] := (by simpa using h : [c] = r).symm
  subst this
  simp [Lib.indexByte] <;> rfl
 ·simp [h] <;> rfl
theorem e145B (c : UInt8) (r : Str) : exec (jjd c145 []) (jjc l145 24 96) 96 (ist 52 c r) (kIdx (jjd c145 []) 52 7 8 (jjc l145 24 194) (jjc l145 24 390) 194 390) =
 (f147 ((r, ([c], ())), ())).bind fun q => bif decide (q.1.1 < 0) then some (.inl (iy 52 c r)) else (jqE r 0 (IntKind.i64.wrap (q.1.1 + 0))).bind fun x => some (.inr ((q.1.1, x), iy 52 c r)) := by kernel_rfl
theorem x145 (h : ∀ T, (tt T).ok Tryz.prog T) (h147 : jja Tryz.prog 147 S147) : jx2 Tryz.prog 145 :=
 iter_ok (C := jjd c145 []) (k145 h h147) (fn := Tryz.f145) (k := 52) (A := jjc b145 1 2) (r5 := jjc l145 24 96) (c6 := jjc l145 24 194) (r7 := jjc l145 24 390) (r9 := jjc l145 24 783)
  (o0 := op145 1564 0) (o1 := op145 1564 1) (o2 := op145 1564 2) (o3 := op145 1564 3) (q0 := oq145 0) (q1 := oq145 1) (q2 := oq145 2) (pA := 2) (p5 := 96) (p6 := 194) (p7 := 390) (p9 := 783) (t7 := 7) (t8 := 8) (a1 := 39) (a2 := 40)
  (t41 := 41) (t42 := 42) (u1 := 49) (u2 := 50) (ty := #[9]) (ty' := #[9])
  {isFn := (by kernel_rfl), nt := (by kernel_rfl), k4 := (by decide), res := (by kernel_rfl), ent := enters_of Tryz.func145 (by kernel_rfl) rfl, body := ⟨ridOf (jjc l145 24 1564), ridOf (jjc b145 1 7), (by kernel_rfl)⟩, nr := (by kernel_rfl), wr := (by kernel_rfl),
   gd := ⟨(by kernel_rfl), (by kernel_rfl), (by kernel_rfl), (by kernel_rfl), (by kernel_rfl), (by kernel_rfl), (by kernel_rfl)⟩, wo := (by kernel_rfl), wq := (by kernel_rfl), d2 := (by kernel_rfl), lt41 := (by decide), c2 := (by kernel_rfl), d5 := (by kernel_rfl),
   orcs := ⟨jqp (by kernel_rfl) jje, jqp (by kernel_rfl) jje, jqp (by kernel_rfl) jje, jqp (by kernel_rfl) jje, jqp (by kernel_rfl) jje⟩,
   hA := fun c r => (by kernel_rfl), hB := fun c r => (e145B c r).trans (by rw [idx147]; rfl), hT := fun c r i x v => (by kernel_rfl), h3 := fun c r b => (by kernel_rfl), h30 := (by kernel_rfl), hC := fun c r i => (by kernel_rfl), hQ := fun c r v => (by kernel_rfl) }
  (by kernel_rfl) (by decide)
theorem oqn (w : World) : Calls Tryz.prog 16 #[.slice none 0 0] w fun e w' => e = .returned (.pointer (some ⟨w.heap.size, 0, none⟩)) ∧ w' = w.alloc (.cells #[.slice none 0 0, .int .i64 0] 66) := by
 go_enter Tryz.func16, Tryz.ntmps16
 go_wp2
 go_ret
 exact ⟨rfl, rfl⟩
theorem oqs (w : World) (a : Addr) (n c : Nat) (h : n ≤ 2000) : Calls Tryz.prog 16 #[.slice (some a) n c] w fun e w' => e = .returned (.pointer (some ⟨w.heap.size, 0, none⟩)) ∧ w' = w.alloc (.cells #[.slice (some a) n c, .int .i64 0] 66) := by
 have h1 : ¬ ((n : Int) > 2000) := by omega
 go_enter Tryz.func16, Tryz.ntmps16
 go_wp2
 go_ret
 exact ⟨rfl, rfl⟩
theorem oqb (w : World) (a : Addr) (n c : Nat) (h : 2000 < n) (hc : n ≤ c) : Calls Tryz.prog 16 #[.slice (some a) n c] w fun e w' => e = .returned (.pointer (some ⟨w.heap.size, 0, none⟩)) ∧ w' = w.alloc (.cells #[.slice (some a) 2000 c, .int .i64 0] 66) := by
 have h1 : ((n : Int) > 2000) := by omega
 go_enter Tryz.func16, Tryz.ntmps16
 go_wp2
 go_ret
 exact ⟨rfl, rfl⟩
theorem op16 : OpenOk Tryz.prog 16 := fun xs v w av hr => .inl ⟨enters_of Tryz.func16 (by kernel_rfl) rfl _ _, by
 have fin : ∀ {v : Value} {u : Value}, Rd w av (.sl .u8 (xs.take 2000)) u → Calls Tryz.prog 16 #[v] w (fun e w' => e = .returned (.pointer (some ⟨w.heap.size, 0, none⟩)) ∧ w' = w.alloc (.cells #[u, .int .i64 0] 66)) →
   Calls Tryz.prog 16 #[v] w fun e w' => match e, w' with
    | .returned v', w' => ∃ u T, Rd w av (.sl .u8 (xs.take 2000)) u ∧ v' = .pointer (some ⟨w.heap.size, 0, none⟩) ∧ w' = w.alloc (.cells #[u, .int .i64 0] T)
    | _, _ => False := fun hu hc => hc.mono fun e w' h => by obtain ⟨rfl, rfl⟩ := h; exact ⟨_, _, hu, rfl, rfl⟩
 cases hr with
 | nil => exact fin (.nil .u8) (oqn w)
 | sl t xs a cap cs n hn hcap hb hl hc hr =>
  by_cases h : 2000 < n
  ·refine fin (u := .slice (some a) 2000 cap) ?_ (oqb w a n cap h hcap)
   have hlen : (xs.take 2000).length = 2000 := by simp only [List.length_take]; omega
   have hf : jj2 .u8 (xs.take 2000) = (jj2 .u8 xs).take 2000 := by rw [flat_take]; rfl
   refine .sl .u8 (xs.take 2000) a cap (cs.take 2000) 2000 hlen.symm (by omega) (fun hx => hb (fun e => hx (by rw [e]; rfl))) (by rw [hf, List.length_take, List.length_take, hl]) (fun j u hu => ?_) (fun j h1 h2 => ?_)
   ·rw [List.getElem?_take] at hu
    split at hu
    ·exact hc j u hu
    ·cases hu
   ·have h1' : j < (jj2 .u8 xs).length := by rw [hf, List.length_take] at h1; omega
    have h2' : j < cs.length := by rw [List.length_take] at h2; omega
    have e1 : (jj2 .u8 (xs.take 2000))[j] = (jj2 .u8 xs)[j] := by simp only [hf, List.getElem_take]
    have e2 : (cs.take 2000)[j] = cs[j] := List.getElem_take
    rw [e1, e2]
    exact hr j h1' h2'
  ·refine fin (u := .slice (some a) n cap) ?_ (oqs w a n cap (by omega))
   rw [List.take_of_length_le (by omega)]
   exact .sl .u8 xs a cap cs n hn hcap hb hl hc hr⟩
theorem xH162 : jja Tryz.prog 162 SH162 := zH162 jjw
theorem x158 : jja Tryz.prog 158 S158 := z158 jjw xH162
theorem x156 : jja Tryz.prog 156 S156 := z156 jjw x158
theorem x147 : jja Tryz.prog 147 S147 := z147 jjw x156
theorem it145 : jx2 Tryz.prog 145 := x145 jjw x147
theorem x10 : jja Tryz.prog 10 S10 := z10 jjw
theorem x11 : jja Tryz.prog 11 S11 := z11 jjw
theorem x17v0 : jja Tryz.prog 17 jj6 := z17v0 jjw
theorem x18v0 : jja Tryz.prog 18 jqj := z18v0 jjw x17v0
theorem x32v0 : jja Tryz.prog 32 S32v0 := z32v0 jjw x18v0
theorem x60v0 : jja Tryz.prog 60 S60v0 := z60v0 jjw x17v0 x18v0 x32v0
theorem x122 : jja Tryz.prog 122 S122 := z122 jjw
theorem x151 : jja Tryz.prog 151 S151 := z151 jjw
theorem x94 : jja Tryz.prog 94 S94 := z94 jjw
theorem x141 : jja Tryz.prog 141 S141 := z141 jjw x94 x151
theorem x125 : jja Tryz.prog 125 S125 := z125 jjw x122 x141
theorem x153 : jja Tryz.prog 153 S153 := z153 jjw x151
theorem x143 : jja Tryz.prog 143 S143 := z143 jjw x151 x153
theorem x131 : jja Tryz.prog 131 S131 := z131 jjw x122 x143
theorem x154 : jja Tryz.prog 154 S154 := z154 jjw
theorem x144 : jja Tryz.prog 144 S144 := z144 jjw x153 x154
theorem x132 : jja Tryz.prog 132 S132 := z132 jjw x144
theorem x107 : jja Tryz.prog 107 S107 := z107 jjw x122 x125 x131 x132
theorem x133 : jja Tryz.prog 133 S133 := z133 jjw
theorem x108 : jja Tryz.prog 108 S108 := z108 jjw x107 x133
theorem x126 : jja Tryz.prog 126 S126 := z126 jjw x94
theorem x97 : jja Tryz.prog 97 S97 := z97 jjw x94 x125 x126
theorem x106 : jja Tryz.prog 106 S106 := z106 jjw
theorem x98 : jja Tryz.prog 98 S98 := z98 jjw x106
theorem x99 : jja Tryz.prog 99 S99 := z99 jjw
theorem x73 : jja Tryz.prog 73 S73 := z73 jjw x97 x98 x99
theorem x84 : jja Tryz.prog 84 S84 := z84 jjw x73 x107 x108
theorem x86 : jja Tryz.prog 86 S86 := z86 jjw
theorem x109 : jja Tryz.prog 109 S109 := z109 jjw x86 x97 x98 x99 x106
theorem x113v0 : jja Tryz.prog 113 S113v0 := z113v0 jjw x17v0
theorem x134v0 : jja Tryz.prog 134 S134v0 := z134v0 jjw x18v0
theorem x114 : jja Tryz.prog 114 S114 := z114 jjw
theorem x135v0 : jja Tryz.prog 135 S135v0 := z135v0 jjw x18v0 x114
theorem x110v0 : jja Tryz.prog 110 S110v0 := z110v0 jjw x17v0 x113v0 x134v0 x135v0
theorem x111 : jja Tryz.prog 111 S111 := z111 jjw
theorem x85v0 : jja Tryz.prog 85 S85v0 := z85v0 jjw x17v0 x109 x110v0 x111
theorem x57v0 : jja Tryz.prog 57 S57v0 := z57v0 jjw x17v0 x18v0 x32v0 x60v0 x84 x85v0
theorem x58v0 : jja Tryz.prog 58 S58v0 := z58v0 jjw x17v0 x18v0 x32v0
theorem x59v0 : jja Tryz.prog 59 S59v0 := z59v0 jjw x17v0 x18v0 x58v0 x60v0
theorem x112v0 : jja Tryz.prog 112 S112v0 := z112v0 jjw x17v0 x18v0 x134v0
theorem x87v0 : jja Tryz.prog 87 S87v0 := z87v0 jjw x17v0 x18v0 x110v0 x112v0 x113v0 x114
theorem x61v0 : jja Tryz.prog 61 S61v0 := z61v0 jjw x17v0 x85v0 x86 x87v0
theorem x33v0 : jja Tryz.prog 33 S33v0 := z33v0 jjw x17v0 x18v0 x57v0 x58v0 x59v0 x60v0 x61v0
theorem x19v0 : jja Tryz.prog 19 S19v0 := z19v0 jjw x17v0 x18v0 x32v0 x33v0
theorem x7 : jja Tryz.prog 7 S7 := z7 jjw x17v0 x18v0 x19v0 op16
theorem x62 : jja Tryz.prog 62 S62 := z62 jjw
theorem x116 : jja Tryz.prog 116 S116 := z116 jjw
theorem x88 : jja Tryz.prog 88 S88 := z88 jjw x116 y115 it145
theorem x63 : jja Tryz.prog 63 S63 := z63 jjw x88
theorem x65 : jja Tryz.prog 65 S65 := z65 jjw x62 x63
theorem x64v0 : jja Tryz.prog 64 S64v0 := z64v0 jjw x65
theorem x67 : jja Tryz.prog 67 S67 := z67 jjw
theorem x89 : jja Tryz.prog 89 S89 := z89 jjw
theorem x117 : jja Tryz.prog 117 S117 := z117 jjw
theorem x90 : jja Tryz.prog 90 S90 := z90 jjw x117
theorem x66v0 : jja Tryz.prog 66 S66v0 := z66v0 jjw x67 x89 x90
theorem x157 : jja Tryz.prog 157 S157 := z157 jjw
theorem x148 : jja Tryz.prog 148 S148 := z148 jjw x157
theorem x137 : jja Tryz.prog 137 S137 := z137 jjw x148
theorem x118 : jja Tryz.prog 118 S118 := z118 jjw x137 y115 it145
theorem x138 : jja Tryz.prog 138 S138 := z138 jjw
theorem x119 : jja Tryz.prog 119 S119 := z119 jjw x138
theorem x91 : jja Tryz.prog 91 S91 := z91 jjw x118 x119
theorem x81 : jja Tryz.prog 81 S81 := z81 jjw
theorem x55 : jja Tryz.prog 55 S55 := z55 jjw x81
theorem x128 : jja Tryz.prog 128 S128 := z128 jjw x55
theorem x127v0 : jja Tryz.prog 127 S127v0 := z127v0 jjw x128
theorem x104 : jja Tryz.prog 104 S104 := z104 jjw x127v0
theorem x149 : jja Tryz.prog 149 S149 := z149 jjw
theorem x139 : jja Tryz.prog 139 S139 := z139 jjw x149
theorem x120 : jja Tryz.prog 120 S120 := z120 jjw x118 x139
theorem x92 : jja Tryz.prog 92 S92 := z92 jjw x104 x120
theorem x68 : jja Tryz.prog 68 S68 := z68 jjw x91 x92
theorem x35 : jja Tryz.prog 35 S35 := z35 jjw x62 x63 x64v0 x66v0 x68
theorem x34v0 : jja Tryz.prog 34 S34v0 := z34v0 jjw x35
theorem x20 : jja Tryz.prog 20 S20 := z20 jjw x34v0
theorem x150 : jja Tryz.prog 150 S150 := z150 jjw
theorem x140 : jja Tryz.prog 140 S140 := z140 jjw x150
theorem x121 : jja Tryz.prog 121 S121 := z121 jjw x140
theorem x93 : jja Tryz.prog 93 S93 := z93 jjw x121
theorem x69 : jja Tryz.prog 69 S69 := z69 jjw x88 x93
theorem x36 : jja Tryz.prog 36 S36 := z36 jjw x63 x65 x69
theorem x21v0 : jja Tryz.prog 21 S21v0 := z21v0 jjw x36
theorem x8 : jja Tryz.prog 8 S8 := z8 jjw x20 x21v0
theorem x70 : jja Tryz.prog 70 S70 := z70 jjw x94
theorem x123 : jja Tryz.prog 123 S123 := z123 jjw
theorem x95 : jja Tryz.prog 95 S95 := z95 jjw x94 x122 x123
theorem x71 : jja Tryz.prog 71 S71 := z71 jjw x95
theorem x38 : jja Tryz.prog 38 S38 := z38 jjw
theorem x124 : jja Tryz.prog 124 S124 := z124 jjw x70 x71 x94
theorem x96 : jja Tryz.prog 96 S96 := z96 jjw x124
theorem x72 : jja Tryz.prog 72 S72 := z72 jjw x38 x96
theorem x37 : jja Tryz.prog 37 S37 := z37 jjw x70 x71 x72 x73
theorem x22 : jja Tryz.prog 22 S22 := z22 jjw x37 x38
theorem x39 : jja Tryz.prog 39 S39 := z39 jjw
theorem x40 : jja Tryz.prog 40 S40 := z40 jjw
theorem x100 : jja Tryz.prog 100 S100 := z100 jjw
theorem x74 : jja Tryz.prog 74 S74 := z74 jjw x95 x100
theorem x41 : jja Tryz.prog 41 S41 := z41 jjw x74
theorem x23 : jja Tryz.prog 23 S23 := z23 jjw x39 x40 x41
theorem x9 : jja Tryz.prog 9 S9 := z9 jjw x22 x23
theorem x5 : jja Tryz.prog 5 S5 := z5 jjw x7 x8 x9 x10 x11
end Go.Proofs
