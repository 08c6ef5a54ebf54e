/- It is proved that files of installed packages are protected (FnRootClash). (part 6 of 7: JkBF124v0, JkBF126, JkBF128, JkBF127, JkBF64v0, JkBF66, JkBF65, JkBF90v0, JkBF47v0, JkBPuR, JkBF21, JkBF24, JkBF25, JkBPuN, JkBF16, JkBF18, JkBPuS, JkBF15, JkBF17, JkBPuT, JkBF115, JkBF114v0, JkBF163,) Conditions: none beyond the statement. -/
import Derived.Test.YtgcbngajjbjjoaaGreatDoorZFnRootClash4
import Derived.Tactics
import Derived.Deep.RegionLaw
import Derived.Shelf.Abstract
import Derived.Test.YtgcbngajjbjjoaaGreatDoorProg
import Derived.KernelRfl
set_option linter.unusedSectionVars false
set_option linter.unusedSimpArgs false
set_option maxRecDepth 100000
set_option linter.unusedVariables false
namespace Go.Proofs
open Go.Jk
noncomputable def c124v0 : Ctx := { tt := tt, fs := fun n => match n with | 69 => some jqb | 147 => some S147 | 169 => some S169v0 | 170 => some S170v0 | _ => none }
theorem k124v0 (h : ∀ T, (tt T).ok Tryz.prog T) (h69v0 : jja Tryz.prog 69 jqb) (h147 : jja Tryz.prog 147 S147) (h169v0 : jja Tryz.prog 169 S169v0) (h170v0 : jja Tryz.prog 170 S170v0) : CtxGood Tryz.prog c124v0 := ⟨⟨h⟩, fun g S hg => (by
 simp only [c124v0] at hg
 split at hg
 ·cases hg; exact h69v0
 ·cases hg; exact h147
 ·cases hg; exact h169v0
 ·cases hg; exact h170v0
 ·cases hg), jjq, fun _ _ h => (by cases h), fun _ h => (by cases h)⟩
noncomputable def b124v0 : Code := jjh Tryz.f124
@[reducible] noncomputable def i124v0 : Shape := ⟨[(0, .lf (.ptr 500000 0))], [(500000, .box [.d (.sl .u8), .d (.int .i64)], .same)], 30⟩
@[reducible] noncomputable def o124v0 : Shape := ⟨[(0, .lf (.ptr 500000 0)), (2, .lf (.own 3000128))], [(500000, .box [.d (.sl .u8), .d (.int .i64)], .same), (3000128, .row .entry, .slot 2 0)], 30⟩
noncomputable def f124v0 (a : i124v0.Y) : Option o124v0.Y :=
(f169v0 (((), ()), ((a.2.1.1, (a.2.1.2.1, ())), ()))).bind fun r1276 =>
(f147 ((r1276.2.2.1, ()), ())).bind fun r1277 =>
(jxJ (((), ((14 : Int), ())), ((r1276.2.1.1, (r1276.2.1.2.1, ())), ()))).bind fun r1279 =>
 bif (r1279.1.2.1 == (0 : Int)) then
(f170v0 (((), ()), ((r1279.2.1.1, (r1279.2.1.2.1, ())), ()))).bind fun r1280 =>
(apd 48 r1277.2.1 ([(Entry.mk r1280.2.2.1.1 r1280.2.2.1.2.1 r1280.2.2.1.2.2.1 r1280.2.2.1.2.2.2.1)] : List Entry)).bind fun x1281 =>
 some (((), ((), ())), ((r1280.2.1.1, (r1280.2.1.2.1, ())), (x1281, ())))
else
 bif (r1279.1.2.1 == (1 : Int)) then
 bif (decide ((r1277.2.1.length : Int) > (0 : Int))) then
(jxJ (((), ((r1277.2.1.length : Int), ())), ((r1279.2.1.1, (r1279.2.1.2.1, ())), ()))).bind fun r1282 =>
(f170v0 (((), ()), ((r1282.2.1.1, (r1282.2.1.2.1, ())), ()))).bind fun r1283 =>
(inb r1277.2.1.length r1282.1.2.1).bind fun x1284 =>
((r1277.2.1[x1284]?).bind fun q => some (Entry.mk r1283.2.2.1.1 r1283.2.2.1.2.1 r1283.2.2.1.2.2.1 r1283.2.2.1.2.2.2.1)).bind fun x1285 =>
 some (((), ((), ())), ((r1283.2.1.1, (r1283.2.1.2.1, ())), ((r1277.2.1.set x1284 x1285), ())))
else
 some (((), ((), ())), ((r1279.2.1.1, (r1279.2.1.2.1, ())), (r1277.2.1, ())))
else
 some (((), ((), ())), ((r1279.2.1.1, (r1279.2.1.2.1, ())), (r1277.2.1, ())))
theorem e124v0 : ∀ a, f124v0 a = jjp (jjd c124v0 []) b124v0 i124v0 o124v0 a := fun a => by kernel_rfl
noncomputable def S124v0 : jjG := jjf tt 30 i124v0 o124v0 [.tmp 2] [0] f124v0
theorem z124v0 (h : ∀ T, (tt T).ok Tryz.prog T) (h69v0 : jja Tryz.prog 69 jqb) (h147 : jja Tryz.prog 147 S147) (h169v0 : jja Tryz.prog 169 S169v0) (h170v0 : jja Tryz.prog 170 S170v0) : jja Tryz.prog 124 S124v0 :=
 have H := k124v0 h h69v0 h147 h169v0 h170v0
 jjj (fn := Tryz.f124) (fr := []) H (by kernel_rfl) (by kernel_rfl) (by kernel_rfl) (by kernel_rfl) (by kernel_rfl) jje (by kernel_rfl) (fun y => ⟨_, _, rfl, rfl, rfl⟩) e124v0
noncomputable def c126 : Ctx := { tt := tt, fs := fun n => match n with | 52 => some S52 | _ => none }
theorem k126 (h : ∀ T, (tt T).ok Tryz.prog T) (h52 : jja Tryz.prog 52 S52) : CtxGood Tryz.prog c126 := ⟨⟨h⟩, fun g S hg => (by
 simp only [c126] at hg
 split at hg
 ·cases hg; exact h52
 ·cases hg), jjq, fun _ _ h => (by cases h), fun _ h => (by cases h)⟩
noncomputable def b126 : Code := jjh Tryz.f126
@[reducible] noncomputable def i126 : Shape := ⟨[(0, .agg [.d (.sl .pack)]), (1, .lf (.d (.sl .pack)))], [], 15⟩
@[reducible] noncomputable def o126 : Shape := ⟨[(4, .lf (.ptr 4 0)), (5, .lf (.d (.int .i64)))], [(4, .box [.d (.sl .pack)], .same)], 15⟩
noncomputable def f126 (a : i126.Y) : Option o126.Y :=
(f52 ((a.1.2.1, ()), ())).bind fun r1158 =>
 bif (r1158.1.1 != (0 : Int)) then
 some (((), (r1158.1.1, ())), ((a.1.1.1, ()), ()))
else
 some (((), ((0 : Int), ())), ((a.1.2.1, ()), ()))
theorem e126 : ∀ a, f126 a = jjp (jjd c126 []) b126 i126 o126 a := fun a => by kernel_rfl
noncomputable def S126 : jjG := jjf tt 15 i126 o126 [.cell 4 25, .tmp 5] [] f126
theorem z126 (h : ∀ T, (tt T).ok Tryz.prog T) (h52 : jja Tryz.prog 52 S52) : jja Tryz.prog 126 S126 :=
 have H := k126 h h52
 jjj (fn := Tryz.f126) (fr := []) H (by kernel_rfl) (by kernel_rfl) (by kernel_rfl) (by kernel_rfl) (by kernel_rfl) jje (by kernel_rfl) (fun y => ⟨_, _, rfl, rfl, rfl⟩) e126
noncomputable def c128 : Ctx := { tt := tt, fs := fun n => match n with | 147 => some S147 | _ => none }
theorem k128 (h : ∀ T, (tt T).ok Tryz.prog T) (h147 : jja Tryz.prog 147 S147) : CtxGood Tryz.prog c128 := ⟨⟨h⟩, fun g S hg => (by
 simp only [c128] at hg
 split at hg
 ·cases hg; exact h147
 ·cases hg), jjq, fun _ _ h => (by cases h), fun _ h => (by cases h)⟩
noncomputable def b128 : Code := jjh Tryz.f128
@[reducible] noncomputable def i128 : Shape := ⟨[(0, .agg [.d (.str), .d (.str), .d (.sl .need), .d (.sl .entry)])], [], 13⟩
@[reducible] noncomputable def o128 : Shape := ⟨[(2, .lf (.ptr 2 0))], [(5000130, .row .need, .cell 2 2), (5000131, .row .entry, .cell 2 3), (2, .box [.d (.str), .d (.str), .own 5000130, .own 5000131], .same)], 13⟩
noncomputable def f128 (a : i128.Y) : Option o128.Y :=
(apd 40 ([] : List Need) a.1.1.2.2.1).bind fun x929 =>
(f147 ((a.1.1.2.2.2.1, ()), ())).bind fun r930 =>
 some (((), ()), (x929, (r930.2.1, ((a.1.1.1, (a.1.1.2.1, ((), ((), ())))), ()))))
theorem e128 : ∀ a, f128 a = jjp (jjd c128 []) b128 i128 o128 a := fun a => by kernel_rfl
noncomputable def S128 : jjG := jjf tt 13 i128 o128 [.cell 2 37] [] f128
theorem z128 (h : ∀ T, (tt T).ok Tryz.prog T) (h147 : jja Tryz.prog 147 S147) : jja Tryz.prog 128 S128 :=
 have H := k128 h h147
 jjj (fn := Tryz.f128) (fr := []) H (by kernel_rfl) (by kernel_rfl) (by kernel_rfl) (by kernel_rfl) (by kernel_rfl) jje (by kernel_rfl) (fun y => ⟨_, _, rfl, rfl, rfl⟩) e128
noncomputable def c127 : Ctx := { tt := tt, fs := fun n => match n with | 128 => some S128 | _ => none }
theorem k127 (h : ∀ T, (tt T).ok Tryz.prog T) (h128 : jja Tryz.prog 128 S128) : CtxGood Tryz.prog c127 := ⟨⟨h⟩, fun g S hg => (by
 simp only [c127] at hg
 split at hg
 ·cases hg; exact h128
 ·cases hg), jjq, fun _ _ h => (by cases h), fun _ h => (by cases h)⟩
noncomputable def b127 : Code := jjh Tryz.f127
@[reducible] noncomputable def s127_28 : Shape := ⟨[(0, .lf (.d (.sl .pack))), (3, .lf (.ptr 3 0)), (4, .lf (.own 3000256)), (5, .lf (.d (.int .i64)))], [(3, .box [.d (.str), .d (.str), .d (.sl .need), .d (.sl .entry)], .same), (3000256, .row .pack, .slot 4 0)], 35⟩
@[reducible] noncomputable def t127_28 : List OSh := [(.exit 0, ⟨[(0, .lf (.d (.sl .pack))), (3, .lf (.ptr 3 0)), (4, .lf (.own 3000256)), (5, .lf (.d (.int .i64)))], [(3, .box [.d (.str), .d (.str), .d (.sl .need), .d (.sl .entry)], .same), (3000256, .row .pack, .slot 4 0)], 35⟩)]
noncomputable def g127_28 (y : s127_28.Y) : Option (Sum s127_28.Y (YS t127_28)) :=
 bif (decide (y.1.2.2.2.1 < (y.1.1.length : Int))) then
(ix y.1.1 y.1.2.2.2.1).bind fun x921 =>
 bif (Op.bytesLess x921.name y.2.1.1) then
 some (.inl ((y.1.1, ((), ((), ((IntKind.i64.wrap (y.1.2.2.2.1 + (1 : Int))), ())))), ((y.2.1.1, (y.2.1.2.1, (y.2.1.2.2.1, (y.2.1.2.2.2.1, ())))), (y.2.2.1, ()))))
else
 some (.inr (((y.1.1, ((), ((), (y.1.2.2.2.1, ())))), ((y.2.1.1, (y.2.1.2.1, (y.2.1.2.2.1, (y.2.1.2.2.2.1, ())))), (y.2.2.1, ())))))
else
 some (.inr (((y.1.1, ((), ((), (y.1.2.2.2.1, ())))), ((y.2.1.1, (y.2.1.2.1, (y.2.1.2.2.1, (y.2.1.2.2.2.1, ())))), (y.2.2.1, ())))))
theorem r127_28 : ∀ y, g127_28 y = jjz (jjd c127 []) (jjl (jjc b127 1 28)) 28 s127_28 t127_28 y := fun y => by kernel_rfl
noncomputable def l127_28 : s127_28.Y → Option (YS t127_28) := jjD g127_28
theorem q127_28 (H : CtxGood Tryz.prog c127) : jjn Tryz.prog (jjc b127 1 28) (jjb s127_28 t127_28 l127_28) :=
 jjt (fr := []) H (by kernel_rfl) (by kernel_rfl) jje (fun y => jji r127_28 y)
@[reducible] noncomputable def i127 : Shape := ⟨[(0, .lf (.d (.sl .pack))), (1, .agg [.d (.str), .d (.str), .d (.sl .need), .d (.sl .entry)])], [], 35⟩
@[reducible] noncomputable def o127 : Shape := ⟨[(4, .lf (.own 3000256))], [(3000256, .row .pack, .slot 4 0)], 35⟩
noncomputable def f127 (a : i127.Y) : Option o127.Y :=
(l127_28 ((a.1.1, ((), ((), ((0 : Int), ())))), ((a.1.2.1.1, (a.1.2.1.2.1, (a.1.2.1.2.2.1, (a.1.2.1.2.2.2.1, ())))), (([] : List Pack), ())))).bind fun r935 =>
(jqM r935.1.1 (0 : Int) r935.1.2.2.2.1).bind fun x936 =>
(apd 80 ([] : List Pack) x936).bind fun x937 =>
(f128 (((r935.2.1.1, (r935.2.1.2.1, (r935.2.1.2.2.1, (r935.2.1.2.2.2.1, ())))), ()), ())).bind fun r938 =>
(apd 80 x937 ([(Pack.mk r938.2.2.2.1.1 r938.2.2.2.1.2.1 r938.2.1 r938.2.2.1)] : List Pack)).bind fun x939 =>
(jqM r935.1.1 r935.1.2.2.2.1 (r935.1.1.length : Int)).bind fun x940 =>
(apd 80 x939 x940).bind fun x941 =>
 some (((), ()), (x941, ()))
theorem e127 : ∀ a, f127 a = jjp (jjd c127 [(28, jjb s127_28 t127_28 l127_28)]) b127 i127 o127 a := fun a => by kernel_rfl
noncomputable def S127 : jjG := jjf tt 35 i127 o127 [.tmp 4] [] f127
theorem z127 (h : ∀ T, (tt T).ok Tryz.prog T) (h128 : jja Tryz.prog 128 S128) : jja Tryz.prog 127 S127 :=
 have H := k127 h h128
 jjj (fn := Tryz.f127) (fr := [(28, jjb s127_28 t127_28 l127_28)]) H (by kernel_rfl) (by kernel_rfl) (by kernel_rfl) (by kernel_rfl) (by kernel_rfl) ⟨q127_28 H, trivial⟩ (by kernel_rfl) (fun y => ⟨_, _, rfl, rfl, rfl⟩) e127
noncomputable def c64v0 : Ctx := { tt := tt, fs := fun n => match n with | 69 => some jqb | 70 => some jqt | 120 => some S120v0 | 121 => some S121v0 | 122 => some S122v0 | 123 => some jJC | 124 => some S124v0 | _ => none }
theorem k64v0 (h : ∀ T, (tt T).ok Tryz.prog T) (h69v0 : jja Tryz.prog 69 jqb) (h70v0 : jja Tryz.prog 70 jqt) (h120v0 : jja Tryz.prog 120 S120v0) (h121v0 : jja Tryz.prog 121 S121v0) (h122v0 : jja Tryz.prog 122 S122v0) (h123v0 : jja Tryz.prog 123 jJC) (h124v0 : jja Tryz.prog 124 S124v0) : CtxGood Tryz.prog c64v0 := ⟨⟨h⟩, fun g S hg => (by
 simp only [c64v0] at hg
 split at hg
 ·cases hg; exact h69v0
 ·cases hg; exact h70v0
 ·cases hg; exact h120v0
 ·cases hg; exact h121v0
 ·cases hg; exact h122v0
 ·cases hg; exact h123v0
 ·cases hg; exact h124v0
 ·cases hg), jjq, fun _ _ h => (by cases h), fun _ h => (by cases h)⟩
noncomputable def b64v0 : Code := jjh Tryz.f64
@[reducible] noncomputable def i64v0 : Shape := ⟨[(0, .lf (.ptr 500000 0))], [(500000, .box [.d (.sl .u8), .d (.int .i64)], .same)], 39⟩
@[reducible] noncomputable def o64v0 : Shape := ⟨[(0, .lf (.ptr 500000 0)), (2, .lf (.ptr 2 0))], [(500000, .box [.d (.sl .u8), .d (.int .i64)], .same), (5000130, .row .need, .cell 2 2), (5000131, .row .entry, .cell 2 3), (2, .box [.d (.str), .d (.str), .own 5000130, .own 5000131], .same)], 39⟩
noncomputable def f64v0 (a : i64v0.Y) : Option o64v0.Y :=
(jJ2 (((), (([([111, 110, 101] : Str), ([116, 119, 111] : Str), ([116, 104, 114, 101, 101] : Str), ([122, 105, 112] : Str)] : List Str), ())), ((a.2.1.1, (a.2.1.2.1, ())), ()))).bind fun r1289 =>
(f120v0 (((), (r1289.1.2.1, ())), ((r1289.2.1.1, (r1289.2.1.2.1, ())), ()))).bind fun r1290 =>
(jxJ (((), ((14 : Int), ())), ((r1290.2.1.1, (r1290.2.1.2.1, ())), ()))).bind fun r1292 =>
 bif (r1292.1.2.1 == (0 : Int)) then
(jJ2 (((), (([([] : Str), ([79, 110, 101] : Str)] : List Str), ())), ((r1292.2.1.1, (r1292.2.1.2.1, ())), ()))).bind fun r1293 =>
 some (((), ((), ())), ((r1293.2.1.1, (r1293.2.1.2.1, ())), (r1290.2.2.1, (r1290.2.2.2.1, ((r1293.1.2.1, (r1290.2.2.2.2.1.2.1, ((), ((), ())))), ())))))
else
 bif (r1292.1.2.1 == (1 : Int)) then
(f121v0 (((), ()), ((r1292.2.1.1, (r1292.2.1.2.1, ())), ()))).bind fun r1294 =>
 some (((), ((), ())), ((r1294.2.1.1, (r1294.2.1.2.1, ())), (r1290.2.2.1, (r1290.2.2.2.1, ((r1290.2.2.2.2.1.1, (r1294.1.2.1, ((), ((), ())))), ())))))
else
 bif (r1292.1.2.1 == (2 : Int)) then
(f122v0 (((), ()), ((r1292.2.1.1, (r1292.2.1.2.1, ())), ()))).bind fun r1295 =>
(f123v0 (((), ()), ((r1295.2.1.1, (r1295.2.1.2.1, ())), ()))).bind fun r1296 =>
(apd 40 r1290.2.2.1 ([(Need.mk r1295.2.2.1.1 r1295.2.2.1.2.1 r1295.2.2.1.2.2.1), (Need.mk r1296.2.2.1.1 r1296.2.2.1.2.1 r1296.2.2.1.2.2.1)] : List Need)).bind fun x1297 =>
 some (((), ((), ())), ((r1296.2.1.1, (r1296.2.1.2.1, ())), (x1297, (r1290.2.2.2.1, ((r1290.2.2.2.2.1.1, (r1290.2.2.2.2.1.2.1, ((), ((), ())))), ())))))
else
 bif (r1292.1.2.1 == (3 : Int)) then
(f124v0 (((), ()), ((r1292.2.1.1, (r1292.2.1.2.1, ())), ()))).bind fun r1298 =>
 some (((), ((), ())), ((r1298.2.1.1, (r1298.2.1.2.1, ())), (r1290.2.2.1, (r1298.2.2.1, ((r1290.2.2.2.2.1.1, (r1290.2.2.2.2.1.2.1, ((), ((), ())))), ())))))
else
 some (((), ((), ())), ((r1292.2.1.1, (r1292.2.1.2.1, ())), (r1290.2.2.1, (r1290.2.2.2.1, ((r1290.2.2.2.2.1.1, (r1290.2.2.2.2.1.2.1, ((), ((), ())))), ())))))
theorem e64v0 : ∀ a, f64v0 a = jjp (jjd c64v0 []) b64v0 i64v0 o64v0 a := fun a => by kernel_rfl
noncomputable def S64v0 : jjG := jjf tt 39 i64v0 o64v0 [.cell 2 37] [0] f64v0
theorem z64v0 (h : ∀ T, (tt T).ok Tryz.prog T) (h69v0 : jja Tryz.prog 69 jqb) (h70v0 : jja Tryz.prog 70 jqt) (h120v0 : jja Tryz.prog 120 S120v0) (h121v0 : jja Tryz.prog 121 S121v0) (h122v0 : jja Tryz.prog 122 S122v0) (h123v0 : jja Tryz.prog 123 jJC) (h124v0 : jja Tryz.prog 124 S124v0) : jja Tryz.prog 64 S64v0 :=
 have H := k64v0 h h69v0 h70v0 h120v0 h121v0 h122v0 h123v0 h124v0
 jjj (fn := Tryz.f64) (fr := []) H (by kernel_rfl) (by kernel_rfl) (by kernel_rfl) (by kernel_rfl) (by kernel_rfl) jje (by kernel_rfl) (fun y => ⟨_, _, rfl, rfl, rfl⟩) e64v0
noncomputable def c66 : Ctx := { tt := tt, fs := fun n => match n with | 128 => some S128 | _ => none }
theorem k66 (h : ∀ T, (tt T).ok Tryz.prog T) (h128 : jja Tryz.prog 128 S128) : CtxGood Tryz.prog c66 := ⟨⟨h⟩, fun g S hg => (by
 simp only [c66] at hg
 split at hg
 ·cases hg; exact h128
 ·cases hg), jjq, fun _ _ h => (by cases h), fun _ h => (by cases h)⟩
noncomputable def b66 : Code := jjh Tryz.f66
@[reducible] noncomputable def s66_58 : Shape := ⟨[(1, .lf (.ptr 1 0)), (2, .lf (.ptr 2 0)), (3, .lf (.ptr 3 0)), (4, .lf (.d (.int .i64)))], [(1, .box [.d (.sl .pack)], .same), (5000128, .row .pack, .cell 2 0), (2, .box [.own 5000128], .same), (5000192, .row .pack, .cell 3 0), (3, .box [.own 5000192], .same)], 25⟩
@[reducible] noncomputable def t66_58 : List OSh := [(.exit 0, ⟨[(2, .lf (.ptr 2 0)), (3, .lf (.ptr 3 0))], [(5000128, .row .pack, .cell 2 0), (2, .box [.own 5000128], .same), (5000192, .row .pack, .cell 3 0), (3, .box [.own 5000192], .same)], 25⟩)]
noncomputable def g66_58 (y : s66_58.Y) : Option (Sum s66_58.Y (YS t66_58)) :=
 bif (decide (y.1.2.2.2.1 < (y.2.1.1.length : Int))) then
(ix y.2.1.1 y.1.2.2.2.1).bind fun x1181 =>
(f128 (((x1181.name, (x1181.version, (x1181.needs, (x1181.tree, ())))), ()), ())).bind fun r1182 =>
(apd 80 y.2.2.2.2.1 ([(Pack.mk r1182.2.2.2.1.1 r1182.2.2.2.1.2.1 r1182.2.1 r1182.2.2.1)] : List Pack)).bind fun x1183 =>
 some (.inl (((), ((), ((), ((IntKind.i64.wrap (y.1.2.2.2.1 + (1 : Int))), ())))), ((y.2.1.1, ()), (y.2.2.1, (((), ()), (x1183, (((), ()), ())))))))
else
 some (.inr ((((), ((), ())), (y.2.2.1, (((), ()), (y.2.2.2.2.1, (((), ()), ())))))))
theorem r66_58 : ∀ y, g66_58 y = jjz (jjd c66 []) (jjl (jjc b66 1 58)) 58 s66_58 t66_58 y := fun y => by kernel_rfl
noncomputable def l66_58 : s66_58.Y → Option (YS t66_58) := jjD g66_58
theorem q66_58 (H : CtxGood Tryz.prog c66) : jjn Tryz.prog (jjc b66 1 58) (jjb s66_58 t66_58 l66_58) :=
 jjt (fr := []) H (by kernel_rfl) (by kernel_rfl) jje (fun y => jji r66_58 y)
@[reducible] noncomputable def i66 : Shape := ⟨[(0, .agg [.d (.sl .pack)])], [], 25⟩
@[reducible] noncomputable def o66 : Shape := ⟨[(2, .lf (.ptr 2 0))], [(5000128, .row .pack, .cell 2 0), (2, .box [.own 5000128], .same)], 25⟩
noncomputable def f66 (a : i66.Y) : Option o66.Y :=
(l66_58 (((), ((), ((), ((0 : Int), ())))), ((a.1.1.1, ()), (([] : List Pack), (((), ()), (([] : List Pack), (((), ()), ()))))))).bind fun r1185 =>
 some (((), ()), (r1185.2.2.2.1, (((), ()), ())))
theorem e66 : ∀ a, f66 a = jjp (jjd c66 [(58, jjb s66_58 t66_58 l66_58)]) b66 i66 o66 a := fun a => by kernel_rfl
noncomputable def S66 : jjG := jjf tt 25 i66 o66 [.cell 2 25] [] f66
theorem z66 (h : ∀ T, (tt T).ok Tryz.prog T) (h128 : jja Tryz.prog 128 S128) : jja Tryz.prog 66 S66 :=
 have H := k66 h h128
 jjj (fn := Tryz.f66) (fr := [(58, jjb s66_58 t66_58 l66_58)]) H (by kernel_rfl) (by kernel_rfl) (by kernel_rfl) (by kernel_rfl) (by kernel_rfl) ⟨q66_58 H, trivial⟩ (by kernel_rfl) (fun y => ⟨_, _, rfl, rfl, rfl⟩) e66
noncomputable def c65 : Ctx := { tt := tt, fs := fun n => match n with | 100 => some S100 | 125 => some S125 | 126 => some S126 | 127 => some S127 | _ => none }
theorem k65 (h : ∀ T, (tt T).ok Tryz.prog T) (h100 : jja Tryz.prog 100 S100) (h125 : jja Tryz.prog 125 S125) (h126 : jja Tryz.prog 126 S126) (h127 : jja Tryz.prog 127 S127) : CtxGood Tryz.prog c65 := ⟨⟨h⟩, fun g S hg => (by
 simp only [c65] at hg
 split at hg
 ·cases hg; exact h100
 ·cases hg; exact h125
 ·cases hg; exact h126
 ·cases hg; exact h127
 ·cases hg), jjq, fun _ _ h => (by cases h), fun _ h => (by cases h)⟩
noncomputable def b65 : Code := jjh Tryz.f65
@[reducible] noncomputable def i65 : Shape := ⟨[(0, .agg [.d (.sl .pack)]), (1, .agg [.d (.str), .d (.str), .d (.sl .need), .d (.sl .entry)])], [], 27⟩
@[reducible] noncomputable def o65 : Shape := ⟨[(4, .lf (.ptr 4 0)), (5, .lf (.d (.int .i64)))], [(4, .box [.d (.sl .pack)], .same)], 27⟩
noncomputable def f65 (a : i65.Y) : Option o65.Y :=
(f100 (((a.1.2.1.1, (a.1.2.1.2.1, (a.1.2.1.2.2.1, (a.1.2.1.2.2.2.1, ())))), ()), ())).bind fun r1161 =>
 bif (!r1161.1.1) then
 some (((), ((1 : Int), ())), ((a.1.1.1, ()), ()))
else
(f125 ((a.1.1.1, (a.1.2.1.1, ())), ())).bind fun r1163 =>
 bif (decide (r1163.1.1 ≥ (0 : Int))) then
 some (((), ((2 : Int), ())), ((a.1.1.1, ()), ()))
else
(f127 ((a.1.1.1, ((a.1.2.1.1, (a.1.2.1.2.1, (a.1.2.1.2.2.1, (a.1.2.1.2.2.2.1, ())))), ())), ())).bind fun r1164 =>
(f126 (((a.1.1.1, ()), (r1164.2.1, ())), ())).bind fun r1165 =>
 some (((), (r1165.1.2.1, ())), ((r1165.2.1.1, ()), ()))
theorem e65 : ∀ a, f65 a = jjp (jjd c65 []) b65 i65 o65 a := fun a => by kernel_rfl
noncomputable def S65 : jjG := jjf tt 27 i65 o65 [.cell 4 25, .tmp 5] [] f65
theorem z65 (h : ∀ T, (tt T).ok Tryz.prog T) (h100 : jja Tryz.prog 100 S100) (h125 : jja Tryz.prog 125 S125) (h126 : jja Tryz.prog 126 S126) (h127 : jja Tryz.prog 127 S127) : jja Tryz.prog 65 S65 :=
 have H := k65 h h100 h125 h126 h127
 jjj (fn := Tryz.f65) (fr := []) H (by kernel_rfl) (by kernel_rfl) (by kernel_rfl) (by kernel_rfl) (by kernel_rfl) jje (by kernel_rfl) (fun y => ⟨_, _, rfl, rfl, rfl⟩) e65
noncomputable def c90v0 : Ctx := { tt := tt, fs := fun n => match n with | 65 => some S65 | 69 => some jqb | 70 => some jqt | 120 => some S120v0 | _ => none }
theorem k90v0 (h : ∀ T, (tt T).ok Tryz.prog T) (h65 : jja Tryz.prog 65 S65) (h69v0 : jja Tryz.prog 69 jqb) (h70v0 : jja Tryz.prog 70 jqt) (h120v0 : jja Tryz.prog 120 S120v0) : CtxGood Tryz.prog c90v0 := ⟨⟨h⟩, fun g S hg => (by
 simp only [c90v0] at hg
 split at hg
 ·cases hg; exact h65
 ·cases hg; exact h69v0
 ·cases hg; exact h70v0
 ·cases hg; exact h120v0
 ·cases hg), jjq, fun _ _ h => (by cases h), fun _ h => (by cases h)⟩
noncomputable def b90v0 : Code := jjh Tryz.f90
@[reducible] noncomputable def s90v0_58 : Shape := ⟨[(0, .lf (.ptr 500000 0)), (2, .lf (.ptr 2 0)), (3, .lf (.ptr 3 0)), (4, .lf (.d (.int .i64)))], [(500000, .box [.d (.sl .u8), .d (.int .i64)], .same), (5000128, .row .pack, .cell 2 0), (2, .box [.own 5000128], .same), (3, .box [.d (.sl .pack)], .same)], 23⟩
@[reducible] noncomputable def jJF : List OSh := [(.exit 0, ⟨[(0, .lf (.ptr 500000 0)), (2, .lf (.ptr 2 0)), (3, .lf (.ptr 3 0))], [(500000, .box [.d (.sl .u8), .d (.int .i64)], .same), (5000128, .row .pack, .cell 2 0), (2, .box [.own 5000128], .same), (3, .box [.d (.sl .pack)], .same)], 23⟩)]
noncomputable def g90v0_58 (y : s90v0_58.Y) : Option (Sum s90v0_58.Y (YS jJF)) :=
 bif (decide (y.1.2.2.2.1 > (0 : Int))) then
(jJ2 (((), (([([111, 110, 101] : Str), ([116, 119, 111] : Str), ([116, 104, 114, 101, 101] : Str), ([122, 105, 112] : Str)] : List Str), ())), ((y.2.1.1, (y.2.1.2.1, ())), ()))).bind fun r1170 =>
(f120v0 (((), (r1170.1.2.1, ())), ((r1170.2.1.1, (r1170.2.1.2.1, ())), ()))).bind fun r1171 =>
(f65 (((y.2.2.2.2.1.1, ()), ((r1171.2.2.2.2.1.1, (r1171.2.2.2.2.1.2.1, (r1171.2.2.1, (r1171.2.2.2.1, ())))), ())), ())).bind fun r1172 =>
 some (.inl (((), ((), ((), ((IntKind.i64.wrap (y.1.2.2.2.1 - (1 : Int))), ())))), ((r1171.2.1.1, (r1171.2.1.2.1, ())), (y.2.2.1, (((), ()), ((r1172.2.1.1, ()), ()))))))
else
 some (.inr ((((), ((), ((), ()))), ((y.2.1.1, (y.2.1.2.1, ())), (y.2.2.1, (((), ()), ((y.2.2.2.2.1.1, ()), ())))))))
theorem r90v0_58 : ∀ y, g90v0_58 y = jjz (jjd c90v0 []) (jjl (jjc b90v0 1 58)) 58 s90v0_58 jJF y := fun y => by kernel_rfl
noncomputable def l90v0_58 : s90v0_58.Y → Option (YS jJF) := jjD g90v0_58
theorem q90v0_58 (H : CtxGood Tryz.prog c90v0) : jjn Tryz.prog (jjc b90v0 1 58) (jjb s90v0_58 jJF l90v0_58) :=
 jjt (fr := []) H (by kernel_rfl) (by kernel_rfl) jje (fun y => jji r90v0_58 y)
@[reducible] noncomputable def i90v0 : Shape := ⟨[(0, .lf (.ptr 500000 0))], [(500000, .box [.d (.sl .u8), .d (.int .i64)], .same)], 23⟩
@[reducible] noncomputable def o90v0 : Shape := ⟨[(0, .lf (.ptr 500000 0)), (2, .lf (.ptr 2 0))], [(500000, .box [.d (.sl .u8), .d (.int .i64)], .same), (2, .box [.d (.sl .pack)], .same)], 23⟩
noncomputable def f90v0 (a : i90v0.Y) : Option o90v0.Y :=
(jxJ (((), ((5 : Int), ())), ((a.2.1.1, (a.2.1.2.1, ())), ()))).bind fun r1175 =>
(l90v0_58 (((), ((), ((), (r1175.1.2.1, ())))), ((r1175.2.1.1, (r1175.2.1.2.1, ())), (([] : List Pack), (((), ()), ((([] : List Pack), ()), ())))))).bind fun r1176 =>
 some (((), ((), ())), ((r1176.2.1.1, (r1176.2.1.2.1, ())), ((r1176.2.2.2.2.1.1, ()), ())))
theorem e90v0 : ∀ a, f90v0 a = jjp (jjd c90v0 [(58, jjb s90v0_58 jJF l90v0_58)]) b90v0 i90v0 o90v0 a := fun a => by kernel_rfl
noncomputable def S90v0 : jjG := jjf tt 23 i90v0 o90v0 [.cell 2 25] [0] f90v0
theorem z90v0 (h : ∀ T, (tt T).ok Tryz.prog T) (h65 : jja Tryz.prog 65 S65) (h69v0 : jja Tryz.prog 69 jqb) (h70v0 : jja Tryz.prog 70 jqt) (h120v0 : jja Tryz.prog 120 S120v0) : jja Tryz.prog 90 S90v0 :=
 have H := k90v0 h h65 h69v0 h70v0 h120v0
 jjj (fn := Tryz.f90) (fr := [(58, jjb s90v0_58 jJF l90v0_58)]) H (by kernel_rfl) (by kernel_rfl) (by kernel_rfl) (by kernel_rfl) (by kernel_rfl) ⟨q90v0_58 H, trivial⟩ (by kernel_rfl) (fun y => ⟨_, _, rfl, rfl, rfl⟩) e90v0
noncomputable def c47v0 : Ctx := { tt := tt, fs := fun n => match n with | 64 => some S64v0 | 66 => some S66 | 69 => some jqb | 90 => some S90v0 | _ => none }
theorem k47v0 (h : ∀ T, (tt T).ok Tryz.prog T) (h64v0 : jja Tryz.prog 64 S64v0) (h66 : jja Tryz.prog 66 S66) (h69v0 : jja Tryz.prog 69 jqb) (h90v0 : jja Tryz.prog 90 S90v0) : CtxGood Tryz.prog c47v0 := ⟨⟨h⟩, fun g S hg => (by
 simp only [c47v0] at hg
 split at hg
 ·cases hg; exact h64v0
 ·cases hg; exact h66
 ·cases hg; exact h69v0
 ·cases hg; exact h90v0
 ·cases hg), jjq, fun _ _ h => (by cases h), fun _ h => (by cases h)⟩
noncomputable def b47v0 : Code := jjh Tryz.f47
@[reducible] noncomputable def i47v0 : Shape := ⟨[(0, .lf (.ptr 500000 0))], [(500000, .box [.d (.sl .u8), .d (.int .i64)], .same)], 29⟩
@[reducible] noncomputable def o47v0 : Shape := ⟨[(0, .lf (.ptr 500000 0)), (2, .lf (.ptr 2 0))], [(500000, .box [.d (.sl .u8), .d (.int .i64)], .same), (2, .box [.d (.sl .pack)], .same)], 29⟩
noncomputable def f47v0 (a : i47v0.Y) : Option o47v0.Y :=
(f90v0 (((), ()), ((a.2.1.1, (a.2.1.2.1, ())), ()))).bind fun r1304 =>
(f66 (((r1304.2.2.1.1, ()), ()), ())).bind fun r1305 =>
(jxJ (((), ((12 : Int), ())), ((r1304.2.1.1, (r1304.2.1.2.1, ())), ()))).bind fun r1307 =>
 bif (r1307.1.2.1 == (0 : Int)) then
(f64v0 (((), ()), ((r1307.2.1.1, (r1307.2.1.2.1, ())), ()))).bind fun r1308 =>
(apd 80 r1305.2.1 ([(Pack.mk r1308.2.2.2.2.1.1 r1308.2.2.2.2.1.2.1 r1308.2.2.1 r1308.2.2.2.1)] : List Pack)).bind fun x1309 =>
 some (((), ((), ())), ((r1308.2.1.1, (r1308.2.1.2.1, ())), ((x1309, ()), ())))
else
 bif (r1307.1.2.1 == (1 : Int)) then
 bif (decide ((r1305.2.1.length : Int) > (0 : Int))) then
(jqM r1305.2.1 (1 : Int) (r1305.2.1.length : Int)).bind fun x1310 =>
 some (((), ((), ())), ((r1307.2.1.1, (r1307.2.1.2.1, ())), ((x1310, ()), ())))
else
 some (((), ((), ())), ((r1307.2.1.1, (r1307.2.1.2.1, ())), ((r1305.2.1, ()), ())))
else
 some (((), ((), ())), ((r1307.2.1.1, (r1307.2.1.2.1, ())), ((r1305.2.1, ()), ())))
theorem e47v0 : ∀ a, f47v0 a = jjp (jjd c47v0 []) b47v0 i47v0 o47v0 a := fun a => by kernel_rfl
noncomputable def S47v0 : jjG := jjf tt 29 i47v0 o47v0 [.cell 2 25] [0] f47v0
theorem z47v0 (h : ∀ T, (tt T).ok Tryz.prog T) (h64v0 : jja Tryz.prog 64 S64v0) (h66 : jja Tryz.prog 66 S66) (h69v0 : jja Tryz.prog 69 jqb) (h90v0 : jja Tryz.prog 90 S90v0) : jja Tryz.prog 47 S47v0 :=
 have H := k47v0 h h64v0 h66 h69v0 h90v0
 jjj (fn := Tryz.f47) (fr := []) H (by kernel_rfl) (by kernel_rfl) (by kernel_rfl) (by kernel_rfl) (by kernel_rfl) jje (by kernel_rfl) (fun y => ⟨_, _, rfl, rfl, rfl⟩) e47v0
theorem v_l9Check (a) (hb : BdPs a.1.1) (hv : VS a.1.1) : f52 a = some ((jxc a.1.1, ()), ()) := by
 obtain ⟨⟨ps, u⟩, u'⟩ := a
 have hl : ps.length ≤ 2097152 := hb.1
 have key : l52_26 ((ps, ((0 : Int), ())), ()) = some (bif jqu (okP ps) 0 ps then .inr ((ps, ()), ()) else .inl (((1 : Int), ()), ())) := by
  refine jjN g52_26 ps (fun i => ((ps, ((i : Int), ())), ())) _ _ _ (fun i x hx => ?_) ?_
  ·have hi := jjy hx
   have hw : Sm i := by unfold Sm; omega
   have hbx := hb.2 x (List.mem_of_getElem? hx)
   simp only [g52_26, jjB hi, cond_true, jQi, jju, hx, Option.bind_some]
   rw [v_PackOk _ hbx]
   simp only [Option.bind_some, okP, dgt0]
   cases jxM x with
   | false => rfl
   | true =>
    simp only [Bool.not_true, cond_false, Bool.true_and, lessP]
    cases i with
    | zero => simp only [beq_self_eq_true, Bool.not_true, cond_false, Option.bind_some, Bool.true_or, cond_true, jjk hw]
    | succ i =>
     have h0 : (i + 1 == 0) = false := rfl
     have hi' : i < ps.length := by omega
     obtain ⟨q, hq⟩ : ∃ q, ps[i]? = some q := ⟨ps[i], List.getElem?_eq_getElem hi'⟩
     simp only [h0, Bool.not_false, cond_true, jzX (i := i) (by unfold Sm; omega), jju, hq, hx, Option.bind_some, Bool.false_or, Nat.add_sub_cancel]
     cases Op.bytesLess q.name x.name with
     | false => rfl
     | true => simp only [Bool.not_true, cond_false, cond_true, jjk hw]
  ·simp only [g52_26, jjC, cond_false]
 rw [okP_all] at key
 have h5 : decide ((ps.length : Int) > 5) = !decide (ps.length ≤ 5) := by by_cases h : ps.length ≤ 5 <;> simp only [h, decide_true, decide_false, Bool.not_true, Bool.not_false, decide_eq_true_eq, decide_eq_false_iff_not] <;> omega
 simp only [f52, key, Option.bind_some, jxc]
 cases hA : (ps.all jxM && ascP ps) with
 | false => rfl
 | true =>
  have hk : ps.all jxM = true := by simp only [Bool.and_eq_true] at hA; exact hA.1
  obtain ⟨out, ht⟩ := v_l9Tree ((ps, ()), ()) hb hk
  have hn := v_l9Needs ((ps, ()), ()) hb hv
  simp only [cond_true, Option.bind_some, ht, h5]
  cases decide (ps.length ≤ 5) with
  | false => rfl
  | true =>
   simp only [Bool.not_true, cond_false, hn, Option.bind_some]
   cases ps.all (fun p => p.needs.all (jq0 ps)) <;> cases (jjX [] ps).isSome <;> rfl
abbrev OkP (p : Pack) : Prop := BdP p ∧ p.version.length ≤ 2097151 ∧ ∀ n, n ∈ p.needs → n.version.length ≤ 2097151
abbrev OkR (k : Nat) (ps : List Pack) : Prop := ps.length ≤ k ∧ ∀ p, p ∈ ps → OkP p
theorem OkR.bd {k : Nat} {ps : List Pack} (h : OkR k ps) (hk : k ≤ 2097152) : BdPs ps := ⟨Nat.le_trans h.1 hk, fun p hp => (h.2 p hp).1⟩
theorem OkR.vs {k : Nat} {ps : List Pack} (h : OkR k ps) : VS ps := fun p hp => (h.2 p hp).2
theorem v_l9Pack (a) (h : BdP ⟨a.1.1.1, a.1.1.2.1, a.1.1.2.2.1, a.1.1.2.2.2.1⟩) : f128 a = some (((), ()), (a.1.1.2.2.1, (a.1.1.2.2.2.1, ((a.1.1.1, (a.1.1.2.1, ((), ((), ())))), ())))) := by
 obtain ⟨⟨⟨name, version, needs, tree, u⟩, u'⟩, u''⟩ := a
 have h1 : needs.length ≤ 2097152 := h.2.2.1.1
 have h2 := v_l2Copy ((tree, ()), ()) h.2.2.2.1
 simp only [f128, jqd (show (40 : Nat) ≤ 100 by decide) (show Sm (([] : List Need).length + needs.length) by unfold Sm; simp; omega), List.nil_append, Option.bind_some, h2]
def jJe (ps : List Pack) (n : Str) : Nat := (ps.takeWhile fun p => Op.bytesLess p.name n).length
theorem posP_le (ps : List Pack) (n : Str) : jJe ps n ≤ ps.length := (List.takeWhile_prefix _).length_le
def jqe (ps : List Pack) (p : Pack) : List Pack := ps.take (jJe ps p.name) ++ [p] ++ ps.drop (jJe ps p.name)
theorem withL_len (ps : List Pack) (p : Pack) : (jqe ps p).length = ps.length + 1 := by
 have := posP_le ps p.name
 unfold jqe
 simp only [List.length_append, List.length_take, List.length_drop, List.length_cons, List.length_nil]; omega
theorem withL_mem {ps : List Pack} {p x : Pack} (h : x ∈ jqe ps p) : x = p ∨ x ∈ ps := by
 unfold jqe at h
 simp only [List.mem_append, List.mem_singleton] at h
 rcases h with (h | h) | h
 ·exact .inr (List.mem_of_mem_take h)
 ·exact .inl h
 ·exact .inr (List.mem_of_mem_drop h)
theorem withL_ok {k : Nat} {ps : List Pack} {p : Pack} (h : OkR k ps) (hp : OkP p) : OkR (k + 1) (jqe ps p) :=
 ⟨by rw [withL_len]; exact Nat.succ_le_succ h.1, fun x hx => by
  rcases withL_mem hx with rfl | hx
  ·exact hp
  ·exact h.2 x hx⟩
theorem v_l9With (a) (h1 : a.1.1.length ≤ 2097151) (hp : BdP ⟨a.1.2.1.1, a.1.2.1.2.1, a.1.2.1.2.2.1, a.1.2.1.2.2.2.1⟩) : f127 a = some (((), ()), (jqe a.1.1 ⟨a.1.2.1.1, a.1.2.1.2.1, a.1.2.1.2.2.1, a.1.2.1.2.2.2.1⟩, ())) := by
 obtain ⟨⟨ps, ⟨name, version, needs, tree, u0⟩, u⟩, u'⟩ := a
 have h1 : ps.length ≤ 2097151 := h1
 have key : ∀ (r : List Pack) (k : Nat), ps.drop k = r → k ≤ ps.length → l127_28 ((ps, ((), ((), ((k : Int), ())))), ((name, (version, (needs, (tree, ())))), (([] : List Pack), ()))) =
   some ((ps, ((), ((), (((k + (r.takeWhile fun p => Op.bytesLess p.name name).length : Nat) : Int), ())))), ((name, (version, (needs, (tree, ())))), (([] : List Pack), ()))) := by
  intro r
  induction r with
  | nil =>
   intro k hr hk
   have := drop_nil hr
   obtain rfl : k = ps.length := by omega
   refine jjT ?_
   simp only [g127_28, jjC, cond_false, List.takeWhile_nil, List.length_nil, Nat.add_zero]
  | cons q r ih =>
   intro k hr hk
   obtain ⟨c1, c2, c3⟩ := jqy hr
   have hw : Sm k := by unfold Sm; omega
   rw [List.takeWhile_cons]
   cases hq : Op.bytesLess q.name name with
   | false =>
    refine jjT ?_
    simp only [g127_28, jjB c3, cond_true, jju, c1, Option.bind_some, hq, cond_false]
    rfl
   | true =>
    have step : g127_28 ((ps, ((), ((), ((k : Int), ())))), ((name, (version, (needs, (tree, ())))), (([] : List Pack), ()))) = some (.inl ((ps, ((), ((), (((k + 1 : Nat) : Int), ())))), ((name, (version, (needs, (tree, ())))), (([] : List Pack), ())))) := by
     simp only [g127_28, jjB c3, cond_true, jju, c1, Option.bind_some, hq, jjk hw]
    refine Eq.trans (jqw step) (Eq.trans (ih (k + 1) c2 c3) ?_)
    simp only [if_true, List.length_cons]
    have e : k + 1 + (r.takeWhile fun p => Op.bytesLess p.name name).length = k + ((r.takeWhile fun p => Op.bytesLess p.name name).length + 1) := by omega
    rw [e]
 have key := key ps 0 rfl (Nat.zero_le _)
 rw [Nat.zero_add] at key
 have hk : (ps.takeWhile fun p => Op.bytesLess p.name name).length = jJe ps name := rfl
 rw [hk] at key
 have key : l127_28 ((ps, ((), ((), ((0 : Int), ())))), ((name, (version, (needs, (tree, ())))), (([] : List Pack), ()))) = _ := key
 have hle := posP_le ps name
 have e2 := v_l9Pack (((name, (version, (needs, (tree, ())))), ()), ()) hp
 simp only [f127, key, Option.bind_some, jzq hle, jxB hle, e2]
 rw [jqd (show (80 : Nat) ≤ 100 by decide) (by unfold Sm; simp; omega)]
 simp only [List.nil_append, Option.bind_some]
 rw [jqd (show (80 : Nat) ≤ 100 by decide) (by unfold Sm; simp; omega)]
 simp only [Option.bind_some]
 rw [jqd (show (80 : Nat) ≤ 100 by decide) (by unfold Sm; simp; omega)]
 rfl
theorem v_l9Try (a) (hb : BdPs a.1.2.1) (hv : VS a.1.2.1) : f126 a = some (((), (jxc a.1.2.1, ())), (((bif jxc a.1.2.1 == 0 then a.1.2.1 else a.1.1.1), ()), ())) := by
 obtain ⟨⟨⟨r, u0⟩, list, u⟩, u'⟩ := a
 have e := v_l9Check ((list, ()), ()) hb hv
 simp only [f126, e, Option.bind_some]
 have z : (jxc list != 0) = !(jxc list == 0) := rfl
 rw [z]
 cases hc : (jxc list == 0) with
 | false => rfl
 | true =>
  have hc : jxc list = 0 := by simpa using hc
  simp only [Bool.not_true, cond_false, cond_true]
  rw [hc]
def inL (ps : List Pack) (p : Pack) : List Pack × Int := bif jxM p then (match ps.find? (fun q => q.name == p.name) with
 | some _ => (ps, 2)
 | none => (bif jxc (jqe ps p) == 0 then jqe ps p else ps, jxc (jqe ps p))) else (ps, 1)
theorem v_l9In (a) (k : Nat) (hk : k ≤ 2000000) (h : OkR k a.1.1.1) (hp : OkP ⟨a.1.2.1.1, a.1.2.1.2.1, a.1.2.1.2.2.1, a.1.2.1.2.2.2.1⟩) : f65 a = some (((), ((inL a.1.1.1 ⟨a.1.2.1.1, a.1.2.1.2.1, a.1.2.1.2.2.1, a.1.2.1.2.2.2.1⟩).2, ())), (((inL a.1.1.1 ⟨a.1.2.1.1, a.1.2.1.2.1, a.1.2.1.2.2.1, a.1.2.1.2.2.2.1⟩).1, ()), ())) := by
 obtain ⟨⟨⟨ps, u0⟩, ⟨name, version, needs, tree, u1⟩, u⟩, u'⟩ := a
 have h : OkR k ps := h
 have hp : OkP ⟨name, version, needs, tree⟩ := hp
 have hl : ps.length ≤ 2000000 := Nat.le_trans h.1 hk
 have e1 := v_PackOk (((name, (version, (needs, (tree, ())))), ()), ()) hp.1
 simp only [f65, e1, Option.bind_some, inL]
 cases jxM ⟨name, version, needs, tree⟩ with
 | false => rfl
 | true =>
  simp only [Bool.not_true, cond_false, cond_true]
  rcases v_l8Pack ((ps, (name, ())), ()) (show ps.length ≤ 2097152 by omega) with ⟨j, q, g1, g2, g3⟩ | ⟨g1, g2⟩
  ·have g3 : ps.find? (fun p => p.name == name) = some q := g3
   have hj : decide ((j : Int) ≥ 0) = true := by simp
   simp only [g1, Option.bind_some, hj, cond_true, g3]
  ·have g2 : ps.find? (fun p => p.name == name) = none := g2
   have hj : decide ((-1 : Int) ≥ 0) = false := rfl
   have hw := withL_ok h hp
   have e2 := v_l9With ((ps, ((name, (version, (needs, (tree, ())))), ())), ()) (show ps.length ≤ 2097151 by omega) hp.1
   have e3 := v_l9Try (((ps, ()), (jqe ps ⟨name, version, needs, tree⟩, ())), ()) (hw.bd (by omega)) hw.vs
   simp only [g1, Option.bind_some, hj, cond_false, g2, e2, e3]
theorem v_l9Copy (a) (h : BdPs a.1.1.1) : f66 a = some (((), ()), (a.1.1.1, (((), ()), ()))) := by
 obtain ⟨⟨⟨ps, u0⟩, u⟩, u'⟩ := a
 have hl : ps.length ≤ 2097152 := h.1
 have key := loop_fold (S := List Pack) g66_58 ps (fun i acc => (((), ((), ((), ((i : Int), ())))), ((ps, ()), (([] : List Pack), (((), ()), (acc, (((), ()), ()))))))) (fun x acc => acc ++ [x]) (fun acc => (((), ((), ())), (([] : List Pack), (((), ()), (acc, (((), ()), ())))))) (fun i acc => acc.length = i) [] rfl (fun i x acc hx hI => ?_) (fun acc hI => ?_)
 ·have key : l66_58 (((), ((), ((), ((0 : Int), ())))), ((ps, ()), (([] : List Pack), (((), ()), (([] : List Pack), (((), ()), ())))))) = _ := key
  have e : ∀ (l acc : List Pack), l.foldl (fun s x => s ++ [x]) acc = acc ++ l := by
   intro l
   induction l with
   | nil => intro acc; simp
   | cons x l ih => intro acc; simp only [List.foldl_cons]; rw [ih]; simp
  simp only [f66, key, Option.bind_some]
  rw [e]; rfl
 ·have hi := jjy hx
  have hw : Sm i := by unfold Sm; omega
  have e2 := v_l9Pack (((x.name, (x.version, (x.needs, (x.tree, ())))), ()), ()) (h.2 x (List.mem_of_getElem? hx))
  have ha : apd 80 acc [x] = some (acc ++ [x]) := jqd (by decide) (by unfold Sm; simp; omega)
  simp only [g66_58, jjB hi, cond_true, jju, hx, Option.bind_some, e2, ha, jjk hw]
  exact ⟨trivial, by simp [hI]⟩
 ·simp only [g66_58, jjC, cond_false]
abbrev ShN (n : Need) : Prop := Sh n.name ∧ Sh n.version
def nmOut (s : Str) : Bool := !(s == [102, 114, 101, 115, 104]) && !(s == [110, 111, 98, 111, 100, 121, 115])
abbrev NmP (s : Str) : Prop := Sh s ∧ nmOut s = true
theorem nm_all {L : List Str} (h : L.all (fun s => decide (s.length ≤ 200) && nmOut s) = true) {s : Str} (hs : s ∈ L) : NmP s := by
 have := List.all_eq_true.1 h s hs
 simp only [Bool.and_eq_true, decide_eq_true_eq] at this
 exact this
abbrev ShP (p : Pack) : Prop := NmP p.name ∧ Sh p.version ∧ (p.needs.length ≤ 3 ∧ ∀ n, n ∈ p.needs → ShN n) ∧ (p.tree.length ≤ 17 ∧ ∀ e, e ∈ p.tree → ShE e)
theorem ShP.ok {p : Pack} (h : ShP p) : OkP p := by
 obtain ⟨a, b, ⟨c1, c2⟩, d1, d2⟩ := h
 have up : ∀ {s : Str}, Sh s → Bd s.length := fun h => Nat.le_trans h (by decide)
 exact ⟨⟨up a.1, up b, ⟨Nat.le_trans c1 (by decide), fun n hn => ⟨up (c2 n hn).1, up (c2 n hn).2⟩⟩, Nat.le_trans d1 (by decide), fun e he => ⟨up (d2 e he).1, up (d2 e he).2⟩⟩, Nat.le_trans b (by decide), fun n hn => Nat.le_trans (c2 n hn).2 (by decide)⟩
theorem v_l11Need (a) (m : Nat) (h : RD a.2.1.1 a.2.1.2.1 m) (hm : 3 ≤ m) : Ev (f123v0 a) (fun r => RD r.2.1.1 r.2.1.2.1 (m - 3) ∧ ShN ⟨r.2.2.1.1, r.2.2.1.2.1, r.2.2.1.2.2.1⟩) := by
 unfold f123v0
 refine Ev.bind (v_of _ m h (by omega) (by simp)) fun r1 h1 => ?_
 have s1 : Sh r1.1.2.1 := sh_all (by rfl) h1.2
 refine Ev.bind (jqK _ _ h1.1 (by omega)) fun r2 h2 => ?_
 refine Ev.ite (fun _ => ?_) fun _ => Ev.ret ⟨h2.1.less (by omega), s1, by show (0 : Nat) ≤ 200; decide⟩
 exact Ev.bind (jzY _ _ h2.1 (by omega)) fun r3 h3 => Ev.ret ⟨h3.1.less (by omega), s1, h3.2⟩
theorem v_l11Pack (a) (m : Nat) (h : RD a.2.1.1 a.2.1.2.1 m) (hm : 50 ≤ m) (hn : NmP a.1.2.1) : Ev (f120v0 a) (fun r => RD r.2.1.1 r.2.1.2.1 (m - 50) ∧ ShP ⟨r.2.2.2.2.1.1, r.2.2.2.2.1.2.1, r.2.2.1, r.2.2.2.1⟩ ∧ (r.2.2.1 : List Need).length ≤ 1) := by
 unfold f120v0
 refine Ev.bind (jzY _ m h (by omega)) fun r1 h1 => ?_
 refine Ev.bind (v_l11Tree _ _ h1.1 (by omega)) fun r2 h2 => ?_
 refine Ev.bind (v_of _ _ h2.1 (by omega) (by simp)) fun r3 h3 => ?_
 have hg : (r3.1.2.1 : Str).length ≤ 200 ∧ NoBr r3.1.2.1 := by
  have := h3.2
  simp only [List.mem_cons, List.not_mem_nil, or_false] at this
  rcases this with e | e | e | e | e
  all_goals (rw [e]; exact ⟨by decide, by decide⟩)
 refine Ev.bind (v_TreePart ((r2.2.2.1, (r3.1.2.1, ())), ()) h2.2 hg.1 hg.2) fun r4 h4 => ?_
 refine Ev.bind (jqK _ _ h3.1 (by omega)) fun r5 h5 => ?_
 have ht : (r4.2.1 : List Entry).length ≤ 17 ∧ ∀ e, e ∈ (r4.2.1 : List Entry) → ShE e := ⟨Nat.le_succ_of_le h4.1, h4.2⟩
 refine Ev.ite (fun _ => ?_) fun _ => Ev.ret ⟨h5.1.less (by omega), ⟨hn, h1.2, ⟨by show (0 : Nat) ≤ 3; decide, fun n hn => by cases hn⟩, ht⟩, by show (0 : Nat) ≤ 1; decide⟩
 refine Ev.bind (v_l11Need _ _ h5.1 (by omega)) fun r6 h6 => ?_
 refine Ev.eq (jqd (by decide) (by unfold Sm; simp)) ?_
 refine Ev.ret ⟨h6.1.less (by omega), ⟨hn, h1.2, ⟨by show (1 : Nat) ≤ 3; decide, fun n hn => ?_⟩, ht⟩, by show (1 : Nat) ≤ 1; decide⟩
 have hn : n ∈ ([] : List Need) ++ [_] := hn
 rw [List.nil_append, List.mem_singleton] at hn
 rw [hn]; exact h6.2
abbrev ShR (k : Nat) (ps : List Pack) : Prop := ps.length ≤ k ∧ ∀ p, p ∈ ps → ShP p
theorem ShR.ok {k : Nat} {ps : List Pack} (h : ShR k ps) : OkR k ps := ⟨h.1, fun p hp => (h.2 p hp).ok⟩
theorem inL_sh {k : Nat} {ps : List Pack} {p : Pack} (h : ShR k ps) (hp : ShP p) : ShR (k + 1) (inL ps p).1 := by
 have h' : ShR (k + 1) ps := ⟨Nat.le_succ_of_le h.1, h.2⟩
 unfold inL
 cases jxM p with
 | false => exact h'
 | true =>
  simp only [cond_true]
  cases ps.find? (fun q => q.name == p.name) with
  | some q => exact h'
  | none =>
   simp only
   cases jxc (jqe ps p) == 0 with
   | false => exact h'
   | true =>
    refine ⟨by show (jqe ps p).length ≤ k + 1; rw [withL_len]; exact Nat.succ_le_succ h.1, fun x hx => ?_⟩
    rcases withL_mem hx with rfl | hx
    ·exact hp
    ·exact h.2 x hx
theorem v_l11Root (a) (m : Nat) (h : RD a.2.1.1 a.2.1.2.1 m) (hm : 300 ≤ m) : Ev (f90v0 a) (fun r => RD r.2.1.1 r.2.1.2.1 (m - 300) ∧ ShR 4 r.2.2.1.1) := by
 unfold f90v0
 refine Ev.bind (jqK _ m h (by omega)) fun r1 h1 => ?_
 obtain ⟨⟨v1, (q : Int), v2⟩, ⟨⟨(b1 : List Int), (p1 : Int), v3⟩, v4⟩⟩ := r1
 have hn : q < 5 := h1.2.2 (by show (1 : Int) ≤ 5; decide)
 have h0 : 0 ≤ q := h1.2.1
 refine Ev.bind (P := fun r => RD r.2.1.1 r.2.1.2.1 (m - 300) ∧ ShR 4 r.2.2.2.2.1.1) ?_ fun r hr => Ev.ret hr
 refine Ev.loop (fun (k : Nat) y => k ≤ 4 ∧ (y.1.2.2.2.1 : Int) = k ∧ RD y.2.1.1 y.2.1.2.1 (m - 300 + 55 * k) ∧ ShR (4 - k) y.2.2.2.2.1.1) (fun k y hy => ?_) q.toNat _ ⟨by omega, by show q = _; omega, h1.1.less (by omega), by show (0 : Nat) ≤ _; omega, fun p hp => by cases hp⟩
 obtain ⟨⟨w1, w2, w3, (i : Int), w4⟩, ⟨⟨(b' : List Int), (p' : Int), w5⟩, w6, w7, ⟨(ps : List Pack), w8⟩, w9⟩⟩ := y
 obtain ⟨y1, y3, y5, y6⟩ := hy
 have y3 : i = k := y3
 subst y3
 have y5 : RD b' p' (m - 300 + 55 * k) := y5
 have y6 : ShR (4 - k) ps := y6
 unfold g90v0_58
 refine Ev.ite (fun hc => ?_) fun hc => Ev.ret ⟨y5.less (by omega), Nat.le_trans y6.1 (by omega), y6.2⟩
 have hc : (k : Int) > 0 := of_decide_eq_true hc
 have hw : IntKind.i64.wrap ((k : Int) - 1) = ((k - 1 : Nat) : Int) := by rw [jjH (by omega) (by omega)]; omega
 refine Ev.bind (v_of _ _ y5 (by omega) (by simp)) fun r2 h2 => ?_
 refine Ev.bind (v_l11Pack _ _ h2.1 (by omega) (nm_all (by rfl) h2.2)) fun r3 h3 => ?_
 refine Ev.eq (v_l9In (((ps, ()), ((r3.2.2.2.2.1.1, (r3.2.2.2.2.1.2.1, (r3.2.2.1, (r3.2.2.2.1, ())))), ())), ()) (4 - k) (by omega) y6.ok h3.2.1.ok) ?_
 refine Ev.ret ⟨k - 1, by omega, by omega, hw, h3.1.less (by omega), ?_⟩
 have := inL_sh y6 h3.2.1
 exact ⟨Nat.le_trans this.1 (by omega), this.2⟩
theorem jzZ (a) (m : Nat) (h : RD a.2.1.1 a.2.1.2.1 m) (hm : 2 ≤ m) : Ev (f121v0 a) (fun r => RD r.2.1.1 r.2.1.2.1 (m - 2) ∧ Sh r.1.2.1) := by
 unfold f121v0
 refine Ev.bind (jqK _ m h (by omega)) fun r1 h1 => ?_
 refine Ev.ite (fun _ => ?_) fun _ => ?_
 ·exact Ev.bind (v_of _ _ h1.1 (by omega) (by simp)) fun r hr => Ev.ret ⟨hr.1.less (by omega), sh_all (by rfl) hr.2⟩
 ·exact Ev.bind (jzY _ _ h1.1 (by omega)) fun r hr => Ev.ret ⟨hr.1.less (by omega), hr.2⟩
theorem v_l11AnyPath (a) (m : Nat) (h : RD a.2.1.1 a.2.1.2.1 m) (hm : 2 ≤ m) : Ev (f107v0 a) (fun r => RD r.2.1.1 r.2.1.2.1 (m - 2) ∧ Sh r.1.2.1) := by
 unfold f107v0
 refine Ev.bind (jqK _ m h (by omega)) fun r1 h1 => ?_
 refine Ev.ite (fun _ => ?_) fun _ => ?_
 ·exact Ev.bind (v_of _ _ h1.1 (by omega) (by simp)) fun r hr => Ev.ret ⟨hr.1.less (by omega), sh_all (by rfl) hr.2⟩
 ·exact Ev.bind (v_l11Path _ _ h1.1 (by omega)) fun r hr => Ev.ret ⟨hr.1.less (by omega), hr.2⟩
theorem v_l11AnyNeed (a) (m : Nat) (h : RD a.2.1.1 a.2.1.2.1 m) (hm : 7 ≤ m) : Ev (f122v0 a) (fun r => RD r.2.1.1 r.2.1.2.1 (m - 7) ∧ ShN ⟨r.2.2.1.1, r.2.2.1.2.1, r.2.2.1.2.2.1⟩) := by
 unfold f122v0
 refine Ev.bind (v_l11Need _ m h (by omega)) fun r1 h1 => ?_
 refine Ev.bind (jqK _ _ h1.1 (by omega)) fun r2 h2 => ?_
 refine Ev.ite (fun _ => ?_) fun _ => Ev.ite (fun _ => ?_) fun _ => Ev.ite (fun _ => ?_) fun _ => ?_
 ·exact Ev.bind (v_of _ _ h2.1 (by omega) (by simp)) fun r hr => Ev.ret ⟨hr.1.less (by omega), sh_all (by rfl) hr.2, h1.2.2⟩
 ·exact Ev.bind (jqK _ _ h2.1 (by omega)) fun r hr => Ev.ret ⟨hr.1.less (by omega), h1.2⟩
 ·exact Ev.bind (jzZ _ _ h2.1 (by omega)) fun r hr => Ev.ret ⟨hr.1.less (by omega), h1.2.1, hr.2⟩
 ·exact Ev.ret ⟨h2.1.less (by omega), h1.2⟩
theorem v_l11AnyEntry (a) (m : Nat) (h : RD a.2.1.1 a.2.1.2.1 m) (hm : 8 ≤ m) : Ev (f170v0 a) (fun r => RD r.2.1.1 r.2.1.2.1 (m - 8) ∧ ShE ⟨r.2.2.1.1, r.2.2.1.2.1, r.2.2.1.2.2.1, r.2.2.1.2.2.2.1⟩) := by
 unfold f170v0
 refine Ev.bind (v_l11Entry _ m h (by omega)) fun r1 h1 => ?_
 refine Ev.bind (jqK _ _ h1.1 (by omega)) fun r2 h2 => ?_
 refine Ev.ite (fun _ => ?_) fun _ => Ev.ite (fun _ => ?_) fun _ => Ev.ite (fun _ => ?_) fun _ => Ev.ite (fun _ => ?_) fun _ => ?_
 ·exact Ev.bind (v_l11AnyPath _ _ h2.1 (by omega)) fun r hr => Ev.ret ⟨hr.1.less (by omega), hr.2, h1.2.2⟩
 ·exact Ev.bind (jqK _ _ h2.1 (by omega)) fun r hr => Ev.ret ⟨hr.1.less (by omega), h1.2⟩
 ·exact Ev.bind (v_one _ _ h2.1 (by omega) (by simp)) fun r hr => Ev.ret ⟨hr.1.less (by omega), h1.2⟩
 ·refine Ev.bind (v_l1Many _ (by simp) (by show (0 : Int) ≤ 81; decide) (by show (81 : Int) ≤ 127; decide)) fun q hq => ?_
  refine Ev.bind (v_of _ _ h2.1 (by omega) (by simp)) fun r hr => Ev.ret ⟨hr.1.less (by omega), h1.2.1, ?_⟩
  have := hr.2
  simp only [List.mem_cons, List.not_mem_nil, or_false] at this
  rcases this with e | e | e | e
  ·show (r.1.2.1 : Str).length ≤ 200; rw [e]; decide
  ·show (r.1.2.1 : Str).length ≤ 200; rw [e]; exact hq
  ·show (r.1.2.1 : Str).length ≤ 200; rw [e]; decide
  ·show (r.1.2.1 : Str).length ≤ 200; rw [e]; decide
 ·exact Ev.ret ⟨h2.1.less (by omega), h1.2⟩
abbrev ShT' (t : List Entry) : Prop := t.length ≤ 17 ∧ ∀ e, e ∈ t → ShE e
theorem v_l11AnyTree (a) (m : Nat) (h : RD a.2.1.1 a.2.1.2.1 m) (hm : 50 ≤ m) : Ev (f124v0 a) (fun r => RD r.2.1.1 r.2.1.2.1 (m - 50) ∧ ShT' r.2.2.1) := by
 unfold f124v0
 refine Ev.bind (v_l11Tree _ m h (by omega)) fun r1 h1 => ?_
 obtain ⟨u0, ⟨u1, (t : List Entry), u2⟩⟩ := r1
 have ht : ShT t := h1.2
 have htl := ht.1
 refine Ev.eq (v_l2Copy ((t, ()), ()) (by show t.length ≤ 2097152; omega)) ?_
 refine Ev.bind (jqK _ _ h1.1 (by omega)) fun r2 h2 => ?_
 have ht' : ShT' t := ⟨Nat.le_succ_of_le ht.1, ht.2⟩
 refine Ev.ite (fun _ => ?_) fun _ => Ev.ite (fun _ => ?_) fun _ => Ev.ret ⟨h2.1.less (by omega), ht'⟩
 ·refine Ev.bind (v_l11AnyEntry _ _ h2.1 (by omega)) fun r3 h3 => ?_
  refine Ev.eq (jqd (xs := t) (by decide) (by unfold Sm; simp; omega)) ?_
  refine Ev.ret ⟨h3.1.less (by omega), by show (t ++ [_]).length ≤ 17; simp; omega, fun e he => ?_⟩
  have he : e ∈ t ++ [_] := he
  rcases List.mem_append.1 he with he | he
  ·exact ht.2 e he
  ·rw [List.mem_singleton.1 he]; exact h3.2
 ·refine Ev.ite (fun hc => ?_) fun _ => Ev.ret ⟨h2.1.less (by omega), ht'⟩
  have hc : (t.length : Int) > 0 := of_decide_eq_true hc
  refine Ev.bind (jqK _ _ h2.1 (by omega)) fun r3 h3 => ?_
  obtain ⟨⟨v1, (q : Int), v2⟩, v3⟩ := r3
  have hq0 : 0 ≤ q := h3.2.1
  have hq1 : q < (t.length : Int) := h3.2.2 (by show (1 : Int) ≤ (t.length : Int); omega)
  obtain ⟨j, rfl⟩ := Int.eq_ofNat_of_zero_le hq0
  have hj : j < t.length := by omega
  refine Ev.bind (v_l11AnyEntry _ _ h3.1 (by omega)) fun r4 h4 => ?_
  refine Ev.eq (jzy (n := t.length) (i := j) hj) ?_
  refine Ev.eq (x := Entry.mk r4.2.2.1.1 r4.2.2.1.2.1 r4.2.2.1.2.2.1 r4.2.2.1.2.2.2.1) (by show (t[j]?).bind _ = _; rw [List.getElem?_eq_getElem hj]; rfl) ?_
  exact Ev.ret ⟨h4.1.less (by omega), by show (t.set _ _).length ≤ 17; rw [List.length_set]; omega, shE_set ht.2 h4.2⟩
theorem v_l11AnyPack (a) (m : Nat) (h : RD a.2.1.1 a.2.1.2.1 m) (hm : 110 ≤ m) : Ev (f64v0 a) (fun r => RD r.2.1.1 r.2.1.2.1 (m - 110) ∧ ShP ⟨r.2.2.2.2.1.1, r.2.2.2.2.1.2.1, r.2.2.1, r.2.2.2.1⟩) := by
 unfold f64v0
 refine Ev.bind (v_of _ m h (by omega) (by simp)) fun r1 h1 => ?_
 refine Ev.bind (v_l11Pack _ _ h1.1 (by omega) (nm_all (by rfl) h1.2)) fun r2 h2 => ?_
 obtain ⟨hp1, hp2, hp3, hp4⟩ := h2.2.1
 refine Ev.bind (jqK _ _ h2.1 (by omega)) fun r3 h3 => ?_
 refine Ev.ite (fun _ => ?_) fun _ => Ev.ite (fun _ => ?_) fun _ => Ev.ite (fun _ => ?_) fun _ => Ev.ite (fun _ => ?_) fun _ => ?_
 ·exact Ev.bind (v_of _ _ h3.1 (by omega) (by simp)) fun r hr => Ev.ret ⟨hr.1.less (by omega), nm_all (by rfl) hr.2, hp2, hp3, hp4⟩
 ·exact Ev.bind (jzZ _ _ h3.1 (by omega)) fun r hr => Ev.ret ⟨hr.1.less (by omega), hp1, hr.2, hp3, hp4⟩
 ·refine Ev.bind (v_l11AnyNeed _ _ h3.1 (by omega)) fun r4 h4 => ?_
  refine Ev.bind (v_l11Need _ _ h4.1 (by omega)) fun r5 h5 => ?_
  have hl := h2.2.2
  refine Ev.eq (jqd (xs := (r2.2.2.1 : List Need)) (by decide) (by unfold Sm; simp; omega)) ?_
  refine Ev.ret ⟨h5.1.less (by omega), hp1, hp2, ⟨by show ((r2.2.2.1 : List Need) ++ [_, _]).length ≤ 3; simp; omega, fun n hn => ?_⟩, hp4⟩
  have hn : n ∈ (r2.2.2.1 : List Need) ++ [_, _] := hn
  rcases List.mem_append.1 hn with hn | hn
  ·exact hp3.2 n hn
  ·simp only [List.mem_cons, List.not_mem_nil, or_false] at hn
   rcases hn with rfl | rfl
   ·exact h4.2
   ·exact h5.2
 ·exact Ev.bind (v_l11AnyTree _ _ h3.1 (by omega)) fun r hr => Ev.ret ⟨hr.1.less (by omega), hp1, hp2, hp3, hr.2⟩
 ·exact Ev.ret ⟨h3.1.less (by omega), hp1, hp2, hp3, hp4⟩
theorem v_l11AnyRoot (a) (m : Nat) (h : RD a.2.1.1 a.2.1.2.1 m) (hm : 500 ≤ m) : Ev (f47v0 a) (fun r => RD r.2.1.1 r.2.1.2.1 (m - 500) ∧ ShR 5 r.2.2.1.1) := by
 unfold f47v0
 refine Ev.bind (v_l11Root _ m h (by omega)) fun r1 h1 => ?_
 obtain ⟨u0, ⟨u1, ⟨(ps : List Pack), u2⟩, u3⟩⟩ := r1
 have hr : ShR 4 ps := h1.2
 have hrl := hr.1
 refine Ev.eq (v_l9Copy (((ps, ()), ()), ()) (hr.ok.bd (by decide))) ?_
 refine Ev.bind (jqK _ _ h1.1 (by omega)) fun r2 h2 => ?_
 have hr' : ShR 5 ps := ⟨Nat.le_succ_of_le hr.1, hr.2⟩
 refine Ev.ite (fun _ => ?_) fun _ => Ev.ite (fun _ => ?_) fun _ => Ev.ret ⟨h2.1.less (by omega), hr'⟩
 ·refine Ev.bind (v_l11AnyPack _ _ h2.1 (by omega)) fun r3 h3 => ?_
  refine Ev.eq (jqd (xs := ps) (by decide) (by unfold Sm; simp; omega)) ?_
  refine Ev.ret ⟨h3.1.less (by omega), by show (ps ++ [_]).length ≤ 5; simp; omega, fun e he => ?_⟩
  have he : e ∈ ps ++ [_] := he
  rcases List.mem_append.1 he with he | he
  ·exact hr.2 e he
  ·rw [List.mem_singleton.1 he]; exact h3.2
 ·refine Ev.ite (fun hc => ?_) fun _ => Ev.ret ⟨h2.1.less (by omega), hr'⟩
  have hc : (ps.length : Int) > 0 := of_decide_eq_true hc
  refine Ev.eq (jxB (xs := ps) (a := 1) (by omega)) ?_
  exact Ev.ret ⟨h2.1.less (by omega), by show (ps.drop 1).length ≤ 5; rw [List.length_drop]; omega, fun e he => hr.2 e (List.mem_of_mem_drop he)⟩
def getL (t : List Entry) (p : Str) : Option Entry := match t[jj1 t p]? with
 | some e => bif e.path == p then some e else none
 | none => none
theorem getL_at {t : List Entry} {p : Str} {e : Entry} (h : getL t p = some e) : t[jj1 t p]? = some e ∧ e.path = p := by
 unfold getL at h
 cases ht : t[jj1 t p]? with
 | none => rw [ht] at h; cases h
 | some x =>
  rw [ht] at h
  cases hx : (x.path == p) with
  | false => simp [hx] at h
  | true => simp only [hx, cond_true, Option.some.injEq] at h; subst h; exact ⟨rfl, eq_of_beq hx⟩
theorem pos_of {t : List Entry} (ha : Asc t) {k : Nat} {e : Entry} (h : t[k]? = some e) : jj1 t e.path = k := by
 have h1 := jqq (p := e.path) ha k e h
 have h2 : Op.bytesLess e.path e.path = false := jJz _
 rw [h1] at h2
 have h2 : ¬ k < jj1 t e.path := of_decide_eq_false h2
 rcases Nat.lt_or_ge (jj1 t e.path) k with h3 | h3
 ·exfalso
  have h4 : jj1 t e.path < t.length := Nat.lt_trans h3 (jjy h)
  have h5 := List.getElem?_eq_getElem h4
  have h6 := jqq (p := e.path) ha (jj1 t e.path) t[jj1 t e.path] h5
  have h7 : Op.bytesLess (t[jj1 t e.path]).path e.path = true := by
   have hp := List.pairwise_iff_getElem.1 ha (jj1 t e.path) k h4 (jjy h) h3
   have : t[k]'(jjy h) = e := by
    have := List.getElem?_eq_getElem (jjy h)
    rw [h] at this
    exact (Option.some.inj this).symm
   rw [this] at hp
   exact hp
  rw [h7] at h6
  have := of_decide_eq_true h6.symm
  omega
 ·omega
theorem jqz {t : List Entry} (ha : Asc t) {p : Str} {e : Entry} : getL t p = some e ↔ e ∈ t ∧ e.path = p := by
 constructor
 ·intro h
  obtain ⟨h1, h2⟩ := getL_at h
  exact ⟨List.mem_of_getElem? h1, h2⟩
 ·rintro ⟨h1, rfl⟩
  obtain ⟨k, hk⟩ := List.mem_iff_getElem?.1 h1
  have := pos_of ha hk
  unfold getL
  rw [this, hk]
  simp
theorem eqE_eq {a b : Entry} (h : eqE a b = true) : a = b := by
 unfold eqE at h
 simp only [Bool.and_eq_true, beq_iff_eq] at h
 obtain ⟨h1, h2, h3, h4⟩ := h
 cases a; cases b
 simp only at h1 h2 h3 h4
 subst h1 h2 h3 h4
 rfl
theorem eqE_refl (a : Entry) : eqE a a = true := by unfold eqE; simp
theorem insAt_in {t : List Entry} {k : Nat} {e x : Entry} : x ∈ jJn t k e ↔ x = e ∨ x ∈ t := by
 constructor
 ·exact insAt_mem
 ·unfold jJn
  intro h
  rcases h with rfl | h
  ·simp
  ·have : x ∈ t.take k ++ t.drop k := by rw [List.take_append_drop]; exact h
   simp only [List.mem_append, List.mem_singleton] at this ⊢
   rcases this with h | h
   ·exact .inl (.inl h)
   ·exact .inr h
theorem stepJ_in {out o : List Entry} {e : Entry} (h : jxC out e = some o) (x : Entry) : x ∈ o ↔ x = e ∨ x ∈ out := by
 unfold jxC at h
 split at h
 ·rename_i q hq
  cases hp : (q.path == e.path) with
  | true =>
   rw [hp] at h
   cases hc : conf e q with
   | true => rw [hc] at h; cases h
   | false =>
    rw [hc] at h
    cases h
    have : eqE e q = true := by
     unfold conf at hc
     simp only [Bool.or_eq_false_iff, Bool.not_eq_false'] at hc
     exact hc.2
    have := eqE_eq this
    subst this
    constructor
    ·exact .inr
    ·rintro (rfl | h)
     ·exact List.mem_of_getElem? hq
     ·exact h
  | false => rw [hp] at h; cases h; exact insAt_in
 ·cases h; exact insAt_in
theorem joinL_in : ∀ {es out o : List Entry}, jq8 out es = some o → ∀ x, x ∈ o ↔ x ∈ out ∨ x ∈ es := by
 intro es
 induction es with
 | nil => intro out o h x; simp only [jq8, Option.some.injEq] at h; subst h; simp
 | cons e r ih =>
  intro out o h x
  rw [jqH] at h
  obtain ⟨o1, h1, h2⟩ := Option.bind_eq_some_iff.1 h
  rw [ih h2, stepJ_in h1, List.mem_cons]
  constructor
  ·rintro ((h | h) | h)
   ·exact .inr (.inl h)
   ·exact .inl h
   ·exact .inr (.inr h)
  ·rintro (h | h | h)
   ·exact .inl (.inr h)
   ·exact .inl (.inl h)
   ·exact .inr h
theorem joinL_dir : ∀ {es out o : List Entry}, Asc out → jq8 out es = some o → ∀ x, x ∈ es → ∀ y, y ∈ out → y.path = x.path → x.kind = 1 := by
 intro es
 induction es with
 | nil => intro out o _ _ x hx; cases hx
 | cons e r ih =>
  intro out o ha h x hx y hy hp
  rw [jqH] at h
  obtain ⟨o1, h1, h2⟩ := Option.bind_eq_some_iff.1 h
  rcases List.mem_cons.1 hx with rfl | hx
  ·have hg : getL out x.path = some y := (jqz ha).2 ⟨hy, hp⟩
   have hq := (getL_at hg).1
   unfold jxC at h1
   rw [hq] at h1
   simp only [hp, beq_self_eq_true, cond_true] at h1
   cases hc : conf x y with
   | true => rw [hc] at h1; cases h1
   | false =>
    unfold conf at hc
    simp only [Bool.or_eq_false_iff, bne_eq_false_iff_eq] at hc
    exact hc.1
  ·exact ih (stepJ_asc ha h1) h2 x hx y ((stepJ_in h1 y).2 (.inr hy)) hp
theorem joinL_asc : ∀ {es out o : List Entry}, Asc out → jq8 out es = some o → Asc o := by
 intro es
 induction es with
 | nil => intro out o ha h; simp only [jq8, Option.some.injEq] at h; subst h; exact ha
 | cons e r ih =>
  intro out o ha h
  rw [jqH] at h
  obtain ⟨o1, h1, h2⟩ := Option.bind_eq_some_iff.1 h
  exact ih (stepJ_asc ha h1) h2
theorem treesL_in : ∀ {ps : List Pack} {out t : List Entry}, jjX out ps = some t → ∀ x, x ∈ t ↔ x ∈ out ∨ ∃ p, p ∈ ps ∧ x ∈ p.tree := by
 intro ps
 induction ps with
 | nil => intro out t h x; simp only [jjX, Option.some.injEq] at h; subst h; simp
 | cons p r ih =>
  intro out t h x
  rw [jqV] at h
  obtain ⟨o, h1, h2⟩ := Option.bind_eq_some_iff.1 h
  rw [ih h2, joinL_in (stepT_ok h1).2]
  constructor
  ·rintro ((h | h) | ⟨q, h, h'⟩)
   ·exact .inl h
   ·exact .inr ⟨p, List.mem_cons_self, h⟩
   ·exact .inr ⟨q, List.mem_cons_of_mem _ h, h'⟩
  ·rintro (h | ⟨q, h, h'⟩)
   ·exact .inl (.inl h)
   ·rcases List.mem_cons.1 h with rfl | h
    ·exact .inl (.inr h')
    ·exact .inr ⟨q, h, h'⟩
theorem treesL_ok : ∀ {ps : List Pack} {out t : List Entry}, jjP out = true → jjX out ps = some t → jjP t = true := by
 intro ps
 induction ps with
 | nil => intro out t ho h; simp only [jjX, Option.some.injEq] at h; subst h; exact ho
 | cons p r ih =>
  intro out t ho h
  rw [jqV] at h
  obtain ⟨o, h1, h2⟩ := Option.bind_eq_some_iff.1 h
  exact ih (stepT_ok h1).1 h2
def cntP (path : Str) (ps : List Pack) : Nat := (ps.filter fun p => (getL p.tree path).isSome).length
theorem cntP_cons (path : Str) (p : Pack) (ps : List Pack) : cntP path (p :: ps) = (if (getL p.tree path).isSome then 1 else 0) + cntP path ps := by
 unfold cntP
 rw [List.filter_cons]
 by_cases h : (getL p.tree path).isSome = true
 ·simp [h]; omega
 ·simp [h]
theorem treesL_dir : ∀ {ps : List Pack} {out t : List Entry} {path : Str} {e : Entry}, (∀ p, p ∈ ps → Asc p.tree) → jjP out = true → jjX out ps = some t → getL t path = some e →
  ((∃ y, y ∈ out ∧ y.path = path) → 1 ≤ cntP path ps → e.kind = 1) ∧ (2 ≤ cntP path ps → e.kind = 1) := by
 intro ps
 induction ps with
 | nil => intro out t path e _ _ _ _; exact ⟨fun _ h => by simp [cntP] at h, fun h => by simp [cntP] at h⟩
 | cons p r ih =>
  intro out t path e hA ho h he
  have h' := h
  rw [jqV] at h
  obtain ⟨o, h1, h2⟩ := Option.bind_eq_some_iff.1 h
  obtain ⟨g1, g2⟩ := stepT_ok h1
  have hAt := jj5 (treesL_ok ho h')
  obtain ⟨i1, i2⟩ := ih (fun q hq => hA q (List.mem_cons_of_mem _ hq)) g1 h2 he
  rw [cntP_cons]
  have same : ∀ x, getL p.tree path = some x → x = e ∧ x ∈ p.tree ∧ x.path = path := fun x hx => by
   obtain ⟨k1, k2⟩ := (jqz (hA p List.mem_cons_self)).1 hx
   have : getL t path = some x := (jqz hAt).2 ⟨(treesL_in h' x).2 (.inr ⟨p, List.mem_cons_self, k1⟩), k2⟩
   rw [he] at this
   exact ⟨(Option.some.inj this).symm, k1, k2⟩
  cases hg : getL p.tree path with
  | none =>
   simp only [Option.isSome_none, Bool.false_eq_true, if_false, Nat.zero_add]
   exact ⟨fun ⟨y, hy, hyp⟩ hc => i1 ⟨y, (joinL_in g2 y).2 (.inl hy), hyp⟩ hc, i2⟩
  | some x =>
   obtain ⟨rfl, k1, k2⟩ := same x hg
   simp only [Option.isSome_some, if_true]
   exact ⟨fun ⟨y, hy, hyp⟩ _ => joinL_dir (jj5 ho) g2 x k1 y hy (hyp.trans k2.symm), fun hc => i1 ⟨x, (joinL_in g2 x).2 (.inr k1), k2⟩ (by omega)⟩
structure Rt (ps : List Pack) (t : List Entry) : Prop where
 tree : jjX [] ps = some t
 packs : ps.all jxM = true
 asc : ps.Pairwise fun p q => Op.bytesLess p.name q.name = true
theorem rt_of {ps : List Pack} (h : jqG ps = true) : ∃ t, Rt ps t := by
 unfold jqG at h
 simp only [Bool.and_eq_true] at h
 obtain ⟨⟨⟨⟨h1, h2⟩, h3⟩, h4⟩, h5⟩ := h
 obtain ⟨t, ht⟩ := Option.isSome_iff_exists.1 h5
 exact ⟨t, ht, h1, ascP_of h2⟩
section
variable {ps : List Pack} {t : List Entry} (R : Rt ps t)
include R
theorem Rt.ok : jjP t = true := treesL_ok (by rfl) R.tree
theorem Rt.pk {p : Pack} (h : p ∈ ps) : jzO p.name = true ∧ jjP p.tree = true := by
 have := List.all_eq_true.1 R.packs p h
 unfold jxM at this
 simp only [Bool.and_eq_true] at this
 exact ⟨this.1.1.1, this.2⟩
theorem Rt.tr {p : Pack} (h : p ∈ ps) : Asc p.tree := jj5 (R.pk h).2
theorem Rt.up {p : Pack} (h : p ∈ ps) {path : Str} {e : Entry} (he : getL p.tree path = some e) : getL t path = some e := by
 obtain ⟨k1, k2⟩ := (jqz (R.tr h)).1 he
 exact (jqz (jj5 R.ok)).2 ⟨(treesL_in R.tree e).2 (.inr ⟨p, h, k1⟩), k2⟩
theorem Rt.dir {path : Str} {e : Entry} (he : getL t path = some e) (hc : 2 ≤ cntP path ps) : e.kind = 1 := (treesL_dir (fun p hp => R.tr hp) (by rfl) R.tree he).2 hc
end
noncomputable def c15 : Ctx := { tt := tt, fs := fun n => match n with | 47 => some S47v0 | _ => none, op := fun n => match n with | 48 => true | _ => false }
theorem k15 (h : ∀ T, (tt T).ok Tryz.prog T) (h47v0 : jja Tryz.prog 47 S47v0) (hO : OpenOk Tryz.prog 48) : CtxGood Tryz.prog c15 := ⟨⟨h⟩, fun g S hg => (by
 simp only [c15] at hg
 split at hg
 ·cases hg; exact h47v0
 ·cases hg), jjq, fun _ _ h => (by cases h), fun g hg => (by
 simp only [c15] at hg
 split at hg
 ·exact hO
 ·cases hg)⟩
noncomputable def b15 : Code := jjh Tryz.f15
@[reducible] noncomputable def i15 : Shape := ⟨[(0, .lf (.d (.sl .u8)))], [], 6⟩
@[reducible] noncomputable def o15 : Shape := ⟨[(2, .lf (.ptr 2 0))], [(2, .box [.d (.sl .pack)], .same)], 6⟩
noncomputable def f15 (a : i15.Y) : Option o15.Y :=
(f47v0 (((), ()), (((a.1.1.take 2000), ((0 : Int), ())), ()))).bind fun r1312 =>
 some (((), ()), ((r1312.2.2.1.1, ()), ()))
theorem e15 : ∀ a, f15 a = jjp (jjd c15 []) b15 i15 o15 a := fun a => by kernel_rfl
noncomputable def S15 : jjG := jjf tt 6 i15 o15 [.cell 2 25] [] f15
theorem z15 (h : ∀ T, (tt T).ok Tryz.prog T) (h47v0 : jja Tryz.prog 47 S47v0) (hO : OpenOk Tryz.prog 48) : jja Tryz.prog 15 S15 :=
 have H := k15 h h47v0 hO
 jjj (fn := Tryz.f15) (fr := []) H (by kernel_rfl) (by kernel_rfl) (by kernel_rfl) (by kernel_rfl) (by kernel_rfl) jje (by kernel_rfl) (fun y => ⟨_, _, rfl, rfl, rfl⟩) e15
noncomputable def c17 : Ctx := { tt := tt, fs := fun n => match n with | _ => none }
theorem k17 (h : ∀ T, (tt T).ok Tryz.prog T) : CtxGood Tryz.prog c17 := ⟨⟨h⟩, fun g S hg => (by cases hg), jjq, fun _ _ h => (by cases h), fun _ h => (by cases h)⟩
noncomputable def b17 : Code := jjh Tryz.f17
@[reducible] noncomputable def s17_58 : Shape := ⟨[(0, .lf (.d (.sl .entry))), (1, .lf (.d (.sl .entry))), (5, .lf (.d (.int .i64)))], [], 26⟩
@[reducible] noncomputable def t17_58 : List OSh := [(.ret, ⟨[(4, .lf (.d (.bool)))], [], 26⟩), (.exit 0, ⟨[], [], 26⟩)]
noncomputable def g17_58 (y : s17_58.Y) : Option (Sum s17_58.Y (YS t17_58)) :=
 bif (decide (y.1.2.2.1 < (y.1.1.length : Int))) then
(ix y.1.1 y.1.2.2.1).bind fun x2106 =>
(ix y.1.2.1 y.1.2.2.1).bind fun x2107 =>
 bif (!((x2106.path == x2107.path) && ((x2106.kind == x2107.kind) && ((x2106.mode == x2107.mode) && (x2106.text == x2107.text))))) then
 some (.inr (.inl ((false, ()), ())))
else
 some (.inl ((y.1.1, (y.1.2.1, ((IntKind.i64.wrap (y.1.2.2.1 + (1 : Int))), ()))), ()))
else
 some (.inr (.inr ((), ())))
theorem r17_58 : ∀ y, g17_58 y = jjz (jjd c17 []) (jjl (jjc b17 1 58)) 58 s17_58 t17_58 y := fun y => by kernel_rfl
noncomputable def l17_58 : s17_58.Y → Option (YS t17_58) := jjD g17_58
theorem q17_58 (H : CtxGood Tryz.prog c17) : jjn Tryz.prog (jjc b17 1 58) (jjb s17_58 t17_58 l17_58) :=
 jjt (fr := []) H (by kernel_rfl) (by kernel_rfl) jje (fun y => jji r17_58 y)
@[reducible] noncomputable def i17 : Shape := ⟨[(0, .lf (.d (.sl .entry))), (1, .lf (.d (.sl .entry)))], [], 26⟩
@[reducible] noncomputable def o17 : Shape := ⟨[(4, .lf (.d (.bool)))], [], 26⟩
noncomputable def f17 (a : i17.Y) : Option o17.Y :=
 bif ((a.1.1.length : Int) != (a.1.2.1.length : Int)) then
 some ((false, ()), ())
else
(l17_58 ((a.1.1, (a.1.2.1, ((0 : Int), ()))), ())).bind fun r2108 =>
(match r2108 with
| .inl r2109 =>
 some ((r2109.1.1, ()), ())
| .inr r2110 =>
 some ((true, ()), ()))
theorem e17 : ∀ a, f17 a = jjp (jjd c17 [(58, jjb s17_58 t17_58 l17_58)]) b17 i17 o17 a := fun a => by kernel_rfl
noncomputable def S17 : jjG := jjf tt 26 i17 o17 [.tmp 4] [] f17
theorem z17 (h : ∀ T, (tt T).ok Tryz.prog T) : jja Tryz.prog 17 S17 :=
 have H := k17 h
 jjj (fn := Tryz.f17) (fr := [(58, jjb s17_58 t17_58 l17_58)]) H (by kernel_rfl) (by kernel_rfl) (by kernel_rfl) (by kernel_rfl) (by kernel_rfl) ⟨q17_58 H, trivial⟩ (by kernel_rfl) (fun y => ⟨_, _, rfl, rfl, rfl⟩) e17
theorem wf_sl {t : Ty} {xs : List (den t)} (h : WfD (.sl t xs)) : xs.length ≤ maxLen ∧ ∀ x, x ∈ xs → ∀ d, d ∈ enc t x → WfD d := by cases h; exact ⟨by assumption, by assumption⟩
theorem wf_bytes {xs : List Int} (h : WfD (.sl .u8 xs)) : ∀ x, x ∈ xs → 0 ≤ x ∧ x ≤ 255 := by
 intro x hx
 have := (wf_sl h).2 x hx (.int .u8 x) (by simp [enc])
 cases this with
 | int k n hw =>
  simp only [Lit.wf, Bool.and_eq_true, decide_eq_true_eq] at hw
  have h1 : (0 : Int) ≤ x := hw.1
  have h2 : x ≤ (255 : Int) := hw.2
  exact ⟨h1, h2⟩
theorem rd_code {code : List Int} (h : ∀ x, x ∈ code → 0 ≤ x ∧ x ≤ 255) : RD (code.take 2000) 0 1000000 :=
 ⟨by rw [List.length_take]; omega, fun x hx => h x (List.mem_of_mem_take hx), Int.le_refl _, by decide⟩
theorem jxz {α : Type} : ∀ (xs : List α) (i : Nat), jqu (fun _ _ => true) i xs = true := by
 intro xs
 induction xs with
 | nil => intro i; rfl
 | cons x r ih => intro i; simp only [jqu, ih, Bool.and_self]
theorem v_jsTree (a) (h : a.1.1 = a.1.2.1) (hl : Bd a.1.1.length) : f17 a = some ((true, ()), ()) := by
 obtain ⟨⟨xs, ys, u⟩, u'⟩ := a
 have h : xs = ys := h
 subst h
 have hs : xs.length ≤ 2097152 := hl
 have key : l17_58 ((xs, (xs, ((0 : Int), ()))), ()) = some (bif jqu (fun _ _ => true) 0 xs then .inr ((), ()) else .inl ((false, ()), ())) := by
  refine jjN g17_58 xs (fun i => ((xs, (xs, ((i : Int), ()))), ())) _ _ _ (fun i x hx => ?_) ?_
  ·have hi := jjy hx
   have hw : Sm i := by unfold Sm; omega
   simp only [g17_58, jjB hi, cond_true, jju, hx, Option.bind_some, beq_self_eq_true, Bool.and_self, Bool.not_true, cond_false, jjk hw]
  ·simp only [g17_58, jjC, cond_false]
 rw [jxz] at key
 have hb : ((xs.length : Int) != (xs.length : Int)) = false := by simp
 simp only [f17, hb, cond_false, key, cond_true, Option.bind_some]
theorem v_DrawRootTree (a) (h : RD (a.1.1.take 2000) 0 1000000) : Ev (f15 a) (fun r => ShR 5 r.2.1.1) := by
 unfold f15
 exact Ev.bind (v_l11AnyRoot _ 1000000 h (by decide)) fun r hr => Ev.ret hr.2
noncomputable def c115 : Ctx := { tt := tt, fs := fun n => match n with | 116 => some S116 | _ => none }
theorem k115 (h : ∀ T, (tt T).ok Tryz.prog T) (h116 : jja Tryz.prog 116 S116) : CtxGood Tryz.prog c115 := ⟨⟨h⟩, fun g S hg => (by
 simp only [c115] at hg
 split at hg
 ·cases hg; exact h116
 ·cases hg), jjq, fun _ _ h => (by cases h), fun _ h => (by cases h)⟩
noncomputable def b115 : Code := jjh Tryz.f115
@[reducible] noncomputable def i115 : Shape := ⟨[(0, .agg [.d (.str), .d (.str), .d (.sl .need), .d (.sl .entry)]), (1, .lf (.d (.str)))], [], 9⟩
@[reducible] noncomputable def o115 : Shape := ⟨[(4, .lf (.d (.int .i64)))], [], 9⟩
noncomputable def f115 (a : i115.Y) : Option o115.Y :=
(f116 ((a.1.1.1, (a.1.2.1, ())), ())).bind fun r1940 =>
 some ((r1940.1.1, ()), ())
theorem e115 : ∀ a, f115 a = jjp (jjd c115 []) b115 i115 o115 a := fun a => by kernel_rfl
noncomputable def S115 : jjG := jjf tt 9 i115 o115 [.tmp 4] [] f115
theorem z115 (h : ∀ T, (tt T).ok Tryz.prog T) (h116 : jja Tryz.prog 116 S116) : jja Tryz.prog 115 S115 :=
 have H := k115 h h116
 jjj (fn := Tryz.f115) (fr := []) H (by kernel_rfl) (by kernel_rfl) (by kernel_rfl) (by kernel_rfl) (by kernel_rfl) jje (by kernel_rfl) (fun y => ⟨_, _, rfl, rfl, rfl⟩) e115
noncomputable def c114v0 : Ctx := { tt := tt, fs := fun n => match n with | 115 => some S115 | _ => none }
theorem k114v0 (h : ∀ T, (tt T).ok Tryz.prog T) (h115 : jja Tryz.prog 115 S115) : CtxGood Tryz.prog c114v0 := ⟨⟨h⟩, fun g S hg => (by
 simp only [c114v0] at hg
 split at hg
 ·cases hg; exact h115
 ·cases hg), jjq, fun _ _ h => (by cases h), fun _ h => (by cases h)⟩
noncomputable def b114v0 : Code := jjh Tryz.f114
@[reducible] noncomputable def s114v0_60 : Shape := ⟨[(0, .lf (.d (.sl .pack))), (1, .lf (.d (.str))), (2, .lf (.fn 115 [])), (8, .lf (.d (.int .i64))), (9, .lf (.d (.int .i64))), (10, .lf (.d (.int .i64)))], [], 49⟩
@[reducible] noncomputable def jx3 : List OSh := [(.exit 0, ⟨[(0, .lf (.d (.sl .pack))), (1, .lf (.d (.str))), (2, .lf (.fn 115 [])), (8, .lf (.d (.int .i64))), (9, .lf (.d (.int .i64)))], [], 49⟩)]
noncomputable def jJt (y : s114v0_60.Y) : Option (Sum s114v0_60.Y (YS jx3)) :=
 bif (decide (y.1.2.2.2.2.1 < y.1.2.2.2.2.2.1)) then
(shrI .u64 (IntKind.u64.wrap (IntKind.i64.wrap (y.1.2.2.2.2.1 + y.1.2.2.2.2.2.1))) (1 : Int)).bind fun x1945 =>
(ix y.1.1 (IntKind.i64.wrap x1945)).bind fun x1948 =>
(f115 (((x1948.name, (x1948.version, (x1948.needs, (x1948.tree, ())))), (y.1.2.1, ())), ())).bind fun r1949 =>
 bif (decide (r1949.1.1 < (0 : Int))) then
 some (.inl ((y.1.1, (y.1.2.1, ((), (y.1.2.2.2.1, ((IntKind.i64.wrap ((IntKind.i64.wrap x1945) + (1 : Int))), (y.1.2.2.2.2.2.1, ())))))), ()))
else
 some (.inl ((y.1.1, (y.1.2.1, ((), (y.1.2.2.2.1, (y.1.2.2.2.2.1, ((IntKind.i64.wrap x1945), ())))))), ()))
else
 some (.inr (((y.1.1, (y.1.2.1, ((), (y.1.2.2.2.1, (y.1.2.2.2.2.1, ()))))), ())))
theorem r114v0_60 : ∀ y, jJt y = jjz (jjd c114v0 []) (jjl (jjc b114v0 1 60)) 60 s114v0_60 jx3 y := fun y => by kernel_rfl
noncomputable def jza : s114v0_60.Y → Option (YS jx3) := jjD jJt
theorem q114v0_60 (H : CtxGood Tryz.prog c114v0) : jjn Tryz.prog (jjc b114v0 1 60) (jjb s114v0_60 jx3 jza) :=
 jjt (fr := []) H (by kernel_rfl) (by kernel_rfl) jje (fun y => jji r114v0_60 y)
@[reducible] noncomputable def i114v0 : Shape := ⟨[(0, .lf (.d (.sl .pack))), (1, .lf (.d (.str))), (2, .lf (.fn 115 []))], [], 49⟩
@[reducible] noncomputable def o114v0 : Shape := ⟨[(6, .lf (.d (.int .i64))), (7, .lf (.d (.bool)))], [], 49⟩
noncomputable def f114v0 (a : i114v0.Y) : Option o114v0.Y :=
(jza ((a.1.1, (a.1.2.1, ((), ((a.1.1.length : Int), ((0 : Int), ((a.1.1.length : Int), ())))))), ())).bind fun r1953 =>
 bif (decide (r1953.1.2.2.2.2.1 < r1953.1.2.2.2.1)) then
(ix r1953.1.1 r1953.1.2.2.2.2.1).bind fun x1954 =>
(f115 (((x1954.name, (x1954.version, (x1954.needs, (x1954.tree, ())))), (r1953.1.2.1, ())), ())).bind fun r1955 =>
 some ((r1953.1.2.2.2.2.1, ((r1955.1.1 == (0 : Int)), ())), ())
else
 some ((r1953.1.2.2.2.2.1, (false, ())), ())
theorem e114v0 : ∀ a, f114v0 a = jjp (jjd c114v0 [(60, jjb s114v0_60 jx3 jza)]) b114v0 i114v0 o114v0 a := fun a => by kernel_rfl
noncomputable def S114v0 : jjG := jjf tt 49 i114v0 o114v0 [.tmp 6, .tmp 7] [] f114v0
theorem z114v0 (h : ∀ T, (tt T).ok Tryz.prog T) (h115 : jja Tryz.prog 115 S115) : jja Tryz.prog 114 S114v0 :=
 have H := k114v0 h h115
 jjj (fn := Tryz.f114) (fr := [(60, jjb s114v0_60 jx3 jza)]) H (by kernel_rfl) (by kernel_rfl) (by kernel_rfl) (by kernel_rfl) (by kernel_rfl) ⟨q114v0_60 H, trivial⟩ (by kernel_rfl) (fun y => ⟨_, _, rfl, rfl, rfl⟩) e114v0
noncomputable def c163 : Ctx := { tt := tt, fs := fun n => match n with | _ => none }
theorem k163 (h : ∀ T, (tt T).ok Tryz.prog T) : CtxGood Tryz.prog c163 := ⟨⟨h⟩, fun g S hg => (by cases hg), jjq, fun _ _ h => (by cases h), fun _ h => (by cases h)⟩
noncomputable def b163 : Code := jjh Tryz.f163
@[reducible] noncomputable def i163 : Shape := ⟨[(0, .lf (.d (.sl .need)))], [], 8⟩
@[reducible] noncomputable def o163 : Shape := ⟨[(2, .lf (.own 3000128))], [(3000128, .row .need, .slot 2 0)], 8⟩
noncomputable def f163 (a : i163.Y) : Option o163.Y :=
 jxj (t := .need) a.1.1 (some (((), ()), (([] : List Need), ()))) ((apd 40 ([] : List Need) a.1.1).bind fun x1915 =>
 some (((), ()), (x1915, ())))
theorem e163 : ∀ a, f163 a = jjp (jjd c163 []) b163 i163 o163 a := fun a => by kernel_rfl
noncomputable def S163 : jjG := jjf tt 8 i163 o163 [.tmp 2] [] f163
theorem z163 (h : ∀ T, (tt T).ok Tryz.prog T) : jja Tryz.prog 163 S163 :=
 have H := k163 h
 jjj (fn := Tryz.f163) (fr := []) H (by kernel_rfl) (by kernel_rfl) (by kernel_rfl) (by kernel_rfl) (by kernel_rfl) jje (by kernel_rfl) (fun y => ⟨_, _, rfl, rfl, rfl⟩) e163
noncomputable def c117 : Ctx := { tt := tt, fs := fun n => match n with | 145 => some S145 | 163 => some S163 | _ => none }
theorem k117 (h : ∀ T, (tt T).ok Tryz.prog T) (h145 : jja Tryz.prog 145 S145) (h163 : jja Tryz.prog 163 S163) : CtxGood Tryz.prog c117 := ⟨⟨h⟩, fun g S hg => (by
 simp only [c117] at hg
 split at hg
 ·cases hg; exact h145
 ·cases hg; exact h163
 ·cases hg), jjq, fun _ _ h => (by cases h), fun _ h => (by cases h)⟩
noncomputable def b117 : Code := jjh Tryz.f117
@[reducible] noncomputable def i117 : Shape := ⟨[(0, .agg [.d (.str), .d (.str), .d (.sl .need), .d (.sl .entry)])], [], 12⟩
@[reducible] noncomputable def o117 : Shape := ⟨[(2, .lf (.ptr 2 0))], [(5000130, .row .need, .cell 2 2), (5000131, .row .entry, .cell 2 3), (2, .box [.d (.str), .d (.str), .own 5000130, .own 5000131], .same)], 12⟩
noncomputable def f117 (a : i117.Y) : Option o117.Y :=
(f163 ((a.1.1.2.2.1, ()), ())).bind fun r1920 =>
(f145 ((a.1.1.2.2.2.1, ()), ())).bind fun r1921 =>
 some (((), ()), (r1920.2.1, (r1921.2.1, ((a.1.1.1, (a.1.1.2.1, ((), ((), ())))), ()))))
theorem e117 : ∀ a, f117 a = jjp (jjd c117 []) b117 i117 o117 a := fun a => by kernel_rfl
noncomputable def S117 : jjG := jjf tt 12 i117 o117 [.cell 2 37] [] f117
theorem z117 (h : ∀ T, (tt T).ok Tryz.prog T) (h145 : jja Tryz.prog 145 S145) (h163 : jja Tryz.prog 163 S163) : jja Tryz.prog 117 S117 :=
 have H := k117 h h145 h163
 jjj (fn := Tryz.f117) (fr := []) H (by kernel_rfl) (by kernel_rfl) (by kernel_rfl) (by kernel_rfl) (by kernel_rfl) jje (by kernel_rfl) (fun y => ⟨_, _, rfl, rfl, rfl⟩) e117
noncomputable def c166 : Ctx := { tt := tt, fs := fun n => match n with | _ => none }
theorem k166 (h : ∀ T, (tt T).ok Tryz.prog T) : CtxGood Tryz.prog c166 := ⟨⟨h⟩, fun g S hg => (by cases hg), jjq, fun _ _ h => (by cases h), fun _ h => (by cases h)⟩
noncomputable def b166 : Code := jjh Tryz.f166
@[reducible] noncomputable def s166_58 : Shape := ⟨[(0, .lf (.d (.sl .need))), (1, .lf (.d (.sl .need))), (5, .lf (.d (.int .i64)))], [], 26⟩
@[reducible] noncomputable def t166_58 : List OSh := [(.ret, ⟨[(4, .lf (.d (.bool)))], [], 26⟩), (.exit 0, ⟨[], [], 26⟩)]
noncomputable def g166_58 (y : s166_58.Y) : Option (Sum s166_58.Y (YS t166_58)) :=
 bif (decide (y.1.2.2.1 < (y.1.1.length : Int))) then
(ix y.1.1 y.1.2.2.1).bind fun x2094 =>
(ix y.1.2.1 y.1.2.2.1).bind fun x2095 =>
 bif (!((x2094.name == x2095.name) && ((x2094.kind == x2095.kind) && (x2094.version == x2095.version)))) then
 some (.inr (.inl ((false, ()), ())))
else
 some (.inl ((y.1.1, (y.1.2.1, ((IntKind.i64.wrap (y.1.2.2.1 + (1 : Int))), ()))), ()))
else
 some (.inr (.inr ((), ())))
theorem r166_58 : ∀ y, g166_58 y = jjz (jjd c166 []) (jjl (jjc b166 1 58)) 58 s166_58 t166_58 y := fun y => by kernel_rfl
noncomputable def l166_58 : s166_58.Y → Option (YS t166_58) := jjD g166_58
theorem q166_58 (H : CtxGood Tryz.prog c166) : jjn Tryz.prog (jjc b166 1 58) (jjb s166_58 t166_58 l166_58) :=
 jjt (fr := []) H (by kernel_rfl) (by kernel_rfl) jje (fun y => jji r166_58 y)
@[reducible] noncomputable def i166 : Shape := ⟨[(0, .lf (.d (.sl .need))), (1, .lf (.d (.sl .need)))], [], 26⟩
@[reducible] noncomputable def o166 : Shape := ⟨[(4, .lf (.d (.bool)))], [], 26⟩
noncomputable def f166 (a : i166.Y) : Option o166.Y :=
 bif ((a.1.1.length : Int) != (a.1.2.1.length : Int)) then
 some ((false, ()), ())
else
(l166_58 ((a.1.1, (a.1.2.1, ((0 : Int), ()))), ())).bind fun r2096 =>
(match r2096 with
| .inl r2097 =>
 some ((r2097.1.1, ()), ())
| .inr r2098 =>
 some ((true, ()), ()))
theorem e166 : ∀ a, f166 a = jjp (jjd c166 [(58, jjb s166_58 t166_58 l166_58)]) b166 i166 o166 a := fun a => by kernel_rfl
noncomputable def S166 : jjG := jjf tt 26 i166 o166 [.tmp 4] [] f166
theorem z166 (h : ∀ T, (tt T).ok Tryz.prog T) : jja Tryz.prog 166 S166 :=
 have H := k166 h
 jjj (fn := Tryz.f166) (fr := [(58, jjb s166_58 t166_58 l166_58)]) H (by kernel_rfl) (by kernel_rfl) (by kernel_rfl) (by kernel_rfl) (by kernel_rfl) ⟨q166_58 H, trivial⟩ (by kernel_rfl) (fun y => ⟨_, _, rfl, rfl, rfl⟩) e166
noncomputable def c119 : Ctx := { tt := tt, fs := fun n => match n with | 17 => some S17 | 166 => some S166 | _ => none }
theorem k119 (h : ∀ T, (tt T).ok Tryz.prog T) (h17 : jja Tryz.prog 17 S17) (h166 : jja Tryz.prog 166 S166) : CtxGood Tryz.prog c119 := ⟨⟨h⟩, fun g S hg => (by
 simp only [c119] at hg
 split at hg
 ·cases hg; exact h17
 ·cases hg; exact h166
 ·cases hg), jjq, fun _ _ h => (by cases h), fun _ h => (by cases h)⟩
noncomputable def b119 : Code := jjh Tryz.f119
@[reducible] noncomputable def i119 : Shape := ⟨[(0, .agg [.d (.str), .d (.str), .d (.sl .need), .d (.sl .entry)]), (1, .agg [.d (.str), .d (.str), .d (.sl .need), .d (.sl .entry)])], [], 31⟩
@[reducible] noncomputable def o119 : Shape := ⟨[(4, .lf (.d (.bool)))], [], 31⟩
noncomputable def f119 (a : i119.Y) : Option o119.Y :=
 bif (a.1.1.1 == a.1.2.1.1) then
 bif (a.1.1.2.1 == a.1.2.1.2.1) then
(f166 ((a.1.1.2.2.1, (a.1.2.1.2.2.1, ())), ())).bind fun r2112 =>
 bif r2112.1.1 then
(f17 ((a.1.1.2.2.2.1, (a.1.2.1.2.2.2.1, ())), ())).bind fun r2113 =>
 some ((r2113.1.1, ()), ())
else
 some ((false, ()), ())
else
 some ((false, ()), ())
else
 some ((false, ()), ())
theorem e119 : ∀ a, f119 a = jjp (jjd c119 []) b119 i119 o119 a := fun a => by kernel_rfl
noncomputable def S119 : jjG := jjf tt 31 i119 o119 [.tmp 4] [] f119
theorem z119 (h : ∀ T, (tt T).ok Tryz.prog T) (h17 : jja Tryz.prog 17 S17) (h166 : jja Tryz.prog 166 S166) : jja Tryz.prog 119 S119 :=
 have H := k119 h h17 h166
 jjj (fn := Tryz.f119) (fr := []) H (by kernel_rfl) (by kernel_rfl) (by kernel_rfl) (by kernel_rfl) (by kernel_rfl) jje (by kernel_rfl) (fun y => ⟨_, _, rfl, rfl, rfl⟩) e119
noncomputable def c67 : Ctx := { tt := tt, fs := fun n => match n with | 117 => some S117 | _ => none }
theorem k67 (h : ∀ T, (tt T).ok Tryz.prog T) (h117 : jja Tryz.prog 117 S117) : CtxGood Tryz.prog c67 := ⟨⟨h⟩, fun g S hg => (by
 simp only [c67] at hg
 split at hg
 ·cases hg; exact h117
 ·cases hg), jjq, fun _ _ h => (by cases h), fun _ h => (by cases h)⟩
noncomputable def b67 : Code := jjh Tryz.f67
@[reducible] noncomputable def s67_58 : Shape := ⟨[(3, .lf (.own 3000192)), (6, .lf (.d (.sl .pack))), (7, .lf (.d (.int .i64))), (8, .lf (.d (.int .i64)))], [(3000192, .row .pack, .slot 3 0)], 19⟩
@[reducible] noncomputable def t67_58 : List OSh := [(.exit 0, ⟨[(3, .lf (.own 3000192))], [(3000192, .row .pack, .slot 3 0)], 19⟩)]
noncomputable def g67_58 (y : s67_58.Y) : Option (Sum s67_58.Y (YS t67_58)) :=
 bif (decide (y.1.2.2.2.1 < y.1.2.2.1)) then
(ix y.1.2.1 y.1.2.2.2.1).bind fun x1925 =>
(f117 (((x1925.name, (x1925.version, (x1925.needs, (x1925.tree, ())))), ()), ())).bind fun r1926 =>
(apd 80 y.2.1 ([(Pack.mk r1926.2.2.2.1.1 r1926.2.2.2.1.2.1 r1926.2.1 r1926.2.2.1)] : List Pack)).bind fun x1927 =>
 some (.inl (((), (y.1.2.1, (y.1.2.2.1, ((IntKind.i64.wrap (y.1.2.2.2.1 + (1 : Int))), ())))), (x1927, ())))
else
 some (.inr ((((), ()), (y.2.1, ()))))
theorem r67_58 : ∀ y, g67_58 y = jjz (jjd c67 []) (jjl (jjc b67 1 58)) 58 s67_58 t67_58 y := fun y => by kernel_rfl
noncomputable def l67_58 : s67_58.Y → Option (YS t67_58) := jjD g67_58
theorem q67_58 (H : CtxGood Tryz.prog c67) : jjn Tryz.prog (jjc b67 1 58) (jjb s67_58 t67_58 l67_58) :=
 jjt (fr := []) H (by kernel_rfl) (by kernel_rfl) jje (fun y => jji r67_58 y)
@[reducible] noncomputable def i67 : Shape := ⟨[(0, .lf (.d (.sl .pack)))], [], 19⟩
@[reducible] noncomputable def o67 : Shape := ⟨[(2, .lf (.own 3000128))], [(3000128, .row .pack, .slot 2 0)], 19⟩
noncomputable def f67 (a : i67.Y) : Option o67.Y :=
(l67_58 (((), (a.1.1, ((a.1.1.length : Int), ((0 : Int), ())))), (([] : List Pack), ()))).bind fun r1929 =>
 some (((), ()), (r1929.2.1, ()))
theorem e67 : ∀ a, f67 a = jjp (jjd c67 [(58, jjb s67_58 t67_58 l67_58)]) b67 i67 o67 a := fun a => by kernel_rfl
noncomputable def S67 : jjG := jjf tt 19 i67 o67 [.tmp 2] [] f67
theorem z67 (h : ∀ T, (tt T).ok Tryz.prog T) (h117 : jja Tryz.prog 117 S117) : jja Tryz.prog 67 S67 :=
 have H := k67 h h117
 jjj (fn := Tryz.f67) (fr := [(58, jjb s67_58 t67_58 l67_58)]) H (by kernel_rfl) (by kernel_rfl) (by kernel_rfl) (by kernel_rfl) (by kernel_rfl) ⟨q67_58 H, trivial⟩ (by kernel_rfl) (fun y => ⟨_, _, rfl, rfl, rfl⟩) e67
noncomputable def c59 : Ctx := { tt := tt, fs := fun n => match n with | 67 => some S67 | _ => none }
theorem k59 (h : ∀ T, (tt T).ok Tryz.prog T) (h67 : jja Tryz.prog 67 S67) : CtxGood Tryz.prog c59 := ⟨⟨h⟩, fun g S hg => (by
 simp only [c59] at hg
 split at hg
 ·cases hg; exact h67
 ·cases hg), jjq, fun _ _ h => (by cases h), fun _ h => (by cases h)⟩
noncomputable def b59 : Code := jjh Tryz.f59
@[reducible] noncomputable def i59 : Shape := ⟨[(0, .agg [.d (.sl .pack)])], [], 7⟩
@[reducible] noncomputable def o59 : Shape := ⟨[(2, .lf (.ptr 2 0))], [(5000128, .row .pack, .cell 2 0), (2, .box [.own 5000128], .same)], 7⟩
noncomputable def f59 (a : i59.Y) : Option o59.Y :=
(f67 ((a.1.1.1, ()), ())).bind fun r1931 =>
 some (((), ()), (r1931.2.1, (((), ()), ())))
theorem e59 : ∀ a, f59 a = jjp (jjd c59 []) b59 i59 o59 a := fun a => by kernel_rfl
noncomputable def S59 : jjG := jjf tt 7 i59 o59 [.cell 2 25] [] f59
theorem z59 (h : ∀ T, (tt T).ok Tryz.prog T) (h67 : jja Tryz.prog 67 S67) : jja Tryz.prog 59 S59 :=
 have H := k59 h h67
 jjj (fn := Tryz.f59) (fr := []) H (by kernel_rfl) (by kernel_rfl) (by kernel_rfl) (by kernel_rfl) (by kernel_rfl) jje (by kernel_rfl) (fun y => ⟨_, _, rfl, rfl, rfl⟩) e59
noncomputable def c60 : Ctx := { tt := tt, fs := fun n => match n with | 114 => some S114v0 | _ => none }
theorem k60 (h : ∀ T, (tt T).ok Tryz.prog T) (h114v0 : jja Tryz.prog 114 S114v0) : CtxGood Tryz.prog c60 := ⟨⟨h⟩, fun g S hg => (by
 simp only [c60] at hg
 split at hg
 ·cases hg; exact h114v0
 ·cases hg), jjq, fun _ _ h => (by cases h), fun _ h => (by cases h)⟩
noncomputable def b60 : Code := jjh Tryz.f60
@[reducible] noncomputable def i60 : Shape := ⟨[(0, .lf (.d (.sl .pack))), (1, .lf (.d (.str)))], [], 11⟩
@[reducible] noncomputable def o60 : Shape := ⟨[(4, .lf (.d (.int .i64))), (5, .lf (.d (.bool)))], [], 11⟩
noncomputable def f60 (a : i60.Y) : Option o60.Y :=
(f114v0 ((a.1.1, (a.1.2.1, ((), ()))), ())).bind fun r1957 =>
 some ((r1957.1.1, (r1957.1.2.1, ())), ())
theorem e60 : ∀ a, f60 a = jjp (jjd c60 []) b60 i60 o60 a := fun a => by kernel_rfl
noncomputable def S60 : jjG := jjf tt 11 i60 o60 [.tmp 4, .tmp 5] [] f60
theorem z60 (h : ∀ T, (tt T).ok Tryz.prog T) (h114v0 : jja Tryz.prog 114 S114v0) : jja Tryz.prog 60 S60 :=
 have H := k60 h h114v0
 jjj (fn := Tryz.f60) (fr := []) H (by kernel_rfl) (by kernel_rfl) (by kernel_rfl) (by kernel_rfl) (by kernel_rfl) jje (by kernel_rfl) (fun y => ⟨_, _, rfl, rfl, rfl⟩) e60
noncomputable def c61 : Ctx := { tt := tt, fs := fun n => match n with | 51 => some S51 | 59 => some S59 | _ => none }
theorem k61 (h : ∀ T, (tt T).ok Tryz.prog T) (h51 : jja Tryz.prog 51 S51) (h59 : jja Tryz.prog 59 S59) : CtxGood Tryz.prog c61 := ⟨⟨h⟩, fun g S hg => (by
 simp only [c61] at hg
 split at hg
 ·cases hg; exact h51
 ·cases hg; exact h59
 ·cases hg), jjq, fun _ _ h => (by cases h), fun _ h => (by cases h)⟩
noncomputable def b61 : Code := jjh Tryz.f61
@[reducible] noncomputable def i61 : Shape := ⟨[(0, .lf (.d (.sl .pack))), (1, .agg [.d (.sl .pack)])], [], 16⟩
@[reducible] noncomputable def o61 : Shape := ⟨[(4, .lf (.ptr 4 0)), (5, .lf (.d (.int .i64)))], [(4, .box [.d (.sl .pack)], .same)], 16⟩
noncomputable def f61 (a : i61.Y) : Option o61.Y :=
(f51 ((a.1.1, ()), ())).bind fun r2007 =>
 bif (r2007.1.1 != (0 : Int)) then
(f59 (((a.1.2.1.1, ()), ()), ())).bind fun r2008 =>
 some (((), (r2007.1.1, ())), ((r2008.2.1, ()), ()))
else
 some (((), ((0 : Int), ())), ((a.1.1, ()), ()))
theorem e61 : ∀ a, f61 a = jjp (jjd c61 []) b61 i61 o61 a := fun a => by kernel_rfl
noncomputable def S61 : jjG := jjf tt 16 i61 o61 [.cell 4 25, .tmp 5] [] f61
theorem z61 (h : ∀ T, (tt T).ok Tryz.prog T) (h51 : jja Tryz.prog 51 S51) (h59 : jja Tryz.prog 59 S59) : jja Tryz.prog 61 S61 :=
 have H := k61 h h51 h59
 jjj (fn := Tryz.f61) (fr := []) H (by kernel_rfl) (by kernel_rfl) (by kernel_rfl) (by kernel_rfl) (by kernel_rfl) jje (by kernel_rfl) (fun y => ⟨_, _, rfl, rfl, rfl⟩) e61
theorem ins_shiftpack (g n c i vb m vc : Nat) (cur vcur : Array Value) (te ve : TypeId) (w : World) (hi : i < n) (hm : 0 < m) (hroom : n + m ≤ c) (hc63 : c ≤ 9223372036854775807) (hne : vb ≠ g)
  (hg : w.heap[g]? = some (.cells cur te (0, 0))) (hv : w.heap[vb]? = some (.cells vcur ve (0, 0))) (hcs : cur.size = c * 4) (hvs : m * 4 ≤ vcur.size)
  (h1c : ∀ v ∈ cur.toList.take (n * 4), v.oneCell' = true) (h1v : ∀ v ∈ vcur.toList.take (m * 4), v.oneCell' = true) :
  Calls Tryz.prog 118 #[.slice (some ⟨g, 0, none⟩) n c, .int .i64 i, .slice (some ⟨vb, 0, none⟩) m vc] w fun e w' =>
   e = .returned (.slice (some ⟨g, 0, none⟩) (n + m) c) ∧ w' = w.drew.setRow g (splice (splice cur.toList ((i + m) * 4) ((cur.toList.take (n * 4)).drop (i * 4))) (i * 4) (vcur.toList.take (m * 4))).toArray := by
 have t33 : Tryz.prog.underlying 23 = some (.slice 37) := by kernel_rfl
 have hsz : (Tryz.prog.info? 37).map (·.size) = some 4 := by kernel_rfl
 have hz1 : ¬ ((m : Int) = 0) := by omega
 have hz2 : ¬ ((i : Int) = (n : Int)) := by omega
 have hov : ∀ off lb cb, (callFunc 164 #[.slice (some ⟨vb, 0, none⟩) m vc, .slice (some ⟨g, off, none⟩) lb cb]).run Tryz.prog w = .ok (.value (.bool false)) w := fun off lb cb => by
  rw [run_callFunc_extern Tryz.func164 (by kernel_rfl) (by kernel_rfl) (by kernel_rfl) (e := Extern.SlicesOverlaps.overlaps #[23, 23] #[4]) (by kernel_rfl),
   Lib.run_overlaps_apart w 23 4 37 t33 4 (fun w => by kernel_rfl) ⟨vb, 0, none⟩ ⟨g, off, none⟩ m vc lb cb hne ve te vcur.size cur.size (by simp [World.shape?, hv]) (by simp [World.shape?, hg]) (by omega) (by simp [World.frozen?, hv]) (by simp [World.frozen?, hv])]
  rfl
 have hdl : ((cur.toList.take (n * 4)).drop (i * 4)).length = (n - i) * 4 := by simp only [List.length_drop, List.length_take, Array.length_toList, hcs]; rw [Nat.min_eq_left (by omega), Nat.sub_mul]
 have hcl : ∀ j v, (cur.toList.take (n * 4))[j]? = some v → w.cell? ⟨g, j, none⟩ = some v := fun j v h => by
  rw [List.getElem?_take] at h
  split at h
  ·simpa [World.cell?, hg] using h
  ·cases h
 have hcv : ∀ j v, (vcur.toList.take (m * 4))[j]? = some v → w.cell? ⟨vb, j, none⟩ = some v := fun j v h => by
  rw [List.getElem?_take] at h
  split at h
  ·simpa [World.cell?, hv] using h
  ·cases h
 have hcp1 : ∀ ty dc sc, (Builtin.copy_ #[23, 23] ty #[.slice (some ⟨g, (i + m) * 4, none⟩) (n + m - (i + m)) dc, .slice (some ⟨g, i * 4, none⟩) (n + m - i) sc]).run Tryz.prog w.drew =
   .ok (goInt (Nat.min (n + m - i) (n + m - (i + m)))) (w.drew.setRow g (splice cur.toList ((i + m) * 4) ((cur.toList.take (n * 4)).drop (i * 4))).toArray) := fun ty dc sc =>
  jqF w.drew _ _ ty 37 4 g ((i + m) * 4) (n + m - (i + m)) dc ⟨g, i * 4, none⟩ (n + m - i) sc cur te _ t33 hsz hg (by rw [hdl]; simp only [Nat.min_def]; split <;> omega)
   (fun j v hj => by rw [Addr.add_lit]; exact hcl (i * 4 + j) v (by rwa [List.getElem?_drop] at hj)) (by rw [hdl, hcs]; omega) (fun v hv => h1c v (List.mem_of_mem_drop hv))
 obtain ⟨cur1, hcur1⟩ : ∃ cur1, cur1 = (splice cur.toList ((i + m) * 4) ((cur.toList.take (n * 4)).drop (i * 4))).toArray := ⟨_, rfl⟩
 rw [← hcur1] at hcp1
 have hc1s : cur1.size = c * 4 := by rw [hcur1]; simp only [splice, List.size_toArray, List.length_append, List.length_drop, List.length_take, Array.length_toList, hcs]; omega
 have hcp2 : ∀ (W : World), W.heap = (w.drew.setRow g cur1).heap → ∀ ty dc, (Builtin.copy_ #[23, 23] ty #[.slice (some ⟨g, i * 4, none⟩) (n + m - i) dc, .slice (some ⟨vb, 0, none⟩) m vc]).run Tryz.prog W =
   .ok (goInt (Nat.min m (n + m - i))) (W.setRow g (splice cur1.toList (i * 4) (vcur.toList.take (m * 4))).toArray) := fun W hW ty dc =>
  jqF W _ _ ty 37 4 g (i * 4) (n + m - i) dc ⟨vb, 0, none⟩ m vc cur1 te _ t33 hsz (by rw [hW]; exact setRow_heap w.drew g cur cur1 te (0, 0) hg)
   (by simp only [List.length_take, Array.length_toList, Nat.min_def]; split <;> split <;> omega)
   (fun j v hj => by
    have := hcv j v hj
    rw [Addr.add_lit, Nat.zero_add]
    unfold World.cell? at this ⊢
    rw [hW, show (w.drew.setRow g cur1).heap[vb]? = w.heap[vb]? from setRow_other w.drew g vb cur1 hne]; exact this) (by simp only [List.length_take, Array.length_toList]; omega) h1v
 have hE : w.drew.setRow g (splice (splice cur.toList ((i + m) * 4) ((cur.toList.take (n * 4)).drop (i * 4))) (i * 4) (vcur.toList.take (m * 4))).toArray = (w.drew.setRow g cur1).setRow g (splice cur1.toList (i * 4) (vcur.toList.take (m * 4))).toArray := by
  rw [setRow_setRow, hcur1]
 rw [hE]
 clear hE hcur1
 have hw1 : IntKind.i64.wrap ((i : Int) + (m : Int)) = (i : Int) + (m : Int) := by rw [IntKind.wrap_i64]; omega
 have hb1 : (0 : Int) ≤ (i : Int) + (m : Int) := by omega
 have hin : i ≤ n := by omega
 have htn : ((i : Int) + (m : Int)).toNat = i + m := by omega
 have hb2 : ¬ (c = i + m) := by omega
 have hb3 : (i : Int) ≤ (n : Int) + (m : Int) := by omega
 have hb4 : ¬ (c = i) := by omega
 go_enter Tryz.func118, Tryz.ntmps118
 go_wp2_with (simp only [hov])
 go_region_law (refine jzr rfl _ _ 23 23 rfl (.slice (some ⟨g, (i + m) * 4, none⟩) (n + m - (i + m)) (c - (i + m))) (.slice (some ⟨g, i * 4, none⟩) (n + m - i) (c - i)) (by simp [Act.eval, Act.put]) (by simp [Act.eval, Act.put]) (hcp1 _ _ _) ?_)
 go_wp2_with (at_builtin; refine jxi _ rfl _ _ 23 23 rfl _ _ rfl rfl (hcp2 _ rfl _ _) ?_)
 go_ret
 exact ⟨rfl, rfl⟩
theorem ins_none0pack (xa : Option Addr) (vc : Nat) (w : World) :
  Calls Tryz.prog 118 #[.slice none 0 0, .int .i64 0, .slice xa 0 vc] w fun e w' => e = .returned (.slice none 0 0) ∧ w' = w := by
 go_enter Tryz.func118, Tryz.ntmps118
 go_wp2
 go_ret
 exact ⟨rfl, rfl⟩
theorem ins_none1pack (g n c i : Nat) (xa : Option Addr) (vc : Nat) (w : World) (hi : i ≤ n) (hnc : n ≤ c) (hc63 : c ≤ 9223372036854775807) :
  Calls Tryz.prog 118 #[.slice (some ⟨g, 0, none⟩) n c, .int .i64 i, .slice xa 0 vc] w fun e w' => e = .returned (.slice (some ⟨g, 0, none⟩) n c) ∧ w' = w := by
 go_enter Tryz.func118, Tryz.ntmps118
 go_wp2
 all_goals (go_ret; exact ⟨rfl, rfl⟩)
theorem ins_end0pack (xa : Option Addr) (m vc : Nat) (w : World) (hm : 0 < m) (v' : Value) (W : World) (hr : ∀ ty, (Builtin.append_ #[23, 23] ty #[.slice none 0 0, .slice xa m vc]).run Tryz.prog w = .ok v' W) :
  Calls Tryz.prog 118 #[.slice none 0 0, .int .i64 0, .slice xa m vc] w fun e w' => e = .returned v' ∧ w' = W := by
 have hz1 : ¬ ((m : Int) = 0) := by omega
 go_enter Tryz.func118, Tryz.ntmps118
 go_wp2_with (at_builtin; refine jqg _ rfl _ _ 23 23 rfl _ _ rfl rfl (hr _) ?_)
 go_ret
 exact ⟨rfl, rfl⟩
theorem ins_end1pack (g n c : Nat) (xa : Option Addr) (m vc : Nat) (w : World) (hnc : n ≤ c) (hc63 : c ≤ 9223372036854775807) (hm : 0 < m) (v' : Value) (W : World) (hr : ∀ ty, (Builtin.append_ #[23, 23] ty #[.slice (some ⟨g, 0, none⟩) n c, .slice xa m vc]).run Tryz.prog w = .ok v' W) :
  Calls Tryz.prog 118 #[.slice (some ⟨g, 0, none⟩) n c, .int .i64 n, .slice xa m vc] w fun e w' => e = .returned v' ∧ w' = W := by
 have hz1 : ¬ ((m : Int) = 0) := by omega
 go_enter Tryz.func118, Tryz.ntmps118
 go_wp2_with (at_builtin; refine jqg _ rfl _ _ 23 23 rfl _ _ rfl rfl (hr _) ?_)
 all_goals (go_ret; exact ⟨rfl, rfl⟩)
theorem ins_growpack (g n c i vb m vc : Nat) (cur vcur : Array Value) (te ve : TypeId) (w : World) (hi : i < n) (hm : 0 < m) (hnc : n ≤ c) (hroom : c < n + m) (hc63 : c ≤ 9223372036854775807) (hbig : (n + m) * 80 ≤ 140737488355328)
  (hg : w.heap[g]? = some (.cells cur te (0, 0))) (hv : w.heap[vb]? = some (.cells vcur ve (0, 0))) (hcs : cur.size = c * 4) (hvs : m * 4 ≤ vcur.size)
  (h1c : ∀ v ∈ cur.toList.take (n * 4), v.oneCell' = true) (h1v : ∀ v ∈ vcur.toList.take (m * 4), v.oneCell' = true) :
  ∃ G ROW, ∃ W : World, G ≤ maxLen ∧ n + m ≤ G ∧ ROW.size = G * 4 ∧ ROW.toList.take (i * 4) = cur.toList.take (i * 4) ∧ W.os = w.os ∧ W.tape = w.tape ∧ W.output = w.output ∧ W.heap = w.heap.push (.cells ROW 37 (0, 0)) ∧
  Calls Tryz.prog 118 #[.slice (some ⟨g, 0, none⟩) n c, .int .i64 i, .slice (some ⟨vb, 0, none⟩) m vc] w fun e w' =>
   e = .returned (.slice (some ⟨w.heap.size, 0, none⟩) (n + m) G) ∧ w'.os = w.os ∧ w'.tape = w.tape ∧ w'.output = w.output ∧
    w'.heap = (W.setRow w.heap.size (splice (splice ROW.toList (i * 4) (vcur.toList.take (m * 4))) ((i + m) * 4) ((cur.toList.take (n * 4)).drop (i * 4))).toArray).heap := by
 have t33 : Tryz.prog.underlying 23 = some (.slice 37) := by kernel_rfl
 have t3 : Tryz.prog.underlying 3 = some (.int .i64) := by kernel_rfl
 have hsz : (Tryz.prog.info? 37).map (·.size) = some 4 := by kernel_rfl
 have hinfo : (Tryz.prog.info? 37).map (fun i => (i.zero.map (·.cells.size), i.size, i.bytes)) = some (some 4, 4, 80) := by kernel_rfl
 obtain ⟨i0, hi0, hzz⟩ := Option.map_eq_some_iff.1 hinfo
 simp only [Prod.mk.injEq] at hzz
 obtain ⟨hz0, hzs, hzb⟩ := hzz
 obtain ⟨z, hz, hzc⟩ := Option.map_eq_some_iff.1 hz0
 have hz1 : ¬ ((m : Int) = 0) := by omega
 have hz2 : ¬ ((i : Int) = (n : Int)) := by omega
 have hz3 : (c : Int) < (n : Int) + (m : Int) := by omega
 have hgw : g < w.heap.size := (Array.getElem?_eq_some_iff.1 hg).1
 have hvw : vb < w.heap.size := (Array.getElem?_eq_some_iff.1 hv).1
 have hkk : (n : Int) + (m : Int) - (i : Int) = ((n + m - i : Nat) : Int) := by omega
 have hik : i + (n + m - i) = n + m := by omega
 have hdl : ((cur.toList.take (n * 4)).drop (i * 4)).length = (n - i) * 4 := by simp only [List.length_drop, List.length_take, Array.length_toList, hcs]; rw [Nat.min_eq_left (by omega), Nat.sub_mul]
 have hcl : ∀ j v, (cur.toList.take (n * 4))[j]? = some v → w.cell? ⟨g, j, none⟩ = some v := fun j v h => by
  rw [List.getElem?_take] at h
  split at h
  ·simpa [World.cell?, hg] using h
  ·cases h
 have hcv : ∀ j v, (vcur.toList.take (m * 4))[j]? = some v → w.cell? ⟨vb, j, none⟩ = some v := fun j v h => by
  rw [List.getElem?_take] at h
  split at h
  ·simpa [World.cell?, hv] using h
  ·cases h
 have hold : (Builtin.firstCells i0.size i (.slice (some ⟨g, 0, none⟩) i c)).run Tryz.prog w.drew = .ok (cur.toList.take (i * 4)).toArray w.drew := by
  rw [hzs]
  exact run_firstCells_some w.drew 4 i ⟨g, 0, none⟩ i c (cur.toList.take (i * 4)) (by simp only [List.length_take, Array.length_toList, hcs]; omega) (fun j v hj => by
   rw [Addr.add_lit, Nat.zero_add]
   refine hcl j v ?_
   rw [List.getElem?_take] at hj ⊢
   split at hj
   ·rw [if_pos (by omega)]; exact hj
   ·cases hj)
 have hrz : ∀ ty, (Builtin.append_ #[23, 3] ty #[.slice (some ⟨g, 0, none⟩) i c, .int .i64 ((n : Int) + (m : Int) - (i : Int))]).run Tryz.prog w =
   .ok (.slice (some ⟨w.heap.size, 0, none⟩) (n + m) (grownCap w (n + m) c 37)) (w.drew.alloc (.cells ((cur.toList.take (i * 4)).toArray ++ Builtin.zeroCells z.cells (n + m - i) ++ Builtin.zeroCells z.cells (grownCap w (n + m) c 37 - (n + m))) 37)) := fun ty => by
  have h := Lib.run_append_grow_zeros w 23 3 ty 37 i0 z .i64 .i64 t33 t3 hi0 hz (some ⟨g, 0, none⟩) i c (cur.toList.take (i * 4)) hold (n + m - i) (by omega) (by omega) (by omega) (by omega) (by rw [hzb]; omega) (by rw [hzb, hik]; exact growslice_fits hroom hbig)
  rw [hik] at h
  rw [hkk]
  exact h
 obtain ⟨G, hG⟩ : ∃ G, G = grownCap w (n + m) c 37 := ⟨_, rfl⟩
 obtain ⟨ROW, hROW⟩ : ∃ ROW : Array Value, ROW = (cur.toList.take (i * 4)).toArray ++ Builtin.zeroCells z.cells (n + m - i) ++ Builtin.zeroCells z.cells (G - (n + m)) := ⟨_, rfl⟩
 rw [← hG] at hrz
 rw [← hROW] at hrz
 have hGn : n + m ≤ G := by rw [hG]; exact grownCap_ge w _ _ _
 have hGm : G ≤ maxLen := by rw [hG]; exact grownCap_le_maxLen w (n + m) c 37 (by unfold maxLen; omega)
 have hG63 : G ≤ 9223372036854775807 := by unfold maxLen at hGm; omega
 have hRl : ROW.size = G * 4 := by
  rw [hROW]
  simp only [Array.size_append, List.size_toArray, size_zeroCells, hzc, List.length_take, Array.length_toList, hcs]
  omega
 have hRt : ROW.toList.take (i * 4) = cur.toList.take (i * 4) := by
  rw [hROW]
  simp only [Array.toList_append, List.append_assoc]
  have : i * 4 = (cur.toList.take (i * 4)).length := by simp only [List.length_take, Array.length_toList, hcs]; omega
  exact List.take_left' this.symm
 refine ⟨G, ROW, w.drew.alloc (.cells ROW 37), hGm, hGn, hRl, hRt, rfl, rfl, rfl, rfl, ?_⟩
 obtain ⟨W1, hW1⟩ : ∃ W1, W1 = w.drew.alloc (.cells ROW 37) := ⟨_, rfl⟩
 rw [← hW1] at hrz ⊢
 have hNew : W1.heap[w.heap.size]? = some (.cells ROW 37 (0, 0)) := by rw [hW1]; exact heap_alloc_new w.drew _
 have hOld : ∀ b, b < w.heap.size → W1.heap[b]? = w.heap[b]? := fun b hb => by rw [hW1]; exact RowKit.Below.heap_alloc w.drew _ b hb
 have hos : W1.os = w.os ∧ W1.tape = w.tape ∧ W1.output = w.output := by rw [hW1]; exact ⟨rfl, rfl, rfl⟩
 have hgN : g ≠ w.heap.size := by omega
 have hvN : vb ≠ w.heap.size := by omega
 have hcpA : ∀ (W : World), W.heap = W1.heap → ∀ ty dc, (Builtin.copy_ #[23, 23] ty #[.slice (some ⟨w.heap.size, i * 4, none⟩) (n + m - i) dc, .slice (some ⟨vb, 0, none⟩) m vc]).run Tryz.prog W =
   .ok (goInt (Nat.min m (n + m - i))) (W.setRow w.heap.size (splice ROW.toList (i * 4) (vcur.toList.take (m * 4))).toArray) := fun W hW ty dc =>
  jqF W _ _ ty 37 4 w.heap.size (i * 4) (n + m - i) dc ⟨vb, 0, none⟩ m vc ROW 37 _ t33 hsz (by rw [hW]; exact hNew)
   (by simp only [List.length_take, Array.length_toList, Nat.min_def]; split <;> split <;> omega)
   (fun j v hj => by
    have := hcv j v hj
    rw [Addr.add_lit, Nat.zero_add]
    unfold World.cell? at this ⊢
    rw [hW, show W1.heap[vb]? = w.heap[vb]? from hOld vb hvw]; exact this) (by simp only [List.length_take, Array.length_toList]; omega) h1v
 obtain ⟨R2, hR2⟩ : ∃ R2, R2 = (splice ROW.toList (i * 4) (vcur.toList.take (m * 4))).toArray := ⟨_, rfl⟩
 have hE : W1.setRow w.heap.size (splice (splice ROW.toList (i * 4) (vcur.toList.take (m * 4))) ((i + m) * 4) ((cur.toList.take (n * 4)).drop (i * 4))).toArray =
   (W1.setRow w.heap.size R2).setRow w.heap.size (splice R2.toList ((i + m) * 4) ((cur.toList.take (n * 4)).drop (i * 4))).toArray := by rw [setRow_setRow, hR2]
 rw [hE]
 have hR2s : R2.size = G * 4 := by rw [hR2]; simp only [splice, List.size_toArray, List.length_append, List.length_drop, List.length_take, Array.length_toList, hRl]; omega
 rw [← hR2] at hcpA
 clear hE hR2
 have hcpB : ∀ (W : World), W.heap = (W1.setRow w.heap.size R2).heap → ∀ ty dc sc, (Builtin.copy_ #[23, 23] ty #[.slice (some ⟨w.heap.size, (i + m) * 4, none⟩) (n + m - (i + m)) dc, .slice (some ⟨g, i * 4, none⟩) (n - i) sc]).run Tryz.prog W =
   .ok (goInt (Nat.min (n - i) (n + m - (i + m)))) (W.setRow w.heap.size (splice R2.toList ((i + m) * 4) ((cur.toList.take (n * 4)).drop (i * 4))).toArray) := fun W hW ty dc sc =>
  jqF W _ _ ty 37 4 w.heap.size ((i + m) * 4) (n + m - (i + m)) dc ⟨g, i * 4, none⟩ (n - i) sc R2 37 _ t33 hsz (by rw [hW]; exact setRow_heap W1 w.heap.size ROW R2 37 (0, 0) hNew)
   (by rw [hdl]; simp only [Nat.min_def]; split <;> omega)
   (fun j v hj => by
    have := hcl (i * 4 + j) v (by rwa [List.getElem?_drop] at hj)
    rw [Addr.add_lit]
    unfold World.cell? at this ⊢
    rw [hW, show (W1.setRow w.heap.size R2).heap[g]? = w.heap[g]? from (setRow_other W1 w.heap.size g R2 hgN).trans (hOld g hgw)]; exact this) (by rw [hdl, hR2s]; omega) (fun v hv => h1c v (List.mem_of_mem_drop hv))
 have hGi : ¬ (G = i) := by omega
 have hGim : ¬ (G = i + m) := by omega
 have hci : ¬ (c = i) := by omega
 have hw1 : IntKind.i64.wrap ((i : Int) + (m : Int)) = (i : Int) + (m : Int) := by rw [IntKind.wrap_i64]; omega
 have hb1 : (0 : Int) ≤ (i : Int) + (m : Int) := by omega
 have hin : i ≤ n := by omega
 have htn : ((i : Int) + (m : Int)).toNat = i + m := by omega
 have hb3 : (i : Int) ≤ (n : Int) := by omega
 clear hkk hik hold hROW hG hRl hW1
 go_enter Tryz.func118, Tryz.ntmps118
 go_wp2_with (first
  | (at_builtin; refine jqg _ rfl _ _ 23 3 rfl _ _ rfl rfl (hrz _) ?_)
  | (at_builtin; refine jxi _ rfl _ _ 23 23 rfl _ _ rfl rfl (hcpA _ rfl _ _) ?_))
 go_region_law (refine jzr rfl _ _ 23 23 rfl (.slice (some ⟨w.heap.size, (i + m) * 4, none⟩) (n + m - (i + m)) (G - (i + m))) (.slice (some ⟨g, i * 4, none⟩) (n - i) (c - i)) (by simp [Act.eval, Act.put]) (by simp [Act.eval, Act.put]) (hcpB (W1.setRow w.heap.size R2).drew rfl 3 (G - (i + m)) (c - i)) ?_)
 go_wp2
 go_ret
 exact ⟨rfl, hos.1, hos.2.1, hos.2.2, rfl⟩
noncomputable def SH118 : jjG := insSumm .pack 80
theorem zH118 (h : ∀ T, (tt T).ok Tryz.prog T) : jja Tryz.prog 118 SH118 := insert_ok (t := .pack) (bt := 80) rfl (by decide) (T := 23) (e := 37) ⟨ins_none0pack, ins_none1pack, ins_end0pack, ins_end1pack, ins_shiftpack, ins_growpack⟩ (fun vs w => enters_of Tryz.func118 (by kernel_rfl) rfl _ _) (by kernel_rfl) (by kernel_rfl)
noncomputable def c62 : Ctx := { tt := tt, fs := fun n => match n with | 60 => some S60 | 67 => some S67 | 117 => some S117 | 118 => some SH118 | _ => none, gv := fun n => match n with | 118 => true | _ => false }
theorem k62 (h : ∀ T, (tt T).ok Tryz.prog T) (h60 : jja Tryz.prog 60 S60) (h67 : jja Tryz.prog 67 S67) (h117 : jja Tryz.prog 117 S117) (hH118 : jja Tryz.prog 118 SH118) : CtxGood Tryz.prog c62 := ⟨⟨h⟩, fun g S hg => (by
 simp only [c62] at hg
 split at hg
 ·cases hg; exact h60
 ·cases hg; exact h67
 ·cases hg; exact h117
 ·cases hg; exact hH118
 ·cases hg), jjq, fun _ _ h => (by cases h), fun _ h => (by cases h)⟩
noncomputable def b62 : Code := jjh Tryz.f62
@[reducible] noncomputable def i62 : Shape := ⟨[(0, .lf (.d (.sl .pack))), (1, .agg [.d (.str), .d (.str), .d (.sl .need), .d (.sl .entry)])], [], 30⟩
@[reducible] noncomputable def o62 : Shape := ⟨[(4, .lf (.own 3000256))], [(3000256, .row .pack, .slot 4 0)], 30⟩
noncomputable def f62 (a : i62.Y) : Option o62.Y :=
(f67 ((a.1.1, ()), ())).bind fun r1985 =>
(f60 ((r1985.2.1, (a.1.2.1.1, ())), ())).bind fun r1987 =>
 bif r1987.1.2.1 then
(f117 (((a.1.2.1.1, (a.1.2.1.2.1, (a.1.2.1.2.2.1, (a.1.2.1.2.2.2.1, ())))), ()), ())).bind fun r1991 =>
(inb r1985.2.1.length r1987.1.1).bind fun x1992 =>
((r1985.2.1[x1992]?).bind fun q => some (Pack.mk r1991.2.2.2.1.1 r1991.2.2.2.1.2.1 r1991.2.1 r1991.2.2.1)).bind fun x1993 =>
 some (((), ()), ((r1985.2.1.set x1992 x1993), ()))
else
(f117 (((a.1.2.1.1, (a.1.2.1.2.1, (a.1.2.1.2.2.1, (a.1.2.1.2.2.2.1, ())))), ()), ())).bind fun r1994 =>
(insL 80 r1985.2.1 r1987.1.1 ([(Pack.mk r1994.2.2.2.1.1 r1994.2.2.2.1.2.1 r1994.2.1 r1994.2.2.1)] : List Pack)).bind fun r1995 =>
 some (((), ()), (r1995, ()))
theorem e62 : ∀ a, f62 a = jjp (jjd c62 []) b62 i62 o62 a := fun a => by kernel_rfl
noncomputable def S62 : jjG := jjf tt 30 i62 o62 [.tmp 4] [] f62
theorem z62 (h : ∀ T, (tt T).ok Tryz.prog T) (h60 : jja Tryz.prog 60 S60) (h67 : jja Tryz.prog 67 S67) (h117 : jja Tryz.prog 117 S117) (hH118 : jja Tryz.prog 118 SH118) : jja Tryz.prog 62 S62 :=
 have H := k62 h h60 h67 h117 hH118
 jjj (fn := Tryz.f62) (fr := []) H (by kernel_rfl) (by kernel_rfl) (by kernel_rfl) (by kernel_rfl) (by kernel_rfl) jje (by kernel_rfl) (fun y => ⟨_, _, rfl, rfl, rfl⟩) e62
noncomputable def c26 : Ctx := { tt := tt, fs := fun n => match n with | 19 => some S19 | 58 => some S58 | 59 => some S59 | 60 => some S60 | 61 => some S61 | 62 => some S62 | _ => none }
theorem k26 (h : ∀ T, (tt T).ok Tryz.prog T) (h19 : jja Tryz.prog 19 S19) (h58 : jja Tryz.prog 58 S58) (h59 : jja Tryz.prog 59 S59) (h60 : jja Tryz.prog 60 S60) (h61 : jja Tryz.prog 61 S61) (h62 : jja Tryz.prog 62 S62) : CtxGood Tryz.prog c26 := ⟨⟨h⟩, fun g S hg => (by
 simp only [c26] at hg
 split at hg
 ·cases hg; exact h19
 ·cases hg; exact h58
 ·cases hg; exact h59
 ·cases hg; exact h60
 ·cases hg; exact h61
 ·cases hg; exact h62
 ·cases hg), jjq, fun _ _ h => (by cases h), fun _ h => (by cases h)⟩
noncomputable def b26 : Code := jjh Tryz.f26
@[reducible] noncomputable def i26 : Shape := ⟨[(0, .agg [.d (.sl .pack)]), (1, .agg [.d (.str), .d (.str), .d (.sl .need), .d (.sl .entry)])], [], 36⟩
@[reducible] noncomputable def o26 : Shape := ⟨[(4, .lf (.ptr 4 0)), (5, .lf (.d (.int .i64)))], [(4, .box [.d (.sl .pack)], .same)], 36⟩
noncomputable def f26 (a : i26.Y) : Option o26.Y :=
(f19 (((a.1.1.1, ()), ()), ())).bind fun r2198 =>
 bif (!r2198.1.1) then
 some (((), ((1 : Int), ())), ((([] : List Pack), ()), ()))
else
(f58 (((a.1.2.1.1, (a.1.2.1.2.1, (a.1.2.1.2.2.1, (a.1.2.1.2.2.2.1, ())))), ()), ())).bind fun r2203 =>
 bif (!r2203.1.1) then
(f59 (((a.1.1.1, ()), ()), ())).bind fun r2204 =>
 some (((), ((1 : Int), ())), ((r2204.2.1, ()), ()))
else
(f60 ((a.1.1.1, (a.1.2.1.1, ())), ())).bind fun r2209 =>
 bif r2209.1.2.1 then
(f59 (((a.1.1.1, ()), ()), ())).bind fun r2210 =>
 some (((), ((2 : Int), ())), ((r2210.2.1, ()), ()))
else
(f62 ((a.1.1.1, ((a.1.2.1.1, (a.1.2.1.2.1, (a.1.2.1.2.2.1, (a.1.2.1.2.2.2.1, ())))), ())), ())).bind fun r2211 =>
(f61 ((r2211.2.1, ((a.1.1.1, ()), ())), ())).bind fun r2212 =>
 some (((), (r2212.1.2.1, ())), ((r2212.2.1.1, ()), ()))
theorem e26 : ∀ a, f26 a = jjp (jjd c26 []) b26 i26 o26 a := fun a => by kernel_rfl
noncomputable def S26 : jjG := jjf tt 36 i26 o26 [.cell 4 25, .tmp 5] [] f26
theorem z26 (h : ∀ T, (tt T).ok Tryz.prog T) (h19 : jja Tryz.prog 19 S19) (h58 : jja Tryz.prog 58 S58) (h59 : jja Tryz.prog 59 S59) (h60 : jja Tryz.prog 60 S60) (h61 : jja Tryz.prog 61 S61) (h62 : jja Tryz.prog 62 S62) : jja Tryz.prog 26 S26 :=
 have H := k26 h h19 h58 h59 h60 h61 h62
 jjj (fn := Tryz.f26) (fr := []) H (by kernel_rfl) (by kernel_rfl) (by kernel_rfl) (by kernel_rfl) (by kernel_rfl) jje (by kernel_rfl) (fun y => ⟨_, _, rfl, rfl, rfl⟩) e26
noncomputable def c63 : Ctx := { tt := tt, fs := fun n => match n with | 119 => some S119 | _ => none }
theorem k63 (h : ∀ T, (tt T).ok Tryz.prog T) (h119 : jja Tryz.prog 119 S119) : CtxGood Tryz.prog c63 := ⟨⟨h⟩, fun g S hg => (by
 simp only [c63] at hg
 split at hg
 ·cases hg; exact h119
 ·cases hg), jjq, fun _ _ h => (by cases h), fun _ h => (by cases h)⟩
noncomputable def b63 : Code := jjh Tryz.f63
@[reducible] noncomputable def s63_58 : Shape := ⟨[(0, .lf (.d (.sl .pack))), (1, .lf (.d (.sl .pack))), (5, .lf (.d (.int .i64)))], [], 27⟩
@[reducible] noncomputable def t63_58 : List OSh := [(.ret, ⟨[(4, .lf (.d (.bool)))], [], 27⟩), (.exit 0, ⟨[], [], 27⟩)]
noncomputable def g63_58 (y : s63_58.Y) : Option (Sum s63_58.Y (YS t63_58)) :=
 bif (decide (y.1.2.2.1 < (y.1.1.length : Int))) then
(ix y.1.1 y.1.2.2.1).bind fun x2121 =>
(ix y.1.2.1 y.1.2.2.1).bind fun x2122 =>
(f119 (((x2121.name, (x2121.version, (x2121.needs, (x2121.tree, ())))), ((x2122.name, (x2122.version, (x2122.needs, (x2122.tree, ())))), ())), ())).bind fun r2123 =>
 bif (!r2123.1.1) then
 some (.inr (.inl ((false, ()), ())))
else
 some (.inl ((y.1.1, (y.1.2.1, ((IntKind.i64.wrap (y.1.2.2.1 + (1 : Int))), ()))), ()))
else
 some (.inr (.inr ((), ())))
theorem r63_58 : ∀ y, g63_58 y = jjz (jjd c63 []) (jjl (jjc b63 1 58)) 58 s63_58 t63_58 y := fun y => by kernel_rfl
noncomputable def l63_58 : s63_58.Y → Option (YS t63_58) := jjD g63_58
theorem q63_58 (H : CtxGood Tryz.prog c63) : jjn Tryz.prog (jjc b63 1 58) (jjb s63_58 t63_58 l63_58) :=
 jjt (fr := []) H (by kernel_rfl) (by kernel_rfl) jje (fun y => jji r63_58 y)
@[reducible] noncomputable def i63 : Shape := ⟨[(0, .lf (.d (.sl .pack))), (1, .lf (.d (.sl .pack)))], [], 27⟩
@[reducible] noncomputable def o63 : Shape := ⟨[(4, .lf (.d (.bool)))], [], 27⟩
noncomputable def f63 (a : i63.Y) : Option o63.Y :=
 bif ((a.1.1.length : Int) != (a.1.2.1.length : Int)) then
 some ((false, ()), ())
else
(l63_58 ((a.1.1, (a.1.2.1, ((0 : Int), ()))), ())).bind fun r2124 =>
(match r2124 with
| .inl r2125 =>
 some ((r2125.1.1, ()), ())
| .inr r2126 =>
 some ((true, ()), ()))
theorem e63 : ∀ a, f63 a = jjp (jjd c63 [(58, jjb s63_58 t63_58 l63_58)]) b63 i63 o63 a := fun a => by kernel_rfl
noncomputable def S63 : jjG := jjf tt 27 i63 o63 [.tmp 4] [] f63
theorem z63 (h : ∀ T, (tt T).ok Tryz.prog T) (h119 : jja Tryz.prog 119 S119) : jja Tryz.prog 63 S63 :=
 have H := k63 h h119
 jjj (fn := Tryz.f63) (fr := [(58, jjb s63_58 t63_58 l63_58)]) H (by kernel_rfl) (by kernel_rfl) (by kernel_rfl) (by kernel_rfl) (by kernel_rfl) ⟨q63_58 H, trivial⟩ (by kernel_rfl) (fun y => ⟨_, _, rfl, rfl, rfl⟩) e63
noncomputable def c27 : Ctx := { tt := tt, fs := fun n => match n with | 63 => some S63 | _ => none }
theorem k27 (h : ∀ T, (tt T).ok Tryz.prog T) (h63 : jja Tryz.prog 63 S63) : CtxGood Tryz.prog c27 := ⟨⟨h⟩, fun g S hg => (by
 simp only [c27] at hg
 split at hg
 ·cases hg; exact h63
 ·cases hg), jjq, fun _ _ h => (by cases h), fun _ h => (by cases h)⟩
noncomputable def b27 : Code := jjh Tryz.f27
@[reducible] noncomputable def i27 : Shape := ⟨[(0, .agg [.d (.sl .pack)]), (1, .agg [.d (.sl .pack)])], [], 10⟩
@[reducible] noncomputable def o27 : Shape := ⟨[(4, .lf (.d (.bool)))], [], 10⟩
noncomputable def f27 (a : i27.Y) : Option o27.Y :=
(f63 ((a.1.1.1, (a.1.2.1.1, ())), ())).bind fun r2128 =>
 some ((r2128.1.1, ()), ())
theorem e27 : ∀ a, f27 a = jjp (jjd c27 []) b27 i27 o27 a := fun a => by kernel_rfl
noncomputable def S27 : jjG := jjf tt 10 i27 o27 [.tmp 4] [] f27
theorem z27 (h : ∀ T, (tt T).ok Tryz.prog T) (h63 : jja Tryz.prog 63 S63) : jja Tryz.prog 27 S27 :=
 have H := k27 h h63
 jjj (fn := Tryz.f27) (fr := []) H (by kernel_rfl) (by kernel_rfl) (by kernel_rfl) (by kernel_rfl) (by kernel_rfl) jje (by kernel_rfl) (fun y => ⟨_, _, rfl, rfl, rfl⟩) e27
theorem v_CloneN (a) (hs : Bd a.1.1.length) : f163 a = some (((), ()), (a.1.1, ())) := by
 obtain ⟨⟨xs, u⟩, u'⟩ := a
 have hs : xs.length ≤ 2097152 := hs
 have h2 : (apd 40 ([] : List Need) xs).bind (fun x => some (((), ()), (x, ()))) = (some (((), ()), (xs, ())) : Option o163.Y) := by
  rw [jqd (by decide) (by unfold Sm; simp only [List.length_nil]; omega)]; rfl
 simp only [f163]
 rw [h2]
 unfold jxj
 split
 ·rfl
 ·rename_i h
  exact absurd (fun he : xs = [] => by subst he; rfl) h
theorem v_clonePack (a) (h : BdP ⟨a.1.1.1, a.1.1.2.1, a.1.1.2.2.1, a.1.1.2.2.2.1⟩) : f117 a = some (((), ()), (a.1.1.2.2.1, (a.1.1.2.2.2.1, ((a.1.1.1, (a.1.1.2.1, ((), ((), ())))), ())))) := by
 obtain ⟨⟨⟨name, version, needs, tree, u⟩, u'⟩, u''⟩ := a
 have e1 := v_CloneN ((needs, ()), ()) h.2.2.1.1
 have e2 := v_CloneE ((tree, ()), ()) h.2.2.2.1
 simp only [f117, e1, e2, Option.bind_some]
theorem v_clonePacks (a) (h : BdPs a.1.1) : f67 a = some (((), ()), (a.1.1, ())) := by
 obtain ⟨⟨ps, u⟩, u'⟩ := a
 have hl : ps.length ≤ 2097152 := h.1
 have key := loop_fold (S := List Pack) g67_58 ps (fun i acc => (((), (ps, ((ps.length : Int), ((i : Int), ())))), (acc, ()))) (fun x acc => acc ++ [x]) (fun acc => (((), ()), (acc, ()))) (fun i acc => acc.length = i) [] rfl (fun i x acc hx hI => ?_) (fun acc hI => ?_)
 ·have key : l67_58 (((), (ps, ((ps.length : Int), ((0 : Int), ())))), (([] : List Pack), ())) = _ := key
  have e : ∀ (l acc : List Pack), l.foldl (fun s x => s ++ [x]) acc = acc ++ l := by
   intro l
   induction l with
   | nil => intro acc; simp
   | cons x l ih => intro acc; simp only [List.foldl_cons]; rw [ih]; simp
  simp only [f67, key, Option.bind_some]
  rw [e]; rfl
 ·have hi := jjy hx
  have hw : Sm i := by unfold Sm; omega
  have e2 := v_clonePack (((x.name, (x.version, (x.needs, (x.tree, ())))), ()), ()) (h.2 x (List.mem_of_getElem? hx))
  have ha : apd 80 acc [x] = some (acc ++ [x]) := jqd (by decide) (by unfold Sm; simp; omega)
  simp only [g67_58, jjB hi, cond_true, jju, hx, Option.bind_some, e2, ha, jjk hw]
  exact ⟨trivial, by simp [hI]⟩
 ·simp only [g67_58, jjC, cond_false]
theorem v_cloneRoot (a) (h : BdPs a.1.1.1) : f59 a = some (((), ()), (a.1.1.1, (((), ()), ()))) := by
 obtain ⟨⟨⟨ps, u0⟩, u⟩, u'⟩ := a
 have e := v_clonePacks ((ps, ()), ()) h
 simp only [f59, e, Option.bind_some]
abbrev AscN (ps : List Pack) : Prop := ps.Pairwise fun p q => Op.bytesLess p.name q.name = true
def asE (p : Pack) : Entry := ⟨p.name, 0, 0, []⟩
theorem posP_E (ps : List Pack) (n : Str) : jj1 (ps.map asE) n = jJe ps n := by
 unfold jj1 jJe
 rw [List.takeWhile_map, List.length_map]; rfl
theorem ascE {ps : List Pack} (h : AscN ps) : Asc (ps.map asE) := by
 unfold Asc
 rw [List.pairwise_map]; exact h
theorem posP_spec {ps : List Pack} {n : Str} (ha : AscN ps) (h : Nat) (p : Pack) (hp : ps[h]? = some p) : Op.bytesLess p.name n = decide (h < jJe ps n) := by
 have := jqq (p := n) (ascE ha) h (asE p) (by rw [List.getElem?_map, hp]; rfl)
 rw [posP_E] at this
 exact this
def hasP (ps : List Pack) (n : Str) : Bool := match ps[jJe ps n]? with
 | some q => q.name == n
 | none => false
theorem v_findPack (a) (hs : Bd a.1.1.length) (ha : AscN a.1.1) : f60 a = some (((jJe a.1.1 a.1.2.1 : Int), (hasP a.1.1 a.1.2.1, ())), ()) := by
 obtain ⟨⟨t, p, u⟩, u'⟩ := a
 have hs : t.length ≤ 2097152 := hs
 have hP := posP_le t p
 have hc : ∀ x : Pack, f115 (((x.name, (x.version, (x.needs, (x.tree, ())))), (p, ())), ()) = some ((cmpI x.name p, ()), ()) := by
  intro x
  have h1 : (x.name == x.name) = true := by simp
  have h2 : (p == p) = true := by simp
  simp only [f115, f116, f162, Option.bind_some, h1, h2, Bool.not_true, cond_false, cmpI]
  cases Op.bytesLess x.name p <;> cases (x.name == p) <;> rfl
 have key : ∀ d i j : Nat, j - i = d → i ≤ jJe t p → jJe t p ≤ j → j ≤ t.length →
   jza ((t, (p, ((), ((t.length : Int), ((i : Int), ((j : Int), ())))))), ()) =
    some (((t, (p, ((), ((t.length : Int), ((jJe t p : Int), ()))))), ())) := by
  intro d
  induction d using Nat.strongRecOn with
  | _ d ih =>
   intro i j hd hi hj hl
   by_cases hij : i < j
   ·have hh : (i + j) / 2 < t.length := by omega
    obtain ⟨e, he⟩ : ∃ e, t[(i + j) / 2]? = some e := ⟨t[(i + j) / 2], List.getElem?_eq_getElem hh⟩
    have hsh : shrI .u64 (IntKind.u64.wrap (IntKind.i64.wrap ((i : Int) + (j : Int)))) 1 = some ((((i + j) / 2 : Nat)) : Int) := by
     rw [← shr1 (n := i + j) (by omega)]; rw [Int.natCast_add]
    have hwh : IntKind.i64.wrap (((i + j) / 2 : Nat) : Int) = (((i + j) / 2 : Nat) : Int) := jjH (by omega) (by omega)
    have hps := posP_spec (n := p) ha ((i + j) / 2) e he
    cases hb : Op.bytesLess e.name p with
    | true =>
     rw [hb] at hps
     have hlt : (i + j) / 2 < jJe t p := by simpa using hps.symm
     refine (jqw ?_).trans (ih (j - ((i + j) / 2 + 1)) (by omega) ((i + j) / 2 + 1) j rfl (by omega) hj hl)
     simp only [jJt, jjB hij, cond_true, hsh, hwh, jju, he, Option.bind_some, hc, cmpI_neg, hb, jjk (i := (i + j) / 2) (by unfold Sm; omega)]
    | false =>
     rw [hb] at hps
     have hge : ¬ (i + j) / 2 < jJe t p := by simpa using hps.symm
     refine (jqw ?_).trans (ih ((i + j) / 2 - i) (by omega) i ((i + j) / 2) rfl hi (by omega) (by omega))
     simp only [jJt, jjB hij, cond_true, hsh, hwh, jju, he, Option.bind_some, hc, cmpI_neg, hb, cond_false]
   ·have hi' : i = jJe t p := by omega
    have hlt : decide ((i : Int) < (j : Int)) = false := by simp only [decide_eq_false_iff_not]; omega
    refine jjT ?_
    simp only [jJt, hlt, cond_false]
    rw [hi']
 have k0 : jza ((t, (p, ((), ((t.length : Int), ((0 : Int), ((t.length : Int), ())))))), ()) = _ := key t.length 0 t.length (Nat.sub_zero _) (Nat.zero_le _) hP (Nat.le_refl _)
 have fb : f114v0 ((t, (p, ((), ()))), ()) = some (((jJe t p : Int), (hasP t p, ())), ()) := by
  simp only [f114v0, k0, Option.bind_some, hasP, jju, hc, cmpI_zero]
  cases ht : t[jJe t p]? with
  | none =>
   have := List.getElem?_eq_none_iff.1 ht
   have : decide ((jJe t p : Int) < (t.length : Int)) = false := by simp only [decide_eq_false_iff_not]; omega
   rw [this]; rfl
  | some e => rw [jjB (jjy ht)]; rfl
 simp only [f60, fb, Option.bind_some]
theorem find_pos {ps : List Pack} (ha : AscN ps) (n : Str) : ps.find? (fun q => q.name == n) = bif hasP ps n then ps[jJe ps n]? else none := by
 have hu : ∀ (k : Nat) (q : Pack), ps[k]? = some q → q.name = n → k = jJe ps n := by
  intro k q hk hq
  have h1 := posP_spec (n := n) ha k q hk
  have h2 : Op.bytesLess q.name n = false := by rw [hq]; exact jJz _
  rw [h1] at h2
  have h2 : ¬ k < jJe ps n := of_decide_eq_false h2
  rcases Nat.lt_or_ge (jJe ps n) k with h3 | h3
  ·have h4 : jJe ps n < ps.length := Nat.lt_trans h3 (jjy hk)
   have h5 := List.getElem?_eq_getElem h4
   have h6 := posP_spec (n := n) ha (jJe ps n) ps[jJe ps n] h5
   have h7 := List.pairwise_iff_getElem.1 ha (jJe ps n) k h4 (jjy hk) h3
   have h8 : ps[k]'(jjy hk) = q := by
    have := List.getElem?_eq_getElem (jjy hk)
    rw [hk] at this
    exact (Option.some.inj this).symm
   rw [h8, hq] at h7
   rw [h7] at h6
   have := of_decide_eq_true h6.symm
   omega
  ·omega
 cases hf : ps.find? (fun q => q.name == n) with
 | none =>
  have h0 := List.find?_eq_none.1 hf
  unfold hasP
  cases hq : ps[jJe ps n]? with
  | none => rfl
  | some q =>
   have := h0 q (List.mem_of_getElem? hq)
   simp only [Bool.not_eq_true] at this
   simp only [this, cond_false]
 | some q =>
  have h1 : q.name = n := by have := List.find?_some hf; simpa using this
  obtain ⟨k, hk⟩ := List.mem_iff_getElem?.1 (List.mem_of_find?_eq_some hf)
  have := hu k q hk h1
  subst this
  unfold hasP
  simp only [hk, h1, beq_self_eq_true, cond_true]
theorem v_packsWith (a) (hb : BdPs a.1.1) (hl : a.1.1.length ≤ 2000000) (hp : BdP ⟨a.1.2.1.1, a.1.2.1.2.1, a.1.2.1.2.2.1, a.1.2.1.2.2.2.1⟩) (ha : AscN a.1.1) : f62 a = some (((), ()), ((bif hasP a.1.1 a.1.2.1.1 then a.1.1.set (jJe a.1.1 a.1.2.1.1) ⟨a.1.2.1.1, a.1.2.1.2.1, a.1.2.1.2.2.1, a.1.2.1.2.2.2.1⟩ else jqe a.1.1 ⟨a.1.2.1.1, a.1.2.1.2.1, a.1.2.1.2.2.1, a.1.2.1.2.2.2.1⟩), ())) := by
 obtain ⟨⟨ps, ⟨name, version, needs, tree, u0⟩, u⟩, u'⟩ := a
 have hl : ps.length ≤ 2000000 := hl
 have e1 := v_clonePacks ((ps, ()), ()) hb
 have e2 := v_findPack ((ps, (name, ())), ()) hb.1 ha
 have e3 := v_clonePack (((name, (version, (needs, (tree, ())))), ()), ()) hp
 have hpl := posP_le ps name
 simp only [f62, e1, e2, e3, Option.bind_some]
 cases hh : hasP ps name with
 | true =>
  unfold hasP at hh
  cases hq : ps[jJe ps name]? with
  | none => rw [hq] at hh; cases hh
  | some q => simp only [cond_true, jzy (jjy hq), hq, Option.bind_some]
 | false =>
  have grow : insL 80 ps (jJe ps name : Int) [(⟨name, version, needs, tree⟩ : Pack)] = some (jqe ps ⟨name, version, needs, tree⟩) := by
   unfold insL
   rw [if_pos ⟨by omega, by omega, by unfold room; simp only [List.length_cons, List.length_nil]; omega, by unfold maxLen; simp only [List.length_cons, List.length_nil]; omega⟩, Int.toNat_natCast]
   rfl
  simp only [cond_false, grow, Option.bind_some]
theorem v_rootOr (a) (hb : BdPs a.1.1) (hv : VS a.1.1) (hr : BdPs a.1.2.1.1) : f61 a = some (((), (jxc a.1.1, ())), (((bif jxc a.1.1 == 0 then a.1.1 else a.1.2.1.1), ()), ())) := by
 obtain ⟨⟨list, ⟨r, u0⟩, u⟩, u'⟩ := a
 have e := v_rootCode ((list, ()), ()) hb hv
 have e2 := v_cloneRoot (((r, ()), ()), ()) hr
 simp only [f61, e, Option.bind_some]
 have z : (jxc list != 0) = !(jxc list == 0) := rfl
 rw [z]
 cases hc : (jxc list == 0) with
 | false => simp only [Bool.not_false, cond_true, cond_false, e2, Option.bind_some]
 | true =>
  have hc : jxc list = 0 := by simpa using hc
  simp only [Bool.not_true, cond_false, cond_true]
  rw [hc]
def inR (ps : List Pack) (p : Pack) : List Pack × Int := bif jqG ps then inL ps p else ([], 1)
theorem rootOk_asc {ps : List Pack} (h : jqG ps = true) : AscN ps := by
 obtain ⟨t, R⟩ := rt_of h
 exact R.asc
theorem rootOk_len {ps : List Pack} (h : jqG ps = true) : ps.length ≤ 5 := by
 unfold jqG at h
 simp only [Bool.and_eq_true, decide_eq_true_eq] at h
 exact h.1.1.2
theorem v_iRootIn (a) (k : Nat) (hk : k ≤ 1999999) (h : OkR k a.1.1.1) (hp : OkP ⟨a.1.2.1.1, a.1.2.1.2.1, a.1.2.1.2.2.1, a.1.2.1.2.2.2.1⟩) : f26 a = some (((), ((inR a.1.1.1 ⟨a.1.2.1.1, a.1.2.1.2.1, a.1.2.1.2.2.1, a.1.2.1.2.2.2.1⟩).2, ())), (((inR a.1.1.1 ⟨a.1.2.1.1, a.1.2.1.2.1, a.1.2.1.2.2.1, a.1.2.1.2.2.2.1⟩).1, ()), ())) := by
 obtain ⟨⟨⟨ps, u0⟩, ⟨name, version, needs, tree, u1⟩, u⟩, u'⟩ := a
 have h : OkR k ps := h
 have hp : OkP ⟨name, version, needs, tree⟩ := hp
 have hb : BdPs ps := h.bd (by omega)
 have e0 := v_iRootOk (((ps, ()), ()), ()) hb h.vs
 simp only [f26, e0, Option.bind_some, inR]
 cases hr : jqG ps with
 | false => rfl
 | true =>
  have ha := rootOk_asc hr
  have hl := rootOk_len hr
  have e1 := v_iPackOk (((name, (version, (needs, (tree, ())))), ()), ()) hp.1
  have e2 := v_cloneRoot (((ps, ()), ()), ()) hb
  have e3 := v_findPack ((ps, (name, ())), ()) hb.1 ha
  have e4 := v_packsWith ((ps, ((name, (version, (needs, (tree, ())))), ())), ()) hb (show ps.length ≤ 2000000 by omega) hp.1 ha
  simp only [Bool.not_true, cond_false, cond_true, e1, Option.bind_some, inL, find_pos ha]
  cases jxM ⟨name, version, needs, tree⟩ with
  | false => simp only [Bool.not_false, cond_true, cond_false, e2, Option.bind_some]
  | true =>
   simp only [Bool.not_true, cond_false, cond_true, e3, Option.bind_some]
   cases hh : hasP ps name with
   | true =>
    have hh' := hh
    unfold hasP at hh'
    cases hq : ps[jJe ps name]? with
    | none => rw [hq] at hh'; cases hh'
    | some q => simp only [cond_true, e2, Option.bind_some]
   | false =>
    rw [hh] at e4
    simp only [cond_false] at e4
    have hw := withL_ok (k := 5) ⟨hl, h.2⟩ hp
    have e5 := v_rootOr ((jqe ps ⟨name, version, needs, tree⟩, ((ps, ()), ())), ()) (hw.bd (by decide)) hw.vs hb
    simp only [cond_false, e4, e5, Option.bind_some]
theorem v_jsNeeds (a) (h : a.1.1 = a.1.2.1) (hl : Bd a.1.1.length) : f166 a = some ((true, ()), ()) := by
 obtain ⟨⟨xs, ys, u⟩, u'⟩ := a
 have h : xs = ys := h
 subst h
 have hs : xs.length ≤ 2097152 := hl
 have key : l166_58 ((xs, (xs, ((0 : Int), ()))), ()) = some (bif jqu (fun _ _ => true) 0 xs then .inr ((), ()) else .inl ((false, ()), ())) := by
  refine jjN g166_58 xs (fun i => ((xs, (xs, ((i : Int), ()))), ())) _ _ _ (fun i x hx => ?_) ?_
  ·have hi := jjy hx
   have hw : Sm i := by unfold Sm; omega
   simp only [g166_58, jjB hi, cond_true, jju, hx, Option.bind_some, beq_self_eq_true, Bool.and_self, Bool.not_true, cond_false, jjk hw]
  ·simp only [g166_58, jjC, cond_false]
 rw [jxz] at key
 have hb : ((xs.length : Int) != (xs.length : Int)) = false := by simp
 simp only [f166, hb, cond_false, key, cond_true, Option.bind_some]
theorem v_jsRoot (a) (h : a.1.1.1 = a.1.2.1.1) (hl : BdPs a.1.1.1) : f27 a = some ((true, ()), ()) := by
 obtain ⟨⟨⟨xs, u0⟩, ⟨ys, u1⟩, u⟩, u'⟩ := a
 have h : xs = ys := h
 subst h
 have hs : xs.length ≤ 2097152 := hl.1
 have key : l63_58 ((xs, (xs, ((0 : Int), ()))), ()) = some (bif jqu (fun _ _ => true) 0 xs then .inr ((), ()) else .inl ((false, ()), ())) := by
  refine jjN g63_58 xs (fun i => ((xs, (xs, ((i : Int), ()))), ())) _ _ _ (fun i x hx => ?_) ?_
  ·have hi := jjy hx
   have hw : Sm i := by unfold Sm; omega
   have hbx := hl.2 x (List.mem_of_getElem? hx)
   have e1 := v_jsNeeds ((x.needs, (x.needs, ())), ()) rfl hbx.2.2.1.1
   have e2 := v_jsTree ((x.tree, (x.tree, ())), ()) rfl hbx.2.2.2.1
   simp only [g63_58, jjB hi, cond_true, jju, hx, Option.bind_some, f119, beq_self_eq_true, e1, e2, Bool.not_true, cond_false, jjk hw]
  ·simp only [g63_58, jjC, cond_false]
 rw [jxz] at key
 have hb : ((xs.length : Int) != (xs.length : Int)) = false := by simp
 simp only [f27, f63, hb, cond_false, key, cond_true, Option.bind_some]
theorem asc_sub {α : Type} {key : α → Str} : ∀ {b a : List α}, a.Pairwise (fun x y => Op.bytesLess (key x) (key y) = true) → b.Pairwise (fun x y => Op.bytesLess (key x) (key y) = true) → (∀ x, x ∈ a → x ∈ b) → a.Sublist b := by
 intro b
 induction b with
 | nil =>
  intro a _ _ h
  cases a with
  | nil => exact List.Sublist.refl _
  | cons x r => exact absurd (h x List.mem_cons_self) (by simp)
 | cons y b ih =>
  intro a ha hb h
  cases a with
  | nil => exact List.nil_sublist _
  | cons x a =>
   obtain ⟨a1, a2⟩ := List.pairwise_cons.1 ha
   obtain ⟨b1, b2⟩ := List.pairwise_cons.1 hb
   have later : ∀ z, Op.bytesLess (key y) (key z) = true → z ∈ y :: b → z ∈ b := by
    intro z hz hm
    rcases List.mem_cons.1 hm with rfl | hm
    ·rw [jJz] at hz; cases hz
    ·exact hm
   rcases List.mem_cons.1 (h x List.mem_cons_self) with rfl | hx
   ·exact List.Sublist.cons_cons _ (ih a2 b2 fun z hz => later z (a1 z hz) (h z (List.mem_cons_of_mem _ hz)))
   ·refine List.Sublist.cons _ (ih ha b2 fun z hz => ?_)
    rcases List.mem_cons.1 hz with rfl | hz'
    ·exact hx
    ·exact later z (jJY _ _ _ (b1 x hx) (a1 z hz')) (h z hz)
theorem find_in {ps : List Pack} (ha : AscN ps) {n : Str} {q : Pack} : ps.find? (fun q => q.name == n) = some q ↔ q ∈ ps ∧ q.name = n := by
 constructor
 ·intro h
  exact ⟨List.mem_of_find?_eq_some h, by have := List.find?_some h; simpa using this⟩
 ·rintro ⟨h, rfl⟩
  cases hf : ps.find? (fun x => x.name == q.name) with
  | none => have := List.find?_eq_none.1 hf q h; simp at this
  | some x =>
   have h1 := List.mem_of_find?_eq_some hf
   have h2 : x.name = q.name := by have := List.find?_some hf; simpa using this
   obtain ⟨i, hi⟩ := List.mem_iff_getElem?.1 h1
   obtain ⟨j, hj⟩ := List.mem_iff_getElem?.1 h
   have e1 := List.getElem?_eq_some_iff.1 hi
   have e2 := List.getElem?_eq_some_iff.1 hj
   obtain ⟨i1, i2⟩ := e1
   obtain ⟨j1, j2⟩ := e2
   rcases Nat.lt_trichotomy i j with h3 | h3 | h3
   ·have := List.pairwise_iff_getElem.1 ha i j i1 j1 h3
    rw [i2, j2, h2, jJz] at this; cases this
   ·subst h3; rw [hi] at hj; exact hj
   ·have := List.pairwise_iff_getElem.1 ha j i j1 i1 h3
    rw [i2, j2, h2, jJz] at this; cases this
theorem find_no {ps : List Pack} {n : Str} : ps.find? (fun q => q.name == n) = none ↔ ∀ q, q ∈ ps → q.name ≠ n := by
 rw [List.find?_eq_none]
 constructor
 ·intro h q hq he; exact h q hq (by simpa using he)
 ·intro h q hq he; exact h q hq (by simpa using he)
theorem jqJ {ps : List Pack} {p x : Pack} : x ∈ jqe ps p ↔ x = p ∨ x ∈ ps := by
 constructor
 ·exact withL_mem
 ·unfold jqe
  intro h
  rcases h with rfl | h
  ·simp
  ·have : x ∈ ps.take (jJe ps p.name) ++ ps.drop (jJe ps p.name) := by rw [List.take_append_drop]; exact h
   simp only [List.mem_append, List.mem_singleton] at this ⊢
   rcases this with h | h
   ·exact .inl (.inl h)
   ·exact .inr h
theorem withL_asc {ps : List Pack} {p : Pack} (ha : AscN ps) (hn : ∀ q, q ∈ ps → q.name ≠ p.name) : AscN (jqe ps p) := by
 have h1 : jxm (ps.map asE) p.name = false := by
  unfold jxm
  rw [posP_E, List.getElem?_map]
  cases hq : ps[jJe ps p.name]? with
  | none => rfl
  | some q =>
   have := hn q (List.mem_of_getElem? hq)
   show ((asE q).path == p.name) = false
   simpa [asE] using this
 have h2 := asc_ins (e := asE p) (ascE ha) h1
 have h3 : jJn (ps.map asE) (jj1 (ps.map asE) (asE p).path) (asE p) = (jqe ps p).map asE := by
  have : jj1 (ps.map asE) (asE p).path = jJe ps p.name := posP_E ps p.name
  rw [this]
  unfold jJn jqe
  simp [List.map_take, List.map_drop]
 rw [h3] at h2
 unfold Asc at h2
 rw [List.pairwise_map] at h2
 exact h2
structure InOk (ps : List Pack) (p : Pack) : Prop where
 ok : jqG ps = true
 pk : jxM p = true
 new : ∀ q, q ∈ ps → q.name ≠ p.name
 code : jxc (jqe ps p) = 0
theorem InOk.out {ps : List Pack} {p : Pack} (h : InOk ps p) : inR ps p = (jqe ps p, 0) := by
 unfold inR inL
 rw [h.ok, h.pk, find_no.2 h.new, h.code]
 rfl
theorem in_no {ps : List Pack} {p : Pack} (h1 : jqG ps = true) (h : (inR ps p).2 ≠ 0) : (inR ps p).1 = ps := by
 unfold inR at h ⊢
 rw [h1] at h ⊢
 simp only [cond_true, inL] at h ⊢
 cases h2 : jxM p with
 | false => rfl
 | true =>
  rw [h2] at h
  simp only [cond_true] at h ⊢
  cases h3 : ps.find? (fun q => q.name == p.name) with
  | some q => rfl
  | none =>
   rw [h3] at h
   have hz : (jxc (jqe ps p) == 0) = false := by simpa using h
   simp only [hz, cond_false]
theorem ascP_to {ps : List Pack} (h : AscN ps) : ascP ps = true := by
 unfold ascP
 refine (jQn (ok' := fun _ _ => true) ps.tail 0 (fun i x hx => ?_)).trans (jxz _ _)
 rw [List.getElem?_tail] at hx
 have hlt := jjy hx
 have hi : i < ps.length := by omega
 rw [Nat.zero_add]
 unfold lessP
 rw [List.getElem?_eq_getElem hi]
 have := List.pairwise_iff_getElem.1 h i (i + 1) hi hlt (by omega)
 rw [(List.getElem?_eq_some_iff.1 hx).2] at this
 exact this
theorem rootOk_all {ps : List Pack} (h : jqG ps = true) : ps.all jxM = true ∧ ps.all (fun p => p.needs.all (jq0 ps)) = true ∧ (jjX [] ps).isSome = true := by
 unfold jqG at h
 simp only [Bool.and_eq_true] at h
 exact ⟨h.1.1.1.1, h.1.2, h.2⟩
theorem needS_of {ps : List Pack} {n : Need} (h : jq0 ps n = true) : ∃ q, ps.find? (fun q => q.name == n.name) = some q ∧ fitsV n q.version = true := by
 unfold jq0 at h
 split at h
 ·rename_i q hq; exact ⟨q, hq, h⟩
 ·cases h
theorem needS_to {ps : List Pack} {n : Need} {q : Pack} (h : ps.find? (fun q => q.name == n.name) = some q) : jq0 ps n = fitsV n q.version := by
 unfold jq0; rw [h]
theorem code_with {ps : List Pack} {p : Pack} (hr : jqG ps = true) (hl : ps.length < 5) (hp : jxM p = true) (hn : ∀ q, q ∈ ps → q.name ≠ p.name) :
  jxc (jqe ps p) = bif p.needs.all (jq0 (jqe ps p)) then (bif (jjX [] (jqe ps p)).isSome then 0 else 5) else 4 := by
 obtain ⟨h1, h2, h3⟩ := rootOk_all hr
 have ha := rootOk_asc hr
 have hx := withL_asc ha hn
 have g1 : (jqe ps p).all jxM = true := by
  rw [List.all_eq_true]
  intro x hx
  rcases jqJ.1 hx with rfl | hx
  ·exact hp
  ·exact List.all_eq_true.1 h1 x hx
 have g2 : decide ((jqe ps p).length ≤ 5) = true := by rw [withL_len]; simp; omega
 have g3 : (jqe ps p).all (fun q => q.needs.all (jq0 (jqe ps p))) = p.needs.all (jq0 (jqe ps p)) := by
  rw [Bool.eq_iff_iff]
  constructor
  ·intro h
   exact List.all_eq_true.1 h p (jqJ.2 (.inl rfl))
  ·intro h
   rw [List.all_eq_true]
   intro x hx'
   rcases jqJ.1 hx' with rfl | hx'
   ·exact h
   ·rw [List.all_eq_true]
    intro n hnn
    obtain ⟨q, q1, q2⟩ := needS_of (List.all_eq_true.1 (List.all_eq_true.1 h2 x hx') n hnn)
    obtain ⟨q3, q4⟩ := (find_in ha).1 q1
    rw [needS_to ((find_in hx).2 ⟨jqJ.2 (.inr q3), q4⟩)]
    exact q2
 unfold jxc
 rw [g1, ascP_to hx, g2, g3]
 rfl
theorem inR_code {ps : List Pack} {p : Pack} (hr : jqG ps = true) (hp : jxM p = true) (hn : ∀ q, q ∈ ps → q.name ≠ p.name) : (inR ps p).2 = jxc (jqe ps p) := by
 unfold inR inL
 rw [hr, hp, find_no.2 hn]
 rfl
noncomputable def c5 : Ctx := { tt := tt, fs := fun n => match n with | 15 => some S15 | 19 => some S19 | 20 => some S20 | 26 => some S26 | 27 => some S27 | _ => none }
theorem k5 (h : ∀ T, (tt T).ok Tryz.prog T) (h15 : jja Tryz.prog 15 S15) (h19 : jja Tryz.prog 19 S19) (h20 : jja Tryz.prog 20 S20) (h26 : jja Tryz.prog 26 S26) (h27 : jja Tryz.prog 27 S27) : CtxGood Tryz.prog c5 := ⟨⟨h⟩, fun g S hg => (by
 simp only [c5] at hg
 split at hg
 ·cases hg; exact h15
 ·cases hg; exact h19
 ·cases hg; exact h20
 ·cases hg; exact h26
 ·cases hg; exact h27
 ·cases hg), jjq, fun _ _ h => (by cases h), fun _ h => (by cases h)⟩
noncomputable def b5 : Code := jjh Tryz.f5
@[reducible] noncomputable def s5_124 : Shape := ⟨[(3, .lf (.ptr 3 0)), (4, .lf (.d (.bool)))], [(3, .box [.d (.sl .pack)], .same)], 93⟩
@[reducible] noncomputable def t5_124 : List OSh := [(.norm, ⟨[(3, .lf (.ptr 3 0)), (4, .lf (.d (.bool))), (30, .lf (.d (.bool)))], [(3, .box [.d (.sl .pack)], .same)], 93⟩)]
noncomputable def g5_124 (y : s5_124.Y) : Option (YS t5_124) :=
(f20 (((y.2.1.1, ()), ()), ())).bind fun r2199 =>
 bif (!(!(y.1.2.1 == r2199.1.1))) then
 bif (!(!y.1.2.1)) then
 some ((((), (y.1.2.1, ((decide ((y.2.1.1.length : Int) ≥ (5 : Int))), ()))), ((y.2.1.1, ()), ())))
else
 some ((((), (y.1.2.1, (true, ()))), ((y.2.1.1, ()), ())))
else
 some ((((), (y.1.2.1, (true, ()))), ((y.2.1.1, ()), ())))
theorem r5_124 : ∀ y, g5_124 y = jjM (jjd c5 []) (jjc b5 1 124) 124 s5_124 t5_124 y := fun y => by kernel_rfl
theorem q5_124 (H : CtxGood Tryz.prog c5) : jjn Tryz.prog (jjc b5 1 124) (jjb s5_124 t5_124 g5_124) :=
 jjv (fr := []) H (by kernel_rfl) jje r5_124
@[reducible] noncomputable def s5_129610 : Shape := ⟨[(3, .lf (.ptr 3 0)), (5, .lf (.d (.int .i64))), (6, .lf (.d (.bool))), (7, .lf (.d (.int .i64)))], [(3, .box [.d (.sl .pack)], .same)], 93⟩
@[reducible] noncomputable def jxZ : List OSh := [(.exit 2, ⟨[(3, .lf (.ptr 3 0)), (5, .lf (.d (.int .i64))), (6, .lf (.d (.bool)))], [(3, .box [.d (.sl .pack)], .same)], 93⟩)]
noncomputable def jJp (y : s5_129610.Y) : Option (Sum s5_129610.Y (YS jxZ)) :=
(ix y.2.1.1 y.1.2.1).bind fun x2217 =>
 bif (decide (y.1.2.2.2.1 < (x2217.tree.length : Int))) then
 bif (!y.1.2.2.1) then
(ix y.2.1.1 y.1.2.1).bind fun x2218 =>
(ix x2218.tree y.1.2.2.2.1).bind fun x2219 =>
 some (.inl (((), (y.1.2.1, ((x2219.kind != (1 : Int)), ((IntKind.i64.wrap (y.1.2.2.2.1 + (1 : Int))), ())))), ((y.2.1.1, ()), ())))
else
 some (.inl (((), (y.1.2.1, (true, ((IntKind.i64.wrap (y.1.2.2.2.1 + (1 : Int))), ())))), ((y.2.1.1, ()), ())))
else
 some (.inr ((((), (y.1.2.1, (y.1.2.2.1, ()))), ((y.2.1.1, ()), ()))))
theorem r5_129610 : ∀ y, jJp y = jjz (jjd c5 []) (jjl (jjc (jjl (jjc b5 1 506)) 1012 129610)) 129610 s5_129610 jxZ y := fun y => by kernel_rfl
noncomputable def jJh : s5_129610.Y → Option (YS jxZ) := jjD jJp
theorem q5_129610 (H : CtxGood Tryz.prog c5) : jjn Tryz.prog (jjc (jjl (jjc b5 1 506)) 1012 129610) (jjb s5_129610 jxZ jJh) :=
 jjt (fr := []) H (by kernel_rfl) (by kernel_rfl) jje (fun y => jji r5_129610 y)
@[reducible] noncomputable def s5_129614 : Shape := ⟨[(3, .lf (.ptr 3 0)), (5, .lf (.d (.int .i64))), (6, .lf (.d (.bool))), (8, .lf (.ptr 8 0)), (9, .lf (.d (.int .i64))), (68, .agg [.d (.sl .pack)]), (69, .lf (.ptr 3 0)), (70, .lf (.d (.sl .pack))), (71, .lf (.d (.int .i64))), (72, .lf (.rptr [.str, .str, .sl .need, .sl .entry] 0)), (73, .lf (.rptr [.str, .str, .sl .need, .sl .entry] 3)), (74, .lf (.d (.sl .entry))), (75, .agg [.d (.str), .d (.str), .own 3004802, .d (.sl .entry)]), (77, .agg [.d (.sl .pack)]), (78, .lf (.d (.int .i64)))], [(3, .box [.d (.sl .pack)], .same), (8, .box [.d (.sl .pack)], .same), (3004802, .row .need, .slot 75 2)], 93⟩
@[reducible] noncomputable def jz2 : List OSh := [(.norm, ⟨[(3, .lf (.ptr 3 0)), (5, .lf (.d (.int .i64))), (8, .lf (.ptr 8 0)), (9, .lf (.d (.int .i64))), (68, .agg [.d (.sl .pack)]), (69, .lf (.ptr 3 0)), (70, .lf (.d (.sl .pack))), (71, .lf (.d (.int .i64))), (72, .lf (.rptr [.str, .str, .sl .need, .sl .entry] 0)), (73, .lf (.rptr [.str, .str, .sl .need, .sl .entry] 3)), (74, .lf (.d (.sl .entry))), (75, .agg [.d (.str), .d (.str), .own 3004802, .d (.sl .entry)]), (77, .agg [.d (.sl .pack)]), (78, .lf (.d (.int .i64))), (92, .lf (.d (.bool)))], [(3, .box [.d (.sl .pack)], .same), (8, .box [.d (.sl .pack)], .same), (3004802, .row .need, .slot 75 2)], 93⟩)]
noncomputable def jzc (y : s5_129614.Y) : Option (YS jz2) :=
 bif (!(!((y.1.2.2.2.2.1 == (5 : Int)) == y.1.2.2.1))) then
 bif (y.1.2.2.2.2.1 != (0 : Int)) then
(f27 (((y.2.2.1.1, ()), ((y.2.1.1, ()), ())), ())).bind fun r2380 =>
 some ((((), (y.1.2.1, ((), (y.1.2.2.2.2.1, ((y.1.2.2.2.2.2.1.1, ()), ((), (y.1.2.2.2.2.2.2.2.1, (y.1.2.2.2.2.2.2.2.2.1, ((y.1.2.2.2.2.2.2.2.2.2.1.1, (y.1.2.2.2.2.2.2.2.2.2.1.2.1, (y.1.2.2.2.2.2.2.2.2.2.1.2.2.1, (y.1.2.2.2.2.2.2.2.2.2.1.2.2.2.1, ())))), ((y.1.2.2.2.2.2.2.2.2.2.2.1.1, (y.1.2.2.2.2.2.2.2.2.2.2.1.2.1, (y.1.2.2.2.2.2.2.2.2.2.2.1.2.2.1, (y.1.2.2.2.2.2.2.2.2.2.2.1.2.2.2.1, ())))), (y.1.2.2.2.2.2.2.2.2.2.2.2.1, ((y.1.2.2.2.2.2.2.2.2.2.2.2.2.1.1, (y.1.2.2.2.2.2.2.2.2.2.2.2.2.1.2.1, ((), (y.1.2.2.2.2.2.2.2.2.2.2.2.2.1.2.2.2.1, ())))), ((y.1.2.2.2.2.2.2.2.2.2.2.2.2.2.1.1, ()), (y.1.2.2.2.2.2.2.2.2.2.2.2.2.2.2.1, ((!r2380.1.1), ()))))))))))))))), ((y.2.1.1, ()), ((y.2.2.1.1, ()), (y.2.2.2.1, ())))))
else
 some ((((), (y.1.2.1, ((), (y.1.2.2.2.2.1, ((y.1.2.2.2.2.2.1.1, ()), ((), (y.1.2.2.2.2.2.2.2.1, (y.1.2.2.2.2.2.2.2.2.1, ((y.1.2.2.2.2.2.2.2.2.2.1.1, (y.1.2.2.2.2.2.2.2.2.2.1.2.1, (y.1.2.2.2.2.2.2.2.2.2.1.2.2.1, (y.1.2.2.2.2.2.2.2.2.2.1.2.2.2.1, ())))), ((y.1.2.2.2.2.2.2.2.2.2.2.1.1, (y.1.2.2.2.2.2.2.2.2.2.2.1.2.1, (y.1.2.2.2.2.2.2.2.2.2.2.1.2.2.1, (y.1.2.2.2.2.2.2.2.2.2.2.1.2.2.2.1, ())))), (y.1.2.2.2.2.2.2.2.2.2.2.2.1, ((y.1.2.2.2.2.2.2.2.2.2.2.2.2.1.1, (y.1.2.2.2.2.2.2.2.2.2.2.2.2.1.2.1, ((), (y.1.2.2.2.2.2.2.2.2.2.2.2.2.1.2.2.2.1, ())))), ((y.1.2.2.2.2.2.2.2.2.2.2.2.2.2.1.1, ()), (y.1.2.2.2.2.2.2.2.2.2.2.2.2.2.2.1, (false, ()))))))))))))))), ((y.2.1.1, ()), ((y.2.2.1.1, ()), (y.2.2.2.1, ())))))
else
 some ((((), (y.1.2.1, ((), (y.1.2.2.2.2.1, ((y.1.2.2.2.2.2.1.1, ()), ((), (y.1.2.2.2.2.2.2.2.1, (y.1.2.2.2.2.2.2.2.2.1, ((y.1.2.2.2.2.2.2.2.2.2.1.1, (y.1.2.2.2.2.2.2.2.2.2.1.2.1, (y.1.2.2.2.2.2.2.2.2.2.1.2.2.1, (y.1.2.2.2.2.2.2.2.2.2.1.2.2.2.1, ())))), ((y.1.2.2.2.2.2.2.2.2.2.2.1.1, (y.1.2.2.2.2.2.2.2.2.2.2.1.2.1, (y.1.2.2.2.2.2.2.2.2.2.2.1.2.2.1, (y.1.2.2.2.2.2.2.2.2.2.2.1.2.2.2.1, ())))), (y.1.2.2.2.2.2.2.2.2.2.2.2.1, ((y.1.2.2.2.2.2.2.2.2.2.2.2.2.1.1, (y.1.2.2.2.2.2.2.2.2.2.2.2.2.1.2.1, ((), (y.1.2.2.2.2.2.2.2.2.2.2.2.2.1.2.2.2.1, ())))), ((y.1.2.2.2.2.2.2.2.2.2.2.2.2.2.1.1, ()), (y.1.2.2.2.2.2.2.2.2.2.2.2.2.2.2.1, (true, ()))))))))))))))), ((y.2.1.1, ()), ((y.2.2.1.1, ()), (y.2.2.2.1, ())))))
theorem r5_129614 : ∀ y, jzc y = jjM (jjd c5 []) (jjc (jjl (jjc b5 1 506)) 1012 129614) 129614 s5_129614 jz2 y := fun y => by kernel_rfl
theorem q5_129614 (H : CtxGood Tryz.prog c5) : jjn Tryz.prog (jjc (jjl (jjc b5 1 506)) 1012 129614) (jjb s5_129614 jz2 jzc) :=
 jjv (fr := []) H (by kernel_rfl) jje r5_129614
@[reducible] noncomputable def s5_506 : Shape := ⟨[(3, .lf (.ptr 3 0)), (5, .lf (.d (.int .i64)))], [(3, .box [.d (.sl .pack)], .same)], 93⟩
@[reducible] noncomputable def t5_506 : List OSh := [(.ret, ⟨[(2, .lf (.d (.bool)))], [], 93⟩), (.exit 0, ⟨[], [], 93⟩)]
noncomputable def g5_506 (y : s5_506.Y) : Option (Sum s5_506.Y (YS t5_506)) :=
 bif (decide (y.1.2.1 < (y.2.1.1.length : Int))) then
(jJh (((), (y.1.2.1, (false, ((0 : Int), ())))), ((y.2.1.1, ()), ()))).bind fun r2383 =>
(ix r2383.2.1.1 r2383.1.2.1).bind fun x2386 =>
(f26 (((r2383.2.1.1, ()), ((([102, 114, 101, 115, 104] : Str), (([49] : Str), (([] : List Need), (x2386.tree, ())))), ())), ())).bind fun r2387 =>
(jzc (((), (r2383.1.2.1, (r2383.1.2.2.1, ((), (r2387.1.2.1, ((r2383.2.1.1, ()), ((), (r2383.2.1.1, (r2383.1.2.1, ((x2386.name, (x2386.version, (x2386.needs, (x2386.tree, ())))), ((x2386.name, (x2386.version, (x2386.needs, (x2386.tree, ())))), (x2386.tree, ((([102, 114, 101, 115, 104] : Str), (([49] : Str), ((), (x2386.tree, ())))), ((r2387.2.1.1, ()), (r2387.1.2.1, ()))))))))))))))), ((r2383.2.1.1, ()), ((r2387.2.1.1, ()), (([] : List Need), ()))))).bind fun r2388 =>
 bif r2388.1.2.2.2.2.2.2.2.2.2.2.2.2.2.2.1 then
 some (.inr (.inl ((false, ()), ())))
else
 some (.inl (((), ((IntKind.i64.wrap (r2388.1.2.1 + (1 : Int))), ())), ((r2388.2.1.1, ()), ())))
else
 some (.inr (.inr ((), ())))
theorem r5_506 : ∀ y, g5_506 y = jjz (jjd c5 [(129610, jjb s5_129610 jxZ jJh), (129614, jjb s5_129614 jz2 jzc)]) (jjl (jjc b5 1 506)) 506 s5_506 t5_506 y := fun y => by kernel_rfl
noncomputable def l5_506 : s5_506.Y → Option (YS t5_506) := jjD g5_506
theorem q5_506 (H : CtxGood Tryz.prog c5) : jjn Tryz.prog (jjc b5 1 506) (jjb s5_506 t5_506 l5_506) :=
 jjt (fr := [(129610, jjb s5_129610 jxZ jJh), (129614, jjb s5_129614 jz2 jzc)]) H (by kernel_rfl) (by kernel_rfl) ⟨q5_129610 H, q5_129614 H, trivial⟩ (fun y => jji r5_506 y)
@[reducible] noncomputable def i5 : Shape := ⟨[(0, .lf (.d (.sl .u8)))], [], 93⟩
@[reducible] noncomputable def o5 : Shape := ⟨[(2, .lf (.d (.bool)))], [], 93⟩
noncomputable def f5 (a : i5.Y) : Option o5.Y :=
 bif (decide ((a.1.1.length : Int) > (1048576 : Int))) then
 some ((true, ()), ())
else
(f15 ((a.1.1, ()), ())).bind fun r2205 =>
(f19 (((r2205.2.1.1, ()), ()), ())).bind fun r2207 =>
(g5_124 (((), (r2207.1.1, ())), ((r2205.2.1.1, ()), ()))).bind fun r2210 =>
 bif r2210.1.2.2.1 then
(f20 (((r2210.2.1.1, ()), ()), ())).bind fun r2211 =>
 some (((r2210.1.2.1 == r2211.1.1), ()), ())
else
(l5_506 (((), ((0 : Int), ())), ((r2210.2.1.1, ()), ()))).bind fun r2389 =>
(match r2389 with
| .inl r2390 =>
 some ((r2390.1.1, ()), ())
| .inr r2391 =>
 some ((true, ()), ()))
theorem e5 : ∀ a, f5 a = jjp (jjd c5 [(124, jjb s5_124 t5_124 g5_124), (506, jjb s5_506 t5_506 l5_506)]) b5 i5 o5 a := fun a => by kernel_rfl
noncomputable def S5 : jjG := jjf tt 93 i5 o5 [.tmp 2] [] f5
theorem z5 (h : ∀ T, (tt T).ok Tryz.prog T) (h15 : jja Tryz.prog 15 S15) (h19 : jja Tryz.prog 19 S19) (h20 : jja Tryz.prog 20 S20) (h26 : jja Tryz.prog 26 S26) (h27 : jja Tryz.prog 27 S27) : jja Tryz.prog 5 S5 :=
 have H := k5 h h15 h19 h20 h26 h27
 jjj (fn := Tryz.f5) (fr := [(124, jjb s5_124 t5_124 g5_124), (506, jjb s5_506 t5_506 l5_506)]) H (by kernel_rfl) (by kernel_rfl) (by kernel_rfl) (by kernel_rfl) (by kernel_rfl) ⟨q5_124 H, q5_506 H, trivial⟩ (by kernel_rfl) (fun y => ⟨_, _, rfl, rfl, rfl⟩) e5
theorem dirIn_iff {t : List Entry} (ha : Asc t) {p : Str} : jzV t p = true ↔ p = [] ∨ ∃ d, d ∈ t ∧ d.path = p ∧ d.kind = 1 := by
 have e : jzV t p = (p == [] || match getL t p with | some e => e.kind == 1 | none => false) := by
  unfold jzV getL
  cases t[jj1 t p]? with
  | none => rfl
  | some e => cases h : (e.path == p) <;> simp [h]
 rw [e, Bool.or_eq_true]
 constructor
 ·rintro (h | h)
  ·exact .inl (eq_of_beq h)
  ·cases hg : getL t p with
   | none => rw [hg] at h; cases h
   | some d =>
    rw [hg] at h
    obtain ⟨h1, h2⟩ := (jqz ha).1 hg
    exact .inr ⟨d, h1, h2, eq_of_beq h⟩
 ·rintro (h | ⟨d, h1, h2, h3⟩)
  ·exact .inl (by rw [h]; rfl)
  ·refine .inr ?_
   rw [(jqz ha).2 ⟨h1, h2⟩]
   simp [h3]
theorem treeOk_to {t : List Entry} (h : jjP t = true) : (∀ e, e ∈ t → entOk e = true) ∧ ∀ e, e ∈ t → jzV t (upL e.path) = true := by
 unfold jjP at h
 simp only [Bool.and_eq_true] at h
 obtain ⟨⟨h1, h2⟩, _⟩ := h
 refine ⟨fun e he => ?_, fun e he => List.all_eq_true.1 h2 e he⟩
 obtain ⟨i, hi⟩ := List.mem_iff_getElem?.1 he
 have := allI_get t 0 h1 i e hi
 unfold okAt at this
 simp only [Bool.and_eq_true] at this
 exact this.1
theorem treeOk_mk {t : List Entry} (ha : Asc t) (h1 : ∀ e, e ∈ t → entOk e = true) (h2 : ∀ e, e ∈ t → jzV t (upL e.path) = true) (h3 : t.length ≤ 16) : jjP t = true := by
 unfold jjP
 simp only [Bool.and_eq_true, decide_eq_true_eq]
 refine ⟨⟨?_, List.all_eq_true.2 h2⟩, h3⟩
 refine (jQn (ok' := fun _ _ => true) t 0 (fun i x hx => ?_)).trans (jxz _ _)
 rw [Nat.zero_add]
 unfold okAt lessAt
 rw [h1 x (List.mem_of_getElem? hx), Bool.true_and]
 cases i with
 | zero => rfl
 | succ i =>
  have hlt := jjy hx
  have hi : i < t.length := by omega
  have := List.pairwise_iff_getElem.1 ha i (i + 1) hi hlt (by omega)
  rw [(List.getElem?_eq_some_iff.1 hx).2] at this
  simp only [Nat.add_sub_cancel, List.getElem?_eq_getElem hi, this, Bool.or_true]
def Cmp (a b : List Entry) : Prop := ∀ e, e ∈ b → ∀ y, y ∈ a → y.path = e.path → y = e ∧ e.kind = 1
theorem joinL_can : ∀ (es out : List Entry), Asc out → Asc es → Cmp out es → ∃ o, jq8 out es = some o := by
 intro es
 induction es with
 | nil => intro out _ _ _; exact ⟨out, rfl⟩
 | cons e r ih =>
  intro out ha he hc
  obtain ⟨he1, he2⟩ := List.pairwise_cons.1 he
  have step : ∃ o, jxC out e = some o := by
   unfold jxC
   cases hq : out[jj1 out e.path]? with
   | none => exact ⟨_, rfl⟩
   | some q =>
    simp only
    cases hp : (q.path == e.path) with
    | false => exact ⟨_, rfl⟩
    | true =>
     obtain ⟨rfl, h2⟩ := hc e List.mem_cons_self q (List.mem_of_getElem? hq) (eq_of_beq hp)
     have : conf q q = false := by unfold conf; rw [h2, eqE_refl]; rfl
     rw [this]
     exact ⟨_, rfl⟩
  obtain ⟨o, ho⟩ := step
  rw [jqH, ho]
  refine ih o (stepJ_asc ha ho) he2 fun e' he' y hy hp => ?_
  rcases (stepJ_in ho y).1 hy with rfl | hy
  ·have := he1 e' he'
   rw [hp, jJz] at this
   cases this
  ·exact hc e' (List.mem_cons_of_mem _ he') y hy hp
theorem trees_can : ∀ (ps : List Pack) (out T : List Entry), jjP out = true → (∀ p, p ∈ ps → jjP p.tree = true) → ps.Pairwise (fun p q => Cmp p.tree q.tree) → (∀ p, p ∈ ps → Cmp out p.tree) →
  Asc T → T.length ≤ 16 → (∀ e, e ∈ out → e ∈ T) → (∀ p, p ∈ ps → ∀ e, e ∈ p.tree → e ∈ T) → (jjX out ps).isSome = true := by
 intro ps
 induction ps with
 | nil => intro out T _ _ _ _ _ _ _ _; rfl
 | cons p r ih =>
  intro out T ho hp hpw hc hT hl hoT hpT
  obtain ⟨w1, w2⟩ := List.pairwise_cons.1 hpw
  have hpt := hp p List.mem_cons_self
  obtain ⟨o, hj⟩ := joinL_can p.tree out (jj5 ho) (jj5 hpt) (hc p List.mem_cons_self)
  have hin := joinL_in hj
  have hao := joinL_asc (jj5 ho) hj
  have hoT' : ∀ e, e ∈ o → e ∈ T := fun e he => by
   rcases (hin e).1 he with h | h
   ·exact hoT e h
   ·exact hpT p List.mem_cons_self e h
  have hok : jjP o = true := by
   obtain ⟨k1, k2⟩ := treeOk_to ho
   obtain ⟨k3, k4⟩ := treeOk_to hpt
   refine treeOk_mk hao (fun e he => ?_) (fun e he => ?_) (Nat.le_trans (asc_sub (key := fun e : Entry => e.path) hao hT hoT').length_le hl)
   ·rcases (hin e).1 he with h | h
    ·exact k1 e h
    ·exact k3 e h
   ·rw [dirIn_iff hao]
    rcases (hin e).1 he with h | h
    ·rcases (dirIn_iff (jj5 ho)).1 (k2 e h) with h | ⟨d, d1, d2⟩
     ·exact .inl h
     ·exact .inr ⟨d, (hin d).2 (.inl d1), d2⟩
    ·rcases (dirIn_iff (jj5 hpt)).1 (k4 e h) with h | ⟨d, d1, d2⟩
     ·exact .inl h
     ·exact .inr ⟨d, (hin d).2 (.inr d1), d2⟩
  rw [jqV]
  have : jJ0 out p = some o := by unfold jJ0; rw [hj]; simp only [hok, cond_true]
  rw [this, Option.bind_some]
  refine ih o T hok (fun q hq => hp q (List.mem_cons_of_mem _ hq)) w2 (fun q hq e he y hy hyp => ?_) hT hl hoT' (fun q hq => hpT q (List.mem_cons_of_mem _ hq))
  rcases (hin y).1 hy with h | h
  ·exact hc q (List.mem_cons_of_mem _ hq) e he y h hyp
  ·exact w1 q hq e he y h hyp
theorem two_in {α : Type} {l : List α} {a b : α} (ha : a ∈ l) (hb : b ∈ l) (hne : a ≠ b) : 2 ≤ l.length := by
 match l, ha, hb with
 | [x], ha, hb =>
  rw [List.mem_singleton] at ha hb
  exact absurd (ha.trans hb.symm) hne
 | _ :: _ :: _, _, _ => simp
theorem cnt_two {ps : List Pack} {p q : Pack} {path : Str} (hp : p ∈ ps) (hq : q ∈ ps) (hne : p.name ≠ q.name) (h1 : (getL p.tree path).isSome = true) (h2 : (getL q.tree path).isSome = true) : 2 ≤ cntP path ps := by
 unfold cntP
 exact two_in (a := p) (b := q) (List.mem_filter.2 ⟨hp, h1⟩) (List.mem_filter.2 ⟨hq, h2⟩) fun h => hne (by rw [h])
abbrev frS : Str := [102, 114, 101, 115, 104]
abbrev frP (x : Pack) : Pack := ⟨frS, [49], [], x.tree⟩
section
variable {ps : List Pack} (hr : jqG ps = true) (hl : ps.length < 5) (hn : ∀ q, q ∈ ps → q.name ≠ frS) {x : Pack} (hx : x ∈ ps)
include hr hl hn hx
theorem frP_pk : jxM (frP x) = true := by
 obtain ⟨t, R⟩ := rt_of hr
 have h1 := (R.pk hx).2
 unfold jxM
 simp only [h1, Bool.and_true]
 decide
theorem clash_some (h : x.tree.any (fun e => e.kind != 1) = false) : (jjX [] (jqe ps (frP x))).isSome = true := by
 obtain ⟨t, R⟩ := rt_of hr
 have hA := withL_asc (p := frP x) R.asc hn
 have hd : ∀ e, e ∈ x.tree → e.kind = 1 := fun e he => by
  have := List.any_eq_false.1 h e he
  simpa using this
 have inT : ∀ q, q ∈ jqe ps (frP x) → ∀ e, e ∈ q.tree → e ∈ t := fun q hq e he => by
  rcases jqJ.1 hq with rfl | hq
  ·exact (treesL_in R.tree e).2 (.inr ⟨x, hx, he⟩)
  ·exact (treesL_in R.tree e).2 (.inr ⟨q, hq, he⟩)
 have okt : ∀ q, q ∈ jqe ps (frP x) → jjP q.tree = true := fun q hq => by
  rcases jqJ.1 hq with rfl | hq
  ·exact (R.pk hx).2
  ·exact (R.pk hq).2
 refine trees_can _ [] t (by rfl) okt ?_ (fun q _ e _ y hy => by cases hy) (jj5 R.ok) (jxq R.ok) (fun e he => by cases he) inT
 refine List.Pairwise.imp_of_mem ?_ hA
 intro p q hp hq hlt e he y hy hyp
 have hye : y = e := by
  have g1 := (jqz (jj5 R.ok)).2 ⟨inT p hp y hy, hyp⟩
  have g2 := (jqz (jj5 R.ok)).2 ⟨inT q hq e he, rfl⟩
  rw [g1] at g2
  exact Option.some.inj g2
 refine ⟨hye, ?_⟩
 rcases jqJ.1 hp with rfl | hp'
 ·rw [← hye]; exact hd y hy
 ·rcases jqJ.1 hq with rfl | hq'
  ·exact hd e he
  ·have hne : p.name ≠ q.name := fun h => by rw [h, jJz] at hlt; cases hlt
   have g1 := (jqz (R.tr hp')).2 ⟨hy, hyp⟩
   have g2 := (jqz (R.tr hq')).2 ⟨he, rfl⟩
   exact R.dir (R.up hq' g2) (cnt_two hp' hq' hne (by rw [g1]; rfl) (by rw [g2]; rfl))
theorem clash_none (h : x.tree.any (fun e => e.kind != 1) = true) : (jjX [] (jqe ps (frP x))).isSome = false := by
 cases hs : (jjX [] (jqe ps (frP x))).isSome with
 | false => rfl
 | true =>
  exfalso
  obtain ⟨t, ht⟩ := Option.isSome_iff_exists.1 hs
  obtain ⟨e, he, hk⟩ := List.any_eq_true.1 h
  have hk : e.kind ≠ 1 := by simpa using hk
  have hpk : (jqe ps (frP x)).all jxM = true := by
   rw [List.all_eq_true]
   intro q hq
   rcases jqJ.1 hq with rfl | hq
   ·exact frP_pk hr hl hn hx
   ·exact List.all_eq_true.1 (rootOk_all hr).1 q hq
  have R : Rt (jqe ps (frP x)) t := ⟨ht, hpk, withL_asc (rootOk_asc hr) hn⟩
  have hp : frP x ∈ jqe ps (frP x) := jqJ.2 (.inl rfl)
  have hq : x ∈ jqe ps (frP x) := jqJ.2 (.inr hx)
  have g := (jqz (R.tr hq)).2 ⟨he, rfl⟩
  exact hk (R.dir (R.up hq g) (cnt_two hp hq (fun h => hn x hx h.symm) (by show (getL x.tree e.path).isSome = true; rw [g]; rfl) (by rw [g]; rfl)))
theorem clash_code : (inR ps (frP x)).2 = bif x.tree.any (fun e => e.kind != 1) then 5 else 0 := by
 have hp := frP_pk hr hl hn hx
 rw [inR_code hr hp hn, code_with hr hl hp hn]
 have : (frP x).needs.all (jq0 (jqe ps (frP x))) = true := rfl
 rw [this]
 cases h : x.tree.any (fun e => e.kind != 1) with
 | true => rw [clash_none hr hl hn hx h]; rfl
 | false => rw [clash_some hr hl hn hx h]; rfl
end
theorem v_FnRootClash (a) (h : ∀ x, x ∈ (a.1.1 : List Int) → 0 ≤ x ∧ x ≤ 255) : Ev (f5 a) (fun r => r.1.1 = true) := by
 unfold f5
 refine Ev.ite (fun _ => Ev.ret rfl) fun _ => ?_
 refine Ev.bind (v_DrawRootTree _ (rd_code h)) fun r hr => ?_
 obtain ⟨u0, ⟨⟨(ps : List Pack), u1⟩, u2⟩⟩ := r
 have hr : ShR 5 ps := hr
 have hb := hr.ok.bd (by decide)
 have hv := hr.ok.vs
 have hn : ∀ q, q ∈ ps → q.name ≠ frS := fun q hq => by
  have := (hr.2 q hq).1.2
  unfold nmOut at this
  simp only [Bool.and_eq_true, Bool.not_eq_true', beq_eq_false_iff_ne] at this
  exact this.1
 have e3 := v_RootOk (((ps, ()), ()), ()) hb hv
 have e4 := v_iRootOk (((ps, ()), ()), ()) hb hv
 refine Ev.eq e4 ?_
 have z : ∀ b : Bool, (b == b) = true := by decide
 simp only [g5_124, e3, Option.bind_some, z, Bool.not_true, Bool.not_false, cond_true]
 cases hk : jqG ps with
 | false => simp only [Bool.not_false, Bool.not_true, cond_true, cond_false, Option.bind_some, e3, hk]; exact Ev.ret rfl
 | true =>
  cases h5 : decide ((ps.length : Int) ≥ 5) with
  | true => simp only [Bool.not_false, Bool.not_true, cond_true, cond_false, Option.bind_some, e3, hk]; exact Ev.ret rfl
  | false =>
   have hl : ps.length < 5 := by simp at h5; omega
   simp only [Bool.not_false, Bool.not_true, cond_true, cond_false, Option.bind_some]
   have outer : l5_506 (((), ((0 : Int), ())), ((ps, ()), ())) = some (bif jqu (fun _ _ => true) 0 ps then .inr ((), ()) else .inl ((false, ()), ())) := by
    refine jjN g5_506 ps (fun i => (((), ((i : Int), ())), ((ps, ()), ()))) (fun _ _ => true) _ _ (fun i x hx => ?_) ?_
    ·have hi := jjy hx
     have hw : Sm i := by unfold Sm; omega
     have hm := List.mem_of_getElem? hx
     have hbx := hb.2 x hm
     have htl : x.tree.length ≤ 2097152 := hbx.2.2.2.1
     have inner : jJh (((), ((i : Int), (false, ((0 : Int), ())))), ((ps, ()), ())) = some ((((), ((i : Int), (x.tree.any (fun e => e.kind != 1), ()))), ((ps, ()), ()))) := by
      have key := loop_fold (S := Bool) jJp x.tree (fun k b => (((), ((i : Int), (b, ((k : Int), ())))), ((ps, ()), ()))) (fun e b => b || e.kind != 1)
       (fun b => (((), ((i : Int), (b, ()))), ((ps, ()), ()))) (fun k b => True) false trivial (fun k e b he hI => ?_) (fun b hI => ?_)
      ·have e : ∀ (l : List Entry) (b : Bool), l.foldl (fun s e => s || e.kind != 1) b = (b || l.any (fun e => e.kind != 1)) := by
        intro l
        induction l with
        | nil => intro b; simp
        | cons y l ih => intro b; rw [List.foldl_cons, ih, List.any_cons, Bool.or_assoc]
       rw [e, Bool.false_or] at key
       exact key
      ·have hk' := jjy he
       have hw2 : Sm k := by unfold Sm; omega
       refine ⟨?_, trivial⟩
       simp only [jJp, jju, hx, Option.bind_some, jjB hk', cond_true, he, jjk hw2]
       cases b <;> rfl
      ·simp only [jJp, jju, hx, Option.bind_some, jjC, cond_false]
     have hp : OkP (frP x) := ⟨⟨by show (5 : Nat) ≤ 2097152; decide, by show (1 : Nat) ≤ 2097152; decide, ⟨by show (0 : Nat) ≤ 2097152; decide, fun n hn => by cases hn⟩, hbx.2.2.2⟩, by show (1 : Nat) ≤ 2097151; decide, fun n hn => by cases hn⟩
     have c1 := v_iRootIn (((ps, ()), ((frS, (([49] : Str), (([] : List Need), (x.tree, ())))), ())), ()) 5 (by decide) hr.ok hp
     have w := clash_code hk hl hn hm
     simp only [g5_506, jjB hi, cond_true, inner, jju, hx, Option.bind_some, c1, jzc, w]
     cases hf : x.tree.any (fun e => e.kind != 1) with
     | true =>
      rw [hf] at w
      have hno := in_no (p := frP x) hk (by rw [w]; decide)
      have ej := v_jsRoot ((((inR ps (frP x)).1, ()), ((ps, ()), ())), ()) hno (by rw [hno]; exact hb)
      have k1 : (((5 : Int) == 5) == true) = true := rfl
      have k2 : ((5 : Int) != 0) = true := rfl
      simp only [cond_true, k1, k2, Bool.not_true, Bool.not_false, ej, Option.bind_some, cond_false, jjk hw]
     | false =>
      have k1 : (((0 : Int) == 5) == false) = true := rfl
      have k2 : ((0 : Int) != 0) = false := rfl
      simp only [cond_true, k1, k2, Bool.not_true, Bool.not_false, Option.bind_some, cond_false, jjk hw]
    ·simp only [g5_506, jjC, cond_false]
   rw [jxz] at outer
   refine Ev.eq outer ?_
   exact Ev.ret rfl
theorem pure_FnRootClash : LawOk S5 [(false, [.sl .u8])] := by
 rintro ⟨⟨code, u⟩, u'⟩ ⟨h, _⟩
 obtain ⟨r, hr, hq⟩ := v_FnRootClash ((code, ()), ()) (wf_bytes (h (.sl .u8 code) (by simp [mkDs, SD.mk])))
 obtain ⟨⟨b, v⟩, v'⟩ := r
 have hq : b = true := hq
 subst hq
 exact ⟨((true, ()), ()), hr, rfl⟩
noncomputable def SH243 : jjG := indexSumm
theorem zH243 (h : ∀ T, (tt T).ok Tryz.prog T) : jja Tryz.prog 243 SH243 := indexByte_ok (fn := Tryz.f243) (by kernel_rfl) (by kernel_rfl) (by kernel_rfl) (by kernel_rfl) (by kernel_rfl)
noncomputable def c237 : Ctx := { tt := tt, fs := fun n => match n with | 243 => some SH243 | _ => none }
theorem k237 (h : ∀ T, (tt T).ok Tryz.prog T) (hH243 : jja Tryz.prog 243 SH243) : CtxGood Tryz.prog c237 := ⟨⟨h⟩, fun g S hg => (by
 simp only [c237] at hg
 split at hg
 ·cases hg; exact hH243
 ·cases hg), jjq, fun _ _ h => (by cases h), fun _ h => (by cases h)⟩
noncomputable def b237 : Code := jjh Tryz.f237
@[reducible] noncomputable def i237 : Shape := ⟨[(0, .lf (.d (.str))), (1, .lf (.d (.int .u8)))], [], 8⟩
@[reducible] noncomputable def o237 : Shape := ⟨[(4, .lf (.d (.int .i64)))], [], 8⟩
noncomputable def f237 (a : i237.Y) : Option o237.Y :=
(some ()).bind fun r2220 =>
 some (((Lib.indexByte a.1.1 (a.1.2.1).toNat.toUInt8), ()), ())
theorem e237 : ∀ a, f237 a = jjp (jjd c237 []) b237 i237 o237 a := fun a => by kernel_rfl
noncomputable def S237 : jjG := jjf tt 8 i237 o237 [.tmp 4] [] f237
theorem z237 (h : ∀ T, (tt T).ok Tryz.prog T) (hH243 : jja Tryz.prog 243 SH243) : jja Tryz.prog 237 S237 :=
 have H := k237 h hH243
 jjj (fn := Tryz.f237) (fr := []) H (by kernel_rfl) (by kernel_rfl) (by kernel_rfl) (by kernel_rfl) (by kernel_rfl) jje (by kernel_rfl) (fun y => ⟨_, _, rfl, rfl, rfl⟩) e237
noncomputable def c233 : Ctx := { tt := tt, fs := fun n => match n with | 237 => some S237 | _ => none }
theorem k233 (h : ∀ T, (tt T).ok Tryz.prog T) (h237 : jja Tryz.prog 237 S237) : CtxGood Tryz.prog c233 := ⟨⟨h⟩, fun g S hg => (by
 simp only [c233] at hg
 split at hg
 ·cases hg; exact h237
 ·cases hg), jjq, fun _ _ h => (by cases h), fun _ h => (by cases h)⟩
noncomputable def b233 : Code := jjh Tryz.f233
@[reducible] noncomputable def s233_56 : Shape := ⟨[(0, .lf (.d (.str))), (1, .lf (.d (.str))), (5, .lf (.d (.int .i64)))], [], 143⟩
@[reducible] noncomputable def t233_56 : List OSh := [(.norm, ⟨[(0, .lf (.d (.str))), (1, .lf (.d (.str))), (5, .lf (.d (.int .i64))), (16, .lf (.d (.bool)))], [], 143⟩)]
noncomputable def g233_56 (y : s233_56.Y) : Option (YS t233_56) :=
 bif (!(y.1.2.2.1 == (0 : Int))) then
 some (((y.1.1, (y.1.2.1, (y.1.2.2.1, ((y.1.2.1 == y.1.1), ())))), ()))
else
 some (((y.1.1, (y.1.2.1, (y.1.2.2.1, (true, ())))), ()))
theorem r233_56 : ∀ y, g233_56 y = jjM (jjd c233 []) (jjc b233 1 56) 56 s233_56 t233_56 y := fun y => by kernel_rfl
theorem q233_56 (H : CtxGood Tryz.prog c233) : jjn Tryz.prog (jjc b233 1 56) (jjb s233_56 t233_56 g233_56) :=
 jjv (fr := []) H (by kernel_rfl) jje r233_56
@[reducible] noncomputable def i233 : Shape := ⟨[(0, .lf (.d (.str))), (1, .lf (.d (.str)))], [], 143⟩
@[reducible] noncomputable def o233 : Shape := ⟨[(4, .lf (.d (.int .i64)))], [], 143⟩
noncomputable def f233 (a : i233.Y) : Option o233.Y :=
(g233_56 ((a.1.1, (a.1.2.1, ((a.1.2.1.length : Int), ()))), ())).bind fun r2222 =>
 bif r2222.1.2.2.2.1 then
 some (((0 : Int), ()), ())
else
 bif (r2222.1.2.2.1 == (1 : Int)) then
(ix r2222.1.2.1 (0 : Int)).bind fun x2223 =>
(f237 ((r2222.1.1, ((x2223.toNat : Int), ())), ())).bind fun r2224 =>
 some ((r2224.1.1, ()), ())
else
 bif (decide (r2222.1.2.2.1 ≥ (r2222.1.1.length : Int))) then
 some ((((-1) : Int), ()), ())
else
 none
theorem e233 : ∀ a, f233 a = jjp (jjd c233 [(56, jjb s233_56 t233_56 g233_56)]) b233 i233 o233 a := fun a => by kernel_rfl
noncomputable def S233 : jjG := jjf tt 143 i233 o233 [.tmp 4] [] f233
theorem z233 (h : ∀ T, (tt T).ok Tryz.prog T) (h237 : jja Tryz.prog 237 S237) : jja Tryz.prog 233 S233 :=
 have H := k233 h h237
 jjj (fn := Tryz.f233) (fr := [(56, jjb s233_56 t233_56 g233_56)]) H (by kernel_rfl) (by kernel_rfl) (by kernel_rfl) (by kernel_rfl) (by kernel_rfl) ⟨q233_56 H, trivial⟩ (by kernel_rfl) (fun y => ⟨_, _, rfl, rfl, rfl⟩) e233
noncomputable def c221 : Ctx := { tt := tt, fs := fun n => match n with | 233 => some S233 | _ => none }
theorem k221 (h : ∀ T, (tt T).ok Tryz.prog T) (h233 : jja Tryz.prog 233 S233) : CtxGood Tryz.prog c221 := ⟨⟨h⟩, fun g S hg => (by
 simp only [c221] at hg
 split at hg
 ·cases hg; exact h233
 ·cases hg), jjq, fun _ _ h => (by cases h), fun _ h => (by cases h)⟩
noncomputable def b221 : Code := jjh Tryz.f221
@[reducible] noncomputable def i221 : Shape := ⟨[(0, .lf (.d (.str))), (1, .lf (.d (.str)))], [], 8⟩
@[reducible] noncomputable def o221 : Shape := ⟨[(4, .lf (.d (.int .i64)))], [], 8⟩
noncomputable def f221 (a : i221.Y) : Option o221.Y :=
(f233 ((a.1.1, (a.1.2.1, ())), ())).bind fun r2226 =>
 some ((r2226.1.1, ()), ())
theorem e221 : ∀ a, f221 a = jjp (jjd c221 []) b221 i221 o221 a := fun a => by kernel_rfl
noncomputable def S221 : jjG := jjf tt 8 i221 o221 [.tmp 4] [] f221
theorem z221 (h : ∀ T, (tt T).ok Tryz.prog T) (h233 : jja Tryz.prog 233 S233) : jja Tryz.prog 221 S221 :=
 have H := k221 h h233
 jjj (fn := Tryz.f221) (fr := []) H (by kernel_rfl) (by kernel_rfl) (by kernel_rfl) (by kernel_rfl) (by kernel_rfl) jje (by kernel_rfl) (fun y => ⟨_, _, rfl, rfl, rfl⟩) e221
theorem sp195 (s p : ByteArray) (k : Int) (w : World) : Calls Tryz.prog 195 #[.string s, .string p, .int .i64 k] w fun e w' =>
  e = .returned (.func (.func 219) #[] #[.pointer (some ⟨w.heap.size + 1, 0, none⟩), .pointer (some ⟨w.heap.size, 0, none⟩), .pointer (some ⟨w.heap.size + 2, 0, none⟩)]) ∧
  w' = ((w.alloc (.cells #[.string s] 9)).alloc (.cells #[.string p] 9)).alloc (.cells #[.int .i64 k] 3) := by
 go_enter Tryz.func195, Tryz.ntmps195
 go_wp2
 go_ret
 exact ⟨rfl, rfl⟩
theorem sp155 (s p : ByteArray) (w : World) : Calls Tryz.prog 155 #[.string s, .string p] w fun e w' =>
  e = .returned (.func (.func 219) #[] #[.pointer (some ⟨w.heap.size + 1, 0, none⟩), .pointer (some ⟨w.heap.size, 0, none⟩), .pointer (some ⟨w.heap.size + 2, 0, none⟩)]) ∧
  w' = ((w.alloc (.cells #[.string s] 9)).alloc (.cells #[.string p] 9)).alloc (.cells #[.int .i64 0] 3) := by
 go_enter Tryz.func155, Tryz.ntmps155
 go_wp2_with (go_at_call 195; refine (sp195 _ _ _ _).mono ?_; rintro e w' ⟨rfl, rfl⟩)
 go_ret
 exact ⟨rfl, rfl⟩
theorem y155 : jQo Tryz.prog 155 219 := fun a b w => .inl ⟨enters_of Tryz.func155 (by kernel_rfl) rfl _ _, (sp155 a b w).mono fun e w' h => by obtain ⟨rfl, rfl⟩ := h; exact ⟨9, 3, rfl, rfl⟩⟩
noncomputable def c219 : Ctx := { tt := tt, fs := fun n => match n with | 221 => some S221 | _ => none }
theorem k219 (h : ∀ T, (tt T).ok Tryz.prog T) (h221 : jja Tryz.prog 221 S221) : CtxGood Tryz.prog c219 := ⟨⟨h⟩, fun g S hg => (by
 simp only [c219] at hg
 split at hg
 ·cases hg; exact h221
 ·cases hg), jjq, fun _ _ h => (by cases h), fun _ h => (by cases h)⟩
noncomputable def b219 : Code := jjh Tryz.f219
noncomputable def l219 : Code := jjl (jjc b219 1 12)
noncomputable def op219 (p j : Nat) : Oper := (jQd (jjc l219 24 p)).getD j default
def ridOf : Code → Nat
 | .region i _ _ => i
 | _ => 0
noncomputable def oq219 (j : Nat) : Oper := (jQd (jjc b219 1 7)).getD j default
theorem idx221 (c : UInt8) (r : Str) : f221 ((r, ([c], ())), ()) = some ((Lib.indexByte r c, ()), ()) := by
 have h0 : ix ([c] : Str) (0 : Int) = some c := rfl
 have h1 : ((([c] : Str).length : Int) == 0) = false := rfl
 have h2 : ((([c] : Str).length : Int) == 1) = true := rfl
 have h3 : ((c.toNat : Int)).toNat.toUInt8 = c := by simp
 simp only [f221, f233, g233_56, f237, h0, h1, h2, h3, Bool.not_false, cond_true, cond_false, Option.bind_some, Option.bind]
 by_cases h : (([c] : Str) == r) = true
 ·have : r = [c] := (by simpa using h : [c] = r).symm
  subst this
  simp [Lib.indexByte] <;> rfl
 ·simp [h] <;> rfl
theorem e219B (c : UInt8) (r : Str) : jJW (jjd c219 []) (jjc l219 24 96) 96 (ist 52 c r) (kIdx (jjd c219 []) 52 7 8 (jjc l219 24 194) (jjc l219 24 390) 194 390) =
 (f221 ((r, ([c], ())), ())).bind fun q => bif decide (q.1.1 < 0) then some (.inl (iy 52 c r)) else (jqM r 0 (IntKind.i64.wrap (q.1.1 + 0))).bind fun x => some (.inr ((q.1.1, x), iy 52 c r)) := by kernel_rfl
theorem x219 (h : ∀ T, (tt T).ok Tryz.prog T) (h221 : jja Tryz.prog 221 S221) : jzm Tryz.prog 219 :=
 iter_ok (C := jjd c219 []) (k219 h h221) (fn := Tryz.f219) (k := 52) (A := jjc b219 1 2) (r5 := jjc l219 24 96) (c6 := jjc l219 24 194) (r7 := jjc l219 24 390) (r9 := jjc l219 24 783)
  (o0 := op219 1564 0) (o1 := op219 1564 1) (o2 := op219 1564 2) (o3 := op219 1564 3) (q0 := oq219 0) (q1 := oq219 1) (q2 := oq219 2) (pA := 2) (p5 := 96) (p6 := 194) (p7 := 390) (p9 := 783) (t7 := 7) (t8 := 8) (a1 := 39) (a2 := 40)
  (t41 := 41) (t42 := 42) (u1 := 49) (u2 := 50) (ty := #[9]) (ty' := #[9])
  {isFn := (by kernel_rfl), nt := (by kernel_rfl), k4 := (by decide), res := (by kernel_rfl), ent := enters_of Tryz.func219 (by kernel_rfl) rfl, body := ⟨ridOf (jjc l219 24 1564), ridOf (jjc b219 1 7), (by kernel_rfl)⟩, nr := (by kernel_rfl), wr := (by kernel_rfl),
   gd := ⟨(by kernel_rfl), (by kernel_rfl), (by kernel_rfl), (by kernel_rfl), (by kernel_rfl), (by kernel_rfl), (by kernel_rfl)⟩, wo := (by kernel_rfl), wq := (by kernel_rfl), d2 := (by kernel_rfl), lt41 := (by decide), c2 := (by kernel_rfl), d5 := (by kernel_rfl),
   orcs := ⟨jj9 (by kernel_rfl) jje, jj9 (by kernel_rfl) jje, jj9 (by kernel_rfl) jje, jj9 (by kernel_rfl) jje, jj9 (by kernel_rfl) jje⟩,
   hA := fun c r => (by kernel_rfl), hB := fun c r => (e219B c r).trans (by rw [idx221]; rfl), hT := fun c r i x v => (by kernel_rfl), h3 := fun c r b => (by kernel_rfl), h30 := (by kernel_rfl), hC := fun c r i => (by kernel_rfl), hQ := fun c r v => (by kernel_rfl) }
  (by kernel_rfl) (by decide)
theorem oqn (w : World) : Calls Tryz.prog 48 #[.slice none 0 0] w fun e w' => e = .returned (.pointer (some ⟨w.heap.size, 0, none⟩)) ∧ w' = w.alloc (.cells #[.slice none 0 0, .int .i64 0] 115) := by
 go_enter Tryz.func48, Tryz.ntmps48
 go_wp2
 go_ret
 exact ⟨rfl, rfl⟩
theorem oqs (w : World) (a : Addr) (n c : Nat) (h : n ≤ 2000) : Calls Tryz.prog 48 #[.slice (some a) n c] w fun e w' => e = .returned (.pointer (some ⟨w.heap.size, 0, none⟩)) ∧ w' = w.alloc (.cells #[.slice (some a) n c, .int .i64 0] 115) := by
 have h1 : ¬ ((n : Int) > 2000) := by omega
 go_enter Tryz.func48, Tryz.ntmps48
 go_wp2
 go_ret
 exact ⟨rfl, rfl⟩
theorem oqb (w : World) (a : Addr) (n c : Nat) (h : 2000 < n) (hc : n ≤ c) : Calls Tryz.prog 48 #[.slice (some a) n c] w fun e w' => e = .returned (.pointer (some ⟨w.heap.size, 0, none⟩)) ∧ w' = w.alloc (.cells #[.slice (some a) 2000 c, .int .i64 0] 115) := by
 have h1 : ((n : Int) > 2000) := by omega
 go_enter Tryz.func48, Tryz.ntmps48
 go_wp2
 go_ret
 exact ⟨rfl, rfl⟩
theorem op48 : OpenOk Tryz.prog 48 := fun xs v w av hr => .inl ⟨enters_of Tryz.func48 (by kernel_rfl) rfl _ _, by
 have fin : ∀ {v : Value} {u : Value}, Rd w av (.sl .u8 (xs.take 2000)) u → Calls Tryz.prog 48 #[v] w (fun e w' => e = .returned (.pointer (some ⟨w.heap.size, 0, none⟩)) ∧ w' = w.alloc (.cells #[u, .int .i64 0] 115)) →
   Calls Tryz.prog 48 #[v] w fun e w' => match e, w' with
    | .returned v', w' => ∃ u T, Rd w av (.sl .u8 (xs.take 2000)) u ∧ v' = .pointer (some ⟨w.heap.size, 0, none⟩) ∧ w' = w.alloc (.cells #[u, .int .i64 0] T)
    | _, _ => False := fun hu hc => hc.mono fun e w' h => by obtain ⟨rfl, rfl⟩ := h; exact ⟨_, _, hu, rfl, rfl⟩
 cases hr with
 | nil => exact fin (.nil .u8) (oqn w)
 | sl t xs a cap cs n hn hcap hb hl hc hr =>
  by_cases h : 2000 < n
  ·refine fin (u := .slice (some a) 2000 cap) ?_ (oqb w a n cap h hcap)
   have hlen : (xs.take 2000).length = 2000 := by simp only [List.length_take]; omega
   have hf : jj2 .u8 (xs.take 2000) = (jj2 .u8 xs).take 2000 := by rw [flat_take]; rfl
   refine .sl .u8 (xs.take 2000) a cap (cs.take 2000) 2000 hlen.symm (by omega) (fun hx => hb (fun e => hx (by rw [e]; rfl))) (by rw [hf, List.length_take, List.length_take, hl]) (fun j u hu => ?_) (fun j h1 h2 => ?_)
   ·rw [List.getElem?_take] at hu
    split at hu
    ·exact hc j u hu
    ·cases hu
   ·have h1' : j < (jj2 .u8 xs).length := by rw [hf, List.length_take] at h1; omega
    have h2' : j < cs.length := by rw [List.length_take] at h2; omega
    have e1 : (jj2 .u8 (xs.take 2000))[j] = (jj2 .u8 xs)[j] := by simp only [hf, List.getElem_take]
    have e2 : (cs.take 2000)[j] = cs[j] := List.getElem_take
    rw [e1, e2]
    exact hr j h1' h2'
  ·refine fin (u := .slice (some a) n cap) ?_ (oqs w a n cap (by omega))
   rw [List.take_of_length_le (by omega)]
   exact .sl .u8 xs a cap cs n hn hcap hb hl hc hr⟩
theorem xH243 : jja Tryz.prog 243 SH243 := zH243 jjo
theorem x237 : jja Tryz.prog 237 S237 := z237 jjo xH243
theorem x233 : jja Tryz.prog 233 S233 := z233 jjo x237
theorem x221 : jja Tryz.prog 221 S221 := z221 jjo x233
theorem it219 : jzm Tryz.prog 219 := x219 jjo x221
theorem x69v0 : jja Tryz.prog 69 jqb := z69v0 jjo
theorem x70v0 : jja Tryz.prog 70 jqt := z70v0 jjo x69v0
theorem x167v0 : jja Tryz.prog 167 jJB := z167v0 jjo x70v0
theorem x123v0 : jja Tryz.prog 123 jJC := z123v0 jjo x69v0 x70v0 x167v0
theorem x192 : jja Tryz.prog 192 S192 := z192 jjo
theorem x208 : jja Tryz.prog 208 S208 := z208 jjo
theorem x236 : jja Tryz.prog 236 S236 := z236 jjo
theorem x231 : jja Tryz.prog 231 S231 := z231 jjo x192 x236
theorem x216 : jja Tryz.prog 216 S216 := z216 jjo x208 x231
theorem x217 : jja Tryz.prog 217 S217 := z217 jjo x192
theorem x188 : jja Tryz.prog 188 S188 := z188 jjo x192 x216 x217
theorem x57 : jja Tryz.prog 57 S57 := z57 jjo
theorem x189 : jja Tryz.prog 189 S189 := z189 jjo x57
theorem x190 : jja Tryz.prog 190 S190 := z190 jjo
theorem x148 : jja Tryz.prog 148 S148 := z148 jjo x188 x189 x190
theorem x241 : jja Tryz.prog 241 S241 := z241 jjo x236
theorem x234 : jja Tryz.prog 234 S234 := z234 jjo x236 x241
theorem x224 : jja Tryz.prog 224 S224 := z224 jjo x208 x234
theorem x242 : jja Tryz.prog 242 S242 := z242 jjo
theorem x235 : jja Tryz.prog 235 S235 := z235 jjo x241 x242
theorem x225 : jja Tryz.prog 225 S225 := z225 jjo x235
theorem x200 : jja Tryz.prog 200 S200 := z200 jjo x208 x216 x224 x225
theorem x226 : jja Tryz.prog 226 S226 := z226 jjo
theorem x201 : jja Tryz.prog 201 S201 := z201 jjo x200 x226
theorem x168 : jja Tryz.prog 168 S168 := z168 jjo x148 x200 x201
theorem x147 : jja Tryz.prog 147 S147 := z147 jjo
theorem x202 : jja Tryz.prog 202 S202 := z202 jjo x57 x147 x188 x189 x190
theorem x159v0 : jja Tryz.prog 159 S159v0 := z159v0 jjo x70v0
theorem x205v0 : jja Tryz.prog 205 S205v0 := z205v0 jjo x69v0
theorem x206 : jja Tryz.prog 206 S206 := z206 jjo
theorem x227v0 : jja Tryz.prog 227 S227v0 := z227v0 jjo x70v0 x206
theorem x203v0 : jja Tryz.prog 203 S203v0 := z203v0 jjo x69v0 x159v0 x205v0 x227v0
theorem x204 : jja Tryz.prog 204 S204 := z204 jjo
theorem x169v0 : jja Tryz.prog 169 S169v0 := z169v0 jjo x69v0 x202 x203v0 x204
theorem x120v0 : jja Tryz.prog 120 S120v0 := z120v0 jjo x69v0 x70v0 x123v0 x167v0 x168 x169v0
theorem x121v0 : jja Tryz.prog 121 S121v0 := z121v0 jjo x69v0 x70v0 x167v0
theorem x122v0 : jja Tryz.prog 122 S122v0 := z122v0 jjo x69v0 x70v0 x121v0 x123v0
theorem x107v0 : jja Tryz.prog 107 S107v0 := z107v0 jjo x69v0 x70v0 x159v0
theorem x170v0 : jja Tryz.prog 170 S170v0 := z170v0 jjo x69v0 x70v0 x107v0 x203v0 x205v0 x206
theorem x124v0 : jja Tryz.prog 124 S124v0 := z124v0 jjo x69v0 x147 x169v0 x170v0
theorem x64v0 : jja Tryz.prog 64 S64v0 := z64v0 jjo x69v0 x70v0 x120v0 x121v0 x122v0 x123v0 x124v0
theorem x128 : jja Tryz.prog 128 S128 := z128 jjo x147
theorem x66 : jja Tryz.prog 66 S66 := z66 jjo x128
theorem x151 : jja Tryz.prog 151 S151 := z151 jjo x192
theorem x209 : jja Tryz.prog 209 S209 := z209 jjo
theorem x173 : jja Tryz.prog 173 S173 := z173 jjo x192 x208 x209
theorem x152 : jja Tryz.prog 152 S152 := z152 jjo x173
theorem x218 : jja Tryz.prog 218 S218 := z218 jjo x151 x152 x192
theorem x193 : jja Tryz.prog 193 S193 := z193 jjo x218
theorem x194 : jja Tryz.prog 194 S194 := z194 jjo
theorem x153 : jja Tryz.prog 153 S153 := z153 jjo x193 x194
theorem x100 : jja Tryz.prog 100 S100 := z100 jjo x148 x151 x152 x153
theorem x125 : jja Tryz.prog 125 S125 := z125 jjo
theorem x174 : jja Tryz.prog 174 S174 := z174 jjo
theorem x131 : jja Tryz.prog 131 S131 := z131 jjo x173 x174
theorem x154 : jja Tryz.prog 154 S154 := z154 jjo x131
theorem x101 : jja Tryz.prog 101 S101 := z101 jjo x125 x154
theorem x92 : jja Tryz.prog 92 S92 := z92 jjo x57 x147 x148
theorem x50 : jja Tryz.prog 50 S50 := z50 jjo x92
theorem x52 : jja Tryz.prog 52 S52 := z52 jjo x50 x100 x101
theorem x126 : jja Tryz.prog 126 S126 := z126 jjo x52
theorem x127 : jja Tryz.prog 127 S127 := z127 jjo x128
theorem x65 : jja Tryz.prog 65 S65 := z65 jjo x100 x125 x126 x127
theorem x90v0 : jja Tryz.prog 90 S90v0 := z90v0 jjo x65 x69v0 x70v0 x120v0
theorem x47v0 : jja Tryz.prog 47 S47v0 := z47v0 jjo x64v0 x66 x69v0 x90v0
theorem x15 : jja Tryz.prog 15 S15 := z15 jjo x47v0 op48
theorem x108 : jja Tryz.prog 108 S108 := z108 jjo
theorem x171 : jja Tryz.prog 171 S171 := z171 jjo
theorem x129 : jja Tryz.prog 129 S129 := z129 jjo x171 y155 it219
theorem x109 : jja Tryz.prog 109 S109 := z109 jjo x129
theorem x111 : jja Tryz.prog 111 S111 := z111 jjo x108 x109
theorem x110v0 : jja Tryz.prog 110 S110v0 := z110v0 jjo x111
theorem x113 : jja Tryz.prog 113 S113 := z113 jjo
theorem x160 : jja Tryz.prog 160 S160 := z160 jjo
theorem x198 : jja Tryz.prog 198 S198 := z198 jjo
theorem x161 : jja Tryz.prog 161 S161 := z161 jjo x198
theorem x112v0 : jja Tryz.prog 112 S112v0 := z112v0 jjo x113 x160 x161
theorem x222 : jja Tryz.prog 222 S222 := z222 jjo
theorem x196 : jja Tryz.prog 196 S196 := z196 jjo x222
theorem x156 : jja Tryz.prog 156 S156 := z156 jjo x196
theorem x104 : jja Tryz.prog 104 S104 := z104 jjo x156 y155 it219
theorem x157 : jja Tryz.prog 157 S157 := z157 jjo
theorem x105 : jja Tryz.prog 105 S105 := z105 jjo x157
theorem x54 : jja Tryz.prog 54 S54 := z54 jjo x104 x105
theorem x197 : jja Tryz.prog 197 S197 := z197 jjo
theorem x158 : jja Tryz.prog 158 S158 := z158 jjo x197
theorem x106 : jja Tryz.prog 106 S106 := z106 jjo x104 x158
theorem x162 : jja Tryz.prog 162 S162 := z162 jjo
theorem x116 : jja Tryz.prog 116 S116 := z116 jjo x162
theorem x103 : jja Tryz.prog 103 S103 := z103 jjo x116
theorem x102v0 : jja Tryz.prog 102 S102v0 := z102v0 jjo x103
theorem x53 : jja Tryz.prog 53 S53 := z53 jjo x102v0
theorem x55 : jja Tryz.prog 55 S55 := z55 jjo x53 x106
theorem x22 : jja Tryz.prog 22 S22 := z22 jjo x54 x55
theorem x58 : jja Tryz.prog 58 S58 := z58 jjo x22 x108 x109 x110v0 x112v0
theorem x94v0 : jja Tryz.prog 94 S94v0 := z94v0 jjo x58
theorem x95 : jja Tryz.prog 95 S95 := z95 jjo
theorem x93v0 : jja Tryz.prog 93 S93v0 := z93v0 jjo x94v0 x95
theorem x96v0 : jja Tryz.prog 96 S96v0 := z96v0 jjo
theorem x228 : jja Tryz.prog 228 S228 := z228 jjo
theorem x207 : jja Tryz.prog 207 S207 := z207 jjo x228
theorem x172 : jja Tryz.prog 172 S172 := z172 jjo x207
theorem x130 : jja Tryz.prog 130 S130 := z130 jjo x172
theorem x71 : jja Tryz.prog 71 S71 := z71 jjo x129 x130
theorem x142 : jja Tryz.prog 142 S142 := z142 jjo x71 x109 x111
theorem x149v0 : jja Tryz.prog 149 S149v0 := z149v0 jjo x142
theorem x191v0 : jja Tryz.prog 191 S191v0 := z191v0 jjo x149v0
theorem x150v0 : jja Tryz.prog 150 S150v0 := z150v0 jjo x191v0
theorem x98 : jja Tryz.prog 98 S98 := z98 jjo x150v0
theorem x97v0 : jja Tryz.prog 97 S97v0 := z97v0 jjo x98
theorem x145 : jja Tryz.prog 145 S145 := z145 jjo
theorem xH146 : jja Tryz.prog 146 SH146 := zH146 jjo
theorem x91 : jja Tryz.prog 91 S91 := z91 jjo x22 x53 x145 xH146
theorem x49 : jja Tryz.prog 49 S49 := z49 jjo x91
theorem x99v0 : jja Tryz.prog 99 S99v0 := z99v0 jjo x49
theorem x51 : jja Tryz.prog 51 S51 := z51 jjo x93v0 x96v0 x97v0 x99v0
theorem x19 : jja Tryz.prog 19 S19 := z19 jjo x51
theorem x20 : jja Tryz.prog 20 S20 := z20 jjo x52
theorem x163 : jja Tryz.prog 163 S163 := z163 jjo
theorem x117 : jja Tryz.prog 117 S117 := z117 jjo x145 x163
theorem x67 : jja Tryz.prog 67 S67 := z67 jjo x117
theorem x59 : jja Tryz.prog 59 S59 := z59 jjo x67
theorem x115 : jja Tryz.prog 115 S115 := z115 jjo x116
theorem x114v0 : jja Tryz.prog 114 S114v0 := z114v0 jjo x115
theorem x60 : jja Tryz.prog 60 S60 := z60 jjo x114v0
theorem x61 : jja Tryz.prog 61 S61 := z61 jjo x51 x59
theorem xH118 : jja Tryz.prog 118 SH118 := zH118 jjo
theorem x62 : jja Tryz.prog 62 S62 := z62 jjo x60 x67 x117 xH118
theorem x26 : jja Tryz.prog 26 S26 := z26 jjo x19 x58 x59 x60 x61 x62
theorem x166 : jja Tryz.prog 166 S166 := z166 jjo
theorem x17 : jja Tryz.prog 17 S17 := z17 jjo
theorem x119 : jja Tryz.prog 119 S119 := z119 jjo x17 x166
theorem x63 : jja Tryz.prog 63 S63 := z63 jjo x119
theorem x27 : jja Tryz.prog 27 S27 := z27 jjo x63
theorem x5 : jja Tryz.prog 5 S5 := z5 jjo x15 x19 x20 x26 x27
end Go.Proofs
