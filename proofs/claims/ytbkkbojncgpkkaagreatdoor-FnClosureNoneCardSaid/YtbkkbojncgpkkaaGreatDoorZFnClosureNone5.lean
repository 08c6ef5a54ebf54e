/- It is proved that missing packages are reported (FnClosureNone). (part 6 of 7: JkEIt, JkEOp, JkEA3) Conditions: none beyond the statement. -/
import Derived.Test.YtbkkbojncgpkkaaGreatDoorZFnClosureNone4
import Derived.Tactics
import Derived.Shelf.Abstract
import Derived.KernelRfl
import Derived.Test.YtbkkbojncgpkkaaGreatDoorProg
import Derived.Deep.RegionLaw
set_option maxRecDepth 100000
set_option linter.unusedVariables false
namespace Go.Proofs
open Go.Jk
noncomputable def c145 : Ctx := { tt := tt, fs := fun n => match n with | 147 => some S147 | _ => none }
theorem k145 (h : ∀ T, (tt T).ok Tryz.prog T) (h147 : jja Tryz.prog 147 S147) : CtxGood Tryz.prog c145 := ⟨⟨h⟩, fun g S hg => (by
 simp only [c145] at hg
 split at hg
 ·cases hg; exact h147
 ·cases hg), jju, fun _ _ h => (by cases h), fun _ h => (by cases h)⟩
noncomputable def b145 : Code := jjj Tryz.f145
noncomputable def l145 : Code := jjn (jjd b145 1 12)
noncomputable def op145 (p j : Nat) : Oper := (opsOf (jjd l145 24 p)).getD j default
def ridOf : Code → Nat
 | .region i _ _ => i
 | _ => 0
noncomputable def oq145 (j : Nat) : Oper := (opsOf (jjd b145 1 7)).getD j default
theorem idx147 (c : UInt8) (r : Str) : f147 ((r, ([c], ())), ()) = some ((Lib.indexByte r c, ()), ()) := by
 have h0 : ix ([c] : Str) (0 : Int) = some c := rfl
 have h1 : ((([c] : Str).length : Int) == 0) = false := rfl
 have h2 : ((([c] : Str).length : Int) == 1) = true := rfl
 have h3 : ((c.toNat : Int)).toNat.toUInt8 = c := by simp
 simp only [f147, f156, g156_56, f158, h0, h1, h2, h3, Bool.not_false, cond_true, cond_false, Option.bind_some, Option.bind]
 by_cases h : (([c] : Str) == r) = true
 ·have : r = [c] := (by simpa using h : [c] = r).symm
  subst this
  simp [Lib.indexByte] <;> rfl
 ·simp [h] <;> rfl
theorem e145B (c : UInt8) (r : Str) : exec (jjc c145 []) (jjd l145 24 96) 96 (ist 52 c r) (kIdx (jjc c145 []) 52 7 8 (jjd l145 24 194) (jjd l145 24 390) 194 390) =
 (f147 ((r, ([c], ())), ())).bind fun q => bif decide (q.1.1 < 0) then some (.inl (iy 52 c r)) else (jqR r 0 (IntKind.i64.wrap (q.1.1 + 0))).bind fun x => some (.inr ((q.1.1, x), iy 52 c r)) := by kernel_rfl
theorem x145 (h : ∀ T, (tt T).ok Tryz.prog T) (h147 : jja Tryz.prog 147 S147) : jxW Tryz.prog 145 :=
 iter_ok (C := jjc c145 []) (k145 h h147) (fn := Tryz.f145) (k := 52) (A := jjd b145 1 2) (r5 := jjd l145 24 96) (c6 := jjd l145 24 194) (r7 := jjd l145 24 390) (r9 := jjd l145 24 783)
  (o0 := op145 1564 0) (o1 := op145 1564 1) (o2 := op145 1564 2) (o3 := op145 1564 3) (q0 := oq145 0) (q1 := oq145 1) (q2 := oq145 2) (pA := 2) (p5 := 96) (p6 := 194) (p7 := 390) (p9 := 783) (t7 := 7) (t8 := 8) (a1 := 39) (a2 := 40)
  (t41 := 41) (t42 := 42) (u1 := 49) (u2 := 50) (ty := #[9]) (ty' := #[9])
  {isFn := (by kernel_rfl), nt := (by kernel_rfl), k4 := (by decide), res := (by kernel_rfl), ent := enters_of Tryz.func145 (by kernel_rfl) rfl, body := ⟨ridOf (jjd l145 24 1564), ridOf (jjd b145 1 7), (by kernel_rfl)⟩, nr := (by kernel_rfl), wr := (by kernel_rfl),
   gd := ⟨(by kernel_rfl), (by kernel_rfl), (by kernel_rfl), (by kernel_rfl), (by kernel_rfl), (by kernel_rfl), (by kernel_rfl)⟩, wo := (by kernel_rfl), wq := (by kernel_rfl), d2 := (by kernel_rfl), lt41 := (by decide), c2 := (by kernel_rfl), d5 := (by kernel_rfl),
   orcs := ⟨jqq (by kernel_rfl) jje, jqq (by kernel_rfl) jje, jqq (by kernel_rfl) jje, jqq (by kernel_rfl) jje, jqq (by kernel_rfl) jje⟩,
   hA := fun c r => (by kernel_rfl), hB := fun c r => (e145B c r).trans (by rw [idx147]; rfl), hT := fun c r i x v => (by kernel_rfl), h3 := fun c r b => (by kernel_rfl), h30 := (by kernel_rfl), hC := fun c r i => (by kernel_rfl), hQ := fun c r v => (by kernel_rfl) }
  (by kernel_rfl) (by decide)
theorem oqn (w : World) : Calls Tryz.prog 16 #[.slice none 0 0] w fun e w' => e = .returned (.pointer (some ⟨w.heap.size, 0, none⟩)) ∧ w' = w.alloc (.cells #[.slice none 0 0, .int .i64 0] 66) := by
 go_enter Tryz.func16, Tryz.ntmps16
 go_wp2
 go_ret
 exact ⟨rfl, rfl⟩
theorem oqs (w : World) (a : Addr) (n c : Nat) (h : n ≤ 2000) : Calls Tryz.prog 16 #[.slice (some a) n c] w fun e w' => e = .returned (.pointer (some ⟨w.heap.size, 0, none⟩)) ∧ w' = w.alloc (.cells #[.slice (some a) n c, .int .i64 0] 66) := by
 have h1 : ¬ ((n : Int) > 2000) := by omega
 go_enter Tryz.func16, Tryz.ntmps16
 go_wp2
 go_ret
 exact ⟨rfl, rfl⟩
theorem oqb (w : World) (a : Addr) (n c : Nat) (h : 2000 < n) (hc : n ≤ c) : Calls Tryz.prog 16 #[.slice (some a) n c] w fun e w' => e = .returned (.pointer (some ⟨w.heap.size, 0, none⟩)) ∧ w' = w.alloc (.cells #[.slice (some a) 2000 c, .int .i64 0] 66) := by
 have h1 : ((n : Int) > 2000) := by omega
 go_enter Tryz.func16, Tryz.ntmps16
 go_wp2
 go_ret
 exact ⟨rfl, rfl⟩
theorem op16 : OpenOk Tryz.prog 16 := fun xs v w av hr => .inl ⟨enters_of Tryz.func16 (by kernel_rfl) rfl _ _, by
 have fin : ∀ {v : Value} {u : Value}, Rd w av (.sl .u8 (xs.take 2000)) u → Calls Tryz.prog 16 #[v] w (fun e w' => e = .returned (.pointer (some ⟨w.heap.size, 0, none⟩)) ∧ w' = w.alloc (.cells #[u, .int .i64 0] 66)) →
   Calls Tryz.prog 16 #[v] w fun e w' => match e, w' with
    | .returned v', w' => ∃ u T, Rd w av (.sl .u8 (xs.take 2000)) u ∧ v' = .pointer (some ⟨w.heap.size, 0, none⟩) ∧ w' = w.alloc (.cells #[u, .int .i64 0] T)
    | _, _ => False := fun hu hc => hc.mono fun e w' h => by obtain ⟨rfl, rfl⟩ := h; exact ⟨_, _, hu, rfl, rfl⟩
 cases hr with
 | nil => exact fin (.nil .u8) (oqn w)
 | sl t xs a cap cs n hn hcap hb hl hc hr =>
  by_cases h : 2000 < n
  ·refine fin (u := .slice (some a) 2000 cap) ?_ (oqb w a n cap h hcap)
   have hlen : (xs.take 2000).length = 2000 := by simp only [List.length_take]; omega
   have hf : jj1 .u8 (xs.take 2000) = (jj1 .u8 xs).take 2000 := by rw [flat_take]; rfl
   refine .sl .u8 (xs.take 2000) a cap (cs.take 2000) 2000 hlen.symm (by omega) (fun hx => hb (fun e => hx (by rw [e]; rfl))) (by rw [hf, List.length_take, List.length_take, hl]) (fun j u hu => ?_) (fun j h1 h2 => ?_)
   ·rw [List.getElem?_take] at hu
    split at hu
    ·exact hc j u hu
    ·cases hu
   ·have h1' : j < (jj1 .u8 xs).length := by rw [hf, List.length_take] at h1; omega
    have h2' : j < cs.length := by rw [List.length_take] at h2; omega
    have e1 : (jj1 .u8 (xs.take 2000))[j] = (jj1 .u8 xs)[j] := by simp only [hf, List.getElem_take]
    have e2 : (cs.take 2000)[j] = cs[j] := List.getElem_take
    rw [e1, e2]
    exact hr j h1' h2'
  ·refine fin (u := .slice (some a) n cap) ?_ (oqs w a n cap (by omega))
   rw [List.take_of_length_le (by omega)]
   exact .sl .u8 xs a cap cs n hn hcap hb hl hc hr⟩
theorem xH162 : jja Tryz.prog 162 SH162 := zH162 jjs
theorem x158 : jja Tryz.prog 158 S158 := z158 jjs xH162
theorem x156 : jja Tryz.prog 156 S156 := z156 jjs x158
theorem x147 : jja Tryz.prog 147 S147 := z147 jjs x156
theorem it145 : jxW Tryz.prog 145 := x145 jjs x147
theorem x10 : jja Tryz.prog 10 S10 := z10 jjs
theorem x17v0 : jja Tryz.prog 17 jj5 := z17v0 jjs
theorem x18v0 : jja Tryz.prog 18 jqk := z18v0 jjs x17v0
theorem x32v0 : jja Tryz.prog 32 S32v0 := z32v0 jjs x18v0
theorem x60v0 : jja Tryz.prog 60 S60v0 := z60v0 jjs x17v0 x18v0 x32v0
theorem x122 : jja Tryz.prog 122 S122 := z122 jjs
theorem x151 : jja Tryz.prog 151 S151 := z151 jjs
theorem x94 : jja Tryz.prog 94 S94 := z94 jjs
theorem x141 : jja Tryz.prog 141 S141 := z141 jjs x94 x151
theorem x125 : jja Tryz.prog 125 S125 := z125 jjs x122 x141
theorem x153 : jja Tryz.prog 153 S153 := z153 jjs x151
theorem x143 : jja Tryz.prog 143 S143 := z143 jjs x151 x153
theorem x131 : jja Tryz.prog 131 S131 := z131 jjs x122 x143
theorem x154 : jja Tryz.prog 154 S154 := z154 jjs
theorem x144 : jja Tryz.prog 144 S144 := z144 jjs x153 x154
theorem x132 : jja Tryz.prog 132 S132 := z132 jjs x144
theorem x107 : jja Tryz.prog 107 S107 := z107 jjs x122 x125 x131 x132
theorem x133 : jja Tryz.prog 133 S133 := z133 jjs
theorem x108 : jja Tryz.prog 108 S108 := z108 jjs x107 x133
theorem x126 : jja Tryz.prog 126 S126 := z126 jjs x94
theorem x97 : jja Tryz.prog 97 S97 := z97 jjs x94 x125 x126
theorem x106 : jja Tryz.prog 106 S106 := z106 jjs
theorem x98 : jja Tryz.prog 98 S98 := z98 jjs x106
theorem x99 : jja Tryz.prog 99 S99 := z99 jjs
theorem x73 : jja Tryz.prog 73 S73 := z73 jjs x97 x98 x99
theorem x84 : jja Tryz.prog 84 S84 := z84 jjs x73 x107 x108
theorem x86 : jja Tryz.prog 86 S86 := z86 jjs
theorem x109 : jja Tryz.prog 109 S109 := z109 jjs x86 x97 x98 x99 x106
theorem x113v0 : jja Tryz.prog 113 S113v0 := z113v0 jjs x17v0
theorem x134v0 : jja Tryz.prog 134 S134v0 := z134v0 jjs x18v0
theorem x114 : jja Tryz.prog 114 S114 := z114 jjs
theorem x135v0 : jja Tryz.prog 135 S135v0 := z135v0 jjs x18v0 x114
theorem x110v0 : jja Tryz.prog 110 S110v0 := z110v0 jjs x17v0 x113v0 x134v0 x135v0
theorem x111 : jja Tryz.prog 111 S111 := z111 jjs
theorem x85v0 : jja Tryz.prog 85 S85v0 := z85v0 jjs x17v0 x109 x110v0 x111
theorem x57v0 : jja Tryz.prog 57 S57v0 := z57v0 jjs x17v0 x18v0 x32v0 x60v0 x84 x85v0
theorem x58v0 : jja Tryz.prog 58 S58v0 := z58v0 jjs x17v0 x18v0 x32v0
theorem x59v0 : jja Tryz.prog 59 S59v0 := z59v0 jjs x17v0 x18v0 x58v0 x60v0
theorem x112v0 : jja Tryz.prog 112 S112v0 := z112v0 jjs x17v0 x18v0 x134v0
theorem x87v0 : jja Tryz.prog 87 S87v0 := z87v0 jjs x17v0 x18v0 x110v0 x112v0 x113v0 x114
theorem x61v0 : jja Tryz.prog 61 S61v0 := z61v0 jjs x17v0 x85v0 x86 x87v0
theorem x33v0 : jja Tryz.prog 33 S33v0 := z33v0 jjs x17v0 x18v0 x57v0 x58v0 x59v0 x60v0 x61v0
theorem x19v0 : jja Tryz.prog 19 S19v0 := z19v0 jjs x17v0 x18v0 x32v0 x33v0
theorem x7 : jja Tryz.prog 7 S7 := z7 jjs x17v0 x18v0 x19v0 op16
theorem x62 : jja Tryz.prog 62 S62 := z62 jjs
theorem x116 : jja Tryz.prog 116 S116 := z116 jjs
theorem x88 : jja Tryz.prog 88 S88 := z88 jjs x116 y115 it145
theorem x63 : jja Tryz.prog 63 S63 := z63 jjs x88
theorem x65 : jja Tryz.prog 65 S65 := z65 jjs x62 x63
theorem x64v0 : jja Tryz.prog 64 S64v0 := z64v0 jjs x65
theorem x67 : jja Tryz.prog 67 S67 := z67 jjs
theorem x89 : jja Tryz.prog 89 S89 := z89 jjs
theorem x117 : jja Tryz.prog 117 S117 := z117 jjs
theorem x90 : jja Tryz.prog 90 S90 := z90 jjs x117
theorem x66v0 : jja Tryz.prog 66 S66v0 := z66v0 jjs x67 x89 x90
theorem x157 : jja Tryz.prog 157 S157 := z157 jjs
theorem x148 : jja Tryz.prog 148 S148 := z148 jjs x157
theorem x137 : jja Tryz.prog 137 S137 := z137 jjs x148
theorem x118 : jja Tryz.prog 118 S118 := z118 jjs x137 y115 it145
theorem x138 : jja Tryz.prog 138 S138 := z138 jjs
theorem x119 : jja Tryz.prog 119 S119 := z119 jjs x138
theorem x91 : jja Tryz.prog 91 S91 := z91 jjs x118 x119
theorem x81 : jja Tryz.prog 81 S81 := z81 jjs
theorem x55 : jja Tryz.prog 55 S55 := z55 jjs x81
theorem x128 : jja Tryz.prog 128 S128 := z128 jjs x55
theorem x127v0 : jja Tryz.prog 127 S127v0 := z127v0 jjs x128
theorem x104 : jja Tryz.prog 104 S104 := z104 jjs x127v0
theorem x149 : jja Tryz.prog 149 S149 := z149 jjs
theorem x139 : jja Tryz.prog 139 S139 := z139 jjs x149
theorem x120 : jja Tryz.prog 120 S120 := z120 jjs x118 x139
theorem x92 : jja Tryz.prog 92 S92 := z92 jjs x104 x120
theorem x68 : jja Tryz.prog 68 S68 := z68 jjs x91 x92
theorem x35 : jja Tryz.prog 35 S35 := z35 jjs x62 x63 x64v0 x66v0 x68
theorem x34v0 : jja Tryz.prog 34 S34v0 := z34v0 jjs x35
theorem x20 : jja Tryz.prog 20 S20 := z20 jjs x34v0
theorem x150 : jja Tryz.prog 150 S150 := z150 jjs
theorem x140 : jja Tryz.prog 140 S140 := z140 jjs x150
theorem x121 : jja Tryz.prog 121 S121 := z121 jjs x140
theorem x93 : jja Tryz.prog 93 S93 := z93 jjs x121
theorem x69 : jja Tryz.prog 69 S69 := z69 jjs x88 x93
theorem x36 : jja Tryz.prog 36 S36 := z36 jjs x63 x65 x69
theorem x21v0 : jja Tryz.prog 21 S21v0 := z21v0 jjs x36
theorem x8 : jja Tryz.prog 8 S8 := z8 jjs x20 x21v0
theorem x70 : jja Tryz.prog 70 S70 := z70 jjs x94
theorem x123 : jja Tryz.prog 123 S123 := z123 jjs
theorem x95 : jja Tryz.prog 95 S95 := z95 jjs x94 x122 x123
theorem x71 : jja Tryz.prog 71 S71 := z71 jjs x95
theorem x38 : jja Tryz.prog 38 S38 := z38 jjs
theorem x124 : jja Tryz.prog 124 S124 := z124 jjs x70 x71 x94
theorem x96 : jja Tryz.prog 96 S96 := z96 jjs x124
theorem x72 : jja Tryz.prog 72 S72 := z72 jjs x38 x96
theorem x37 : jja Tryz.prog 37 S37 := z37 jjs x70 x71 x72 x73
theorem x22 : jja Tryz.prog 22 S22 := z22 jjs x37 x38
theorem x39 : jja Tryz.prog 39 S39 := z39 jjs
theorem x40 : jja Tryz.prog 40 S40 := z40 jjs
theorem x100 : jja Tryz.prog 100 S100 := z100 jjs
theorem x74 : jja Tryz.prog 74 S74 := z74 jjs x95 x100
theorem x41 : jja Tryz.prog 41 S41 := z41 jjs x74
theorem x23 : jja Tryz.prog 23 S23 := z23 jjs x39 x40 x41
theorem x9 : jja Tryz.prog 9 S9 := z9 jjs x22 x23
theorem x3 : jja Tryz.prog 3 S3 := z3 jjs x7 x8 x9 x10
end Go.Proofs
