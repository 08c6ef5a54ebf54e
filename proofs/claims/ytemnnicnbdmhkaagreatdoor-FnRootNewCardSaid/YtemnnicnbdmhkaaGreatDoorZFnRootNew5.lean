/- The law FnRootNew (a root with one package has that package's tree) holds of the given program for every input. (part 6 of 7: JkHF19, JkHF3, JkHPuDa) Conditions: none beyond the statement. -/
import Derived.Test.YtemnnicnbdmhkaaGreatDoorZFnRootNew4
import Derived.Tactics
import Derived.Deep.RegionLaw
import Derived.Shelf.Abstract
import Derived.Test.YtemnnicnbdmhkaaGreatDoorProg
import Derived.KernelRfl
set_option linter.unusedSimpArgs false
set_option maxRecDepth 100000
set_option linter.unusedVariables false
namespace Go.Proofs
open Go.Jk
noncomputable abbrev L19 : LS := [(18, S18), (62, S62), (63, S63v0), (64, SH64)]
theorem G19 : CtxGood Pz (cx EE L19) := gd ⟨z18, z62, z63v0, zH64, ⟨⟩⟩
abbrev s19_122 : Shape := ⟨[tP 3 3 0, tL 11 .pack, tI 12, tI 13], [zC 5000193 .u8 3 1, zB 3 [.slf, .own 5000193]], 28⟩
abbrev t19_122 : List OSh := [(.exit 0, ⟨[tP 3 3 0], [zC 5000193 .u8 3 1, zB 3 [.slf, .own 5000193]], 28⟩)]
noncomputable def g19_122 (y : s19_122.Y) : LR s19_122 t19_122 :=
 bif (decide (y.1.2.2.2.1 < y.1.2.2.1)) then
(ix y.1.2.1 y.1.2.2.2.1).bind fun x2652 =>
(f62 (((x2652.name, (x2652.version, (x2652.needs, (x2652.tree, ())))), ()), ())).bind fun r2654 =>
((if -9223372036854775808 ≤ (r2654.1.1.length : Int) ∧ (r2654.1.1.length : Int) ≤ 9223372036854775807 then some () else none)).bind fun r2655 =>
(cat (Lib.itoa (r2654.1.1.length : Int)) ([10] : Str)).bind fun x2656 =>
(cat x2656 r2654.1.1).bind fun x2657 =>
(f63v0 (((), (x2657, ())), (y.2.1, (((), ((), ())), ())))).bind fun r2658 =>
 some (.inl (((), (y.1.2.1, (y.1.2.2.1, ((IntKind.i64.wrap (y.1.2.2.2.1 + (1 : Int))), ())))), (r2658.2.1, (((), ((), ())), ()))))
else
 some (.inr ((((), ()), (y.2.1, (((), ((), ())), ())))))
noncomputable def l19_122 : s19_122.Y → Option (YS t19_122) := jjv g19_122
theorem q19_122 : jjj Pz (jjc (jjh Tryz.f19) 1 122) (jjg s19_122 t19_122 l19_122) := jjf G19 (by kernel_rfl) jja fun y => by kernel_rfl
abbrev i19 : Shape := ⟨[tA 0 [eL .pack]], [], 28⟩
abbrev o19 : Shape := ⟨[tS 2], [], 28⟩
noncomputable def f19 (a : i19.Y) : Option o19.Y :=
(f18 (((a.1.1.1, ()), ()), ())).bind fun r2042 =>
 bif (!r2042.1.1) then
 some ((([] : Str), ()), ())
else
(l19_122 (((), (a.1.1.1, ((a.1.1.1.length : Int), ((0 : Int), ())))), (([] : List Int), (((), ((), ())), ())))).bind fun r2659 =>
 some (((jqR r2659.2.1), ()), ())
noncomputable def S19 : jjA := jjE EE Tryz.f19 i19 o19 [] f19
theorem z19 : jje Pz 19 S19 := jjb G19 Tryz.func19 (by kernel_rfl) (frc q19_122 jja) (fun y => by kernel_rfl) fun a => by kernel_rfl
noncomputable abbrev L3 : LS := [(12, S12), (13, S13), (14, S14), (15, S15), (16, S16), (17, S17), (18, S18), (19, S19)]
theorem G3 : CtxGood Pz (cx EE L3) := gd ⟨z12, z13, z14, z15, z16, z17, z18, z19, ⟨⟩⟩
abbrev s3_124 : Shape := ⟨[tB 2, tP 4 4 0, tB 5], [zC 5000258 .need 4 2, zC 5000259 .entry 4 3, zB 4 [eS, eS, .own 5000258, .own 5000259]], 66⟩
abbrev t3_124 : List OSh := [(.norm, ⟨[tB 2, tP 4 4 0, tB 5, tB 31], [zC 5000258 .need 4 2, zC 5000259 .entry 4 3, zB 4 [eS, eS, .own 5000258, .own 5000259]], 66⟩)]
noncomputable def g3_124 (y : s3_124.Y) : Option (YS t3_124) :=
(f14 (((y.2.2.2.1.1, (y.2.2.2.1.2.1, (y.2.1, (y.2.2.1, ())))), ()), ())).bind fun r1660 =>
 bif (!(!(y.1.2.2.1 == r1660.1.1))) then
 bif (!(!y.1.2.2.1)) then
 some (((y.1.1, ((), (y.1.2.2.1, ((decide ((y.2.1.length : Int) > (0 : Int))), ())))), (y.2.1, (y.2.2.1, ((y.2.2.2.1.1, (y.2.2.2.1.2.1, ((), ((), ())))), ())))))
else
 some (((y.1.1, ((), (y.1.2.2.1, (true, ())))), (y.2.1, (y.2.2.1, ((y.2.2.2.1.1, (y.2.2.2.1.2.1, ((), ((), ())))), ())))))
else
 some (((y.1.1, ((), (y.1.2.2.1, (true, ())))), (y.2.1, (y.2.2.1, ((y.2.2.2.1.1, (y.2.2.2.1.2.1, ((), ((), ())))), ())))))
theorem q3_124 : jjj Pz (jjc (jjh Tryz.f3) 1 124) (jjg s3_124 t3_124 g3_124) := jjr G3 (by kernel_rfl) jja fun y => by kernel_rfl
abbrev i3 : Shape := ⟨[tL 0 .u8], [], 66⟩
abbrev o3 : Shape := ⟨[tB 2], [], 66⟩
noncomputable def f3 (a : i3.Y) : Option o3.Y :=
 bif (decide ((a.1.1.length : Int) > (1048576 : Int))) then
 some ((true, ()), ())
else
(f12 ((a.1.1, ()), ())).bind fun r1656 =>
(f13 (((r1656.2.2.2.2.1.1, (r1656.2.2.2.2.1.2.1, (r1656.2.2.1, (r1656.2.2.2.1, ())))), ()), ())).bind fun r1658 =>
(g3_124 ((false, ((), (r1658.1.1, ()))), (r1656.2.2.1, (r1656.2.2.2.1, ((r1656.2.2.2.2.1.1, (r1656.2.2.2.2.1.2.1, ((), ((), ())))), ()))))).bind fun r1663 =>
 bif r1663.1.2.2.2.1 then
(f14 (((r1663.2.2.2.1.1, (r1663.2.2.2.1.2.1, (r1663.2.1, (r1663.2.2.1, ())))), ()), ())).bind fun r1664 =>
 some (((r1663.1.2.2.1 == r1664.1.1), ()), ())
else
(f15 (((([] : List Pack), ()), ((r1663.2.2.2.1.1, (r1663.2.2.2.1.2.1, (r1663.2.1, (r1663.2.2.1, ())))), ())), ())).bind fun r2009 =>
 bif (r2009.1.2.1 == (0 : Int)) then
(f17 (((r2009.2.1.1, ()), ()), ())).bind fun r2020 =>
(f16 ((r2020.2.1, (r1663.2.2.1, ())), ())).bind fun r2032 =>
 bif r2032.1.1 then
(f18 (((([] : List Pack), ()), ()), ())).bind fun r2033 =>
 bif r2033.1.1 then
(f17 (((([] : List Pack), ()), ()), ())).bind fun r2034 =>
 bif ((r2034.2.1.length : Int) == (0 : Int)) then
(f19 (((([] : List Pack), ()), ()), ())).bind fun r2660 =>
 some (((r2660.1.1 == ([] : Str)), ()), ())
else
 some ((false, ()), ())
else
 some ((false, ()), ())
else
 some ((false, ()), ())
else
 some ((false, ()), ())
noncomputable def S3 : jjA := jjE EE Tryz.f3 i3 o3 [] f3
theorem z3 : jje Pz 3 S3 := jjb G3 Tryz.func3 (by kernel_rfl) (frc q3_124 jja) (fun y => by kernel_rfl) fun a => by kernel_rfl
theorem joinL_nil {t : List Entry} (h : Asc t) : jq0 [] t = some t := by
 obtain ⟨o, ho⟩ := joinL_can t [] List.Pairwise.nil h (fun e he y hy => by cases hy)
 have h1 := joinL_asc List.Pairwise.nil ho
 have h2 := joinL_in ho
 have : o = t := asc_eq (key := fun e : Entry => e.path) h1 h fun x => by rw [h2]; simp
 rw [ho, this]
theorem treesL_one {p : Pack} (h : jjU p.tree = true) : jj4 [] [p] = some p.tree := by
 simp only [jj4, joinL_nil (jzy h), h, cond_true]
theorem rootOk_one {p : Pack} (h : jxL p = true) (hn : p.needs = []) : jqK [p] = true := by
 have ht : jjU p.tree = true := by
  have := h
  unfold jxL at this
  simp only [Bool.and_eq_true] at this
  exact this.2
 unfold jqK
 rw [treesL_one ht]
 simp [h, hn, ascP, jqu]
theorem inR_one {p : Pack} (h : jxL p = true) (hn : p.needs = []) : inR [] p = ([p], 0) := by
 have h1 : jxN [] p = [p] := by simp [jxN]
 have h2 : jxm [p] = 0 := by have := rootOk_one h hn; rw [rootOk_code] at this; simpa using this
 have h0 : jqK [] = true := rfl
 unfold inR inL
 simp only [h0, h, cond_true, List.find?_nil, h1, h2]
 rfl
theorem v_put_none : f19 (((([] : List Pack), ()), ()), ()) = some ((([] : Str), ()), ()) := by
 have hb : BdPs [] := ⟨by decide, fun p hp => by cases hp⟩
 have e := v_iRootOk (((([] : List Pack), ()), ()), ()) hb (fun p hp => by cases hp)
 have h0 : jqK [] = true := rfl
 have hl : l19_122 (((), (([] : List Pack), (((([] : List Pack).length : Nat) : Int), ((0 : Int), ())))), (([] : List Int), (((), ((), ())), ()))) = some (((), ()), (([] : List Int), (((), ((), ())), ()))) := jjP rfl
 simp only [f19, e, h0, Option.bind_some, Bool.not_true, cond_false, hl]
 rfl
theorem v_FnRootNew (a) (h : ∀ x, x ∈ (a.1.1 : List Int) → 0 ≤ x ∧ x ≤ 255) : Ev (f3 a) (fun r => r.1.1 = true) := by
 unfold f3
 refine Ev.ite (fun _ => Ev.ret rfl) fun _ => ?_
 refine Ev.bind (v_DrawRootIn _ (rd_code h)) fun r1 h1 => ?_
 obtain ⟨u0, ⟨⟨(ps : List Pack), u1⟩, (needs : List Need), (tree : List Entry), ⟨(name : Str), (version : Str), u2⟩, u3⟩⟩ := r1
 have hp : OkP ⟨name, version, needs, tree⟩ := h1.2.ok
 have e1 := v_iPackOk (((name, (version, (needs, (tree, ())))), ()), ()) hp.1
 have e2 := v_PackOk (((name, (version, (needs, (tree, ())))), ()), ()) hp.1
 refine Ev.eq e1 ?_
 have z : ∀ b : Bool, (b == b) = true := fun b => by simp
 simp only [g3_124, e2, Option.bind_some, z, Bool.not_true, Bool.not_false, cond_true, cond_false]
 cases hk : jxL ⟨name, version, needs, tree⟩ with
 | false =>
  simp only [hk, Bool.not_false, Bool.not_true, cond_true, cond_false, Option.bind_some, e2, beq_self_eq_true]
  exact Ev.ret rfl
 | true =>
  simp only [hk, Bool.not_false, Bool.not_true, cond_true, cond_false, Option.bind_some]
  cases hn : decide ((needs.length : Int) > 0) with
  | true =>
   simp only [hk, cond_true, e2, Option.bind_some, beq_self_eq_true]
   exact Ev.ret rfl
  | false =>
   have hn0 : needs = [] := by
    simp only [decide_eq_false_iff_not] at hn
    exact List.eq_nil_of_length_eq_zero (by omega)
   subst hn0
   have hr : OkR 1 [⟨name, version, [], tree⟩] := ⟨Nat.le_refl _, fun p hm => by rw [List.mem_singleton.1 hm]; exact hp⟩
   have h0 : OkR 0 [] := ⟨Nat.le_refl _, fun p hm => by cases hm⟩
   have c1 := v_iRootIn (((([] : List Pack), ()), ((name, (version, (([] : List Need), (tree, ())))), ())), ()) 0 (by decide) h0 hp
   rw [inR_one hk rfl] at c1
   have hko := rootOk_one hk rfl
   have ht : jjU tree = true := by
    have := hk
    unfold jxL at this
    simp only [Bool.and_eq_true] at this
    exact this.2
   have c2 := v_iRootTree ((([(⟨name, version, [], tree⟩ : Pack)], ()), ()), ()) (hr.bd (by decide)) hr.vs
   rw [hko, treesL_one ht] at c2
   have c3 := v_jsTree ((tree, (tree, ())), ()) rfl hp.1.2.2.2.1
   have c4 := v_iRootOk (((([] : List Pack), ()), ()), ()) (h0.bd (by decide)) h0.vs
   have c5 := v_iRootTree (((([] : List Pack), ()), ()), ()) (h0.bd (by decide)) h0.vs
   have k0 : jqK [] = true := rfl
   have k1 : (jj4 [] []).getD [] = [] := rfl
   rw [k0, k1] at c5
   rw [k0] at c4
   simp only [cond_false]
   refine Ev.eq c1 ?_
   simp only [beq_self_eq_true, cond_true]
   refine Ev.eq c2 ?_
   simp only [cond_true, Option.getD_some]
   refine Ev.eq c3 ?_
   simp only [cond_true]
   refine Ev.eq c4 ?_
   simp only [cond_true]
   refine Ev.eq c5 ?_
   have hz : ((((([] : List Entry).length : Nat) : Int)) == 0) = true := rfl
   simp only [cond_true, hz]
   refine Ev.eq v_put_none ?_
   exact Ev.ret rfl
theorem pure_FnRootNew : LawOk S3 [(false, [.sl .u8])] := by
 rintro ⟨⟨code, u⟩, u'⟩ ⟨h, _⟩
 obtain ⟨r, hr, hq⟩ := v_FnRootNew ((code, ()), ()) (wf_bytes (h (.sl .u8 code) (by simp [mkDs, SD.mk])))
 obtain ⟨⟨b, v⟩, v'⟩ := r
 have hq : b = true := hq
 subst hq
 exact ⟨((true, ()), ()), hr, rfl⟩
end Go.Proofs
