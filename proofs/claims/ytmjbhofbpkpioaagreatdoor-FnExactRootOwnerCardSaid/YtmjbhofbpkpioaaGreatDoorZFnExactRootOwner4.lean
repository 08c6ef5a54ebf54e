/- It is proved that the program's RootOwner returns what the reference's returns, for all arguments (FnExactRootOwner). (part 5 of 6: JkF61, JkF69, JkPuH, JkF101, JkF42, JkFH102, JkF70, JkF43, JkPuI, JkF167, JkF157, JkF140, JkF109, JkF116, JkF83, JkF51, JkF88, JkF56, JkPuJ, JkF93v0, JkF121v0, JkF54, JkF58, JkF36, JkF15, JkF60v0, JkF) Conditions: none beyond the statement. -/
import Derived.Test.YtmjbhofbpkpioaaGreatDoorZFnExactRootOwner3
import Derived.Tactics
import Derived.Deep.RegionLaw
import Derived.Shelf.Abstract
import Derived.Test.YtmjbhofbpkpioaaGreatDoorProg
import Derived.KernelRfl
set_option maxRecDepth 100000
set_option linter.unusedVariables false
namespace Go.Proofs
open Go.Jk
-- 61 loop.example/jackstay/impl.packsAscend
noncomputable def c61 : Ctx := { tt := tt, fs := fun n => match n with | _ => none }
theorem k61 (h : ∀ T, (tt T).ok Tryz.prog T) : CtxGood Tryz.prog c61 := ⟨⟨h⟩, fun g S hg => (by cases hg), tt_mo, fun _ _ h => (by cases h)⟩
noncomputable def b61 : Code := codeOf Tryz.f61
@[reducible] noncomputable def s61_26 : Shape := ⟨[(0, .lf (.d (.sl .pack))), (3, .lf (.d (.int .i64)))], [], 22⟩
@[reducible] noncomputable def t61_26 : List OSh := [(.ret, ⟨[(2, .lf (.d (.bool)))], [], 22⟩), (.exit 0, ⟨[], [], 22⟩)]
noncomputable def g61_26 (y : s61_26.Y) : Option (Sum s61_26.Y (YS t61_26)) :=
  bif (decide (y.1.2.1 < (y.1.1.length : Int))) then
(ix y.1.1 (IntKind.i64.wrap (y.1.2.1 - (1 : Int)))).bind fun x1040 =>
(ix y.1.1 y.1.2.1).bind fun x1041 =>
  bif (!(Op.bytesLess x1040.name x1041.name)) then
  some (.inr (.inl ((false, ()), ())))
else
  some (.inl ((y.1.1, ((IntKind.i64.wrap (y.1.2.1 + (1 : Int))), ())), ()))
else
  some (.inr (.inr ((), ())))
theorem r61_26 : ∀ y, g61_26 y = roundF (ctxWith c61 []) (unloop (codeAt b61 1 26)) 26 s61_26 t61_26 y := fun y => by kernel_rfl
noncomputable def l61_26 : s61_26.Y → Option (YS t61_26) := loopF g61_26
theorem q61_26 (H : CtxGood Tryz.prog c61) : FragOk Tryz.prog (codeAt b61 1 26) (fragOrc s61_26 t61_26 l61_26) :=
  loop_at (fr := []) H (by kernel_rfl) (by kernel_rfl) frags_nil (fun y => iter_congr r61_26 y)
@[reducible] noncomputable def i61 : Shape := ⟨[(0, .lf (.d (.sl .pack)))], [], 22⟩
@[reducible] noncomputable def o61 : Shape := ⟨[(2, .lf (.d (.bool)))], [], 22⟩
noncomputable def f61 (a : i61.Y) : Option o61.Y :=
(l61_26 ((a.1.1, ((1 : Int), ())), ())).bind fun r1045 =>
(match r1045 with
| .inl r1046 =>
  some ((r1046.1.1, ()), ())
| .inr r1047 =>
  some ((true, ()), ()))
theorem e61 : ∀ a, f61 a = bodyF (ctxWith c61 [(26, fragOrc s61_26 t61_26 l61_26)]) b61 i61 o61 a := fun a => by kernel_rfl
noncomputable def S61 : Summ := funSumm tt 22 i61 o61 [.tmp 2] f61
theorem z61 (h : ∀ T, (tt T).ok Tryz.prog T) : SummOk Tryz.prog 61 S61 :=
  have H := k61 h
  fun_at (fn := Tryz.f61) (fr := [(26, fragOrc s61_26 t61_26 l61_26)]) H (by kernel_rfl) (by kernel_rfl) (by kernel_rfl) (by kernel_rfl) (by kernel_rfl) ⟨q61_26 H, trivial⟩ (fun y => ⟨_, rfl, rfl⟩) e61
end Go.Proofs

set_option maxRecDepth 100000
set_option linter.unusedVariables false
namespace Go.Proofs
open Go.Jk
-- 69 loop.example/jackstay/spec.l2Join
noncomputable def c69 : Ctx := { tt := tt, fs := fun n => match n with | 40 => some S40 | 87 => some S87 | 100 => some S100 | _ => none }
theorem k69 (h : ∀ T, (tt T).ok Tryz.prog T) (h40 : SummOk Tryz.prog 40 S40) (h87 : SummOk Tryz.prog 87 S87) (h100 : SummOk Tryz.prog 100 S100) : CtxGood Tryz.prog c69 := ⟨⟨h⟩, fun g S hg => (by
  simp only [c69] at hg
  split at hg
  · cases hg; exact h40
  · cases hg; exact h87
  · cases hg; exact h100
  · cases hg), tt_mo, fun _ _ h => (by cases h)⟩
noncomputable def b69 : Code := codeOf Tryz.f69
@[reducible] noncomputable def s69_7460 : Shape := ⟨[(1, .lf (.d (.sl .entry))), (6, .lf (.own 3000384)), (7, .lf (.d (.int .i64))), (8, .lf (.d (.int .i64))), (9, .lf (.d (.bool)))], [(3000384, .row .entry, .slot 6 0)], 69⟩
@[reducible] noncomputable def t69_7460 : List OSh := [(.norm, ⟨[(1, .lf (.d (.sl .entry))), (6, .lf (.own 3000384)), (7, .lf (.d (.int .i64))), (8, .lf (.d (.int .i64))), (9, .lf (.d (.bool))), (28, .lf (.d (.bool))), (29, .lf (.d (.bool))), (47, .lf (.d (.bool)))], [(3000384, .row .entry, .slot 6 0)], 69⟩)]
noncomputable def g69_7460 (y : s69_7460.Y) : Option (YS t69_7460) :=
  bif y.1.2.2.2.2.1 then
(inb y.2.1.length y.1.2.2.2.1).bind fun x508 =>
(y.2.1[x508]?).bind fun x509 =>
  bif (x509.kind != (1 : Int)) then
  some (((y.1.1, ((), (y.1.2.2.1, (y.1.2.2.2.1, (y.1.2.2.2.2.1, (y.1.2.2.2.2.1, (true, (true, ())))))))), (y.2.1, ())))
else
(ix y.1.1 y.1.2.2.1).bind fun x510 =>
(inb y.2.1.length y.1.2.2.2.1).bind fun x511 =>
(y.2.1[x511]?).bind fun x512 =>
  some (((y.1.1, ((), (y.1.2.2.1, (y.1.2.2.2.1, (y.1.2.2.2.2.1, (y.1.2.2.2.2.1, (true, ((!((x510.path == x512.path) && ((x510.kind == x512.kind) && ((x510.mode == x512.mode) && (x510.text == x512.text))))), ())))))))), (y.2.1, ())))
else
  some (((y.1.1, ((), (y.1.2.2.1, (y.1.2.2.2.1, (y.1.2.2.2.2.1, (y.1.2.2.2.2.1, (false, (false, ())))))))), (y.2.1, ())))
theorem r69_7460 : ∀ y, g69_7460 y = pieceF (ctxWith c69 []) (codeAt (unloop (codeAt b69 1 58)) 116 7460) 7460 s69_7460 t69_7460 y := fun y => by kernel_rfl
theorem q69_7460 (H : CtxGood Tryz.prog c69) : FragOk Tryz.prog (codeAt (unloop (codeAt b69 1 58)) 116 7460) (fragOrc s69_7460 t69_7460 g69_7460) :=
  piece_at (fr := []) H (by kernel_rfl) frags_nil r69_7460
@[reducible] noncomputable def s69_58 : Shape := ⟨[(1, .lf (.d (.sl .entry))), (6, .lf (.own 3000384)), (7, .lf (.d (.int .i64)))], [(3000384, .row .entry, .slot 6 0)], 69⟩
@[reducible] noncomputable def t69_58 : List OSh := [(.ret, ⟨[(4, .lf (.own 3000256)), (5, .lf (.d (.bool)))], [(3000256, .row .entry, .slot 4 0)], 69⟩), (.exit 0, ⟨[(6, .lf (.own 3000384))], [(3000384, .row .entry, .slot 6 0)], 69⟩)]
noncomputable def g69_58 (y : s69_58.Y) : Option (Sum s69_58.Y (YS t69_58)) :=
  bif (decide (y.1.2.2.1 < (y.1.1.length : Int))) then
(ix y.1.1 y.1.2.2.1).bind fun x523 =>
(f40 ((y.2.1, (x523.path, ())), ())).bind fun r524 =>
(g69_7460 ((y.1.1, ((), (y.1.2.2.1, (r524.1.1, (r524.1.2.1, ()))))), (y.2.1, ()))).bind fun r526 =>
  bif r526.1.2.2.2.2.2.2.2.1 then
  some (.inr (.inl (((), (false, ())), (([] : List Entry), ()))))
else
  bif (!r526.1.2.2.2.2.1) then
(subl r526.2.1 (0 : Int) r526.1.2.2.2.1).bind fun x527 =>
(apd 48 ([] : List Entry) x527).bind fun x528 =>
(ix r526.1.1 r526.1.2.2.1).bind fun x529 =>
(apd 48 x528 ([x529] : List Entry)).bind fun x530 =>
(subl r526.2.1 r526.1.2.2.2.1 (r526.2.1.length : Int)).bind fun x531 =>
(apd 48 x530 x531).bind fun x532 =>
  some (.inl ((r526.1.1, ((), ((IntKind.i64.wrap (r526.1.2.2.1 + (1 : Int))), ()))), (x532, ())))
else
  some (.inl ((r526.1.1, ((), ((IntKind.i64.wrap (r526.1.2.2.1 + (1 : Int))), ()))), (r526.2.1, ())))
else
  some (.inr (.inr (((), ()), (y.2.1, ()))))
theorem r69_58 : ∀ y, g69_58 y = roundF (ctxWith c69 [(7460, fragOrc s69_7460 t69_7460 g69_7460)]) (unloop (codeAt b69 1 58)) 58 s69_58 t69_58 y := fun y => by kernel_rfl
noncomputable def l69_58 : s69_58.Y → Option (YS t69_58) := loopF g69_58
theorem q69_58 (H : CtxGood Tryz.prog c69) : FragOk Tryz.prog (codeAt b69 1 58) (fragOrc s69_58 t69_58 l69_58) :=
  loop_at (fr := [(7460, fragOrc s69_7460 t69_7460 g69_7460)]) H (by kernel_rfl) (by kernel_rfl) ⟨q69_7460 H, trivial⟩ (fun y => iter_congr r69_58 y)
@[reducible] noncomputable def i69 : Shape := ⟨[(0, .lf (.d (.sl .entry))), (1, .lf (.d (.sl .entry)))], [], 69⟩
@[reducible] noncomputable def o69 : Shape := ⟨[(4, .lf (.own 3000256)), (5, .lf (.d (.bool)))], [(3000256, .row .entry, .slot 4 0)], 69⟩
noncomputable def f69 (a : i69.Y) : Option o69.Y :=
(f100 ((a.1.1, ()), ())).bind fun r541 =>
(l69_58 ((a.1.2.1, ((), ((0 : Int), ()))), (r541.2.1, ()))).bind fun r545 =>
(match r545 with
| .inl r546 =>
  some (((), (r546.1.2.1, ())), (r546.2.1, ()))
| .inr r547 =>
(f87 ((r547.2.1, ()), ())).bind fun r548 =>
  some (((), (r548.1.1, ())), (r547.2.1, ())))
theorem e69 : ∀ a, f69 a = bodyF (ctxWith c69 [(58, fragOrc s69_58 t69_58 l69_58)]) b69 i69 o69 a := fun a => by kernel_rfl
noncomputable def S69 : Summ := funSumm tt 69 i69 o69 [.tmp 4, .tmp 5] f69
theorem z69 (h : ∀ T, (tt T).ok Tryz.prog T) (h40 : SummOk Tryz.prog 40 S40) (h87 : SummOk Tryz.prog 87 S87) (h100 : SummOk Tryz.prog 100 S100) : SummOk Tryz.prog 69 S69 :=
  have H := k69 h h40 h87 h100
  fun_at (fn := Tryz.f69) (fr := [(58, fragOrc s69_58 t69_58 l69_58)]) H (by kernel_rfl) (by kernel_rfl) (by kernel_rfl) (by kernel_rfl) (by kernel_rfl) ⟨q69_58 H, trivial⟩ (fun y => ⟨_, rfl, rfl⟩) e69
end Go.Proofs

set_option maxRecDepth 100000
set_option linter.unusedVariables false
set_option linter.unusedSimpArgs false
namespace Go.Proofs
open Go.Jk

/- Packages. -/
abbrev BdP (p : Pack) : Prop := Bd p.name.length ∧ Bd p.version.length ∧ BdNs p.needs ∧ BdEs p.tree
abbrev BdPs (ps : List Pack) : Prop := Bd ps.length ∧ ∀ p, p ∈ ps → BdP p
def pkOk (p : Pack) : Bool := pkName p.name && versOk p.version && needsOk p.name p.needs && treeOk p.tree

theorem v_PackOk (a) (hb : BdP ⟨a.1.1.1, a.1.1.2.1, a.1.1.2.2.1, a.1.1.2.2.2.1⟩) : f52 a = some ((pkOk ⟨a.1.1.1, a.1.1.2.1, a.1.1.2.2.1, a.1.1.2.2.2.1⟩, ()), ()) := by
  obtain ⟨⟨⟨n, v, ns, t, u⟩, u'⟩, u''⟩ := a
  obtain ⟨h1, h2, h3, h4⟩ := hb
  have h1 : n.length ≤ 2097152 := h1
  have e1 := v_l3Pack ((n, ()), ()) (show n.length ≤ 1099511627776 by omega)
  have e2 := v_VersionOk ((v, ()), ()) h2
  have e3 := v_l7Needs ((n, (ns, ())), ()) h3 h1
  have e4 := v_TreeOk ((t, ()), ()) h4
  simp only [f52, e1, e2, e3, e4, Option.bind_some, pkOk]
  cases pkName n <;> cases versOk v <;> cases needsOk n ns <;> rfl

theorem v_iPackOk (a) (hb : BdP ⟨a.1.1.1, a.1.1.2.1, a.1.1.2.2.1, a.1.1.2.2.2.1⟩) : f50 a = some ((pkOk ⟨a.1.1.1, a.1.1.2.1, a.1.1.2.2.1, a.1.1.2.2.2.1⟩, ()), ()) := by
  obtain ⟨⟨⟨n, v, ns, t, u⟩, u'⟩, u''⟩ := a
  obtain ⟨h1, h2, h3, h4⟩ := hb
  have h1 : n.length ≤ 2097152 := h1
  have e1 := v_packNameOk ((n, ()), ()) (show n.length ≤ 1099511627776 by omega)
  have e2 := v_iVersionOk ((v, ()), ()) h2
  have e3 := v_allNeed ((ns, ((), ())), ()) h3
  have e4 := v_iTreeOk ((t, ()), ()) h4
  have e5 := v_namesTwice ((ns, ((), (([n] : List Str), ()))), ()) h3 (Nat.le_refl _)
  have h6 : decide ((ns.length : Int) > 6) = !decide (ns.length ≤ 6) := by by_cases h : ns.length ≤ 6 <;> simp only [h, decide_true, decide_false, Bool.not_true, Bool.not_false, decide_eq_true_eq, decide_eq_false_iff_not] <;> omega
  have hd : dupA [] (n :: ns.map (·.name)) = dupA [n] (ns.map (·.name)) := by simp [dupA]
  simp only [f50, g50_12, e1, e2, Option.bind_some, pkOk, needsOk, hd, h6, Bool.not_not]
  cases pkName n with
  | false => rfl
  | true =>
    cases versOk v with
    | false => rfl
    | true =>
      cases decide (ns.length ≤ 6) with
      | false => simp only [cond_true, Bool.not_false, Option.bind_some, Bool.and_false, Bool.false_and]
      | true =>
        simp only [cond_true, Bool.not_true, cond_false, Option.bind_some, e3, e5, e4, Bool.true_and, Bool.and_true]
        cases List.all ns needOk <;> cases dupA [n] (ns.map (·.name)) <;> rfl

theorem v_allPack (a) (hs : BdPs a.1.1) : f49v0 a = some ((a.1.1.all pkOk, ()), ()) := by
  obtain ⟨⟨ps, u⟩, u'⟩ := a
  obtain ⟨hl, hn⟩ := hs
  have hl : ps.length ≤ 2097152 := hl
  have key : l49v0_26 (((), (ps, ((ps.length : Int), ((0 : Int), ())))), ()) = some (bif allI (fun _ n => pkOk n) 0 ps then .inr ((), ()) else .inl ((false, ()), ())) := by
    refine loop_all g49v0_26 ps (fun i => (((), (ps, ((ps.length : Int), ((i : Int), ())))), ())) _ _ _ (fun i x hx => ?_) ?_
    · have hi := get_lt hx
      have hw : Sm i := by unfold Sm; omega
      have hb := hn x (List.mem_of_getElem? hx)
      simp only [g49v0_26, lt_dec hi, cond_true, ix_nat, hx, Option.bind_some]
      rw [v_iPackOk _ hb]
      simp only [Option.bind_some, wrap_add1 hw]
      cases pkOk x <;> rfl
    · simp only [g49v0_26, nlt_dec, cond_false]
  rw [allI_all] at key
  simp only [f49v0, key, Option.bind_some]
  cases List.all ps pkOk <;> rfl

def lessP (ps : List Pack) (i : Nat) (x : Pack) : Bool := match ps[i]? with
  | some q => Op.bytesLess q.name x.name
  | none => false
def ascP (ps : List Pack) : Bool := allI (lessP ps) 0 ps.tail

theorem v_packsAscend (a) (hs : Bd a.1.1.length) : f61 a = some ((ascP a.1.1, ()), ()) := by
  obtain ⟨⟨ps, u⟩, u'⟩ := a
  have hs : ps.length ≤ 2097152 := hs
  have key : l61_26 ((ps, ((1 : Int), ())), ()) = some (bif allI (lessP ps) 0 ps.tail then .inr ((), ()) else .inl ((false, ()), ())) := by
    refine loop_all g61_26 ps.tail (fun i => ((ps, (((i + 1 : Nat) : Int), ())), ())) _ _ _ (fun i x hx => ?_) ?_
    · have hx' : ps[i + 1]? = some x := by rw [List.getElem?_tail] at hx; exact hx
      have hi := get_lt hx'
      have hw : Sm (i + 1) := by unfold Sm; omega
      obtain ⟨q, hq⟩ : ∃ q, ps[i]? = some q := ⟨ps[i], List.getElem?_eq_getElem (by omega)⟩
      simp only [g61_26, lt_dec hi, cond_true, wrap_sub1 (i := i) (by unfold Sm; omega), ix_nat, hq, hx', Option.bind_some, wrap_add1 hw, lessP]
      cases Op.bytesLess q.name x.name <;> rfl
    · have : decide (((ps.tail.length + 1 : Nat) : Int) < (ps.length : Int)) = false := by
        simp only [decide_eq_false_iff_not, List.length_tail]; omega
      simp only [g61_26, this, cond_false]
  simp only [f61, key, Option.bind_some, ascP]
  cases allI (lessP ps) 0 ps.tail <;> rfl

/- Trees joined. -/
def eqE (a b : Entry) : Bool := a.path == b.path && (a.kind == b.kind && (a.mode == b.mode && a.text == b.text))
def conf (e q : Entry) : Bool := e.kind != 1 || !eqE e q
theorem eqE_comm (a b : Entry) : eqE a b = eqE b a := by
  unfold eqE
  have h1 : (a.path == b.path) = (b.path == a.path) := BEq.comm
  have h2 : (a.kind == b.kind) = (b.kind == a.kind) := BEq.comm
  have h3 : (a.mode == b.mode) = (b.mode == a.mode) := BEq.comm
  have h4 : (a.text == b.text) = (b.text == a.text) := BEq.comm
  rw [h1, h2, h3, h4]
theorem conf_eq (e q : Entry) : conf e q = (q.kind != 1 || !eqE e q) := by
  unfold conf
  cases h : eqE e q with
  | false => simp
  | true =>
    unfold eqE at h
    simp only [Bool.and_eq_true] at h
    rw [show e.kind = q.kind from eq_of_beq h.2.1]

def insAt (t : List Entry) (k : Nat) (e : Entry) : List Entry := t.take k ++ [e] ++ t.drop k
def joinL (out : List Entry) : List Entry → Option (List Entry)
  | [] => some out
  | e :: r => match out[posL out e.path]? with
    | some q => bif q.path == e.path then (bif conf e q then none else joinL out r) else joinL (insAt out (posL out e.path) e) r
    | none => joinL (insAt out (posL out e.path) e) r

theorem insAt_len (t : List Entry) (k : Nat) (e : Entry) (h : k ≤ t.length) : (insAt t k e).length = t.length + 1 := by
  unfold insAt
  simp only [List.length_append, List.length_take, List.length_cons, List.length_nil, List.length_drop]; omega
theorem insAt_mem {t : List Entry} {k : Nat} {e x : Entry} (h : x ∈ insAt t k e) : x = e ∨ x ∈ t := by
  unfold insAt at h
  rcases List.mem_append.1 h with h | h
  · rcases List.mem_append.1 h with h | h
    · exact .inr (List.mem_of_mem_take h)
    · exact .inl (by simpa using h)
  · exact .inr (List.mem_of_mem_drop h)

/-- What a step makes of the tree: nothing; it stays; it has one entry more. -/
def stepJ (out : List Entry) (e : Entry) : Option (List Entry) := match out[posL out e.path]? with
  | some q => bif q.path == e.path then (bif conf e q then none else some out) else some (insAt out (posL out e.path) e)
  | none => some (insAt out (posL out e.path) e)
theorem joinL_step (out : List Entry) (e : Entry) (r : List Entry) : joinL out (e :: r) = (stepJ out e).bind fun o => joinL o r := by
  unfold stepJ
  rw [joinL]
  cases out[posL out e.path]? with
  | none => rfl
  | some q =>
    simp only
    cases (q.path == e.path) with
    | false => rfl
    | true => cases conf e q <;> rfl
theorem stepJ_len {out o : List Entry} {e : Entry} (h : stepJ out e = some o) : o.length ≤ out.length + 1 := by
  unfold stepJ at h
  split at h
  · rename_i q hq
    cases hp : (q.path == e.path) with
    | true =>
      rw [hp] at h
      cases hc : conf e q with
      | true => rw [hc] at h; cases h
      | false => rw [hc] at h; cases h; omega
    | false => rw [hp] at h; cases h; rw [insAt_len _ _ _ (posL_le _ _)]; omega
  · cases h; rw [insAt_len _ _ _ (posL_le _ _)]; omega
theorem stepJ_mem {out o : List Entry} {e x : Entry} (h : stepJ out e = some o) (hx : x ∈ o) : x = e ∨ x ∈ out := by
  unfold stepJ at h
  split at h
  · rename_i q hq
    cases hp : (q.path == e.path) with
    | true =>
      rw [hp] at h
      cases hc : conf e q with
      | true => rw [hc] at h; cases h
      | false => rw [hc] at h; cases h; exact .inr hx
    | false => rw [hp] at h; cases h; exact insAt_mem hx
  · cases h; exact insAt_mem hx

theorem asc_ins {t : List Entry} {e : Entry} (ha : Asc t) (hn : hasAt t e.path = false) : Asc (insAt t (posL t e.path) e) := by
  have hlow : ∀ a, a ∈ t.take (posL t e.path) → Op.bytesLess a.path e.path = true := by
    intro a h
    obtain ⟨k, hk⟩ := List.mem_iff_getElem?.1 h
    have hkp : k < posL t e.path := by have := get_lt hk; rw [List.length_take] at this; omega
    have hk' : t[k]? = some a := by rw [List.getElem?_take, if_pos hkp] at hk; exact hk
    rw [pos_spec ha k a hk']; simpa using hkp
  have hhigh : ∀ a, a ∈ t.drop (posL t e.path) → Op.bytesLess e.path a.path = true := by
    intro a h
    obtain ⟨k, hk⟩ := List.mem_iff_getElem?.1 h
    rw [List.getElem?_drop] at hk
    have h1 := pos_spec (p := e.path) ha _ a hk
    have h2 : Op.bytesLess a.path e.path = false := by rw [h1]; simp
    refine bl_tri _ _ h2 ?_
    cases hq : (a.path == e.path) with
    | false => rfl
    | true =>
      exfalso
      cases k with
      | zero =>
        unfold hasAt at hn
        rw [Nat.add_zero] at hk
        rw [hk] at hn
        simp only [hq] at hn
        cases hn
      | succ k =>
        have hlt := get_lt hk
        obtain ⟨q, hq0⟩ : ∃ q, t[posL t e.path]? = some q := ⟨_, List.getElem?_eq_getElem (by omega)⟩
        have h3 := List.pairwise_iff_getElem.1 ha (posL t e.path) (posL t e.path + (k + 1)) (get_lt hq0) hlt (by omega)
        rw [(List.getElem?_eq_some_iff.1 hq0).2, (List.getElem?_eq_some_iff.1 hk).2] at h3
        have h4 := pos_spec (p := e.path) ha _ q hq0
        rw [← eq_of_beq hq, h3] at h4
        simp at h4
  unfold Asc insAt
  refine List.pairwise_append.2 ⟨List.pairwise_append.2 ⟨ha.take _, by simp, ?_⟩, List.Pairwise.sublist (List.drop_sublist _ _) ha, ?_⟩
  · intro a h b hb
    have hb : b = e := by simpa using hb
    subst hb
    exact hlow a h
  · intro a h b hb
    rcases List.mem_append.1 h with h | h
    · exact bl_trans _ _ _ (hlow a h) (hhigh b hb)
    · have h : a = e := by simpa using h
      subst h
      exact hhigh b hb
theorem stepJ_asc {out o : List Entry} {e : Entry} (ha : Asc out) (h : stepJ out e = some o) : Asc o := by
  unfold stepJ at h
  have hno : ∀ {b : Bool}, hasAt out e.path = b → b = false → Asc (insAt out (posL out e.path) e) := fun h1 h2 => asc_ins ha (h1.trans h2)
  split at h
  · rename_i q hq
    cases hp : (q.path == e.path) with
    | true =>
      rw [hp] at h
      cases hc : conf e q with
      | true => rw [hc] at h; cases h
      | false => rw [hc] at h; cases h; exact ha
    | false => rw [hp] at h; cases h; exact hno (by unfold hasAt; rw [hq]) hp
  · rename_i hq; cases h; exact hno (by unfold hasAt; rw [hq]) rfl

theorem v_l2Join (a) (ha : BdEs a.1.1) (hb : BdEs a.1.2.1) (hl : a.1.1.length + a.1.2.1.length ≤ 2097152) : f69 a =
    some (match joinL a.1.1 a.1.2.1 with | some out => (((), (treeOk out, ())), (out, ())) | none => (((), (false, ())), (([] : List Entry), ()))) := by
  obtain ⟨⟨xs, ys, u⟩, u'⟩ := a
  have hl : xs.length + ys.length ≤ 2097152 := hl
  have hc : f100 ((xs, ()), ()) = some (((), ()), (xs, ())) := by
    simp only [f100]
    rw [apd_sm (by decide) (by unfold Sm; simp only [List.length_nil]; omega)]
    rfl
  have key : l69_58 ((ys, ((), ((0 : Int), ()))), (xs, ())) = _ := loop_inv g69_58 ys (fun i (out : List Entry) => ((ys, ((), ((i : Int), ()))), (out, ())))
    (fun i e out => some (match stepJ out e with | some o => .inl o | none => .inr ((.inl (((), (false, ())), (([] : List Entry), ()))) : YS t69_58))) (fun out => ((.inr (((), ()), (out, ()))) : YS t69_58))
    (fun i out => out.length ≤ xs.length + i ∧ ∀ e, e ∈ out → BdE e) xs ⟨Nat.le_refl _, ha.2⟩ (fun i x out hx hI => ?_) (fun out _ => ?_)
  · have fold : ∀ (r : List Entry) (k : Nat) (out : List Entry), foldB (fun i e out => some (match stepJ out e with | some o => .inl o | none => .inr ((.inl (((), (false, ())), (([] : List Entry), ()))) : YS t69_58))) (fun out => ((.inr (((), ()), (out, ()))) : YS t69_58)) k r out =
        some (match joinL out r with | some o => .inr (((), ()), (o, ())) | none => .inl (((), (false, ())), (([] : List Entry), ()))) := by
      intro r
      induction r with
      | nil => intro k out; rfl
      | cons e r ih =>
        intro k out
        rw [joinL_step]
        simp only [foldB]
        cases stepJ out e with
        | none => rfl
        | some o => simp only [Option.bind_some]; exact ih _ _
    have mem : ∀ (r : List Entry) (out o : List Entry), (∀ e, e ∈ r → BdE e) → (∀ e, e ∈ out → BdE e) → joinL out r = some o → o.length ≤ out.length + r.length ∧ ∀ e, e ∈ o → BdE e := by
      intro r
      induction r with
      | nil => intro out o _ h2 h; cases h; exact ⟨Nat.le_refl _, h2⟩
      | cons e r ih =>
        intro out o h1 h2 h
        rw [joinL_step] at h
        obtain ⟨o1, h3, h4⟩ := Option.bind_eq_some_iff.1 h
        have h5 := ih o1 o (fun x hx => h1 x (List.mem_cons_of_mem _ hx)) (fun x hx => by
          rcases stepJ_mem h3 hx with rfl | h
          · exact h1 x List.mem_cons_self
          · exact h2 x h) h4
        have h6 := stepJ_len h3
        exact ⟨by simp only [List.length_cons]; omega, h5.2⟩
    rw [fold] at key
    simp only [f69, hc, Option.bind_some, key]
    cases hj : joinL xs ys with
    | none => rfl
    | some o =>
      have hm := mem ys xs o hb.2 ha.2 hj
      simp only [Option.bind_some]
      rw [v_TreeOk _ ⟨show o.length ≤ 2097152 by omega, hm.2⟩]
      rfl
  · have hi := get_lt hx
    have hw : Sm i := by unfold Sm; omega
    refine ⟨?_, fun s' h' => ?_⟩
    · have hat := v_l2At ((out, (x.path, ())), ()) (show out.length ≤ 2097152 by omega)
      have hpl := posL_le out x.path
      simp only [g69_58, lt_dec hi, cond_true, ix_nat, hx, Option.bind_some, hat, g69_7460, hasAt, stepJ]
      have grow : ((subl out 0 (posL out x.path : Int)).bind fun x527 => (apd 48 ([] : List Entry) x527).bind fun x528 => (apd 48 x528 ([x] : List Entry)).bind fun x530 => (subl out (posL out x.path : Int) (out.length : Int)).bind fun x531 => (apd 48 x530 x531).bind fun x532 =>
          (some (.inl ((ys, ((), ((IntKind.i64.wrap ((i : Int) + (1 : Int))), ()))), (x532, ()))) : Option (Sum s69_58.Y (YS t69_58)))) = some (.inl ((ys, ((), (((i + 1 : Nat) : Int), ()))), (insAt out (posL out x.path) x, ()))) := by
        have hlen : (out.take (posL out x.path)).length ≤ out.length := by rw [List.length_take]; omega
        have hlen2 : (out.drop (posL out x.path)).length ≤ out.length := by rw [List.length_drop]; omega
        rw [subl_to hpl, Option.bind_some, apd_sm (by decide) (by unfold Sm; simp only [List.length_nil]; omega), Option.bind_some, apd_sm (by decide) (by unfold Sm; simp only [List.length_nil, List.length_cons, List.nil_append]; omega), Option.bind_some, subl_from hpl, Option.bind_some,
          apd_sm (by decide) (by unfold Sm; simp only [List.length_append, List.length_nil, List.length_cons, List.nil_append]; omega), Option.bind_some, wrap_add1 hw]
        rfl
      cases hq : out[posL out x.path]? with
      | none => simp only [cond_false, Option.bind_some, Bool.not_false, cond_true, ix_nat, hx]; exact grow
      | some q =>
        have hin := inb_nat (get_lt hq)
        simp only
        cases hp : (q.path == x.path) with
        | false => simp only [cond_false, Option.bind_some, Bool.not_false, cond_true, ix_nat, hx]; exact grow
        | true =>
          have hce : ((x.path == q.path) && ((x.kind == q.kind) && ((x.mode == q.mode) && (x.text == q.text)))) = eqE x q := rfl
          rw [conf_eq]
          simp only [cond_true, hin, hq, Option.bind_some, ix_nat, hx, hce]
          cases hk : (q.kind != 1) with
          | true => rfl
          | false =>
            simp only [cond_false, Option.bind_some, Bool.false_or]
            cases eqE x q with
            | false => rfl
            | true => simp only [Bool.not_true, cond_false, Option.bind_some, wrap_add1 hw]; rfl
    · simp only [Option.some.injEq] at h'
      cases hs : stepJ out x with
      | none => rw [hs] at h'; cases h'
      | some o =>
        rw [hs] at h'
        cases h'
        have h6 := stepJ_len hs
        refine ⟨by omega, fun e he => ?_⟩
        rcases stepJ_mem hs he with rfl | h
        · exact hb.2 e (List.mem_of_getElem? hx)
        · exact hI.2 e h
  · simp only [g69_58, nlt_dec, cond_false]
end Go.Proofs

set_option maxRecDepth 100000
set_option linter.unusedVariables false
namespace Go.Proofs
open Go.Jk
-- 101 slices.Clone[[]loop.example/jackstay/impl.Entry,loop.example/jackstay/impl.Entry]
noncomputable def c101 : Ctx := { tt := tt, fs := fun n => match n with | _ => none }
theorem k101 (h : ∀ T, (tt T).ok Tryz.prog T) : CtxGood Tryz.prog c101 := ⟨⟨h⟩, fun g S hg => (by cases hg), tt_mo, fun _ _ h => (by cases h)⟩
noncomputable def b101 : Code := codeOf Tryz.f101
@[reducible] noncomputable def i101 : Shape := ⟨[(0, .lf (.d (.sl .entry)))], [], 8⟩
@[reducible] noncomputable def o101 : Shape := ⟨[(2, .lf (.own 3000128))], [(3000128, .row .entry, .slot 2 0)], 8⟩
noncomputable def f101 (a : i101.Y) : Option o101.Y :=
  twoRoads (t := .entry) a.1.1 (some (((), ()), (([] : List Entry), ()))) ((apd 48 ([] : List Entry) a.1.1).bind fun x1182 =>
  some (((), ()), (x1182, ())))
theorem e101 : ∀ a, f101 a = bodyF (ctxWith c101 []) b101 i101 o101 a := fun a => by kernel_rfl
noncomputable def S101 : Summ := funSumm tt 8 i101 o101 [.tmp 2] f101
theorem z101 (h : ∀ T, (tt T).ok Tryz.prog T) : SummOk Tryz.prog 101 S101 :=
  have H := k101 h
  fun_at (fn := Tryz.f101) (fr := []) H (by kernel_rfl) (by kernel_rfl) (by kernel_rfl) (by kernel_rfl) (by kernel_rfl) frags_nil (fun y => ⟨_, rfl, rfl⟩) e101
end Go.Proofs

set_option maxRecDepth 100000
set_option linter.unusedVariables false
namespace Go.Proofs
open Go.Jk
-- 42 loop.example/jackstay/spec.l9Tree
noncomputable def c42 : Ctx := { tt := tt, fs := fun n => match n with | 69 => some S69 | _ => none }
theorem k42 (h : ∀ T, (tt T).ok Tryz.prog T) (h69 : SummOk Tryz.prog 69 S69) : CtxGood Tryz.prog c42 := ⟨⟨h⟩, fun g S hg => (by
  simp only [c42] at hg
  split at hg
  · cases hg; exact h69
  · cases hg), tt_mo, fun _ _ h => (by cases h)⟩
noncomputable def b42 : Code := codeOf Tryz.f42
@[reducible] noncomputable def s42_58 : Shape := ⟨[(0, .lf (.d (.sl .pack))), (4, .lf (.own 3000256)), (5, .lf (.d (.int .i64)))], [(3000256, .row .entry, .slot 4 0)], 30⟩
@[reducible] noncomputable def t42_58 : List OSh := [(.ret, ⟨[(2, .lf (.own 3000128)), (3, .lf (.d (.bool)))], [(3000128, .row .entry, .slot 2 0)], 30⟩), (.exit 0, ⟨[(4, .lf (.own 3000256))], [(3000256, .row .entry, .slot 4 0)], 30⟩)]
noncomputable def g42_58 (y : s42_58.Y) : Option (Sum s42_58.Y (YS t42_58)) :=
  bif (decide (y.1.2.2.1 < (y.1.1.length : Int))) then
(ix y.1.1 y.1.2.2.1).bind fun x554 =>
(f69 ((y.2.1, (x554.tree, ())), ())).bind fun r555 =>
  bif (!r555.1.2.1) then
  some (.inr (.inl (((), (false, ())), (([] : List Entry), ()))))
else
  some (.inl ((y.1.1, ((), ((IntKind.i64.wrap (y.1.2.2.1 + (1 : Int))), ()))), (r555.2.1, ())))
else
  some (.inr (.inr (((), ()), (y.2.1, ()))))
theorem r42_58 : ∀ y, g42_58 y = roundF (ctxWith c42 []) (unloop (codeAt b42 1 58)) 58 s42_58 t42_58 y := fun y => by kernel_rfl
noncomputable def l42_58 : s42_58.Y → Option (YS t42_58) := loopF g42_58
theorem q42_58 (H : CtxGood Tryz.prog c42) : FragOk Tryz.prog (codeAt b42 1 58) (fragOrc s42_58 t42_58 l42_58) :=
  loop_at (fr := []) H (by kernel_rfl) (by kernel_rfl) frags_nil (fun y => iter_congr r42_58 y)
@[reducible] noncomputable def i42 : Shape := ⟨[(0, .lf (.d (.sl .pack)))], [], 30⟩
@[reducible] noncomputable def o42 : Shape := ⟨[(2, .lf (.own 3000128)), (3, .lf (.d (.bool)))], [(3000128, .row .entry, .slot 2 0)], 30⟩
noncomputable def f42 (a : i42.Y) : Option o42.Y :=
(l42_58 ((a.1.1, ((), ((0 : Int), ()))), (([] : List Entry), ()))).bind fun r565 =>
(match r565 with
| .inl r566 =>
  some (((), (r566.1.2.1, ())), (r566.2.1, ()))
| .inr r567 =>
  some (((), (true, ())), (r567.2.1, ())))
theorem e42 : ∀ a, f42 a = bodyF (ctxWith c42 [(58, fragOrc s42_58 t42_58 l42_58)]) b42 i42 o42 a := fun a => by kernel_rfl
noncomputable def S42 : Summ := funSumm tt 30 i42 o42 [.tmp 2, .tmp 3] f42
theorem z42 (h : ∀ T, (tt T).ok Tryz.prog T) (h69 : SummOk Tryz.prog 69 S69) : SummOk Tryz.prog 42 S42 :=
  have H := k42 h h69
  fun_at (fn := Tryz.f42) (fr := [(58, fragOrc s42_58 t42_58 l42_58)]) H (by kernel_rfl) (by kernel_rfl) (by kernel_rfl) (by kernel_rfl) (by kernel_rfl) ⟨q42_58 H, trivial⟩ (fun y => ⟨_, rfl, rfl⟩) e42
end Go.Proofs

set_option maxRecDepth 100000
set_option linter.unusedVariables false
namespace Go.Proofs
open Go.Jk
/-- slices.Insert where there is room. -/
theorem ins_shift (g n c i vb m vc : Nat) (cur vcur : Array Value) (te ve : TypeId) (w : World) (hi : i < n) (hm : 0 < m) (hroom : n + m ≤ c) (hc63 : c ≤ 9223372036854775807) (hne : vb ≠ g)
    (hg : w.heap[g]? = some (.cells cur te (0, 0))) (hv : w.heap[vb]? = some (.cells vcur ve (0, 0))) (hcs : cur.size = c * 4) (hvs : m * 4 ≤ vcur.size)
    (h1c : ∀ v ∈ cur.toList.take (n * 4), v.oneCell' = true) (h1v : ∀ v ∈ vcur.toList.take (m * 4), v.oneCell' = true) :
    Calls Tryz.prog 102 #[.slice (some ⟨g, 0, none⟩) n c, .int .i64 i, .slice (some ⟨vb, 0, none⟩) m vc] w fun e w' =>
      e = .returned (.slice (some ⟨g, 0, none⟩) (n + m) c) ∧ w' = w.drew.setRow g (splice (splice cur.toList ((i + m) * 4) ((cur.toList.take (n * 4)).drop (i * 4))) (i * 4) (vcur.toList.take (m * 4))).toArray := by
  have t33 : Tryz.prog.underlying 33 = some (.slice 74) := by kernel_rfl
  have hsz : (Tryz.prog.info? 74).map (·.size) = some 4 := by kernel_rfl
  have hz1 : ¬ ((m : Int) = 0) := by omega
  have hz2 : ¬ ((i : Int) = (n : Int)) := by omega
  have hov : ∀ off lb cb, (callFunc 127 #[.slice (some ⟨vb, 0, none⟩) m vc, .slice (some ⟨g, off, none⟩) lb cb]).run Tryz.prog w = .ok (.value (.bool false)) w := fun off lb cb => by
    rw [run_callFunc_extern Tryz.func127 (by kernel_rfl) (by kernel_rfl) (by kernel_rfl) (e := Extern.SlicesOverlaps.overlaps #[33, 33] #[4]) (by kernel_rfl),
      Lib.run_overlaps_apart w 33 4 74 t33 4 (fun w => by kernel_rfl) ⟨vb, 0, none⟩ ⟨g, off, none⟩ m vc lb cb hne ve te vcur.size cur.size (by simp [World.shape?, hv]) (by simp [World.shape?, hg]) (by omega) (by simp [World.frozen?, hv]) (by simp [World.frozen?, hv])]
    rfl
  have hdl : ((cur.toList.take (n * 4)).drop (i * 4)).length = (n - i) * 4 := by simp only [List.length_drop, List.length_take, Array.length_toList, hcs]; rw [Nat.min_eq_left (by omega), Nat.sub_mul]
  have hcl : ∀ j v, (cur.toList.take (n * 4))[j]? = some v → w.cell? ⟨g, j, none⟩ = some v := fun j v h => by
    rw [List.getElem?_take] at h
    split at h
    · simpa [World.cell?, hg] using h
    · cases h
  have hcv : ∀ j v, (vcur.toList.take (m * 4))[j]? = some v → w.cell? ⟨vb, j, none⟩ = some v := fun j v h => by
    rw [List.getElem?_take] at h
    split at h
    · simpa [World.cell?, hv] using h
    · cases h
  have hcp1 : ∀ ty dc sc, (Builtin.copy_ #[33, 33] ty #[.slice (some ⟨g, (i + m) * 4, none⟩) (n + m - (i + m)) dc, .slice (some ⟨g, i * 4, none⟩) (n + m - i) sc]).run Tryz.prog w.drew =
      .ok (goInt (Nat.min (n + m - i) (n + m - (i + m)))) (w.drew.setRow g (splice cur.toList ((i + m) * 4) ((cur.toList.take (n * 4)).drop (i * 4))).toArray) := fun ty dc sc =>
    run_copy_k w.drew _ _ ty 74 4 g ((i + m) * 4) (n + m - (i + m)) dc ⟨g, i * 4, none⟩ (n + m - i) sc cur te _ t33 hsz hg (by rw [hdl]; simp only [Nat.min_def]; split <;> omega)
      (fun j v hj => by rw [Addr.add_lit]; exact hcl (i * 4 + j) v (by rwa [List.getElem?_drop] at hj)) (by rw [hdl, hcs]; omega) (fun v hv => h1c v (List.mem_of_mem_drop hv))
  obtain ⟨cur1, hcur1⟩ : ∃ cur1, cur1 = (splice cur.toList ((i + m) * 4) ((cur.toList.take (n * 4)).drop (i * 4))).toArray := ⟨_, rfl⟩
  rw [← hcur1] at hcp1
  have hc1s : cur1.size = c * 4 := by rw [hcur1]; simp only [splice, List.size_toArray, List.length_append, List.length_drop, List.length_take, Array.length_toList, hcs]; omega
  have hcp2 : ∀ (W : World), W.heap = (w.drew.setRow g cur1).heap → ∀ ty dc, (Builtin.copy_ #[33, 33] ty #[.slice (some ⟨g, i * 4, none⟩) (n + m - i) dc, .slice (some ⟨vb, 0, none⟩) m vc]).run Tryz.prog W =
      .ok (goInt (Nat.min m (n + m - i))) (W.setRow g (splice cur1.toList (i * 4) (vcur.toList.take (m * 4))).toArray) := fun W hW ty dc =>
    run_copy_k W _ _ ty 74 4 g (i * 4) (n + m - i) dc ⟨vb, 0, none⟩ m vc cur1 te _ t33 hsz (by rw [hW]; exact setRow_heap w.drew g cur cur1 te (0, 0) hg)
      (by simp only [List.length_take, Array.length_toList, Nat.min_def]; split <;> split <;> omega)
      (fun j v hj => by
        have := hcv j v hj
        rw [Addr.add_lit, Nat.zero_add]
        unfold World.cell? at this ⊢
        rw [hW, show (w.drew.setRow g cur1).heap[vb]? = w.heap[vb]? from setRow_other w.drew g vb cur1 hne]; exact this) (by simp only [List.length_take, Array.length_toList]; omega) h1v
  have hE : w.drew.setRow g (splice (splice cur.toList ((i + m) * 4) ((cur.toList.take (n * 4)).drop (i * 4))) (i * 4) (vcur.toList.take (m * 4))).toArray = (w.drew.setRow g cur1).setRow g (splice cur1.toList (i * 4) (vcur.toList.take (m * 4))).toArray := by
    rw [setRow_setRow, hcur1]
  rw [hE]
  clear hE hcur1
  have hw1 : IntKind.i64.wrap ((i : Int) + (m : Int)) = (i : Int) + (m : Int) := by rw [IntKind.wrap_i64]; omega
  have hb1 : (0 : Int) ≤ (i : Int) + (m : Int) := by omega
  have hin : i ≤ n := by omega
  have htn : ((i : Int) + (m : Int)).toNat = i + m := by omega
  have hb2 : ¬ (c = i + m) := by omega
  have hb3 : (i : Int) ≤ (n : Int) + (m : Int) := by omega
  have hb4 : ¬ (c = i) := by omega
  go_enter Tryz.func102, Tryz.ntmps102
  go_wp2_with (simp only [hov])
  go_region_law (refine step_copy_k rfl _ _ 33 33 rfl (.slice (some ⟨g, (i + m) * 4, none⟩) (n + m - (i + m)) (c - (i + m))) (.slice (some ⟨g, i * 4, none⟩) (n + m - i) (c - i)) (by simp [Act.eval, Act.put]) (by simp [Act.eval, Act.put]) (hcp1 _ _ _) ?_)
  go_wp2_with (at_builtin; refine wpList_copy_k _ rfl _ _ 33 33 rfl _ _ rfl rfl (hcp2 _ rfl _ _) ?_)
  go_ret
  exact ⟨rfl, rfl⟩
/-- slices.Insert of nothing. -/
theorem ins_none0 (xa : Option Addr) (vc : Nat) (w : World) :
    Calls Tryz.prog 102 #[.slice none 0 0, .int .i64 0, .slice xa 0 vc] w fun e w' => e = .returned (.slice none 0 0) ∧ w' = w := by
  go_enter Tryz.func102, Tryz.ntmps102
  go_wp2
  go_ret
  exact ⟨rfl, rfl⟩
theorem ins_none1 (g n c i : Nat) (xa : Option Addr) (vc : Nat) (w : World) (hi : i ≤ n) (hnc : n ≤ c) (hc63 : c ≤ 9223372036854775807) :
    Calls Tryz.prog 102 #[.slice (some ⟨g, 0, none⟩) n c, .int .i64 i, .slice xa 0 vc] w fun e w' => e = .returned (.slice (some ⟨g, 0, none⟩) n c) ∧ w' = w := by
  go_enter Tryz.func102, Tryz.ntmps102
  go_wp2
  all_goals (go_ret; exact ⟨rfl, rfl⟩)
/-- slices.Insert at the end. -/
theorem ins_end0 (xa : Option Addr) (m vc : Nat) (w : World) (hm : 0 < m) (v' : Value) (W : World) (hr : ∀ ty, (Builtin.append_ #[33, 33] ty #[.slice none 0 0, .slice xa m vc]).run Tryz.prog w = .ok v' W) :
    Calls Tryz.prog 102 #[.slice none 0 0, .int .i64 0, .slice xa m vc] w fun e w' => e = .returned v' ∧ w' = W := by
  have hz1 : ¬ ((m : Int) = 0) := by omega
  go_enter Tryz.func102, Tryz.ntmps102
  go_wp2_with (at_builtin; refine wpList_append_k _ rfl _ _ 33 33 rfl _ _ rfl rfl (hr _) ?_)
  go_ret
  exact ⟨rfl, rfl⟩
theorem ins_end1 (g n c : Nat) (xa : Option Addr) (m vc : Nat) (w : World) (hnc : n ≤ c) (hc63 : c ≤ 9223372036854775807) (hm : 0 < m) (v' : Value) (W : World) (hr : ∀ ty, (Builtin.append_ #[33, 33] ty #[.slice (some ⟨g, 0, none⟩) n c, .slice xa m vc]).run Tryz.prog w = .ok v' W) :
    Calls Tryz.prog 102 #[.slice (some ⟨g, 0, none⟩) n c, .int .i64 n, .slice xa m vc] w fun e w' => e = .returned v' ∧ w' = W := by
  have hz1 : ¬ ((m : Int) = 0) := by omega
  go_enter Tryz.func102, Tryz.ntmps102
  go_wp2_with (at_builtin; refine wpList_append_k _ rfl _ _ 33 33 rfl _ _ rfl rfl (hr _) ?_)
  all_goals (go_ret; exact ⟨rfl, rfl⟩)
/-- slices.Insert where there is no room: a new row. -/
theorem ins_grow (g n c i vb m vc : Nat) (cur vcur : Array Value) (te ve : TypeId) (w : World) (hi : i < n) (hm : 0 < m) (hnc : n ≤ c) (hroom : c < n + m) (hc63 : c ≤ 9223372036854775807) (hbig : (n + m) * 48 ≤ 140737488355328)
    (hg : w.heap[g]? = some (.cells cur te (0, 0))) (hv : w.heap[vb]? = some (.cells vcur ve (0, 0))) (hcs : cur.size = c * 4) (hvs : m * 4 ≤ vcur.size)
    (h1c : ∀ v ∈ cur.toList.take (n * 4), v.oneCell' = true) (h1v : ∀ v ∈ vcur.toList.take (m * 4), v.oneCell' = true) :
    ∃ G ROW, ∃ W : World, G ≤ maxLen ∧ n + m ≤ G ∧ ROW.size = G * 4 ∧ ROW.toList.take (i * 4) = cur.toList.take (i * 4) ∧ W.os = w.os ∧ W.tape = w.tape ∧ W.output = w.output ∧ W.heap = w.heap.push (.cells ROW 74 (0, 0)) ∧
    Calls Tryz.prog 102 #[.slice (some ⟨g, 0, none⟩) n c, .int .i64 i, .slice (some ⟨vb, 0, none⟩) m vc] w fun e w' =>
      e = .returned (.slice (some ⟨w.heap.size, 0, none⟩) (n + m) G) ∧ w'.os = w.os ∧ w'.tape = w.tape ∧ w'.output = w.output ∧
        w'.heap = (W.setRow w.heap.size (splice (splice ROW.toList (i * 4) (vcur.toList.take (m * 4))) ((i + m) * 4) ((cur.toList.take (n * 4)).drop (i * 4))).toArray).heap := by
  have t33 : Tryz.prog.underlying 33 = some (.slice 74) := by kernel_rfl
  have t3 : Tryz.prog.underlying 3 = some (.int .i64) := by kernel_rfl
  have hsz : (Tryz.prog.info? 74).map (·.size) = some 4 := by kernel_rfl
  have hinfo : (Tryz.prog.info? 74).map (fun i => (i.zero.map (·.cells.size), i.size, i.bytes)) = some (some 4, 4, 48) := by kernel_rfl
  obtain ⟨i0, hi0, hzz⟩ := Option.map_eq_some_iff.1 hinfo
  simp only [Prod.mk.injEq] at hzz
  obtain ⟨hz0, hzs, hzb⟩ := hzz
  obtain ⟨z, hz, hzc⟩ := Option.map_eq_some_iff.1 hz0
  have hz1 : ¬ ((m : Int) = 0) := by omega
  have hz2 : ¬ ((i : Int) = (n : Int)) := by omega
  have hz3 : (c : Int) < (n : Int) + (m : Int) := by omega
  have hgw : g < w.heap.size := (Array.getElem?_eq_some_iff.1 hg).1
  have hvw : vb < w.heap.size := (Array.getElem?_eq_some_iff.1 hv).1
  have hkk : (n : Int) + (m : Int) - (i : Int) = ((n + m - i : Nat) : Int) := by omega
  have hik : i + (n + m - i) = n + m := by omega
  have hdl : ((cur.toList.take (n * 4)).drop (i * 4)).length = (n - i) * 4 := by simp only [List.length_drop, List.length_take, Array.length_toList, hcs]; rw [Nat.min_eq_left (by omega), Nat.sub_mul]
  have hcl : ∀ j v, (cur.toList.take (n * 4))[j]? = some v → w.cell? ⟨g, j, none⟩ = some v := fun j v h => by
    rw [List.getElem?_take] at h
    split at h
    · simpa [World.cell?, hg] using h
    · cases h
  have hcv : ∀ j v, (vcur.toList.take (m * 4))[j]? = some v → w.cell? ⟨vb, j, none⟩ = some v := fun j v h => by
    rw [List.getElem?_take] at h
    split at h
    · simpa [World.cell?, hv] using h
    · cases h
  have hold : (Builtin.firstCells i0.size i (.slice (some ⟨g, 0, none⟩) i c)).run Tryz.prog w.drew = .ok (cur.toList.take (i * 4)).toArray w.drew := by
    rw [hzs]
    exact run_firstCells_some w.drew 4 i ⟨g, 0, none⟩ i c (cur.toList.take (i * 4)) (by simp only [List.length_take, Array.length_toList, hcs]; omega) (fun j v hj => by
      rw [Addr.add_lit, Nat.zero_add]
      refine hcl j v ?_
      rw [List.getElem?_take] at hj ⊢
      split at hj
      · rw [if_pos (by omega)]; exact hj
      · cases hj)
  have hrz : ∀ ty, (Builtin.append_ #[33, 3] ty #[.slice (some ⟨g, 0, none⟩) i c, .int .i64 ((n : Int) + (m : Int) - (i : Int))]).run Tryz.prog w =
      .ok (.slice (some ⟨w.heap.size, 0, none⟩) (n + m) (grownCap w (n + m) c 74)) (w.drew.alloc (.cells ((cur.toList.take (i * 4)).toArray ++ Builtin.zeroCells z.cells (n + m - i) ++ Builtin.zeroCells z.cells (grownCap w (n + m) c 74 - (n + m))) 74)) := fun ty => by
    have h := Lib.run_append_grow_zeros w 33 3 ty 74 i0 z .i64 .i64 t33 t3 hi0 hz (some ⟨g, 0, none⟩) i c (cur.toList.take (i * 4)) hold (n + m - i) (by omega) (by omega) (by omega) (by omega) (by rw [hzb]; omega) (by rw [hzb, hik]; exact growslice_fits hroom hbig)
    rw [hik] at h
    rw [hkk]
    exact h
  obtain ⟨G, hG⟩ : ∃ G, G = grownCap w (n + m) c 74 := ⟨_, rfl⟩
  obtain ⟨ROW, hROW⟩ : ∃ ROW : Array Value, ROW = (cur.toList.take (i * 4)).toArray ++ Builtin.zeroCells z.cells (n + m - i) ++ Builtin.zeroCells z.cells (G - (n + m)) := ⟨_, rfl⟩
  rw [← hG] at hrz
  rw [← hROW] at hrz
  have hGn : n + m ≤ G := by rw [hG]; exact grownCap_ge w _ _ _
  have hGm : G ≤ maxLen := by rw [hG]; exact grownCap_le_maxLen w (n + m) c 74 (by unfold maxLen; omega)
  have hG63 : G ≤ 9223372036854775807 := by unfold maxLen at hGm; omega
  have hRl : ROW.size = G * 4 := by
    rw [hROW]
    simp only [Array.size_append, List.size_toArray, size_zeroCells, hzc, List.length_take, Array.length_toList, hcs]
    omega
  have hRt : ROW.toList.take (i * 4) = cur.toList.take (i * 4) := by
    rw [hROW]
    simp only [Array.toList_append, List.append_assoc]
    have : i * 4 = (cur.toList.take (i * 4)).length := by simp only [List.length_take, Array.length_toList, hcs]; omega
    exact List.take_left' this.symm
  refine ⟨G, ROW, w.drew.alloc (.cells ROW 74), hGm, hGn, hRl, hRt, rfl, rfl, rfl, rfl, ?_⟩
  obtain ⟨W1, hW1⟩ : ∃ W1, W1 = w.drew.alloc (.cells ROW 74) := ⟨_, rfl⟩
  rw [← hW1] at hrz ⊢
  have hNew : W1.heap[w.heap.size]? = some (.cells ROW 74 (0, 0)) := by rw [hW1]; exact heap_alloc_new w.drew _
  have hOld : ∀ b, b < w.heap.size → W1.heap[b]? = w.heap[b]? := fun b hb => by rw [hW1]; exact RowKit.Below.heap_alloc w.drew _ b hb
  have hos : W1.os = w.os ∧ W1.tape = w.tape ∧ W1.output = w.output := by rw [hW1]; exact ⟨rfl, rfl, rfl⟩
  have hgN : g ≠ w.heap.size := by omega
  have hvN : vb ≠ w.heap.size := by omega
  have hcpA : ∀ (W : World), W.heap = W1.heap → ∀ ty dc, (Builtin.copy_ #[33, 33] ty #[.slice (some ⟨w.heap.size, i * 4, none⟩) (n + m - i) dc, .slice (some ⟨vb, 0, none⟩) m vc]).run Tryz.prog W =
      .ok (goInt (Nat.min m (n + m - i))) (W.setRow w.heap.size (splice ROW.toList (i * 4) (vcur.toList.take (m * 4))).toArray) := fun W hW ty dc =>
    run_copy_k W _ _ ty 74 4 w.heap.size (i * 4) (n + m - i) dc ⟨vb, 0, none⟩ m vc ROW 74 _ t33 hsz (by rw [hW]; exact hNew)
      (by simp only [List.length_take, Array.length_toList, Nat.min_def]; split <;> split <;> omega)
      (fun j v hj => by
        have := hcv j v hj
        rw [Addr.add_lit, Nat.zero_add]
        unfold World.cell? at this ⊢
        rw [hW, show W1.heap[vb]? = w.heap[vb]? from hOld vb hvw]; exact this) (by simp only [List.length_take, Array.length_toList]; omega) h1v
  obtain ⟨R2, hR2⟩ : ∃ R2, R2 = (splice ROW.toList (i * 4) (vcur.toList.take (m * 4))).toArray := ⟨_, rfl⟩
  have hE : W1.setRow w.heap.size (splice (splice ROW.toList (i * 4) (vcur.toList.take (m * 4))) ((i + m) * 4) ((cur.toList.take (n * 4)).drop (i * 4))).toArray =
      (W1.setRow w.heap.size R2).setRow w.heap.size (splice R2.toList ((i + m) * 4) ((cur.toList.take (n * 4)).drop (i * 4))).toArray := by rw [setRow_setRow, hR2]
  rw [hE]
  have hR2s : R2.size = G * 4 := by rw [hR2]; simp only [splice, List.size_toArray, List.length_append, List.length_drop, List.length_take, Array.length_toList, hRl]; omega
  rw [← hR2] at hcpA
  clear hE hR2
  have hcpB : ∀ (W : World), W.heap = (W1.setRow w.heap.size R2).heap → ∀ ty dc sc, (Builtin.copy_ #[33, 33] ty #[.slice (some ⟨w.heap.size, (i + m) * 4, none⟩) (n + m - (i + m)) dc, .slice (some ⟨g, i * 4, none⟩) (n - i) sc]).run Tryz.prog W =
      .ok (goInt (Nat.min (n - i) (n + m - (i + m)))) (W.setRow w.heap.size (splice R2.toList ((i + m) * 4) ((cur.toList.take (n * 4)).drop (i * 4))).toArray) := fun W hW ty dc sc =>
    run_copy_k W _ _ ty 74 4 w.heap.size ((i + m) * 4) (n + m - (i + m)) dc ⟨g, i * 4, none⟩ (n - i) sc R2 74 _ t33 hsz (by rw [hW]; exact setRow_heap W1 w.heap.size ROW R2 74 (0, 0) hNew)
      (by rw [hdl]; simp only [Nat.min_def]; split <;> omega)
      (fun j v hj => by
        have := hcl (i * 4 + j) v (by rwa [List.getElem?_drop] at hj)
        rw [Addr.add_lit]
        unfold World.cell? at this ⊢
        rw [hW, show (W1.setRow w.heap.size R2).heap[g]? = w.heap[g]? from (setRow_other W1 w.heap.size g R2 hgN).trans (hOld g hgw)]; exact this) (by rw [hdl, hR2s]; omega) (fun v hv => h1c v (List.mem_of_mem_drop hv))
  have hGi : ¬ (G = i) := by omega
  have hGim : ¬ (G = i + m) := by omega
  have hci : ¬ (c = i) := by omega
  have hw1 : IntKind.i64.wrap ((i : Int) + (m : Int)) = (i : Int) + (m : Int) := by rw [IntKind.wrap_i64]; omega
  have hb1 : (0 : Int) ≤ (i : Int) + (m : Int) := by omega
  have hin : i ≤ n := by omega
  have htn : ((i : Int) + (m : Int)).toNat = i + m := by omega
  have hb3 : (i : Int) ≤ (n : Int) := by omega
  clear hkk hik hold hROW hG hRl hW1
  go_enter Tryz.func102, Tryz.ntmps102
  go_wp2_with (first
    | (at_builtin; refine wpList_append_k _ rfl _ _ 33 3 rfl _ _ rfl rfl (hrz _) ?_)
    | (at_builtin; refine wpList_copy_k _ rfl _ _ 33 33 rfl _ _ rfl rfl (hcpA _ rfl _ _) ?_))
  go_region_law (refine step_copy_k rfl _ _ 33 33 rfl (.slice (some ⟨w.heap.size, (i + m) * 4, none⟩) (n + m - (i + m)) (G - (i + m))) (.slice (some ⟨g, i * 4, none⟩) (n - i) (c - i)) (by simp [Act.eval, Act.put]) (by simp [Act.eval, Act.put]) (hcpB (W1.setRow w.heap.size R2).drew rfl 3 (G - (i + m)) (c - i)) ?_)
  go_wp2
  go_ret
  exact ⟨rfl, hos.1, hos.2.1, hos.2.2, rfl⟩
noncomputable def SH102 : Summ := insSumm
theorem zH102 (h : ∀ T, (tt T).ok Tryz.prog T) : SummOk Tryz.prog 102 SH102 := insert_ok (T := 33) (e := 74) ⟨ins_none0, ins_none1, ins_end0, ins_end1, ins_shift, ins_grow⟩ (fun vs w => enters_of Tryz.func102 (by kernel_rfl) rfl _ _) (by kernel_rfl) (by kernel_rfl)
end Go.Proofs

set_option maxRecDepth 100000
set_option linter.unusedVariables false
namespace Go.Proofs
open Go.Jk
-- 70 loop.example/jackstay/impl.TreeJoin
noncomputable def c70 : Ctx := { tt := tt, fs := fun n => match n with | 67 => some S67 | 68 => some S68 | 101 => some S101 | 102 => some SH102 | _ => none, gv := fun n => match n with | 102 => true | _ => false }
theorem k70 (h : ∀ T, (tt T).ok Tryz.prog T) (h67 : SummOk Tryz.prog 67 S67) (h68 : SummOk Tryz.prog 68 S68) (h101 : SummOk Tryz.prog 101 S101) (hH102 : SummOk Tryz.prog 102 SH102) : CtxGood Tryz.prog c70 := ⟨⟨h⟩, fun g S hg => (by
  simp only [c70] at hg
  split at hg
  · cases hg; exact h67
  · cases hg; exact h68
  · cases hg; exact h101
  · cases hg; exact hH102
  · cases hg), tt_mo, fun _ _ h => (by cases h)⟩
noncomputable def b70 : Code := codeOf Tryz.f70
@[reducible] noncomputable def s70_12 : Shape := ⟨[(0, .lf (.d (.sl .entry))), (1, .lf (.d (.sl .entry)))], [], 59⟩
@[reducible] noncomputable def t70_12 : List OSh := [(.norm, ⟨[(0, .lf (.d (.sl .entry))), (1, .lf (.d (.sl .entry))), (18, .lf (.d (.bool)))], [], 59⟩)]
noncomputable def g70_12 (y : s70_12.Y) : Option (YS t70_12) :=
(f67 ((y.1.1, ()), ())).bind fun r1177 =>
  bif (!(!r1177.1.1)) then
(f67 ((y.1.2.1, ()), ())).bind fun r1178 =>
  some (((y.1.1, (y.1.2.1, ((!r1178.1.1), ()))), ()))
else
  some (((y.1.1, (y.1.2.1, (true, ()))), ()))
theorem r70_12 : ∀ y, g70_12 y = pieceF (ctxWith c70 []) (codeAt b70 1 12) 12 s70_12 t70_12 y := fun y => by kernel_rfl
theorem q70_12 (H : CtxGood Tryz.prog c70) : FragOk Tryz.prog (codeAt b70 1 12) (fragOrc s70_12 t70_12 g70_12) :=
  piece_at (fr := []) H (by kernel_rfl) frags_nil r70_12
@[reducible] noncomputable def s70_250678 : Shape := ⟨[(6, .lf (.own 3000384)), (8, .lf (.ptr 8 0)), (9, .lf (.d (.int .i64))), (21, .lf (.d (.sl .entry))), (22, .lf (.d (.int .i64))), (23, .lf (.d (.int .i64)))], [(3000384, .row .entry, .slot 6 0), (8, .box [.d (.str), .d (.int .i64), .d (.int .i64), .d (.str)], .same)], 59⟩
@[reducible] noncomputable def t70_250678 : List OSh := [(.norm, ⟨[(6, .lf (.own 3000384)), (21, .lf (.d (.sl .entry))), (22, .lf (.d (.int .i64))), (23, .lf (.d (.int .i64))), (42, .lf (.d (.bool))), (43, .lf (.ptr 8 1)), (44, .lf (.d (.int .i64))), (45, .lf (.d (.bool))), (46, .lf (.d (.bool))), (53, .lf (.d (.bool)))], [(3000384, .row .entry, .slot 6 0), (8, .box [.d (.str), .d (.int .i64), .d (.int .i64), .d (.str)], .same)], 59⟩)]
noncomputable def g70_250678 (y : s70_250678.Y) : Option (YS t70_250678) :=
  bif (y.2.2.1.2.1 != (1 : Int)) then
  some ((((), (y.1.2.2.2.1, (y.1.2.2.2.2.1, (y.1.2.2.2.2.2.1, (true, ((), (y.2.2.1.2.1, ((y.2.2.1.2.1 != (1 : Int)), (true, (true, ())))))))))), (y.2.1, ((y.2.2.1.1, (y.2.2.1.2.1, (y.2.2.1.2.2.1, (y.2.2.1.2.2.2.1, ())))), ()))))
else
(inb y.2.1.length y.1.2.2.1).bind fun x1203 =>
(y.2.1[x1203]?).bind fun x1204 =>
  some ((((), (y.1.2.2.2.1, (y.1.2.2.2.2.1, (y.1.2.2.2.2.2.1, ((!((x1204.path == y.2.2.1.1) && ((x1204.kind == y.2.2.1.2.1) && ((x1204.mode == y.2.2.1.2.2.1) && (x1204.text == y.2.2.1.2.2.2.1))))), ((), (y.2.2.1.2.1, ((y.2.2.1.2.1 != (1 : Int)), (false, ((!((x1204.path == y.2.2.1.1) && ((x1204.kind == y.2.2.1.2.1) && ((x1204.mode == y.2.2.1.2.2.1) && (x1204.text == y.2.2.1.2.2.2.1))))), ())))))))))), (y.2.1, ((y.2.2.1.1, (y.2.2.1.2.1, (y.2.2.1.2.2.1, (y.2.2.1.2.2.2.1, ())))), ()))))
theorem r70_250678 : ∀ y, g70_250678 y = pieceF (ctxWith c70 []) (codeAt (unloop (codeAt b70 1 122)) 244 250678) 250678 s70_250678 t70_250678 y := fun y => by kernel_rfl
theorem q70_250678 (H : CtxGood Tryz.prog c70) : FragOk Tryz.prog (codeAt (unloop (codeAt b70 1 122)) 244 250678) (fragOrc s70_250678 t70_250678 g70_250678) :=
  piece_at (fr := []) H (by kernel_rfl) frags_nil r70_250678
@[reducible] noncomputable def s70_122 : Shape := ⟨[(6, .lf (.own 3000384)), (21, .lf (.d (.sl .entry))), (22, .lf (.d (.int .i64))), (23, .lf (.d (.int .i64)))], [(3000384, .row .entry, .slot 6 0)], 59⟩
@[reducible] noncomputable def t70_122 : List OSh := [(.ret, ⟨[(4, .lf (.own 3000256)), (5, .lf (.d (.bool)))], [(3000256, .row .entry, .slot 4 0)], 59⟩), (.exit 0, ⟨[(6, .lf (.own 3000384))], [(3000384, .row .entry, .slot 6 0)], 59⟩)]
noncomputable def g70_122 (y : s70_122.Y) : Option (Sum s70_122.Y (YS t70_122)) :=
  bif (decide (y.1.2.2.2.1 < y.1.2.2.1)) then
(ix y.1.2.1 y.1.2.2.2.1).bind fun x1207 =>
(f68 ((y.2.1, (x1207.path, ())), ())).bind fun r1209 =>
  bif (!r1209.1.2.1) then
(insL y.2.1 r1209.1.1 ([x1207] : List Entry)).bind fun r1210 =>
  some (.inl (((), (y.1.2.1, (y.1.2.2.1, ((IntKind.i64.wrap (y.1.2.2.2.1 + (1 : Int))), ())))), (r1210, ())))
else
(g70_250678 (((), ((), (r1209.1.1, (y.1.2.1, (y.1.2.2.1, (y.1.2.2.2.1, ())))))), (y.2.1, ((x1207.path, (x1207.kind, (x1207.mode, (x1207.text, ())))), ())))).bind fun r1211 =>
  bif r1211.1.2.2.2.2.1 then
  some (.inr (.inl (((), (false, ())), (([] : List Entry), ()))))
else
  some (.inl (((), (r1211.1.2.1, (r1211.1.2.2.1, ((IntKind.i64.wrap (r1211.1.2.2.2.1 + (1 : Int))), ())))), (r1211.2.1, ())))
else
  some (.inr (.inr (((), ()), (y.2.1, ()))))
theorem r70_122 : ∀ y, g70_122 y = roundF (ctxWith c70 [(250678, fragOrc s70_250678 t70_250678 g70_250678)]) (unloop (codeAt b70 1 122)) 122 s70_122 t70_122 y := fun y => by kernel_rfl
noncomputable def l70_122 : s70_122.Y → Option (YS t70_122) := loopF g70_122
theorem q70_122 (H : CtxGood Tryz.prog c70) : FragOk Tryz.prog (codeAt b70 1 122) (fragOrc s70_122 t70_122 l70_122) :=
  loop_at (fr := [(250678, fragOrc s70_250678 t70_250678 g70_250678)]) H (by kernel_rfl) (by kernel_rfl) ⟨q70_250678 H, trivial⟩ (fun y => iter_congr r70_122 y)
@[reducible] noncomputable def i70 : Shape := ⟨[(0, .lf (.d (.sl .entry))), (1, .lf (.d (.sl .entry)))], [], 59⟩
@[reducible] noncomputable def o70 : Shape := ⟨[(4, .lf (.own 3000256)), (5, .lf (.d (.bool)))], [(3000256, .row .entry, .slot 4 0)], 59⟩
noncomputable def f70 (a : i70.Y) : Option o70.Y :=
(g70_12 ((a.1.1, (a.1.2.1, ())), ())).bind fun r1186 =>
  bif r1186.1.2.2.1 then
  some (((), (false, ())), (([] : List Entry), ()))
else
(f101 ((r1186.1.1, ()), ())).bind fun r1188 =>
(l70_122 (((), (r1186.1.2.1, ((r1186.1.2.1.length : Int), ((0 : Int), ())))), (r1188.2.1, ()))).bind fun r1215 =>
(match r1215 with
| .inl r1216 =>
  some (((), (r1216.1.2.1, ())), (r1216.2.1, ()))
| .inr r1217 =>
(f67 ((r1217.2.1, ()), ())).bind fun r1221 =>
  bif (!r1221.1.1) then
  some (((), (false, ())), (([] : List Entry), ()))
else
  some (((), (true, ())), (r1217.2.1, ())))
theorem e70 : ∀ a, f70 a = bodyF (ctxWith c70 [(12, fragOrc s70_12 t70_12 g70_12), (122, fragOrc s70_122 t70_122 l70_122)]) b70 i70 o70 a := fun a => by kernel_rfl
noncomputable def S70 : Summ := funSumm tt 59 i70 o70 [.tmp 4, .tmp 5] f70
theorem z70 (h : ∀ T, (tt T).ok Tryz.prog T) (h67 : SummOk Tryz.prog 67 S67) (h68 : SummOk Tryz.prog 68 S68) (h101 : SummOk Tryz.prog 101 S101) (hH102 : SummOk Tryz.prog 102 SH102) : SummOk Tryz.prog 70 S70 :=
  have H := k70 h h67 h68 h101 hH102
  fun_at (fn := Tryz.f70) (fr := [(12, fragOrc s70_12 t70_12 g70_12), (122, fragOrc s70_122 t70_122 l70_122)]) H (by kernel_rfl) (by kernel_rfl) (by kernel_rfl) (by kernel_rfl) (by kernel_rfl) ⟨q70_12 H, q70_122 H, trivial⟩ (fun y => ⟨_, rfl, rfl⟩) e70
end Go.Proofs

set_option maxRecDepth 100000
set_option linter.unusedVariables false
namespace Go.Proofs
open Go.Jk
-- 43 loop.example/jackstay/impl.joinTrees
noncomputable def c43 : Ctx := { tt := tt, fs := fun n => match n with | 70 => some S70 | _ => none }
theorem k43 (h : ∀ T, (tt T).ok Tryz.prog T) (h70 : SummOk Tryz.prog 70 S70) : CtxGood Tryz.prog c43 := ⟨⟨h⟩, fun g S hg => (by
  simp only [c43] at hg
  split at hg
  · cases hg; exact h70
  · cases hg), tt_mo, fun _ _ h => (by cases h)⟩
noncomputable def b43 : Code := codeOf Tryz.f43
@[reducible] noncomputable def s43_58 : Shape := ⟨[(4, .lf (.own 3000256)), (9, .lf (.d (.sl .pack))), (10, .lf (.d (.int .i64))), (11, .lf (.d (.int .i64)))], [(3000256, .row .entry, .slot 4 0)], 27⟩
@[reducible] noncomputable def t43_58 : List OSh := [(.ret, ⟨[(2, .lf (.own 3000128)), (3, .lf (.d (.bool)))], [(3000128, .row .entry, .slot 2 0)], 27⟩), (.exit 0, ⟨[(4, .lf (.own 3000256))], [(3000256, .row .entry, .slot 4 0)], 27⟩)]
noncomputable def g43_58 (y : s43_58.Y) : Option (Sum s43_58.Y (YS t43_58)) :=
  bif (decide (y.1.2.2.2.1 < y.1.2.2.1)) then
(ix y.1.2.1 y.1.2.2.2.1).bind fun x1225 =>
(f70 ((y.2.1, (x1225.tree, ())), ())).bind fun r1227 =>
  bif (!r1227.1.2.1) then
  some (.inr (.inl (((), (false, ())), (([] : List Entry), ()))))
else
  some (.inl (((), (y.1.2.1, (y.1.2.2.1, ((IntKind.i64.wrap (y.1.2.2.2.1 + (1 : Int))), ())))), (r1227.2.1, ())))
else
  some (.inr (.inr (((), ()), (y.2.1, ()))))
theorem r43_58 : ∀ y, g43_58 y = roundF (ctxWith c43 []) (unloop (codeAt b43 1 58)) 58 s43_58 t43_58 y := fun y => by kernel_rfl
noncomputable def l43_58 : s43_58.Y → Option (YS t43_58) := loopF g43_58
theorem q43_58 (H : CtxGood Tryz.prog c43) : FragOk Tryz.prog (codeAt b43 1 58) (fragOrc s43_58 t43_58 l43_58) :=
  loop_at (fr := []) H (by kernel_rfl) (by kernel_rfl) frags_nil (fun y => iter_congr r43_58 y)
@[reducible] noncomputable def i43 : Shape := ⟨[(0, .lf (.d (.sl .pack)))], [], 27⟩
@[reducible] noncomputable def o43 : Shape := ⟨[(2, .lf (.own 3000128)), (3, .lf (.d (.bool)))], [(3000128, .row .entry, .slot 2 0)], 27⟩
noncomputable def f43 (a : i43.Y) : Option o43.Y :=
(l43_58 (((), (a.1.1, ((a.1.1.length : Int), ((0 : Int), ())))), (([] : List Entry), ()))).bind fun r1237 =>
(match r1237 with
| .inl r1238 =>
  some (((), (r1238.1.2.1, ())), (r1238.2.1, ()))
| .inr r1239 =>
  some (((), (true, ())), (r1239.2.1, ())))
theorem e43 : ∀ a, f43 a = bodyF (ctxWith c43 [(58, fragOrc s43_58 t43_58 l43_58)]) b43 i43 o43 a := fun a => by kernel_rfl
noncomputable def S43 : Summ := funSumm tt 27 i43 o43 [.tmp 2, .tmp 3] f43
theorem z43 (h : ∀ T, (tt T).ok Tryz.prog T) (h70 : SummOk Tryz.prog 70 S70) : SummOk Tryz.prog 43 S43 :=
  have H := k43 h h70
  fun_at (fn := Tryz.f43) (fr := [(58, fragOrc s43_58 t43_58 l43_58)]) H (by kernel_rfl) (by kernel_rfl) (by kernel_rfl) (by kernel_rfl) (by kernel_rfl) ⟨q43_58 H, trivial⟩ (fun y => ⟨_, rfl, rfl⟩) e43
end Go.Proofs

set_option maxRecDepth 100000
set_option linter.unusedVariables false
set_option linter.unusedSimpArgs false
namespace Go.Proofs
open Go.Jk

theorem joinL_mem : ∀ (r : List Entry) (out o : List Entry), (∀ e, e ∈ r → BdE e) → (∀ e, e ∈ out → BdE e) → joinL out r = some o → o.length ≤ out.length + r.length ∧ ∀ e, e ∈ o → BdE e := by
  intro r
  induction r with
  | nil => intro out o _ h2 h; cases h; exact ⟨Nat.le_refl _, h2⟩
  | cons e r ih =>
    intro out o h1 h2 h
    rw [joinL_step] at h
    obtain ⟨o1, h3, h4⟩ := Option.bind_eq_some_iff.1 h
    have h5 := ih o1 o (fun x hx => h1 x (List.mem_cons_of_mem _ hx)) (fun x hx => by
      rcases stepJ_mem h3 hx with rfl | h
      · exact h1 x List.mem_cons_self
      · exact h2 x h) h4
    have h6 := stepJ_len h3
    exact ⟨by simp only [List.length_cons]; omega, h5.2⟩

theorem treeOk_asc {t : List Entry} (h : treeOk t = true) : Asc t := by
  unfold treeOk at h
  simp only [Bool.and_eq_true] at h
  exact asc_of h.1.1
theorem treeOk_len {t : List Entry} (h : treeOk t = true) : t.length ≤ 16 := by
  unfold treeOk at h
  simp only [Bool.and_eq_true, decide_eq_true_eq] at h
  exact h.2

theorem v_CloneE (a) (hs : Bd a.1.1.length) : f101 a = some (((), ()), (a.1.1, ())) := by
  obtain ⟨⟨xs, u⟩, u'⟩ := a
  have hs : xs.length ≤ 2097152 := hs
  have h2 : (apd 48 ([] : List Entry) xs).bind (fun x => some (((), ()), (x, ()))) = (some (((), ()), (xs, ())) : Option o101.Y) := by
    rw [apd_sm (by decide) (by unfold Sm; simp only [List.length_nil]; omega)]; rfl
  simp only [f101]
  rw [h2]
  unfold twoRoads
  split
  · rfl
  · rename_i h
    exact absurd (fun he : xs = [] => by subst he; rfl) h

theorem v_TreeJoin (a) (ha : BdEs a.1.1) (hb : BdEs a.1.2.1) (h1 : treeOk a.1.1 = true) (h2 : treeOk a.1.2.1 = true) : f70 a =
    some (match joinL a.1.1 a.1.2.1 with | some out => (bif treeOk out then (((), (true, ())), (out, ())) else (((), (false, ())), (([] : List Entry), ()))) | none => (((), (false, ())), (([] : List Entry), ()))) := by
  obtain ⟨⟨xs, ys, u⟩, u'⟩ := a
  have h1 : treeOk xs = true := h1
  have h2 : treeOk ys = true := h2
  have hx16 := treeOk_len h1
  have hy16 := treeOk_len h2
  have e1 := v_iTreeOk ((xs, ()), ()) ha
  have e2 := v_iTreeOk ((ys, ()), ()) hb
  have e3 := v_CloneE ((xs, ()), ()) (show xs.length ≤ 2097152 by omega)
  have key : l70_122 (((), (ys, ((ys.length : Int), ((0 : Int), ())))), (xs, ())) = _ := loop_inv g70_122 ys (fun i (out : List Entry) => (((), (ys, ((ys.length : Int), ((i : Int), ())))), (out, ())))
    (fun i e out => some (match stepJ out e with | some o => .inl o | none => .inr ((.inl (((), (false, ())), (([] : List Entry), ()))) : YS t70_122))) (fun out => ((.inr (((), ()), (out, ()))) : YS t70_122))
    (fun i out => out.length ≤ xs.length + i ∧ Asc out) xs ⟨Nat.le_refl _, treeOk_asc h1⟩ (fun i x out hx hI => ?_) (fun out _ => ?_)
  · have fold : ∀ (r : List Entry) (k : Nat) (out : List Entry), foldB (fun i e out => some (match stepJ out e with | some o => .inl o | none => .inr ((.inl (((), (false, ())), (([] : List Entry), ()))) : YS t70_122))) (fun out => ((.inr (((), ()), (out, ()))) : YS t70_122)) k r out =
        some (match joinL out r with | some o => .inr (((), ()), (o, ())) | none => .inl (((), (false, ())), (([] : List Entry), ()))) := by
      intro r
      induction r with
      | nil => intro k out; rfl
      | cons e r ih =>
        intro k out
        rw [joinL_step]
        simp only [foldB]
        cases stepJ out e with
        | none => rfl
        | some o => simp only [Option.bind_some]; exact ih _ _
    rw [fold] at key
    simp only [f70, g70_12, e1, e2, h1, h2, e3, Bool.not_true, Bool.not_false, cond_true, cond_false, Option.bind_some, key]
    cases hj : joinL xs ys with
    | none => rfl
    | some o =>
      have hm := joinL_mem ys xs o hb.2 ha.2 hj
      simp only [Option.bind_some]
      rw [v_iTreeOk _ ⟨show o.length ≤ 2097152 by omega, hm.2⟩]
      simp only [Option.bind_some]
      cases treeOk o <;> rfl
  · have hi := get_lt hx
    have hw : Sm i := by unfold Sm; omega
    refine ⟨?_, fun s' h' => ?_⟩
    · have hat := v_findEntry ((out, (x.path, ())), ()) (show out.length ≤ 2097152 by omega) hI.2
      have hpl := posL_le out x.path
      simp only [g70_122, lt_dec hi, cond_true, ix_nat, hx, Option.bind_some, hat, hasAt, stepJ]
      have grow : insL out (posL out x.path : Int) [x] = some (insAt out (posL out x.path) x) := by
        unfold insL
        rw [if_pos ⟨by omega, by omega, by unfold room; simp only [List.length_cons, List.length_nil]; omega, by unfold maxLen; simp only [List.length_cons, List.length_nil]; omega⟩, Int.toNat_natCast]
        rfl
      cases hq : out[posL out x.path]? with
      | none => simp only [Bool.not_false, cond_true, grow, Option.bind_some, wrap_add1 hw]; rfl
      | some q =>
        have hin := inb_nat (get_lt hq)
        simp only
        cases hp : (q.path == x.path) with
        | false => simp only [Bool.not_false, cond_true, grow, Option.bind_some, wrap_add1 hw, cond_false]; rfl
        | true =>
          have hce : ((q.path == x.path) && ((q.kind == x.kind) && ((q.mode == x.mode) && (q.text == x.text)))) = eqE q x := rfl
          simp only [Bool.not_true, cond_false, cond_true, g70_250678, hin, hq, Option.bind_some, conf, eqE_comm x q]
          cases hk : (x.kind != 1) with
          | true => rfl
          | false =>
            have hce2 : (eqE q x) = ((q.path == x.path) && ((q.kind == x.kind) && ((q.mode == x.mode) && (q.text == x.text)))) := rfl
            rw [hce2]
            cases ((q.path == x.path) && ((q.kind == x.kind) && ((q.mode == x.mode) && (q.text == x.text)))) with
            | false => rfl
            | true => simp only [Bool.not_true, Bool.false_or, cond_false, Option.bind_some, wrap_add1 hw]; rfl
    · simp only [Option.some.injEq] at h'
      cases hs : stepJ out x with
      | none => rw [hs] at h'; cases h'
      | some o =>
        rw [hs] at h'
        cases h'
        have h6 := stepJ_len hs
        exact ⟨by omega, stepJ_asc hI.2 hs⟩
  · simp only [g70_122, nlt_dec, cond_false]

/-- All packages' trees in one. -/
def treesL (out : List Entry) : List Pack → Option (List Entry)
  | [] => some out
  | p :: r => match joinL out p.tree with
    | some o => bif treeOk o then treesL o r else none
    | none => none
def stepT (out : List Entry) (p : Pack) : Option (List Entry) := match joinL out p.tree with
  | some o => bif treeOk o then some o else none
  | none => none
theorem treesL_step (out : List Entry) (p : Pack) (r : List Pack) : treesL out (p :: r) = (stepT out p).bind fun o => treesL o r := by
  unfold stepT
  rw [treesL]
  cases joinL out p.tree with
  | none => rfl
  | some o => simp only; cases treeOk o <;> rfl
theorem stepT_ok {out o : List Entry} {p : Pack} (h : stepT out p = some o) : treeOk o = true ∧ joinL out p.tree = some o := by
  unfold stepT at h
  split at h
  · rename_i o' ho
    cases ht : treeOk o' with
    | true => rw [ht] at h; cases h; exact ⟨ht, ho⟩
    | false => rw [ht] at h; cases h
  · cases h

theorem v_l9Tree (a) (hb : BdPs a.1.1) (hk : a.1.1.all pkOk = true) : ∃ out, f42 a = some (((), ((treesL [] a.1.1).isSome, ())), (out, ())) := by
  obtain ⟨⟨ps, u⟩, u'⟩ := a
  have hl : ps.length ≤ 2097152 := hb.1
  have htr : ∀ p, p ∈ ps → treeOk p.tree = true ∧ BdEs p.tree := by
    intro p hp
    have := List.all_eq_true.1 hk p hp
    unfold pkOk at this
    simp only [Bool.and_eq_true] at this
    exact ⟨this.2, (hb.2 p hp).2.2.2⟩
  have key : l42_58 ((ps, ((), ((0 : Int), ()))), (([] : List Entry), ())) = _ := loop_inv g42_58 ps (fun i (out : List Entry) => ((ps, ((), ((i : Int), ()))), (out, ())))
    (fun i p out => some (match stepT out p with | some o => .inl o | none => .inr ((.inl (((), (false, ())), (([] : List Entry), ()))) : YS t42_58))) (fun out => ((.inr (((), ()), (out, ()))) : YS t42_58))
    (fun i out => out.length ≤ 16 ∧ ∀ e, e ∈ out → BdE e) [] ⟨Nat.zero_le _, fun e h => by cases h⟩ (fun i x out hx hI => ?_) (fun out _ => ?_)
  · have fold : ∀ (r : List Pack) (k : Nat) (out : List Entry), foldB (fun i p out => some (match stepT out p with | some o => .inl o | none => .inr ((.inl (((), (false, ())), (([] : List Entry), ()))) : YS t42_58))) (fun out => ((.inr (((), ()), (out, ()))) : YS t42_58)) k r out =
        some (match treesL out r with | some o => .inr (((), ()), (o, ())) | none => .inl (((), (false, ())), (([] : List Entry), ()))) := by
      intro r
      induction r with
      | nil => intro k out; rfl
      | cons p r ih =>
        intro k out
        rw [treesL_step]
        simp only [foldB]
        cases stepT out p with
        | none => rfl
        | some o => simp only [Option.bind_some]; exact ih _ _
    rw [fold] at key
    simp only [f42, key, Option.bind_some]
    cases treesL [] ps with
    | none => exact ⟨_, rfl⟩
    | some o => exact ⟨_, rfl⟩
  · have hi := get_lt hx
    have hw : Sm i := by unfold Sm; omega
    obtain ⟨hto, hbe⟩ := htr x (List.mem_of_getElem? hx)
    have h16 := treeOk_len hto
    have hO : BdEs out := ⟨show out.length ≤ 2097152 by omega, hI.2⟩
    refine ⟨?_, fun s' h' => ?_⟩
    · have hj := v_l2Join ((out, (x.tree, ())), ()) hO hbe (show out.length + x.tree.length ≤ 2097152 by omega)
      simp only [g42_58, lt_dec hi, cond_true, ix_nat, hx, Option.bind_some, hj, stepT]
      cases joinL out x.tree with
      | none => rfl
      | some o =>
        simp only
        cases treeOk o with
        | false => rfl
        | true => simp only [Bool.not_true, cond_false, cond_true, wrap_add1 hw]; rfl
    · simp only [Option.some.injEq] at h'
      cases hs : stepT out x with
      | none => rw [hs] at h'; cases h'
      | some o =>
        rw [hs] at h'
        cases h'
        obtain ⟨h5, h6⟩ := stepT_ok hs
        exact ⟨treeOk_len h5, (joinL_mem _ _ _ hbe.2 hI.2 h6).2⟩
  · simp only [g42_58, nlt_dec, cond_false]

theorem v_joinTrees (a) (hb : BdPs a.1.1) (hk : a.1.1.all pkOk = true) : ∃ out, f43 a = some (((), ((treesL [] a.1.1).isSome, ())), (out, ())) := by
  obtain ⟨⟨ps, u⟩, u'⟩ := a
  have hl : ps.length ≤ 2097152 := hb.1
  have htr : ∀ p, p ∈ ps → treeOk p.tree = true ∧ BdEs p.tree := by
    intro p hp
    have := List.all_eq_true.1 hk p hp
    unfold pkOk at this
    simp only [Bool.and_eq_true] at this
    exact ⟨this.2, (hb.2 p hp).2.2.2⟩
  have key : l43_58 (((), (ps, ((ps.length : Int), ((0 : Int), ())))), (([] : List Entry), ())) = _ := loop_inv g43_58 ps (fun i (out : List Entry) => (((), (ps, ((ps.length : Int), ((i : Int), ())))), (out, ())))
    (fun i p out => some (match stepT out p with | some o => .inl o | none => .inr ((.inl (((), (false, ())), (([] : List Entry), ()))) : YS t43_58))) (fun out => ((.inr (((), ()), (out, ()))) : YS t43_58))
    (fun i out => treeOk out = true ∧ ∀ e, e ∈ out → BdE e) [] ⟨rfl, fun e h => by cases h⟩ (fun i x out hx hI => ?_) (fun out _ => ?_)
  · have fold : ∀ (r : List Pack) (k : Nat) (out : List Entry), foldB (fun i p out => some (match stepT out p with | some o => .inl o | none => .inr ((.inl (((), (false, ())), (([] : List Entry), ()))) : YS t43_58))) (fun out => ((.inr (((), ()), (out, ()))) : YS t43_58)) k r out =
        some (match treesL out r with | some o => .inr (((), ()), (o, ())) | none => .inl (((), (false, ())), (([] : List Entry), ()))) := by
      intro r
      induction r with
      | nil => intro k out; rfl
      | cons p r ih =>
        intro k out
        rw [treesL_step]
        simp only [foldB]
        cases stepT out p with
        | none => rfl
        | some o => simp only [Option.bind_some]; exact ih _ _
    rw [fold] at key
    simp only [f43, key, Option.bind_some]
    cases treesL [] ps with
    | none => exact ⟨_, rfl⟩
    | some o => exact ⟨_, rfl⟩
  · have hi := get_lt hx
    have hw : Sm i := by unfold Sm; omega
    obtain ⟨hto, hbe⟩ := htr x (List.mem_of_getElem? hx)
    have h16 := treeOk_len hI.1
    have hO : BdEs out := ⟨show out.length ≤ 2097152 by omega, hI.2⟩
    refine ⟨?_, fun s' h' => ?_⟩
    · have hj := v_TreeJoin ((out, (x.tree, ())), ()) hO hbe hI.1 hto
      simp only [g43_58, lt_dec hi, cond_true, ix_nat, hx, Option.bind_some, hj, stepT]
      cases joinL out x.tree with
      | none => rfl
      | some o =>
        simp only
        cases treeOk o with
        | false => rfl
        | true => simp only [Bool.not_true, cond_false, cond_true, wrap_add1 hw]; rfl
    · simp only [Option.some.injEq] at h'
      cases hs : stepT out x with
      | none => rw [hs] at h'; cases h'
      | some o =>
        rw [hs] at h'
        cases h'
        obtain ⟨h5, h6⟩ := stepT_ok hs
        exact ⟨h5, (joinL_mem _ _ _ hbe.2 hI.2 h6).2⟩
  · simp only [g43_58, nlt_dec, cond_false]
end Go.Proofs

set_option maxRecDepth 100000
set_option linter.unusedVariables false
namespace Go.Proofs
open Go.Jk
-- 167 cmp.isNaN[int]
noncomputable def c167 : Ctx := { tt := tt, fs := fun n => match n with | _ => none }
theorem k167 (h : ∀ T, (tt T).ok Tryz.prog T) : CtxGood Tryz.prog c167 := ⟨⟨h⟩, fun g S hg => (by cases hg), tt_mo, fun _ _ h => (by cases h)⟩
noncomputable def b167 : Code := codeOf Tryz.f167
@[reducible] noncomputable def i167 : Shape := ⟨[(0, .lf (.d (.int .i64)))], [], 6⟩
@[reducible] noncomputable def o167 : Shape := ⟨[(2, .lf (.d (.bool)))], [], 6⟩
noncomputable def f167 (a : i167.Y) : Option o167.Y :=
  some (((a.1.1 != a.1.1), ()), ())
theorem e167 : ∀ a, f167 a = bodyF (ctxWith c167 []) b167 i167 o167 a := fun a => by kernel_rfl
noncomputable def S167 : Summ := funSumm tt 6 i167 o167 [.tmp 2] f167
theorem z167 (h : ∀ T, (tt T).ok Tryz.prog T) : SummOk Tryz.prog 167 S167 :=
  have H := k167 h
  fun_at (fn := Tryz.f167) (fr := []) H (by kernel_rfl) (by kernel_rfl) (by kernel_rfl) (by kernel_rfl) (by kernel_rfl) frags_nil (fun y => ⟨_, rfl, rfl⟩) e167
end Go.Proofs

set_option maxRecDepth 100000
set_option linter.unusedVariables false
namespace Go.Proofs
open Go.Jk
-- 157 cmp.Compare[int]
noncomputable def c157 : Ctx := { tt := tt, fs := fun n => match n with | 167 => some S167 | _ => none }
theorem k157 (h : ∀ T, (tt T).ok Tryz.prog T) (h167 : SummOk Tryz.prog 167 S167) : CtxGood Tryz.prog c157 := ⟨⟨h⟩, fun g S hg => (by
  simp only [c157] at hg
  split at hg
  · cases hg; exact h167
  · cases hg), tt_mo, fun _ _ h => (by cases h)⟩
noncomputable def b157 : Code := codeOf Tryz.f157
@[reducible] noncomputable def i157 : Shape := ⟨[(0, .lf (.d (.int .i64))), (1, .lf (.d (.int .i64)))], [], 20⟩
@[reducible] noncomputable def o157 : Shape := ⟨[(4, .lf (.d (.int .i64)))], [], 20⟩
noncomputable def f157 (a : i157.Y) : Option o157.Y :=
(f167 ((a.1.1, ()), ())).bind fun r1089 =>
(f167 ((a.1.2.1, ()), ())).bind fun r1091 =>
  bif r1089.1.1 then
  bif r1091.1.1 then
  some (((0 : Int), ()), ())
else
  some ((((-1) : Int), ()), ())
else
  bif r1091.1.1 then
  some (((1 : Int), ()), ())
else
  bif (decide (a.1.1 < a.1.2.1)) then
  some ((((-1) : Int), ()), ())
else
  bif (decide (a.1.1 > a.1.2.1)) then
  some (((1 : Int), ()), ())
else
  some (((0 : Int), ()), ())
theorem e157 : ∀ a, f157 a = bodyF (ctxWith c157 []) b157 i157 o157 a := fun a => by kernel_rfl
noncomputable def S157 : Summ := funSumm tt 20 i157 o157 [.tmp 4] f157
theorem z157 (h : ∀ T, (tt T).ok Tryz.prog T) (h167 : SummOk Tryz.prog 167 S167) : SummOk Tryz.prog 157 S157 :=
  have H := k157 h h167
  fun_at (fn := Tryz.f157) (fr := []) H (by kernel_rfl) (by kernel_rfl) (by kernel_rfl) (by kernel_rfl) (by kernel_rfl) frags_nil (fun y => ⟨_, rfl, rfl⟩) e157
end Go.Proofs

set_option maxRecDepth 100000
set_option linter.unusedVariables false
namespace Go.Proofs
open Go.Jk
-- 140 slices.Compare[loop.example/jackstay/impl.versionNumbers,int]
noncomputable def c140 : Ctx := { tt := tt, fs := fun n => match n with | 157 => some S157 | _ => none }
theorem k140 (h : ∀ T, (tt T).ok Tryz.prog T) (h157 : SummOk Tryz.prog 157 S157) : CtxGood Tryz.prog c140 := ⟨⟨h⟩, fun g S hg => (by
  simp only [c140] at hg
  split at hg
  · cases hg; exact h157
  · cases hg), tt_mo, fun _ _ h => (by cases h)⟩
noncomputable def b140 : Code := codeOf Tryz.f140
@[reducible] noncomputable def s140_26 : Shape := ⟨[(0, .lf (.d (.sl .i64))), (1, .lf (.d (.sl .i64))), (9, .lf (.d (.sl .i64))), (10, .lf (.d (.int .i64))), (11, .lf (.d (.int .i64)))], [], 36⟩
@[reducible] noncomputable def t140_26 : List OSh := [(.ret, ⟨[(4, .lf (.d (.int .i64)))], [], 36⟩), (.exit 0, ⟨[(0, .lf (.d (.sl .i64))), (1, .lf (.d (.sl .i64)))], [], 36⟩)]
noncomputable def g140_26 (y : s140_26.Y) : Option (Sum s140_26.Y (YS t140_26)) :=
  bif (decide (y.1.2.2.2.2.1 < y.1.2.2.2.1)) then
(ix y.1.2.2.1 y.1.2.2.2.2.1).bind fun x1095 =>
  bif (decide (y.1.2.2.2.2.1 ≥ (y.1.2.1.length : Int))) then
  some (.inr (.inl (((1 : Int), ()), ())))
else
(ix y.1.2.1 y.1.2.2.2.2.1).bind fun x1097 =>
(f157 ((x1095, (x1097, ())), ())).bind fun r1099 =>
  bif (r1099.1.1 != (0 : Int)) then
  some (.inr (.inl ((r1099.1.1, ()), ())))
else
  some (.inl ((y.1.1, (y.1.2.1, (y.1.2.2.1, (y.1.2.2.2.1, ((IntKind.i64.wrap (y.1.2.2.2.2.1 + (1 : Int))), ()))))), ()))
else
  some (.inr (.inr ((y.1.1, (y.1.2.1, ())), ())))
theorem r140_26 : ∀ y, g140_26 y = roundF (ctxWith c140 []) (unloop (codeAt b140 1 26)) 26 s140_26 t140_26 y := fun y => by kernel_rfl
noncomputable def l140_26 : s140_26.Y → Option (YS t140_26) := loopF g140_26
theorem q140_26 (H : CtxGood Tryz.prog c140) : FragOk Tryz.prog (codeAt b140 1 26) (fragOrc s140_26 t140_26 l140_26) :=
  loop_at (fr := []) H (by kernel_rfl) (by kernel_rfl) frags_nil (fun y => iter_congr r140_26 y)
@[reducible] noncomputable def i140 : Shape := ⟨[(0, .lf (.d (.sl .i64))), (1, .lf (.d (.sl .i64)))], [], 36⟩
@[reducible] noncomputable def o140 : Shape := ⟨[(4, .lf (.d (.int .i64)))], [], 36⟩
noncomputable def f140 (a : i140.Y) : Option o140.Y :=
(l140_26 ((a.1.1, (a.1.2.1, (a.1.1, ((a.1.1.length : Int), ((0 : Int), ()))))), ())).bind fun r1109 =>
(match r1109 with
| .inl r1110 =>
  some ((r1110.1.1, ()), ())
| .inr r1111 =>
  bif (decide ((r1111.1.1.length : Int) < (r1111.1.2.1.length : Int))) then
  some ((((-1) : Int), ()), ())
else
  some (((0 : Int), ()), ()))
theorem e140 : ∀ a, f140 a = bodyF (ctxWith c140 [(26, fragOrc s140_26 t140_26 l140_26)]) b140 i140 o140 a := fun a => by kernel_rfl
noncomputable def S140 : Summ := funSumm tt 36 i140 o140 [.tmp 4] f140
theorem z140 (h : ∀ T, (tt T).ok Tryz.prog T) (h157 : SummOk Tryz.prog 157 S157) : SummOk Tryz.prog 140 S140 :=
  have H := k140 h h157
  fun_at (fn := Tryz.f140) (fr := [(26, fragOrc s140_26 t140_26 l140_26)]) H (by kernel_rfl) (by kernel_rfl) (by kernel_rfl) (by kernel_rfl) (by kernel_rfl) ⟨q140_26 H, trivial⟩ (fun y => ⟨_, rfl, rfl⟩) e140
end Go.Proofs

set_option maxRecDepth 100000
set_option linter.unusedVariables false
namespace Go.Proofs
open Go.Jk
-- 109 (loop.example/jackstay/impl.versionNumbers).order
noncomputable def c109 : Ctx := { tt := tt, fs := fun n => match n with | 140 => some S140 | _ => none }
theorem k109 (h : ∀ T, (tt T).ok Tryz.prog T) (h140 : SummOk Tryz.prog 140 S140) : CtxGood Tryz.prog c109 := ⟨⟨h⟩, fun g S hg => (by
  simp only [c109] at hg
  split at hg
  · cases hg; exact h140
  · cases hg), tt_mo, fun _ _ h => (by cases h)⟩
noncomputable def b109 : Code := codeOf Tryz.f109
@[reducible] noncomputable def i109 : Shape := ⟨[(0, .lf (.d (.sl .i64))), (1, .lf (.d (.sl .i64)))], [], 8⟩
@[reducible] noncomputable def o109 : Shape := ⟨[(4, .lf (.d (.int .i64)))], [], 8⟩
noncomputable def f109 (a : i109.Y) : Option o109.Y :=
(f140 ((a.1.1, (a.1.2.1, ())), ())).bind fun r1113 =>
  some ((r1113.1.1, ()), ())
theorem e109 : ∀ a, f109 a = bodyF (ctxWith c109 []) b109 i109 o109 a := fun a => by kernel_rfl
noncomputable def S109 : Summ := funSumm tt 8 i109 o109 [.tmp 4] f109
theorem z109 (h : ∀ T, (tt T).ok Tryz.prog T) (h140 : SummOk Tryz.prog 140 S140) : SummOk Tryz.prog 109 S109 :=
  have H := k109 h h140
  fun_at (fn := Tryz.f109) (fr := []) H (by kernel_rfl) (by kernel_rfl) (by kernel_rfl) (by kernel_rfl) (by kernel_rfl) frags_nil (fun y => ⟨_, rfl, rfl⟩) e109
end Go.Proofs

set_option maxRecDepth 100000
set_option linter.unusedVariables false
namespace Go.Proofs
open Go.Jk
-- 116 loop.example/jackstay/spec.l3Order
noncomputable def c116 : Ctx := { tt := tt, fs := fun n => match n with | _ => none }
theorem k116 (h : ∀ T, (tt T).ok Tryz.prog T) : CtxGood Tryz.prog c116 := ⟨⟨h⟩, fun g S hg => (by cases hg), tt_mo, fun _ _ h => (by cases h)⟩
noncomputable def b116 : Code := codeOf Tryz.f116
@[reducible] noncomputable def s116_104 : Shape := ⟨[(0, .lf (.d (.sl .i64))), (1, .lf (.d (.sl .i64))), (5, .lf (.d (.int .i64)))], [], 42⟩
@[reducible] noncomputable def t116_104 : List OSh := [(.norm, ⟨[(0, .lf (.d (.sl .i64))), (1, .lf (.d (.sl .i64))), (5, .lf (.d (.int .i64)))], [], 42⟩), (.exit 0, ⟨[], [], 42⟩)]
noncomputable def g116_104 (y : s116_104.Y) : Option (YS t116_104) :=
  bif (!(decide (y.1.2.2.1 < (y.1.1.length : Int)))) then
  bif (decide (y.1.2.2.1 < (y.1.2.1.length : Int))) then
  some (.inl ((y.1.1, (y.1.2.1, (y.1.2.2.1, ()))), ()))
else
  some (.inr ((), ()))
else
  some (.inl ((y.1.1, (y.1.2.1, (y.1.2.2.1, ()))), ()))
theorem r116_104 : ∀ y, g116_104 y = pieceF (ctxWith c116 []) (codeAt (unloop (codeAt b116 1 26)) 52 104) 104 s116_104 t116_104 y := fun y => by kernel_rfl
theorem q116_104 (H : CtxGood Tryz.prog c116) : FragOk Tryz.prog (codeAt (unloop (codeAt b116 1 26)) 52 104) (fragOrc s116_104 t116_104 g116_104) :=
  piece_at (fr := []) H (by kernel_rfl) frags_nil r116_104
@[reducible] noncomputable def s116_3366 : Shape := ⟨[(0, .lf (.d (.sl .i64))), (1, .lf (.d (.sl .i64))), (5, .lf (.d (.int .i64))), (6, .lf (.d (.int .i64))), (7, .lf (.d (.int .i64)))], [], 42⟩
@[reducible] noncomputable def t116_3366 : List OSh := [(.norm, ⟨[(0, .lf (.d (.sl .i64))), (1, .lf (.d (.sl .i64))), (5, .lf (.d (.int .i64))), (6, .lf (.d (.int .i64))), (7, .lf (.d (.int .i64)))], [], 42⟩)]
noncomputable def g116_3366 (y : s116_3366.Y) : Option (YS t116_3366) :=
  bif (decide (y.1.2.2.1 < (y.1.1.length : Int))) then
(ix y.1.1 y.1.2.2.1).bind fun x607 =>
  some (((y.1.1, (y.1.2.1, (y.1.2.2.1, (x607, (y.1.2.2.2.2.1, ()))))), ()))
else
  some (((y.1.1, (y.1.2.1, (y.1.2.2.1, (y.1.2.2.2.1, (y.1.2.2.2.2.1, ()))))), ()))
theorem r116_3366 : ∀ y, g116_3366 y = pieceF (ctxWith c116 []) (codeAt (unloop (codeAt b116 1 26)) 52 3366) 3366 s116_3366 t116_3366 y := fun y => by kernel_rfl
theorem q116_3366 (H : CtxGood Tryz.prog c116) : FragOk Tryz.prog (codeAt (unloop (codeAt b116 1 26)) 52 3366) (fragOrc s116_3366 t116_3366 g116_3366) :=
  piece_at (fr := []) H (by kernel_rfl) frags_nil r116_3366
@[reducible] noncomputable def s116_6734 : Shape := ⟨[(0, .lf (.d (.sl .i64))), (1, .lf (.d (.sl .i64))), (5, .lf (.d (.int .i64))), (6, .lf (.d (.int .i64))), (7, .lf (.d (.int .i64)))], [], 42⟩
@[reducible] noncomputable def t116_6734 : List OSh := [(.norm, ⟨[(0, .lf (.d (.sl .i64))), (1, .lf (.d (.sl .i64))), (5, .lf (.d (.int .i64))), (6, .lf (.d (.int .i64))), (7, .lf (.d (.int .i64)))], [], 42⟩)]
noncomputable def g116_6734 (y : s116_6734.Y) : Option (YS t116_6734) :=
  bif (decide (y.1.2.2.1 < (y.1.2.1.length : Int))) then
(ix y.1.2.1 y.1.2.2.1).bind fun x615 =>
  some (((y.1.1, (y.1.2.1, (y.1.2.2.1, (y.1.2.2.2.1, (x615, ()))))), ()))
else
  some (((y.1.1, (y.1.2.1, (y.1.2.2.1, (y.1.2.2.2.1, (y.1.2.2.2.2.1, ()))))), ()))
theorem r116_6734 : ∀ y, g116_6734 y = pieceF (ctxWith c116 []) (codeAt (unloop (codeAt b116 1 26)) 52 6734) 6734 s116_6734 t116_6734 y := fun y => by kernel_rfl
theorem q116_6734 (H : CtxGood Tryz.prog c116) : FragOk Tryz.prog (codeAt (unloop (codeAt b116 1 26)) 52 6734) (fragOrc s116_6734 t116_6734 g116_6734) :=
  piece_at (fr := []) H (by kernel_rfl) frags_nil r116_6734
@[reducible] noncomputable def s116_26 : Shape := ⟨[(0, .lf (.d (.sl .i64))), (1, .lf (.d (.sl .i64))), (5, .lf (.d (.int .i64)))], [], 42⟩
@[reducible] noncomputable def t116_26 : List OSh := [(.ret, ⟨[(4, .lf (.d (.int .i64)))], [], 42⟩), (.exit 0, ⟨[], [], 42⟩)]
noncomputable def g116_26 (y : s116_26.Y) : Option (Sum s116_26.Y (YS t116_26)) :=
(g116_104 ((y.1.1, (y.1.2.1, (y.1.2.2.1, ()))), ())).bind fun r617 =>
(match r617 with
| .inl r618 =>
(g116_3366 ((r618.1.1, (r618.1.2.1, (r618.1.2.2.1, (((-1) : Int), (((-1) : Int), ()))))), ())).bind fun r620 =>
(g116_6734 ((r620.1.1, (r620.1.2.1, (r620.1.2.2.1, (r620.1.2.2.2.1, (r620.1.2.2.2.2.1, ()))))), ())).bind fun r621 =>
  bif (decide (r621.1.2.2.2.1 < r621.1.2.2.2.2.1)) then
  some (.inr (.inl ((((-1) : Int), ()), ())))
else
  bif (decide (r621.1.2.2.2.1 > r621.1.2.2.2.2.1)) then
  some (.inr (.inl (((1 : Int), ()), ())))
else
  some (.inl ((r621.1.1, (r621.1.2.1, ((IntKind.i64.wrap (r621.1.2.2.1 + (1 : Int))), ()))), ()))
| .inr r619 =>
  some (.inr (.inr ((), ()))))
theorem r116_26 : ∀ y, g116_26 y = roundF (ctxWith c116 [(104, fragOrc s116_104 t116_104 g116_104), (3366, fragOrc s116_3366 t116_3366 g116_3366), (6734, fragOrc s116_6734 t116_6734 g116_6734)]) (unloop (codeAt b116 1 26)) 26 s116_26 t116_26 y := fun y => by kernel_rfl
noncomputable def l116_26 : s116_26.Y → Option (YS t116_26) := loopF g116_26
theorem q116_26 (H : CtxGood Tryz.prog c116) : FragOk Tryz.prog (codeAt b116 1 26) (fragOrc s116_26 t116_26 l116_26) :=
  loop_at (fr := [(104, fragOrc s116_104 t116_104 g116_104), (3366, fragOrc s116_3366 t116_3366 g116_3366), (6734, fragOrc s116_6734 t116_6734 g116_6734)]) H (by kernel_rfl) (by kernel_rfl) ⟨q116_104 H, q116_3366 H, q116_6734 H, trivial⟩ (fun y => iter_congr r116_26 y)
@[reducible] noncomputable def i116 : Shape := ⟨[(0, .lf (.d (.sl .i64))), (1, .lf (.d (.sl .i64)))], [], 42⟩
@[reducible] noncomputable def o116 : Shape := ⟨[(4, .lf (.d (.int .i64)))], [], 42⟩
noncomputable def f116 (a : i116.Y) : Option o116.Y :=
(l116_26 ((a.1.1, (a.1.2.1, ((0 : Int), ()))), ())).bind fun r625 =>
(match r625 with
| .inl r626 =>
  some ((r626.1.1, ()), ())
| .inr r627 =>
  some (((0 : Int), ()), ()))
theorem e116 : ∀ a, f116 a = bodyF (ctxWith c116 [(26, fragOrc s116_26 t116_26 l116_26)]) b116 i116 o116 a := fun a => by kernel_rfl
noncomputable def S116 : Summ := funSumm tt 42 i116 o116 [.tmp 4] f116
theorem z116 (h : ∀ T, (tt T).ok Tryz.prog T) : SummOk Tryz.prog 116 S116 :=
  have H := k116 h
  fun_at (fn := Tryz.f116) (fr := [(26, fragOrc s116_26 t116_26 l116_26)]) H (by kernel_rfl) (by kernel_rfl) (by kernel_rfl) (by kernel_rfl) (by kernel_rfl) ⟨q116_26 H, trivial⟩ (fun y => ⟨_, rfl, rfl⟩) e116
end Go.Proofs

set_option maxRecDepth 100000
set_option linter.unusedVariables false
namespace Go.Proofs
open Go.Jk
-- 83 loop.example/jackstay/impl.VersionOrder
noncomputable def c83 : Ctx := { tt := tt, fs := fun n => match n with | 106 => some S106 | 109 => some S109 | _ => none }
theorem k83 (h : ∀ T, (tt T).ok Tryz.prog T) (h106 : SummOk Tryz.prog 106 S106) (h109 : SummOk Tryz.prog 109 S109) : CtxGood Tryz.prog c83 := ⟨⟨h⟩, fun g S hg => (by
  simp only [c83] at hg
  split at hg
  · cases hg; exact h106
  · cases hg; exact h109
  · cases hg), tt_mo, fun _ _ h => (by cases h)⟩
noncomputable def b83 : Code := codeOf Tryz.f83
@[reducible] noncomputable def s83_60 : Shape := ⟨[(5, .lf (.own 3000320)), (6, .lf (.d (.bool))), (7, .lf (.own 3000448)), (8, .lf (.d (.bool)))], [(3000320, .row .i64, .slot 5 0), (3000448, .row .i64, .slot 7 0)], 28⟩
@[reducible] noncomputable def t83_60 : List OSh := [(.norm, ⟨[(5, .lf (.own 3000320)), (7, .lf (.own 3000448)), (24, .lf (.d (.bool)))], [(3000320, .row .i64, .slot 5 0), (3000448, .row .i64, .slot 7 0)], 28⟩)]
noncomputable def g83_60 (y : s83_60.Y) : Option (YS t83_60) :=
  bif (!(!y.1.2.1)) then
  some ((((), ((), ((!y.1.2.2.2.1), ()))), (y.2.1, (y.2.2.1, ()))))
else
  some ((((), ((), (true, ()))), (y.2.1, (y.2.2.1, ()))))
theorem r83_60 : ∀ y, g83_60 y = pieceF (ctxWith c83 []) (codeAt b83 1 60) 60 s83_60 t83_60 y := fun y => by kernel_rfl
theorem q83_60 (H : CtxGood Tryz.prog c83) : FragOk Tryz.prog (codeAt b83 1 60) (fragOrc s83_60 t83_60 g83_60) :=
  piece_at (fr := []) H (by kernel_rfl) frags_nil r83_60
@[reducible] noncomputable def i83 : Shape := ⟨[(0, .lf (.d (.str))), (1, .lf (.d (.str)))], [], 28⟩
@[reducible] noncomputable def o83 : Shape := ⟨[(4, .lf (.d (.int .i64)))], [], 28⟩
noncomputable def f83 (a : i83.Y) : Option o83.Y :=
(f106 ((a.1.1, ()), ())).bind fun r1116 =>
(f106 ((a.1.2.1, ()), ())).bind fun r1118 =>
(g83_60 (((), (r1116.2.2.2.1.1, ((), (r1118.2.2.2.1.1, ())))), (r1116.2.1, (r1118.2.1, ())))).bind fun r1120 =>
  bif r1120.1.2.2.1 then
  some (((0 : Int), ()), ())
else
(f109 ((r1120.2.1, (r1120.2.2.1, ())), ())).bind fun r1121 =>
  some ((r1121.1.1, ()), ())
theorem e83 : ∀ a, f83 a = bodyF (ctxWith c83 [(60, fragOrc s83_60 t83_60 g83_60)]) b83 i83 o83 a := fun a => by kernel_rfl
noncomputable def S83 : Summ := funSumm tt 28 i83 o83 [.tmp 4] f83
theorem z83 (h : ∀ T, (tt T).ok Tryz.prog T) (h106 : SummOk Tryz.prog 106 S106) (h109 : SummOk Tryz.prog 109 S109) : SummOk Tryz.prog 83 S83 :=
  have H := k83 h h106 h109
  fun_at (fn := Tryz.f83) (fr := [(60, fragOrc s83_60 t83_60 g83_60)]) H (by kernel_rfl) (by kernel_rfl) (by kernel_rfl) (by kernel_rfl) (by kernel_rfl) ⟨q83_60 H, trivial⟩ (fun y => ⟨_, rfl, rfl⟩) e83
end Go.Proofs

set_option maxRecDepth 100000
set_option linter.unusedVariables false
namespace Go.Proofs
open Go.Jk
-- 51 loop.example/jackstay/impl.NeedFits
noncomputable def c51 : Ctx := { tt := tt, fs := fun n => match n with | 78 => some S78 | 80 => some S80 | 83 => some S83 | _ => none }
theorem k51 (h : ∀ T, (tt T).ok Tryz.prog T) (h78 : SummOk Tryz.prog 78 S78) (h80 : SummOk Tryz.prog 80 S80) (h83 : SummOk Tryz.prog 83 S83) : CtxGood Tryz.prog c51 := ⟨⟨h⟩, fun g S hg => (by
  simp only [c51] at hg
  split at hg
  · cases hg; exact h78
  · cases hg; exact h80
  · cases hg; exact h83
  · cases hg), tt_mo, fun _ _ h => (by cases h)⟩
noncomputable def b51 : Code := codeOf Tryz.f51
@[reducible] noncomputable def s51_12 : Shape := ⟨[(1, .lf (.d (.str))), (2, .lf (.d (.str))), (3, .lf (.ptr 3 0))], [(3, .box [.d (.str), .d (.int .i64), .d (.str)], .same)], 44⟩
@[reducible] noncomputable def t51_12 : List OSh := [(.norm, ⟨[(2, .lf (.d (.str))), (3, .lf (.ptr 3 0)), (20, .lf (.d (.bool)))], [(3, .box [.d (.str), .d (.int .i64), .d (.str)], .same)], 44⟩)]
noncomputable def g51_12 (y : s51_12.Y) : Option (YS t51_12) :=
(f80 (((y.2.1.1, (y.2.1.2.1, (y.2.1.2.2.1, ()))), ()), ())).bind fun r1066 =>
  bif (!(!r1066.1.1)) then
(f78 ((y.1.2.1, ()), ())).bind fun r1067 =>
  bif (!(!r1067.1.1)) then
  some (((y.1.2.1, ((), ((!(y.1.1 == y.2.1.1)), ()))), ((y.2.1.1, (y.2.1.2.1, (y.2.1.2.2.1, ()))), ())))
else
  some (((y.1.2.1, ((), (true, ()))), ((y.2.1.1, (y.2.1.2.1, (y.2.1.2.2.1, ()))), ())))
else
  some (((y.1.2.1, ((), (true, ()))), ((y.2.1.1, (y.2.1.2.1, (y.2.1.2.2.1, ()))), ())))
theorem r51_12 : ∀ y, g51_12 y = pieceF (ctxWith c51 []) (codeAt b51 1 12) 12 s51_12 t51_12 y := fun y => by kernel_rfl
theorem q51_12 (H : CtxGood Tryz.prog c51) : FragOk Tryz.prog (codeAt b51 1 12) (fragOrc s51_12 t51_12 g51_12) :=
  piece_at (fr := []) H (by kernel_rfl) frags_nil r51_12
@[reducible] noncomputable def i51 : Shape := ⟨[(0, .agg [.d (.str), .d (.int .i64), .d (.str)]), (1, .lf (.d (.str))), (2, .lf (.d (.str)))], [], 44⟩
@[reducible] noncomputable def o51 : Shape := ⟨[(6, .lf (.d (.bool)))], [], 44⟩
noncomputable def f51 (a : i51.Y) : Option o51.Y :=
(g51_12 ((a.1.2.1, (a.1.2.2.1, ((), ()))), ((a.1.1.1, (a.1.1.2.1, (a.1.1.2.2.1, ()))), ()))).bind fun r1126 =>
  bif r1126.1.2.2.1 then
  some ((false, ()), ())
else
  bif (r1126.2.1.2.1 == (1 : Int)) then
(f83 ((r1126.1.1, (r1126.2.1.2.2.1, ())), ())).bind fun r1127 =>
  some (((r1127.1.1 == (0 : Int)), ()), ())
else
  bif (r1126.2.1.2.1 == (2 : Int)) then
(f83 ((r1126.1.1, (r1126.2.1.2.2.1, ())), ())).bind fun r1128 =>
  some (((decide (r1128.1.1 ≥ (0 : Int))), ()), ())
else
  bif (r1126.2.1.2.1 == (3 : Int)) then
(f83 ((r1126.1.1, (r1126.2.1.2.2.1, ())), ())).bind fun r1129 =>
  some (((decide (r1129.1.1 < (0 : Int))), ()), ())
else
  some ((true, ()), ())
theorem e51 : ∀ a, f51 a = bodyF (ctxWith c51 [(12, fragOrc s51_12 t51_12 g51_12)]) b51 i51 o51 a := fun a => by kernel_rfl
noncomputable def S51 : Summ := funSumm tt 44 i51 o51 [.tmp 6] f51
theorem z51 (h : ∀ T, (tt T).ok Tryz.prog T) (h78 : SummOk Tryz.prog 78 S78) (h80 : SummOk Tryz.prog 80 S80) (h83 : SummOk Tryz.prog 83 S83) : SummOk Tryz.prog 51 S51 :=
  have H := k51 h h78 h80 h83
  fun_at (fn := Tryz.f51) (fr := [(12, fragOrc s51_12 t51_12 g51_12)]) H (by kernel_rfl) (by kernel_rfl) (by kernel_rfl) (by kernel_rfl) (by kernel_rfl) ⟨q51_12 H, trivial⟩ (fun y => ⟨_, rfl, rfl⟩) e51
end Go.Proofs

set_option maxRecDepth 100000
set_option linter.unusedVariables false
namespace Go.Proofs
open Go.Jk
-- 88 loop.example/jackstay/spec.VersionOrder
noncomputable def c88 : Ctx := { tt := tt, fs := fun n => match n with | 111 => some S111 | 116 => some S116 | _ => none }
theorem k88 (h : ∀ T, (tt T).ok Tryz.prog T) (h111 : SummOk Tryz.prog 111 S111) (h116 : SummOk Tryz.prog 116 S116) : CtxGood Tryz.prog c88 := ⟨⟨h⟩, fun g S hg => (by
  simp only [c88] at hg
  split at hg
  · cases hg; exact h111
  · cases hg; exact h116
  · cases hg), tt_mo, fun _ _ h => (by cases h)⟩
noncomputable def b88 : Code := codeOf Tryz.f88
@[reducible] noncomputable def s88_60 : Shape := ⟨[(5, .lf (.own 3000320)), (6, .lf (.d (.bool))), (7, .lf (.own 3000448)), (8, .lf (.d (.bool)))], [(3000320, .row .i64, .slot 5 0), (3000448, .row .i64, .slot 7 0)], 28⟩
@[reducible] noncomputable def t88_60 : List OSh := [(.norm, ⟨[(5, .lf (.own 3000320)), (7, .lf (.own 3000448)), (24, .lf (.d (.bool)))], [(3000320, .row .i64, .slot 5 0), (3000448, .row .i64, .slot 7 0)], 28⟩)]
noncomputable def g88_60 (y : s88_60.Y) : Option (YS t88_60) :=
  bif (!(!y.1.2.1)) then
  some ((((), ((), ((!y.1.2.2.2.1), ()))), (y.2.1, (y.2.2.1, ()))))
else
  some ((((), ((), (true, ()))), (y.2.1, (y.2.2.1, ()))))
theorem r88_60 : ∀ y, g88_60 y = pieceF (ctxWith c88 []) (codeAt b88 1 60) 60 s88_60 t88_60 y := fun y => by kernel_rfl
theorem q88_60 (H : CtxGood Tryz.prog c88) : FragOk Tryz.prog (codeAt b88 1 60) (fragOrc s88_60 t88_60 g88_60) :=
  piece_at (fr := []) H (by kernel_rfl) frags_nil r88_60
@[reducible] noncomputable def i88 : Shape := ⟨[(0, .lf (.d (.str))), (1, .lf (.d (.str)))], [], 28⟩
@[reducible] noncomputable def o88 : Shape := ⟨[(4, .lf (.d (.int .i64)))], [], 28⟩
noncomputable def f88 (a : i88.Y) : Option o88.Y :=
(f111 ((a.1.1, ()), ())).bind fun r630 =>
(f111 ((a.1.2.1, ()), ())).bind fun r632 =>
(g88_60 (((), (r630.1.2.1, ((), (r632.1.2.1, ())))), (r630.2.1, (r632.2.1, ())))).bind fun r634 =>
  bif r634.1.2.2.1 then
  some (((0 : Int), ()), ())
else
(f116 ((r634.2.1, (r634.2.2.1, ())), ())).bind fun r635 =>
  some ((r635.1.1, ()), ())
theorem e88 : ∀ a, f88 a = bodyF (ctxWith c88 [(60, fragOrc s88_60 t88_60 g88_60)]) b88 i88 o88 a := fun a => by kernel_rfl
noncomputable def S88 : Summ := funSumm tt 28 i88 o88 [.tmp 4] f88
theorem z88 (h : ∀ T, (tt T).ok Tryz.prog T) (h111 : SummOk Tryz.prog 111 S111) (h116 : SummOk Tryz.prog 116 S116) : SummOk Tryz.prog 88 S88 :=
  have H := k88 h h111 h116
  fun_at (fn := Tryz.f88) (fr := [(60, fragOrc s88_60 t88_60 g88_60)]) H (by kernel_rfl) (by kernel_rfl) (by kernel_rfl) (by kernel_rfl) (by kernel_rfl) ⟨q88_60 H, trivial⟩ (fun y => ⟨_, rfl, rfl⟩) e88
end Go.Proofs

set_option maxRecDepth 100000
set_option linter.unusedVariables false
namespace Go.Proofs
open Go.Jk
-- 56 loop.example/jackstay/spec.l3Fits
noncomputable def c56 : Ctx := { tt := tt, fs := fun n => match n with | 88 => some S88 | _ => none }
theorem k56 (h : ∀ T, (tt T).ok Tryz.prog T) (h88 : SummOk Tryz.prog 88 S88) : CtxGood Tryz.prog c56 := ⟨⟨h⟩, fun g S hg => (by
  simp only [c56] at hg
  split at hg
  · cases hg; exact h88
  · cases hg), tt_mo, fun _ _ h => (by cases h)⟩
noncomputable def b56 : Code := codeOf Tryz.f56
@[reducible] noncomputable def i56 : Shape := ⟨[(0, .agg [.d (.str), .d (.int .i64), .d (.str)]), (1, .lf (.d (.str))), (2, .lf (.d (.str)))], [], 30⟩
@[reducible] noncomputable def o56 : Shape := ⟨[(6, .lf (.d (.bool)))], [], 30⟩
noncomputable def f56 (a : i56.Y) : Option o56.Y :=
  bif (!(a.1.1.1 == a.1.2.1)) then
  some ((false, ()), ())
else
(f88 ((a.1.2.2.1, (a.1.1.2.2.1, ())), ())).bind fun r639 =>
  bif (a.1.1.2.1 == (1 : Int)) then
  some (((r639.1.1 == (0 : Int)), ()), ())
else
  bif (a.1.1.2.1 == (2 : Int)) then
  some (((decide (r639.1.1 ≥ (0 : Int))), ()), ())
else
  bif (a.1.1.2.1 == (3 : Int)) then
  some (((decide (r639.1.1 < (0 : Int))), ()), ())
else
  some ((true, ()), ())
theorem e56 : ∀ a, f56 a = bodyF (ctxWith c56 []) b56 i56 o56 a := fun a => by kernel_rfl
noncomputable def S56 : Summ := funSumm tt 30 i56 o56 [.tmp 6] f56
theorem z56 (h : ∀ T, (tt T).ok Tryz.prog T) (h88 : SummOk Tryz.prog 88 S88) : SummOk Tryz.prog 56 S56 :=
  have H := k56 h h88
  fun_at (fn := Tryz.f56) (fr := []) H (by kernel_rfl) (by kernel_rfl) (by kernel_rfl) (by kernel_rfl) (by kernel_rfl) frags_nil (fun y => ⟨_, rfl, rfl⟩) e56
end Go.Proofs

set_option maxRecDepth 100000
set_option linter.unusedVariables false
set_option linter.unusedSimpArgs false
namespace Go.Proofs
open Go.Jk

/- The order of versions. -/
def ordL : List Int → List Int → Int
  | [], [] => 0
  | [], _ :: _ => -1
  | _ :: _, [] => 1
  | x :: a, y :: b => bif decide (x < y) then -1 else bif decide (x > y) then 1 else ordL a b

theorem drop_cons {α : Type} {xs : List α} {k : Nat} {x : α} {r : List α} (h : xs.drop k = x :: r) : xs[k]? = some x ∧ xs.drop (k + 1) = r ∧ k < xs.length := by
  have h1 : xs[k]? = some x := by
    have := congrArg (fun l => l[0]?) h
    simpa using this
  refine ⟨h1, ?_, get_lt h1⟩
  have := congrArg List.tail h
  simpa using this
theorem drop_nil {α : Type} {xs : List α} {k : Nat} (h : xs.drop k = []) : xs.length ≤ k := by
  have := congrArg List.length h
  simp at this; omega

theorem v_l3Order (a) (h1 : Bd a.1.1.length) (h2 : Bd a.1.2.1.length) (p1 : ∀ x, x ∈ a.1.1 → 0 ≤ x) (p2 : ∀ x, x ∈ a.1.2.1 → 0 ≤ x) : f116 a = some ((ordL a.1.1 a.1.2.1, ()), ()) := by
  obtain ⟨⟨xs, ys, u⟩, u'⟩ := a
  have h1 : xs.length ≤ 2097152 := h1
  have h2 : ys.length ≤ 2097152 := h2
  have p1 : ∀ x : Int, x ∈ xs → 0 ≤ x := p1
  have p2 : ∀ x : Int, x ∈ ys → 0 ≤ x := p2
  have key : ∀ (n : Nat) (us ws : List Int) (k : Nat), us.length + ws.length = n → xs.drop k = us → ys.drop k = ws → k ≤ 2097152 →
      (l116_26 ((xs, (ys, ((k : Int), ()))), ())).bind (fun r625 => (match r625 with | .inl r626 => some ((r626.1.1, ()), ()) | .inr r627 => some (((0 : Int), ()), ()) : Option o116.Y)) = some ((ordL us ws, ()), ()) := by
    intro n
    induction n using Nat.strongRecOn with
    | _ n ih =>
      intro us ws k hn ha hb hk
      have hw : Sm k := by unfold Sm; omega
      match us, ws with
      | [], [] =>
        have c1 := drop_nil ha
        have c2 := drop_nil hb
        have d1 : decide ((k : Int) < (xs.length : Int)) = false := by simp only [decide_eq_false_iff_not]; omega
        have d2 : decide ((k : Int) < (ys.length : Int)) = false := by simp only [decide_eq_false_iff_not]; omega
        have : l116_26 ((xs, (ys, ((k : Int), ()))), ()) = some (.inr ((), ())) := by
          refine loopF_r ?_
          simp only [g116_26, g116_104, d1, d2, Bool.not_false, cond_true, cond_false, Option.bind_some]
        rw [this]; rfl
      | [], y :: ws =>
        have c1 := drop_nil ha
        obtain ⟨c2, c3, c4⟩ := drop_cons hb
        have hy := p2 y (List.mem_of_getElem? c2)
        have d1 : decide ((k : Int) < (xs.length : Int)) = false := by simp only [decide_eq_false_iff_not]; omega
        have d3 : decide ((-1 : Int) < y) = true := by simp only [decide_eq_true_eq]; omega
        have : l116_26 ((xs, (ys, ((k : Int), ()))), ()) = some (.inl ((((-1) : Int), ()), ())) := by
          refine loopF_r ?_
          simp only [g116_26, g116_104, g116_3366, g116_6734, d1, lt_dec c4, ix_nat, c2, Bool.not_false, cond_true, cond_false, Option.bind_some, d3]
        rw [this]; rfl
      | x :: us, [] =>
        have c1 := drop_nil hb
        obtain ⟨c2, c3, c4⟩ := drop_cons ha
        have hx := p1 x (List.mem_of_getElem? c2)
        have d1 : decide ((k : Int) < (ys.length : Int)) = false := by simp only [decide_eq_false_iff_not]; omega
        have d3 : decide (x < (-1 : Int)) = false := by simp only [decide_eq_false_iff_not]; omega
        have d4 : decide (x > (-1 : Int)) = true := by simp only [decide_eq_true_eq]; omega
        have : l116_26 ((xs, (ys, ((k : Int), ()))), ()) = some (.inl (((1 : Int), ()), ())) := by
          refine loopF_r ?_
          simp only [g116_26, g116_104, g116_3366, g116_6734, d1, lt_dec c4, ix_nat, c2, Bool.not_true, cond_true, cond_false, Option.bind_some, d3, d4]
        rw [this]; rfl
      | x :: us, y :: ws =>
        obtain ⟨c2, c3, c4⟩ := drop_cons ha
        obtain ⟨e2, e3, e4⟩ := drop_cons hb
        have step : g116_26 ((xs, (ys, ((k : Int), ()))), ()) = some (bif decide (x < y) then .inr (.inl ((((-1) : Int), ()), ())) else bif decide (x > y) then .inr (.inl (((1 : Int), ()), ())) else .inl ((xs, (ys, (((k + 1 : Nat) : Int), ()))), ())) := by
          simp only [g116_26, g116_104, g116_3366, g116_6734, lt_dec c4, lt_dec e4, ix_nat, c2, e2, Bool.not_true, cond_true, cond_false, Option.bind_some, wrap_add1 hw]
          cases decide (x < y) <;> cases decide (x > y) <;> rfl
        rw [ordL]
        cases hlt : decide (x < y) with
        | true => rw [hlt, cond_true] at step; rw [show l116_26 ((xs, (ys, ((k : Int), ()))), ()) = _ from loopF_r step]; rfl
        | false =>
          rw [hlt, cond_false] at step
          cases hgt : decide (x > y) with
          | true => rw [hgt, cond_true] at step; rw [show l116_26 ((xs, (ys, ((k : Int), ()))), ()) = _ from loopF_r step]; rfl
          | false =>
            rw [hgt, cond_false] at step
            rw [show l116_26 ((xs, (ys, ((k : Int), ()))), ()) = _ from loopF_l step]
            exact ih (us.length + ws.length) (by simp only [List.length_cons] at hn; omega) us ws (k + 1) rfl c3 e3 (by omega)
  have := key _ xs ys 0 rfl rfl rfl (Nat.zero_le _)
  simp only [f116]
  exact this

theorem v_cmpInt (a) : f157 a = some ((bif decide (a.1.1 < a.1.2.1) then -1 else bif decide (a.1.1 > a.1.2.1) then 1 else 0, ()), ()) := by
  obtain ⟨⟨x, y, u⟩, u'⟩ := a
  have hx : (x != x) = false := by simp
  have hy : (y != y) = false := by simp
  simp only [f157, f167, Option.bind_some, hx, hy, cond_false]
  cases decide (x < y) <;> cases decide (x > y) <;> rfl

theorem v_Compare (a) (h1 : Bd a.1.1.length) (h2 : Bd a.1.2.1.length) : f140 a = some ((ordL a.1.1 a.1.2.1, ()), ()) := by
  obtain ⟨⟨xs, ys, u⟩, u'⟩ := a
  have h1 : xs.length ≤ 2097152 := h1
  have h2 : ys.length ≤ 2097152 := h2
  have key : ∀ (us ws : List Int) (k : Nat), xs.drop k = us → ys.drop k = ws → k ≤ xs.length →
      (l140_26 ((xs, (ys, (xs, ((xs.length : Int), ((k : Int), ()))))), ())).bind (fun r1113 => (match r1113 with
        | .inl r1114 => some ((r1114.1.1, ()), ())
        | .inr r1115 => bif (decide ((r1115.1.1.length : Int) < (r1115.1.2.1.length : Int))) then some ((((-1) : Int), ()), ()) else some (((0 : Int), ()), ()) : Option o140.Y)) = some ((ordL us ws, ()), ()) := by
    intro us
    induction us with
    | nil =>
      intro ws k ha hb hk
      have c1 := drop_nil ha
      have d1 : decide ((k : Int) < (xs.length : Int)) = false := by simp only [decide_eq_false_iff_not]; omega
      have : l140_26 ((xs, (ys, (xs, ((xs.length : Int), ((k : Int), ()))))), ()) = some (.inr ((xs, (ys, ())), ())) := by
        refine loopF_r ?_
        simp only [g140_26, d1, cond_false]
      rw [this]
      simp only [Option.bind_some]
      cases ws with
      | nil =>
        have c2 := drop_nil hb
        have : decide ((xs.length : Int) < (ys.length : Int)) = false := by simp only [decide_eq_false_iff_not]; omega
        rw [this]; rfl
      | cons y ws =>
        obtain ⟨_, _, c4⟩ := drop_cons hb
        rw [lt_dec (show xs.length < ys.length by omega)]; rfl
    | cons x us ih =>
      intro ws k ha hb hk
      obtain ⟨c2, c3, c4⟩ := drop_cons ha
      have hw : Sm k := by unfold Sm; omega
      cases ws with
      | nil =>
        have c1 := drop_nil hb
        have d1 : decide ((k : Int) ≥ (ys.length : Int)) = true := by simp only [decide_eq_true_eq]; omega
        have : l140_26 ((xs, (ys, (xs, ((xs.length : Int), ((k : Int), ()))))), ()) = some (.inl (((1 : Int), ()), ())) := by
          refine loopF_r ?_
          simp only [g140_26, lt_dec c4, cond_true, ix_nat, c2, Option.bind_some, d1]
        rw [this]; rfl
      | cons y ws =>
        obtain ⟨e2, e3, e4⟩ := drop_cons hb
        have d1 : decide ((k : Int) ≥ (ys.length : Int)) = false := by simp only [decide_eq_false_iff_not]; omega
        have step : g140_26 ((xs, (ys, (xs, ((xs.length : Int), ((k : Int), ()))))), ()) = some (bif decide (x < y) then .inr (.inl ((((-1) : Int), ()), ())) else bif decide (x > y) then .inr (.inl (((1 : Int), ()), ())) else .inl ((xs, (ys, (xs, ((xs.length : Int), (((k + 1 : Nat) : Int), ()))))), ())) := by
          simp only [g140_26, lt_dec c4, ix_nat, c2, e2, d1, cond_true, cond_false, Option.bind_some, v_cmpInt, wrap_add1 hw]
          cases decide (x < y) <;> cases decide (x > y) <;> rfl
        rw [ordL]
        cases hlt : decide (x < y) with
        | true => rw [hlt, cond_true] at step; rw [show l140_26 ((xs, (ys, (xs, ((xs.length : Int), ((k : Int), ()))))), ()) = _ from loopF_r step]; rfl
        | false =>
          rw [hlt, cond_false] at step
          cases hgt : decide (x > y) with
          | true => rw [hgt, cond_true] at step; rw [show l140_26 ((xs, (ys, (xs, ((xs.length : Int), ((k : Int), ()))))), ()) = _ from loopF_r step]; rfl
          | false =>
            rw [hgt, cond_false] at step
            rw [show l140_26 ((xs, (ys, (xs, ((xs.length : Int), ((k : Int), ()))))), ()) = _ from loopF_l step]
            exact ih ws (k + 1) c3 e3 (by omega)
  have := key xs ys 0 rfl rfl (Nat.zero_le _)
  simp only [f140]
  exact this

def ordV (a b : Str) : Int := bif versOk a && versOk b then ordL (versL a) (versL b) else 0
theorem versL_nonneg {s : Str} (h : versOk s = true) : ∀ x, x ∈ versL s → 0 ≤ x := by
  intro x hx
  unfold versL at hx
  obtain ⟨p, hp, rfl⟩ := List.mem_map.1 hx
  unfold versOk at h
  simp only [Bool.and_eq_true] at h
  have := List.all_eq_true.1 h.1 p hp
  unfold numB at this
  simp only [Bool.and_eq_true] at this
  exact val_nonneg p 0 this.1.1.1.1 (Int.le_refl _)
theorem versL_len (s : Str) : (versL s).length ≤ s.length + 1 := by
  unfold versL partsL
  rw [List.length_map]
  exact splitL_len 46 s

theorem v_VersionOrder (a) (h1 : a.1.1.length ≤ 2097151) (h2 : a.1.2.1.length ≤ 2097151) : f88 a = some ((ordV a.1.1 a.1.2.1, ()), ()) := by
  obtain ⟨⟨x, y, u⟩, u'⟩ := a
  have h1 : x.length ≤ 2097151 := h1
  have h2 : y.length ≤ 2097151 := h2
  obtain ⟨o1, e1, q1⟩ := v_l3Parts ((x, ()), ()) (show x.length ≤ 2097152 by omega)
  obtain ⟨o2, e2, q2⟩ := v_l3Parts ((y, ()), ()) (show y.length ≤ 2097152 by omega)
  simp only [f88, e1, e2, Option.bind_some, g88_60, ordV, Bool.not_not]
  cases hx : versOk x with
  | false => rfl
  | true =>
    cases hy : versOk y with
    | false => rfl
    | true =>
      have hx1 := versL_len x
      have hy1 := versL_len y
      have w1 : o1 = versL x := q1 hx
      have w2 : o2 = versL y := q2 hy
      subst w1 w2
      have e3 := v_l3Order ((versL x, (versL y, ())), ()) (show (versL x).length ≤ 2097152 by omega) (show (versL y).length ≤ 2097152 by omega) (versL_nonneg hx) (versL_nonneg hy)
      simp only [cond_true, Bool.not_true, Option.bind_some, cond_false, e3, Bool.and_self]

theorem v_iVersionOrder (a) (h1 : a.1.1.length ≤ 2097151) (h2 : a.1.2.1.length ≤ 2097151) : f83 a = some ((ordV a.1.1 a.1.2.1, ()), ()) := by
  obtain ⟨⟨x, y, u⟩, u'⟩ := a
  have h1 : x.length ≤ 2097151 := h1
  have h2 : y.length ≤ 2097151 := h2
  have e1 := v_readVersion ((x, ()), ()) (show x.length ≤ 2097152 by omega)
  have e2 := v_readVersion ((y, ()), ()) (show y.length ≤ 2097152 by omega)
  simp only [f83, e1, e2, Option.bind_some, g83_60, ordV, Bool.not_not]
  cases hx : versOk x with
  | false => rfl
  | true =>
    cases hy : versOk y with
    | false => rfl
    | true =>
      have hx1 := versL_len x
      have hy1 := versL_len y
      have e3 := v_Compare ((versL x, (versL y, ())), ()) (show (versL x).length ≤ 2097152 by omega) (show (versL y).length ≤ 2097152 by omega)
      simp only [cond_true, Bool.not_true, Option.bind_some, cond_false, f109, e3, Bool.and_self]

/- Needs and what fits them. -/
def fitsV (n : Need) (v : Str) : Bool := bif n.kind == 1 then ordV v n.version == 0 else bif n.kind == 2 then decide (ordV v n.version ≥ 0) else bif n.kind == 3 then decide (ordV v n.version < 0) else true

theorem v_l3Fits (a) (h1 : a.1.1.2.2.1.length ≤ 2097151) (h2 : a.1.2.2.1.length ≤ 2097151) (hn : a.1.2.1 = a.1.1.1) : f56 a = some ((fitsV ⟨a.1.1.1, a.1.1.2.1, a.1.1.2.2.1⟩ a.1.2.2.1, ()), ()) := by
  obtain ⟨⟨⟨n, k, v, u⟩, m, w, u'⟩, u''⟩ := a
  obtain rfl : m = n := hn
  have e1 := v_VersionOrder ((w, (v, ())), ()) h2 h1
  have e0 : (m == m) = true := by simp
  simp only [f56, e0, e1, Bool.not_true, cond_false, Option.bind_some, fitsV]
  cases (k == 1) <;> cases (k == 2) <;> cases (k == 3) <;> rfl

def fitsB (n : Need) (name v : Str) : Bool := needOk n && versOk v && (name == n.name) && fitsV n v
theorem v_NeedFits (a) (h0 : Bd a.1.1.1.length) (h1 : a.1.1.2.2.1.length ≤ 2097151) (h2 : a.1.2.2.1.length ≤ 2097151) : f51 a = some ((fitsB ⟨a.1.1.1, a.1.1.2.1, a.1.1.2.2.1⟩ a.1.2.1 a.1.2.2.1, ()), ()) := by
  obtain ⟨⟨⟨n, k, v, u⟩, m, w, u'⟩, u''⟩ := a
  have h1 : v.length ≤ 2097151 := h1
  have h2 : w.length ≤ 2097151 := h2
  have e1 := v_iVersionOrder ((w, (v, ())), ()) h2 h1
  have e2 := v_iNeedOk (((n, (k, (v, ()))), ()), ()) h0 (show v.length ≤ 2097152 by omega)
  have e3 := v_iVersionOk ((w, ()), ()) (show w.length ≤ 2097152 by omega)
  simp only [f51, g51_12, e1, e2, e3, Bool.not_not, Option.bind_some, fitsB, fitsV]
  cases needOk ⟨n, k, v⟩ with
  | false => rfl
  | true =>
    cases versOk w with
    | false => rfl
    | true =>
      cases (m == n) with
      | false => rfl
      | true =>
        simp only [cond_true, Bool.not_true, Option.bind_some, cond_false, Bool.true_and]
        cases (k == 1) <;> cases (k == 2) <;> cases (k == 3) <;> simp only [cond_true, cond_false, Option.bind_some, e1]
end Go.Proofs

set_option maxRecDepth 100000
set_option linter.unusedVariables false
namespace Go.Proofs
open Go.Jk
-- 93v0 loop.example/jackstay/impl.needsThere$1
noncomputable def c93v0 : Ctx := { tt := tt, fs := fun n => match n with | 51 => some S51 | _ => none }
theorem k93v0 (h : ∀ T, (tt T).ok Tryz.prog T) (h51 : SummOk Tryz.prog 51 S51) : CtxGood Tryz.prog c93v0 := ⟨⟨h⟩, fun g S hg => (by
  simp only [c93v0] at hg
  split at hg
  · cases hg; exact h51
  · cases hg), tt_mo, fun _ _ h => (by cases h)⟩
noncomputable def b93v0 : Code := codeOf Tryz.f93
@[reducible] noncomputable def i93v0 : Shape := ⟨[(0, .agg [.d (.str), .d (.str), .d (.sl .need), .d (.sl .entry)]), (1, .lf (.rptr [.str, .int .i64, .str] 0))], [], 10⟩
@[reducible] noncomputable def o93v0 : Shape := ⟨[(3, .lf (.d (.bool)))], [], 10⟩
noncomputable def f93v0 (a : i93v0.Y) : Option o93v0.Y :=
(f51 (((a.1.2.1.1, (a.1.2.1.2.1, (a.1.2.1.2.2.1, ()))), (a.1.1.1, (a.1.1.2.1, ()))), ())).bind fun r1131 =>
  some ((r1131.1.1, ()), ())
theorem e93v0 : ∀ a, f93v0 a = bodyF (ctxWith c93v0 []) b93v0 i93v0 o93v0 a := fun a => by kernel_rfl
noncomputable def S93v0 : Summ := funSumm tt 10 i93v0 o93v0 [.tmp 3] f93v0
theorem z93v0 (h : ∀ T, (tt T).ok Tryz.prog T) (h51 : SummOk Tryz.prog 51 S51) : SummOk Tryz.prog 93 S93v0 :=
  have H := k93v0 h h51
  fun_at (fn := Tryz.f93) (fr := []) H (by kernel_rfl) (by kernel_rfl) (by kernel_rfl) (by kernel_rfl) (by kernel_rfl) frags_nil (fun y => ⟨_, rfl, rfl⟩) e93v0
end Go.Proofs

set_option maxRecDepth 100000
set_option linter.unusedVariables false
namespace Go.Proofs
open Go.Jk
-- 121v0 slices.IndexFunc[[]loop.example/jackstay/impl.Pack,loop.example/jackstay/impl.Pack]
noncomputable def c121v0 : Ctx := { tt := tt, fs := fun n => match n with | 93 => some S93v0 | _ => none }
theorem k121v0 (h : ∀ T, (tt T).ok Tryz.prog T) (h93v0 : SummOk Tryz.prog 93 S93v0) : CtxGood Tryz.prog c121v0 := ⟨⟨h⟩, fun g S hg => (by
  simp only [c121v0] at hg
  split at hg
  · cases hg; exact h93v0
  · cases hg), tt_mo, fun _ _ h => (by cases h)⟩
noncomputable def b121v0 : Code := codeOf Tryz.f121
@[reducible] noncomputable def s121v0_26 : Shape := ⟨[(0, .lf (.d (.sl .pack))), (1, .lf (.fn 93 [[.str, .int .i64, .str]])), (7, .lf (.d (.int .i64))), (8, .lf (.d (.int .i64)))], [], 19⟩
@[reducible] noncomputable def t121v0_26 : List OSh := [(.ret, ⟨[(4, .lf (.d (.int .i64)))], [], 19⟩), (.exit 0, ⟨[], [], 19⟩)]
noncomputable def g121v0_26 (y : s121v0_26.Y) : Option (Sum s121v0_26.Y (YS t121v0_26)) :=
  bif (decide (y.1.2.2.2.1 < y.1.2.2.1)) then
(ix y.1.1 y.1.2.2.2.1).bind fun x1137 =>
(f93v0 (((x1137.name, (x1137.version, (x1137.needs, (x1137.tree, ())))), ((y.1.2.1.1.1, (y.1.2.1.1.2.1, (y.1.2.1.1.2.2.1, ()))), ())), ())).bind fun r1138 =>
  bif r1138.1.1 then
  some (.inr (.inl ((y.1.2.2.2.1, ()), ())))
else
  some (.inl ((y.1.1, (((y.1.2.1.1.1, (y.1.2.1.1.2.1, (y.1.2.1.1.2.2.1, ()))), ()), (y.1.2.2.1, ((IntKind.i64.wrap (y.1.2.2.2.1 + (1 : Int))), ())))), ()))
else
  some (.inr (.inr ((), ())))
theorem r121v0_26 : ∀ y, g121v0_26 y = roundF (ctxWith c121v0 []) (unloop (codeAt b121v0 1 26)) 26 s121v0_26 t121v0_26 y := fun y => by kernel_rfl
noncomputable def l121v0_26 : s121v0_26.Y → Option (YS t121v0_26) := loopF g121v0_26
theorem q121v0_26 (H : CtxGood Tryz.prog c121v0) : FragOk Tryz.prog (codeAt b121v0 1 26) (fragOrc s121v0_26 t121v0_26 l121v0_26) :=
  loop_at (fr := []) H (by kernel_rfl) (by kernel_rfl) frags_nil (fun y => iter_congr r121v0_26 y)
@[reducible] noncomputable def i121v0 : Shape := ⟨[(0, .lf (.d (.sl .pack))), (1, .lf (.fn 93 [[.str, .int .i64, .str]]))], [], 19⟩
@[reducible] noncomputable def o121v0 : Shape := ⟨[(4, .lf (.d (.int .i64)))], [], 19⟩
noncomputable def f121v0 (a : i121v0.Y) : Option o121v0.Y :=
(l121v0_26 ((a.1.1, (((a.1.2.1.1.1, (a.1.2.1.1.2.1, (a.1.2.1.1.2.2.1, ()))), ()), ((a.1.1.length : Int), ((0 : Int), ())))), ())).bind fun r1142 =>
(match r1142 with
| .inl r1143 =>
  some ((r1143.1.1, ()), ())
| .inr r1144 =>
  some ((((-1) : Int), ()), ()))
theorem e121v0 : ∀ a, f121v0 a = bodyF (ctxWith c121v0 [(26, fragOrc s121v0_26 t121v0_26 l121v0_26)]) b121v0 i121v0 o121v0 a := fun a => by kernel_rfl
noncomputable def S121v0 : Summ := funSumm tt 19 i121v0 o121v0 [.tmp 4] f121v0
theorem z121v0 (h : ∀ T, (tt T).ok Tryz.prog T) (h93v0 : SummOk Tryz.prog 93 S93v0) : SummOk Tryz.prog 121 S121v0 :=
  have H := k121v0 h h93v0
  fun_at (fn := Tryz.f121) (fr := [(26, fragOrc s121v0_26 t121v0_26 l121v0_26)]) H (by kernel_rfl) (by kernel_rfl) (by kernel_rfl) (by kernel_rfl) (by kernel_rfl) ⟨q121v0_26 H, trivial⟩ (fun y => ⟨_, rfl, rfl⟩) e121v0
end Go.Proofs

set_option maxRecDepth 100000
set_option linter.unusedVariables false
namespace Go.Proofs
open Go.Jk
-- 54 loop.example/jackstay/spec.l8Pack
noncomputable def c54 : Ctx := { tt := tt, fs := fun n => match n with | _ => none }
theorem k54 (h : ∀ T, (tt T).ok Tryz.prog T) : CtxGood Tryz.prog c54 := ⟨⟨h⟩, fun g S hg => (by cases hg), tt_mo, fun _ _ h => (by cases h)⟩
noncomputable def b54 : Code := codeOf Tryz.f54
@[reducible] noncomputable def s54_26 : Shape := ⟨[(0, .lf (.d (.sl .pack))), (1, .lf (.d (.str))), (5, .lf (.d (.int .i64)))], [], 20⟩
@[reducible] noncomputable def t54_26 : List OSh := [(.ret, ⟨[(4, .lf (.d (.int .i64)))], [], 20⟩), (.exit 0, ⟨[], [], 20⟩)]
noncomputable def g54_26 (y : s54_26.Y) : Option (Sum s54_26.Y (YS t54_26)) :=
  bif (decide (y.1.2.2.1 < (y.1.1.length : Int))) then
(ix y.1.1 y.1.2.2.1).bind fun x579 =>
  bif (x579.name == y.1.2.1) then
  some (.inr (.inl ((y.1.2.2.1, ()), ())))
else
  some (.inl ((y.1.1, (y.1.2.1, ((IntKind.i64.wrap (y.1.2.2.1 + (1 : Int))), ()))), ()))
else
  some (.inr (.inr ((), ())))
theorem r54_26 : ∀ y, g54_26 y = roundF (ctxWith c54 []) (unloop (codeAt b54 1 26)) 26 s54_26 t54_26 y := fun y => by kernel_rfl
noncomputable def l54_26 : s54_26.Y → Option (YS t54_26) := loopF g54_26
theorem q54_26 (H : CtxGood Tryz.prog c54) : FragOk Tryz.prog (codeAt b54 1 26) (fragOrc s54_26 t54_26 l54_26) :=
  loop_at (fr := []) H (by kernel_rfl) (by kernel_rfl) frags_nil (fun y => iter_congr r54_26 y)
@[reducible] noncomputable def i54 : Shape := ⟨[(0, .lf (.d (.sl .pack))), (1, .lf (.d (.str)))], [], 20⟩
@[reducible] noncomputable def o54 : Shape := ⟨[(4, .lf (.d (.int .i64)))], [], 20⟩
noncomputable def f54 (a : i54.Y) : Option o54.Y :=
(l54_26 ((a.1.1, (a.1.2.1, ((0 : Int), ()))), ())).bind fun r583 =>
(match r583 with
| .inl r584 =>
  some ((r584.1.1, ()), ())
| .inr r585 =>
  some ((((-1) : Int), ()), ()))
theorem e54 : ∀ a, f54 a = bodyF (ctxWith c54 [(26, fragOrc s54_26 t54_26 l54_26)]) b54 i54 o54 a := fun a => by kernel_rfl
noncomputable def S54 : Summ := funSumm tt 20 i54 o54 [.tmp 4] f54
theorem z54 (h : ∀ T, (tt T).ok Tryz.prog T) : SummOk Tryz.prog 54 S54 :=
  have H := k54 h
  fun_at (fn := Tryz.f54) (fr := [(26, fragOrc s54_26 t54_26 l54_26)]) H (by kernel_rfl) (by kernel_rfl) (by kernel_rfl) (by kernel_rfl) (by kernel_rfl) ⟨q54_26 H, trivial⟩ (fun y => ⟨_, rfl, rfl⟩) e54
end Go.Proofs

set_option maxRecDepth 100000
set_option linter.unusedVariables false
namespace Go.Proofs
open Go.Jk
-- 58 loop.example/jackstay/spec.l9Needs
noncomputable def c58 : Ctx := { tt := tt, fs := fun n => match n with | 54 => some S54 | 56 => some S56 | _ => none }
theorem k58 (h : ∀ T, (tt T).ok Tryz.prog T) (h54 : SummOk Tryz.prog 54 S54) (h56 : SummOk Tryz.prog 56 S56) : CtxGood Tryz.prog c58 := ⟨⟨h⟩, fun g S hg => (by
  simp only [c58] at hg
  split at hg
  · cases hg; exact h54
  · cases hg; exact h56
  · cases hg), tt_mo, fun _ _ h => (by cases h)⟩
noncomputable def b58 : Code := codeOf Tryz.f58
@[reducible] noncomputable def s58_215334 : Shape := ⟨[(0, .lf (.d (.sl .pack))), (3, .lf (.d (.int .i64))), (4, .lf (.d (.int .i64))), (5, .lf (.ptr 5 0)), (6, .lf (.d (.int .i64)))], [(5, .box [.d (.str), .d (.int .i64), .d (.str)], .same)], 49⟩
@[reducible] noncomputable def t58_215334 : List OSh := [(.norm, ⟨[(0, .lf (.d (.sl .pack))), (3, .lf (.d (.int .i64))), (4, .lf (.d (.int .i64))), (35, .lf (.d (.int .i64))), (36, .lf (.d (.bool))), (37, .lf (.d (.bool))), (48, .lf (.d (.bool)))], [], 49⟩)]
noncomputable def g58_215334 (y : s58_215334.Y) : Option (YS t58_215334) :=
  bif (decide (y.1.2.2.2.2.1 < (0 : Int))) then
  some (((y.1.1, (y.1.2.1, (y.1.2.2.1, (y.1.2.2.2.2.1, ((decide (y.1.2.2.2.2.1 < (0 : Int))), (true, (true, ()))))))), ()))
else
(ix y.1.1 y.1.2.2.2.2.1).bind fun x651 =>
(f56 (((y.2.1.1, (y.2.1.2.1, (y.2.1.2.2.1, ()))), (y.2.1.1, (x651.version, ()))), ())).bind fun r652 =>
  some (((y.1.1, (y.1.2.1, (y.1.2.2.1, (y.1.2.2.2.2.1, ((decide (y.1.2.2.2.2.1 < (0 : Int))), (false, ((!r652.1.1), ()))))))), ()))
theorem r58_215334 : ∀ y, g58_215334 y = pieceF (ctxWith c58 []) (codeAt (unloop (codeAt (unloop (codeAt b58 1 26)) 52 1682)) 3364 215334) 215334 s58_215334 t58_215334 y := fun y => by kernel_rfl
theorem q58_215334 (H : CtxGood Tryz.prog c58) : FragOk Tryz.prog (codeAt (unloop (codeAt (unloop (codeAt b58 1 26)) 52 1682)) 3364 215334) (fragOrc s58_215334 t58_215334 g58_215334) :=
  piece_at (fr := []) H (by kernel_rfl) frags_nil r58_215334
@[reducible] noncomputable def s58_1682 : Shape := ⟨[(0, .lf (.d (.sl .pack))), (3, .lf (.d (.int .i64))), (4, .lf (.d (.int .i64)))], [], 49⟩
@[reducible] noncomputable def t58_1682 : List OSh := [(.ret, ⟨[(2, .lf (.d (.bool)))], [], 49⟩), (.exit 2, ⟨[(0, .lf (.d (.sl .pack))), (3, .lf (.d (.int .i64)))], [], 49⟩)]
noncomputable def g58_1682 (y : s58_1682.Y) : Option (Sum s58_1682.Y (YS t58_1682)) :=
(ix y.1.1 y.1.2.1).bind fun x655 =>
  bif (decide (y.1.2.2.1 < (x655.needs.length : Int))) then
(ix y.1.1 y.1.2.1).bind fun x658 =>
(ix x658.needs y.1.2.2.1).bind fun x659 =>
(f54 ((y.1.1, (x659.name, ())), ())).bind fun r661 =>
(g58_215334 ((y.1.1, (y.1.2.1, (y.1.2.2.1, ((), (r661.1.1, ()))))), ((x659.name, (x659.kind, (x659.version, ()))), ()))).bind fun r662 =>
  bif r662.1.2.2.2.2.2.2.1 then
  some (.inr (.inl ((false, ()), ())))
else
  some (.inl ((r662.1.1, (r662.1.2.1, ((IntKind.i64.wrap (r662.1.2.2.1 + (1 : Int))), ()))), ()))
else
  some (.inr (.inr ((y.1.1, (y.1.2.1, ())), ())))
theorem r58_1682 : ∀ y, g58_1682 y = roundF (ctxWith c58 [(215334, fragOrc s58_215334 t58_215334 g58_215334)]) (unloop (codeAt (unloop (codeAt b58 1 26)) 52 1682)) 1682 s58_1682 t58_1682 y := fun y => by kernel_rfl
noncomputable def l58_1682 : s58_1682.Y → Option (YS t58_1682) := loopF g58_1682
theorem q58_1682 (H : CtxGood Tryz.prog c58) : FragOk Tryz.prog (codeAt (unloop (codeAt b58 1 26)) 52 1682) (fragOrc s58_1682 t58_1682 l58_1682) :=
  loop_at (fr := [(215334, fragOrc s58_215334 t58_215334 g58_215334)]) H (by kernel_rfl) (by kernel_rfl) ⟨q58_215334 H, trivial⟩ (fun y => iter_congr r58_1682 y)
@[reducible] noncomputable def s58_26 : Shape := ⟨[(0, .lf (.d (.sl .pack))), (3, .lf (.d (.int .i64)))], [], 49⟩
@[reducible] noncomputable def t58_26 : List OSh := [(.ret, ⟨[(2, .lf (.d (.bool)))], [], 49⟩), (.exit 0, ⟨[], [], 49⟩)]
noncomputable def g58_26 (y : s58_26.Y) : Option (Sum s58_26.Y (YS t58_26)) :=
  bif (decide (y.1.2.1 < (y.1.1.length : Int))) then
(l58_1682 ((y.1.1, (y.1.2.1, ((0 : Int), ()))), ())).bind fun r666 =>
(match r666 with
| .inl r667 =>
  some (.inr (.inl ((r667.1.1, ()), ())))
| .inr r668 =>
  some (.inl ((r668.1.1, ((IntKind.i64.wrap (r668.1.2.1 + (1 : Int))), ())), ())))
else
  some (.inr (.inr ((), ())))
theorem r58_26 : ∀ y, g58_26 y = roundF (ctxWith c58 [(1682, fragOrc s58_1682 t58_1682 l58_1682)]) (unloop (codeAt b58 1 26)) 26 s58_26 t58_26 y := fun y => by kernel_rfl
noncomputable def l58_26 : s58_26.Y → Option (YS t58_26) := loopF g58_26
theorem q58_26 (H : CtxGood Tryz.prog c58) : FragOk Tryz.prog (codeAt b58 1 26) (fragOrc s58_26 t58_26 l58_26) :=
  loop_at (fr := [(1682, fragOrc s58_1682 t58_1682 l58_1682)]) H (by kernel_rfl) (by kernel_rfl) ⟨q58_1682 H, trivial⟩ (fun y => iter_congr r58_26 y)
@[reducible] noncomputable def i58 : Shape := ⟨[(0, .lf (.d (.sl .pack)))], [], 49⟩
@[reducible] noncomputable def o58 : Shape := ⟨[(2, .lf (.d (.bool)))], [], 49⟩
noncomputable def f58 (a : i58.Y) : Option o58.Y :=
(l58_26 ((a.1.1, ((0 : Int), ())), ())).bind fun r672 =>
(match r672 with
| .inl r673 =>
  some ((r673.1.1, ()), ())
| .inr r674 =>
  some ((true, ()), ()))
theorem e58 : ∀ a, f58 a = bodyF (ctxWith c58 [(26, fragOrc s58_26 t58_26 l58_26)]) b58 i58 o58 a := fun a => by kernel_rfl
noncomputable def S58 : Summ := funSumm tt 49 i58 o58 [.tmp 2] f58
theorem z58 (h : ∀ T, (tt T).ok Tryz.prog T) (h54 : SummOk Tryz.prog 54 S54) (h56 : SummOk Tryz.prog 56 S56) : SummOk Tryz.prog 58 S58 :=
  have H := k58 h h54 h56
  fun_at (fn := Tryz.f58) (fr := [(26, fragOrc s58_26 t58_26 l58_26)]) H (by kernel_rfl) (by kernel_rfl) (by kernel_rfl) (by kernel_rfl) (by kernel_rfl) ⟨q58_26 H, trivial⟩ (fun y => ⟨_, rfl, rfl⟩) e58
end Go.Proofs

set_option maxRecDepth 100000
set_option linter.unusedVariables false
namespace Go.Proofs
open Go.Jk
-- 36 loop.example/jackstay/spec.l9Check
noncomputable def c36 : Ctx := { tt := tt, fs := fun n => match n with | 42 => some S42 | 52 => some S52 | 58 => some S58 | _ => none }
theorem k36 (h : ∀ T, (tt T).ok Tryz.prog T) (h42 : SummOk Tryz.prog 42 S42) (h52 : SummOk Tryz.prog 52 S52) (h58 : SummOk Tryz.prog 58 S58) : CtxGood Tryz.prog c36 := ⟨⟨h⟩, fun g S hg => (by
  simp only [c36] at hg
  split at hg
  · cases hg; exact h42
  · cases hg; exact h52
  · cases hg; exact h58
  · cases hg), tt_mo, fun _ _ h => (by cases h)⟩
noncomputable def b36 : Code := codeOf Tryz.f36
@[reducible] noncomputable def s36_840 : Shape := ⟨[(0, .lf (.d (.sl .pack))), (3, .lf (.d (.int .i64)))], [], 52⟩
@[reducible] noncomputable def t36_840 : List OSh := [(.norm, ⟨[(0, .lf (.d (.sl .pack))), (3, .lf (.d (.int .i64))), (12, .lf (.d (.sl .pack))), (13, .lf (.d (.int .i64))), (14, .lf (.rptr [.str, .str, .sl .need, .sl .entry] 0)), (15, .agg [.d (.str), .d (.str), .d (.sl .need), .d (.sl .entry)]), (16, .lf (.d (.bool))), (17, .lf (.d (.bool))), (18, .lf (.d (.bool))), (35, .lf (.d (.bool)))], [], 52⟩)]
noncomputable def g36_840 (y : s36_840.Y) : Option (YS t36_840) :=
(ix y.1.1 y.1.2.1).bind fun x471 =>
(f52 (((x471.name, (x471.version, (x471.needs, (x471.tree, ())))), ()), ())).bind fun r472 =>
  bif (!r472.1.1) then
  some (((y.1.1, (y.1.2.1, (y.1.1, (y.1.2.1, ((x471.name, (x471.version, (x471.needs, (x471.tree, ())))), ((x471.name, (x471.version, (x471.needs, (x471.tree, ())))), (r472.1.1, ((!r472.1.1), (true, (true, ())))))))))), ()))
else
  bif (decide (y.1.2.1 > (0 : Int))) then
(ix y.1.1 (IntKind.i64.wrap (y.1.2.1 - (1 : Int)))).bind fun x473 =>
(ix y.1.1 y.1.2.1).bind fun x474 =>
  some (((y.1.1, (y.1.2.1, (y.1.1, (y.1.2.1, ((x471.name, (x471.version, (x471.needs, (x471.tree, ())))), ((x471.name, (x471.version, (x471.needs, (x471.tree, ())))), (r472.1.1, ((!r472.1.1), (false, ((!(Op.bytesLess x473.name x474.name)), ())))))))))), ()))
else
  some (((y.1.1, (y.1.2.1, (y.1.1, (y.1.2.1, ((x471.name, (x471.version, (x471.needs, (x471.tree, ())))), ((x471.name, (x471.version, (x471.needs, (x471.tree, ())))), (r472.1.1, ((!r472.1.1), (false, (false, ())))))))))), ()))
theorem r36_840 : ∀ y, g36_840 y = pieceF (ctxWith c36 []) (codeAt (unloop (codeAt b36 1 26)) 52 840) 840 s36_840 t36_840 y := fun y => by kernel_rfl
theorem q36_840 (H : CtxGood Tryz.prog c36) : FragOk Tryz.prog (codeAt (unloop (codeAt b36 1 26)) 52 840) (fragOrc s36_840 t36_840 g36_840) :=
  piece_at (fr := []) H (by kernel_rfl) frags_nil r36_840
@[reducible] noncomputable def s36_26 : Shape := ⟨[(0, .lf (.d (.sl .pack))), (3, .lf (.d (.int .i64)))], [], 52⟩
@[reducible] noncomputable def t36_26 : List OSh := [(.ret, ⟨[(2, .lf (.d (.int .i64)))], [], 52⟩), (.exit 0, ⟨[(0, .lf (.d (.sl .pack)))], [], 52⟩)]
noncomputable def g36_26 (y : s36_26.Y) : Option (Sum s36_26.Y (YS t36_26)) :=
  bif (decide (y.1.2.1 < (y.1.1.length : Int))) then
(g36_840 ((y.1.1, (y.1.2.1, ())), ())).bind fun r476 =>
  bif r476.1.2.2.2.2.2.2.2.2.2.1 then
  some (.inr (.inl (((1 : Int), ()), ())))
else
  some (.inl ((r476.1.1, ((IntKind.i64.wrap (r476.1.2.1 + (1 : Int))), ())), ()))
else
  some (.inr (.inr ((y.1.1, ()), ())))
theorem r36_26 : ∀ y, g36_26 y = roundF (ctxWith c36 [(840, fragOrc s36_840 t36_840 g36_840)]) (unloop (codeAt b36 1 26)) 26 s36_26 t36_26 y := fun y => by kernel_rfl
noncomputable def l36_26 : s36_26.Y → Option (YS t36_26) := loopF g36_26
theorem q36_26 (H : CtxGood Tryz.prog c36) : FragOk Tryz.prog (codeAt b36 1 26) (fragOrc s36_26 t36_26 l36_26) :=
  loop_at (fr := [(840, fragOrc s36_840 t36_840 g36_840)]) H (by kernel_rfl) (by kernel_rfl) ⟨q36_840 H, trivial⟩ (fun y => iter_congr r36_26 y)
@[reducible] noncomputable def i36 : Shape := ⟨[(0, .lf (.d (.sl .pack)))], [], 52⟩
@[reducible] noncomputable def o36 : Shape := ⟨[(2, .lf (.d (.int .i64)))], [], 52⟩
noncomputable def f36 (a : i36.Y) : Option o36.Y :=
(l36_26 ((a.1.1, ((0 : Int), ())), ())).bind fun r680 =>
(match r680 with
| .inl r681 =>
  some ((r681.1.1, ()), ())
| .inr r682 =>
(f42 ((r682.1.1, ()), ())).bind fun r684 =>
  bif (decide ((r682.1.1.length : Int) > (5 : Int))) then
  some (((6 : Int), ()), ())
else
(f58 ((r682.1.1, ()), ())).bind fun r686 =>
  bif (!r686.1.1) then
  some (((4 : Int), ()), ())
else
  bif (!r684.1.2.1) then
  some (((5 : Int), ()), ())
else
  some (((0 : Int), ()), ()))
theorem e36 : ∀ a, f36 a = bodyF (ctxWith c36 [(26, fragOrc s36_26 t36_26 l36_26)]) b36 i36 o36 a := fun a => by kernel_rfl
noncomputable def S36 : Summ := funSumm tt 52 i36 o36 [.tmp 2] f36
theorem z36 (h : ∀ T, (tt T).ok Tryz.prog T) (h42 : SummOk Tryz.prog 42 S42) (h52 : SummOk Tryz.prog 52 S52) (h58 : SummOk Tryz.prog 58 S58) : SummOk Tryz.prog 36 S36 :=
  have H := k36 h h42 h52 h58
  fun_at (fn := Tryz.f36) (fr := [(26, fragOrc s36_26 t36_26 l36_26)]) H (by kernel_rfl) (by kernel_rfl) (by kernel_rfl) (by kernel_rfl) (by kernel_rfl) ⟨q36_26 H, trivial⟩ (fun y => ⟨_, rfl, rfl⟩) e36
end Go.Proofs

set_option maxRecDepth 100000
set_option linter.unusedVariables false
namespace Go.Proofs
open Go.Jk
-- 15 loop.example/jackstay/spec.RootOk
noncomputable def c15 : Ctx := { tt := tt, fs := fun n => match n with | 36 => some S36 | _ => none }
theorem k15 (h : ∀ T, (tt T).ok Tryz.prog T) (h36 : SummOk Tryz.prog 36 S36) : CtxGood Tryz.prog c15 := ⟨⟨h⟩, fun g S hg => (by
  simp only [c15] at hg
  split at hg
  · cases hg; exact h36
  · cases hg), tt_mo, fun _ _ h => (by cases h)⟩
noncomputable def b15 : Code := codeOf Tryz.f15
@[reducible] noncomputable def i15 : Shape := ⟨[(0, .agg [.d (.sl .pack)])], [], 7⟩
@[reducible] noncomputable def o15 : Shape := ⟨[(2, .lf (.d (.bool)))], [], 7⟩
noncomputable def f15 (a : i15.Y) : Option o15.Y :=
(f36 ((a.1.1.1, ()), ())).bind fun r688 =>
  some (((r688.1.1 == (0 : Int)), ()), ())
theorem e15 : ∀ a, f15 a = bodyF (ctxWith c15 []) b15 i15 o15 a := fun a => by kernel_rfl
noncomputable def S15 : Summ := funSumm tt 7 i15 o15 [.tmp 2] f15
theorem z15 (h : ∀ T, (tt T).ok Tryz.prog T) (h36 : SummOk Tryz.prog 36 S36) : SummOk Tryz.prog 15 S15 :=
  have H := k15 h h36
  fun_at (fn := Tryz.f15) (fr := []) H (by kernel_rfl) (by kernel_rfl) (by kernel_rfl) (by kernel_rfl) (by kernel_rfl) frags_nil (fun y => ⟨_, rfl, rfl⟩) e15
end Go.Proofs

set_option maxRecDepth 100000
set_option linter.unusedVariables false
namespace Go.Proofs
open Go.Jk
-- 60v0 loop.example/jackstay/impl.rootCode$1
noncomputable def c60v0 : Ctx := { tt := tt, fs := fun n => match n with | 49 => some S49v0 | 61 => some S61 | _ => none }
theorem k60v0 (h : ∀ T, (tt T).ok Tryz.prog T) (h49v0 : SummOk Tryz.prog 49 S49v0) (h61 : SummOk Tryz.prog 61 S61) : CtxGood Tryz.prog c60v0 := ⟨⟨h⟩, fun g S hg => (by
  simp only [c60v0] at hg
  split at hg
  · cases hg; exact h49v0
  · cases hg; exact h61
  · cases hg), tt_mo, fun _ _ h => (by cases h)⟩
noncomputable def b60v0 : Code := codeOf Tryz.f60
@[reducible] noncomputable def s60v0_12 : Shape := ⟨[(0, .lf (.rptr [.sl .pack] 0))], [], 10⟩
@[reducible] noncomputable def t60v0_12 : List OSh := [(.norm, ⟨[(9, .lf (.d (.bool)))], [], 10⟩)]
noncomputable def g60v0_12 (y : s60v0_12.Y) : Option (YS t60v0_12) :=
(f49v0 ((y.1.1.1, ((), ())), ())).bind fun r1051 =>
  bif (!(!r1051.1.1)) then
(f61 ((y.1.1.1, ()), ())).bind fun r1052 =>
  some ((((!r1052.1.1), ()), ()))
else
  some (((true, ()), ()))
theorem r60v0_12 : ∀ y, g60v0_12 y = pieceF (ctxWith c60v0 []) (codeAt b60v0 1 12) 12 s60v0_12 t60v0_12 y := fun y => by kernel_rfl
theorem q60v0_12 (H : CtxGood Tryz.prog c60v0) : FragOk Tryz.prog (codeAt b60v0 1 12) (fragOrc s60v0_12 t60v0_12 g60v0_12) :=
  piece_at (fr := []) H (by kernel_rfl) frags_nil r60v0_12
@[reducible] noncomputable def i60v0 : Shape := ⟨[(0, .lf (.rptr [.sl .pack] 0))], [], 10⟩
@[reducible] noncomputable def o60v0 : Shape := ⟨[(1, .lf (.d (.int .i64)))], [], 10⟩
noncomputable def f60v0 (a : i60v0.Y) : Option o60v0.Y :=
(g60v0_12 (((a.1.1.1, ()), ()), ())).bind fun r1054 =>
  bif r1054.1.1 then
  some (((1 : Int), ()), ())
else
  some (((0 : Int), ()), ())
theorem e60v0 : ∀ a, f60v0 a = bodyF (ctxWith c60v0 [(12, fragOrc s60v0_12 t60v0_12 g60v0_12)]) b60v0 i60v0 o60v0 a := fun a => by kernel_rfl
noncomputable def S60v0 : Summ := funSumm tt 10 i60v0 o60v0 [.tmp 1] f60v0
theorem z60v0 (h : ∀ T, (tt T).ok Tryz.prog T) (h49v0 : SummOk Tryz.prog 49 S49v0) (h61 : SummOk Tryz.prog 61 S61) : SummOk Tryz.prog 60 S60v0 :=
  have H := k60v0 h h49v0 h61
  fun_at (fn := Tryz.f60) (fr := [(12, fragOrc s60v0_12 t60v0_12 g60v0_12)]) H (by kernel_rfl) (by kernel_rfl) (by kernel_rfl) (by kernel_rfl) (by kernel_rfl) ⟨q60v0_12 H, trivial⟩ (fun y => ⟨_, rfl, rfl⟩) e60v0
end Go.Proofs

set_option maxRecDepth 100000
set_option linter.unusedVariables false
namespace Go.Proofs
open Go.Jk
-- 62v0 loop.example/jackstay/impl.rootCode$2
noncomputable def c62v0 : Ctx := { tt := tt, fs := fun n => match n with | _ => none }
theorem k62v0 (h : ∀ T, (tt T).ok Tryz.prog T) : CtxGood Tryz.prog c62v0 := ⟨⟨h⟩, fun g S hg => (by cases hg), tt_mo, fun _ _ h => (by cases h)⟩
noncomputable def b62v0 : Code := codeOf Tryz.f62
@[reducible] noncomputable def i62v0 : Shape := ⟨[(0, .lf (.rptr [.sl .pack] 0))], [], 5⟩
@[reducible] noncomputable def o62v0 : Shape := ⟨[(1, .lf (.d (.int .i64)))], [], 5⟩
noncomputable def f62v0 (a : i62v0.Y) : Option o62v0.Y :=
  bif (decide ((a.1.1.1.length : Int) > (5 : Int))) then
  some (((6 : Int), ()), ())
else
  some (((0 : Int), ()), ())
theorem e62v0 : ∀ a, f62v0 a = bodyF (ctxWith c62v0 []) b62v0 i62v0 o62v0 a := fun a => by kernel_rfl
noncomputable def S62v0 : Summ := funSumm tt 5 i62v0 o62v0 [.tmp 1] f62v0
theorem z62v0 (h : ∀ T, (tt T).ok Tryz.prog T) : SummOk Tryz.prog 62 S62v0 :=
  have H := k62v0 h
  fun_at (fn := Tryz.f62) (fr := []) H (by kernel_rfl) (by kernel_rfl) (by kernel_rfl) (by kernel_rfl) (by kernel_rfl) frags_nil (fun y => ⟨_, rfl, rfl⟩) e62v0
end Go.Proofs

set_option maxRecDepth 100000
set_option linter.unusedVariables false
namespace Go.Proofs
open Go.Jk
-- 94v0 slices.ContainsFunc[[]loop.example/jackstay/impl.Pack,loop.example/jackstay/impl.Pack]
noncomputable def c94v0 : Ctx := { tt := tt, fs := fun n => match n with | 121 => some S121v0 | _ => none }
theorem k94v0 (h : ∀ T, (tt T).ok Tryz.prog T) (h121v0 : SummOk Tryz.prog 121 S121v0) : CtxGood Tryz.prog c94v0 := ⟨⟨h⟩, fun g S hg => (by
  simp only [c94v0] at hg
  split at hg
  · cases hg; exact h121v0
  · cases hg), tt_mo, fun _ _ h => (by cases h)⟩
noncomputable def b94v0 : Code := codeOf Tryz.f94
@[reducible] noncomputable def i94v0 : Shape := ⟨[(0, .lf (.d (.sl .pack))), (1, .lf (.fn 93 [[.str, .int .i64, .str]]))], [], 9⟩
@[reducible] noncomputable def o94v0 : Shape := ⟨[(4, .lf (.d (.bool)))], [], 9⟩
noncomputable def f94v0 (a : i94v0.Y) : Option o94v0.Y :=
(f121v0 ((a.1.1, (((a.1.2.1.1.1, (a.1.2.1.1.2.1, (a.1.2.1.1.2.2.1, ()))), ()), ())), ())).bind fun r1146 =>
  some (((decide (r1146.1.1 ≥ (0 : Int))), ()), ())
theorem e94v0 : ∀ a, f94v0 a = bodyF (ctxWith c94v0 []) b94v0 i94v0 o94v0 a := fun a => by kernel_rfl
noncomputable def S94v0 : Summ := funSumm tt 9 i94v0 o94v0 [.tmp 4] f94v0
theorem z94v0 (h : ∀ T, (tt T).ok Tryz.prog T) (h121v0 : SummOk Tryz.prog 121 S121v0) : SummOk Tryz.prog 94 S94v0 :=
  have H := k94v0 h h121v0
  fun_at (fn := Tryz.f94) (fr := []) H (by kernel_rfl) (by kernel_rfl) (by kernel_rfl) (by kernel_rfl) (by kernel_rfl) frags_nil (fun y => ⟨_, rfl, rfl⟩) e94v0
end Go.Proofs

set_option maxRecDepth 100000
set_option linter.unusedVariables false
namespace Go.Proofs
open Go.Jk
-- 64 loop.example/jackstay/impl.needsThere
noncomputable def c64 : Ctx := { tt := tt, fs := fun n => match n with | 94 => some S94v0 | _ => none }
theorem k64 (h : ∀ T, (tt T).ok Tryz.prog T) (h94v0 : SummOk Tryz.prog 94 S94v0) : CtxGood Tryz.prog c64 := ⟨⟨h⟩, fun g S hg => (by
  simp only [c64] at hg
  split at hg
  · cases hg; exact h94v0
  · cases hg), tt_mo, fun _ _ h => (by cases h)⟩
noncomputable def b64 : Code := codeOf Tryz.f64
@[reducible] noncomputable def s64_6758 : Shape := ⟨[(0, .lf (.d (.sl .pack))), (8, .lf (.d (.sl .pack))), (9, .lf (.d (.int .i64))), (10, .lf (.d (.int .i64))), (15, .lf (.d (.sl .need))), (16, .lf (.d (.int .i64))), (17, .lf (.d (.int .i64)))], [], 28⟩
@[reducible] noncomputable def t64_6758 : List OSh := [(.ret, ⟨[(2, .lf (.d (.bool)))], [], 28⟩), (.exit 2, ⟨[(0, .lf (.d (.sl .pack))), (8, .lf (.d (.sl .pack))), (9, .lf (.d (.int .i64))), (10, .lf (.d (.int .i64)))], [], 28⟩)]
noncomputable def g64_6758 (y : s64_6758.Y) : Option (Sum s64_6758.Y (YS t64_6758)) :=
  bif (decide (y.1.2.2.2.2.2.2.1 < y.1.2.2.2.2.2.1)) then
(ix y.1.2.2.2.2.1 y.1.2.2.2.2.2.2.1).bind fun x1150 =>
(f94v0 ((y.1.1, (((x1150.name, (x1150.kind, (x1150.version, ()))), ()), ())), ())).bind fun r1152 =>
  bif (!r1152.1.1) then
  some (.inr (.inl ((false, ()), ())))
else
  some (.inl ((y.1.1, (y.1.2.1, (y.1.2.2.1, (y.1.2.2.2.1, (y.1.2.2.2.2.1, (y.1.2.2.2.2.2.1, ((IntKind.i64.wrap (y.1.2.2.2.2.2.2.1 + (1 : Int))), ()))))))), ()))
else
  some (.inr (.inr ((y.1.1, (y.1.2.1, (y.1.2.2.1, (y.1.2.2.2.1, ())))), ())))
theorem r64_6758 : ∀ y, g64_6758 y = roundF (ctxWith c64 []) (unloop (codeAt (unloop (codeAt b64 1 26)) 52 6758)) 6758 s64_6758 t64_6758 y := fun y => by kernel_rfl
noncomputable def l64_6758 : s64_6758.Y → Option (YS t64_6758) := loopF g64_6758
theorem q64_6758 (H : CtxGood Tryz.prog c64) : FragOk Tryz.prog (codeAt (unloop (codeAt b64 1 26)) 52 6758) (fragOrc s64_6758 t64_6758 l64_6758) :=
  loop_at (fr := []) H (by kernel_rfl) (by kernel_rfl) frags_nil (fun y => iter_congr r64_6758 y)
@[reducible] noncomputable def s64_26 : Shape := ⟨[(0, .lf (.d (.sl .pack))), (8, .lf (.d (.sl .pack))), (9, .lf (.d (.int .i64))), (10, .lf (.d (.int .i64)))], [], 28⟩
@[reducible] noncomputable def t64_26 : List OSh := [(.ret, ⟨[(2, .lf (.d (.bool)))], [], 28⟩), (.exit 0, ⟨[], [], 28⟩)]
noncomputable def g64_26 (y : s64_26.Y) : Option (Sum s64_26.Y (YS t64_26)) :=
  bif (decide (y.1.2.2.2.1 < y.1.2.2.1)) then
(ix y.1.2.1 y.1.2.2.2.1).bind fun x1157 =>
(l64_6758 ((y.1.1, (y.1.2.1, (y.1.2.2.1, (y.1.2.2.2.1, (x1157.needs, ((x1157.needs.length : Int), ((0 : Int), ()))))))), ())).bind fun r1158 =>
(match r1158 with
| .inl r1159 =>
  some (.inr (.inl ((r1159.1.1, ()), ())))
| .inr r1160 =>
  some (.inl ((r1160.1.1, (r1160.1.2.1, (r1160.1.2.2.1, ((IntKind.i64.wrap (r1160.1.2.2.2.1 + (1 : Int))), ())))), ())))
else
  some (.inr (.inr ((), ())))
theorem r64_26 : ∀ y, g64_26 y = roundF (ctxWith c64 [(6758, fragOrc s64_6758 t64_6758 l64_6758)]) (unloop (codeAt b64 1 26)) 26 s64_26 t64_26 y := fun y => by kernel_rfl
noncomputable def l64_26 : s64_26.Y → Option (YS t64_26) := loopF g64_26
theorem q64_26 (H : CtxGood Tryz.prog c64) : FragOk Tryz.prog (codeAt b64 1 26) (fragOrc s64_26 t64_26 l64_26) :=
  loop_at (fr := [(6758, fragOrc s64_6758 t64_6758 l64_6758)]) H (by kernel_rfl) (by kernel_rfl) ⟨q64_6758 H, trivial⟩ (fun y => iter_congr r64_26 y)
@[reducible] noncomputable def i64 : Shape := ⟨[(0, .lf (.d (.sl .pack)))], [], 28⟩
@[reducible] noncomputable def o64 : Shape := ⟨[(2, .lf (.d (.bool)))], [], 28⟩
noncomputable def f64 (a : i64.Y) : Option o64.Y :=
(l64_26 ((a.1.1, (a.1.1, ((a.1.1.length : Int), ((0 : Int), ())))), ())).bind fun r1164 =>
(match r1164 with
| .inl r1165 =>
  some ((r1165.1.1, ()), ())
| .inr r1166 =>
  some ((true, ()), ()))
theorem e64 : ∀ a, f64 a = bodyF (ctxWith c64 [(26, fragOrc s64_26 t64_26 l64_26)]) b64 i64 o64 a := fun a => by kernel_rfl
noncomputable def S64 : Summ := funSumm tt 28 i64 o64 [.tmp 2] f64
theorem z64 (h : ∀ T, (tt T).ok Tryz.prog T) (h94v0 : SummOk Tryz.prog 94 S94v0) : SummOk Tryz.prog 64 S64 :=
  have H := k64 h h94v0
  fun_at (fn := Tryz.f64) (fr := [(26, fragOrc s64_26 t64_26 l64_26)]) H (by kernel_rfl) (by kernel_rfl) (by kernel_rfl) (by kernel_rfl) (by kernel_rfl) ⟨q64_26 H, trivial⟩ (fun y => ⟨_, rfl, rfl⟩) e64
end Go.Proofs

set_option maxRecDepth 100000
set_option linter.unusedVariables false
namespace Go.Proofs
open Go.Jk
-- 63v0 loop.example/jackstay/impl.rootCode$3
noncomputable def c63v0 : Ctx := { tt := tt, fs := fun n => match n with | 64 => some S64 | _ => none }
theorem k63v0 (h : ∀ T, (tt T).ok Tryz.prog T) (h64 : SummOk Tryz.prog 64 S64) : CtxGood Tryz.prog c63v0 := ⟨⟨h⟩, fun g S hg => (by
  simp only [c63v0] at hg
  split at hg
  · cases hg; exact h64
  · cases hg), tt_mo, fun _ _ h => (by cases h)⟩
noncomputable def b63v0 : Code := codeOf Tryz.f63
@[reducible] noncomputable def i63v0 : Shape := ⟨[(0, .lf (.rptr [.sl .pack] 0))], [], 5⟩
@[reducible] noncomputable def o63v0 : Shape := ⟨[(1, .lf (.d (.int .i64)))], [], 5⟩
noncomputable def f63v0 (a : i63v0.Y) : Option o63v0.Y :=
(f64 ((a.1.1.1, ()), ())).bind fun r1170 =>
  bif (!r1170.1.1) then
  some (((4 : Int), ()), ())
else
  some (((0 : Int), ()), ())
theorem e63v0 : ∀ a, f63v0 a = bodyF (ctxWith c63v0 []) b63v0 i63v0 o63v0 a := fun a => by kernel_rfl
noncomputable def S63v0 : Summ := funSumm tt 5 i63v0 o63v0 [.tmp 1] f63v0
theorem z63v0 (h : ∀ T, (tt T).ok Tryz.prog T) (h64 : SummOk Tryz.prog 64 S64) : SummOk Tryz.prog 63 S63v0 :=
  have H := k63v0 h h64
  fun_at (fn := Tryz.f63) (fr := []) H (by kernel_rfl) (by kernel_rfl) (by kernel_rfl) (by kernel_rfl) (by kernel_rfl) frags_nil (fun y => ⟨_, rfl, rfl⟩) e63v0
end Go.Proofs

set_option maxRecDepth 100000
set_option linter.unusedVariables false
namespace Go.Proofs
open Go.Jk
-- 65v0 loop.example/jackstay/impl.rootCode$4
noncomputable def c65v0 : Ctx := { tt := tt, fs := fun n => match n with | 43 => some S43 | _ => none }
theorem k65v0 (h : ∀ T, (tt T).ok Tryz.prog T) (h43 : SummOk Tryz.prog 43 S43) : CtxGood Tryz.prog c65v0 := ⟨⟨h⟩, fun g S hg => (by
  simp only [c65v0] at hg
  split at hg
  · cases hg; exact h43
  · cases hg), tt_mo, fun _ _ h => (by cases h)⟩
noncomputable def b65v0 : Code := codeOf Tryz.f65
@[reducible] noncomputable def i65v0 : Shape := ⟨[(0, .lf (.rptr [.sl .pack] 0))], [], 11⟩
@[reducible] noncomputable def o65v0 : Shape := ⟨[(1, .lf (.d (.int .i64)))], [], 11⟩
noncomputable def f65v0 (a : i65v0.Y) : Option o65v0.Y :=
(f43 ((a.1.1.1, ()), ())).bind fun r1243 =>
  bif (!r1243.1.2.1) then
  some (((5 : Int), ()), ())
else
  some (((0 : Int), ()), ())
theorem e65v0 : ∀ a, f65v0 a = bodyF (ctxWith c65v0 []) b65v0 i65v0 o65v0 a := fun a => by kernel_rfl
noncomputable def S65v0 : Summ := funSumm tt 11 i65v0 o65v0 [.tmp 1] f65v0
theorem z65v0 (h : ∀ T, (tt T).ok Tryz.prog T) (h43 : SummOk Tryz.prog 43 S43) : SummOk Tryz.prog 65 S65v0 :=
  have H := k65v0 h h43
  fun_at (fn := Tryz.f65) (fr := []) H (by kernel_rfl) (by kernel_rfl) (by kernel_rfl) (by kernel_rfl) (by kernel_rfl) frags_nil (fun y => ⟨_, rfl, rfl⟩) e65v0
end Go.Proofs

set_option maxRecDepth 100000
set_option linter.unusedVariables false
namespace Go.Proofs
open Go.Jk
-- 38 loop.example/jackstay/impl.rootCode
noncomputable def c38 : Ctx := { tt := tt, fs := fun n => match n with | 60 => some S60v0 | 62 => some S62v0 | 63 => some S63v0 | 65 => some S65v0 | _ => none }
theorem k38 (h : ∀ T, (tt T).ok Tryz.prog T) (h60v0 : SummOk Tryz.prog 60 S60v0) (h62v0 : SummOk Tryz.prog 62 S62v0) (h63v0 : SummOk Tryz.prog 63 S63v0) (h65v0 : SummOk Tryz.prog 65 S65v0) : CtxGood Tryz.prog c38 := ⟨⟨h⟩, fun g S hg => (by
  simp only [c38] at hg
  split at hg
  · cases hg; exact h60v0
  · cases hg; exact h62v0
  · cases hg; exact h63v0
  · cases hg; exact h65v0
  · cases hg), tt_mo, fun _ _ h => (by cases h)⟩
noncomputable def b38 : Code := codeOf Tryz.f38
@[reducible] noncomputable def s38_3 : Shape := ⟨[(1, .lf (.ptr 1 0))], [(1, .box [.d (.sl .pack)], .same)], 24⟩
@[reducible] noncomputable def t38_3 : List OSh := [(.ret, ⟨[(2, .lf (.d (.int .i64)))], [], 24⟩)]
noncomputable def m38_3 (c : Int) : YS t38_3 := ((c, ()), ())
noncomputable def g38_3 (y : s38_3.Y) : Option (YS t38_3) := restC y.2.1.1 m38_3 [fun ps => f60v0 (((ps, ()), ()), ()), fun ps => f62v0 (((ps, ()), ()), ()), fun ps => f63v0 (((ps, ()), ()), ()), fun ps => f65v0 (((ps, ()), ()), ())]
theorem x38_0 : ∀ ps k i, exec (ctxWith c38 []) (codeAt (unloop (codeAt b38 1 58)) 116 3737) 3737 (((shL 24).st (yL 24 ps k i)).set 5 (lfv (.clo 60 [(1, 0)]))) (kBody 24 t38_3) = ((fun ps => f60v0 (((ps, ()), ()), ())) ps).bind fun r => bif (r.1.1 != 0) then some (.inr (m38_3 r.1.1)) else some (.inl (yL 24 ps k i)) := fun ps k i => by kernel_rfl
theorem x38_1 : ∀ ps k i, exec (ctxWith c38 []) (codeAt (unloop (codeAt b38 1 58)) 116 3737) 3737 (((shL 24).st (yL 24 ps k i)).set 5 (lfv (.clo 62 [(1, 0)]))) (kBody 24 t38_3) = ((fun ps => f62v0 (((ps, ()), ()), ())) ps).bind fun r => bif (r.1.1 != 0) then some (.inr (m38_3 r.1.1)) else some (.inl (yL 24 ps k i)) := fun ps k i => by kernel_rfl
theorem x38_2 : ∀ ps k i, exec (ctxWith c38 []) (codeAt (unloop (codeAt b38 1 58)) 116 3737) 3737 (((shL 24).st (yL 24 ps k i)).set 5 (lfv (.clo 63 [(1, 0)]))) (kBody 24 t38_3) = ((fun ps => f63v0 (((ps, ()), ()), ())) ps).bind fun r => bif (r.1.1 != 0) then some (.inr (m38_3 r.1.1)) else some (.inl (yL 24 ps k i)) := fun ps k i => by kernel_rfl
theorem x38_3 : ∀ ps k i, exec (ctxWith c38 []) (codeAt (unloop (codeAt b38 1 58)) 116 3737) 3737 (((shL 24).st (yL 24 ps k i)).set 5 (lfv (.clo 65 [(1, 0)]))) (kBody 24 t38_3) = ((fun ps => f65v0 (((ps, ()), ()), ())) ps).bind fun r => bif (r.1.1 != 0) then some (.inr (m38_3 r.1.1)) else some (.inl (yL 24 ps k i)) := fun ps k i => by kernel_rfl
theorem q38_3 (H : CtxGood Tryz.prog c38) : FragOk Tryz.prog (codeAt b38 1 3) (fragOrc s38_3 t38_3 g38_3) :=
  checks_frag (C := ctxWith c38 []) (os := t38_3) (nt := 24) (T := 100) (e := 99) (m0 := ((opsOf (codeAt b38 1 6)).getD 0 default)) (m1 := ((opsOf (codeAt b38 1 6)).getD 1 default)) (m2 := ((opsOf (codeAt b38 1 6)).getD 2 default)) (m3 := ((opsOf (codeAt b38 1 6)).getD 3 default)) (m4 := ((opsOf (codeAt b38 1 6)).getD 4 default)) (m5 := ((opsOf (codeAt b38 1 6)).getD 5 default)) (n0 := ((opsOf (codeAt b38 1 28)).getD 0 default)) (n1 := ((opsOf (codeAt b38 1 28)).getD 1 default)) (n2 := ((opsOf (codeAt b38 1 28)).getD 2 default)) (q0 := ((opsOf (codeAt (unloop (codeAt b38 1 58)) 116 232)).getD 0 default)) (r0 := ((opsOf (codeAt (unloop (codeAt b38 1 58)) 116 3736)).getD 0 default)) (r1 := ((opsOf (codeAt (unloop (codeAt b38 1 58)) 116 3736)).getD 1 default)) (r2 := ((opsOf (codeAt (unloop (codeAt b38 1 58)) 116 3736)).getD 2 default))
    (i1 := ridOf (codeAt b38 1 6)) (i2 := ridOf (codeAt b38 1 28)) (i3 := ridOf (codeAt (unloop (codeAt b38 1 58)) 116 232)) (i4 := ridOf (codeAt (unloop (codeAt b38 1 58)) 116 3736)) (BB := (codeAt (unloop (codeAt b38 1 58)) 116 3737)) (r8 := (codeAt (unloop (codeAt b38 1 58)) 116 935)) (E := (codeAt b38 1 15)) (p3 := 232) (pB := 3737) (p8 := 935) (pE := 15) (g0 := 60) (g1 := 62) (g2 := 63) (g3 := 65) (c0 := fun ps => f60v0 (((ps, ()), ()), ())) (c1 := fun ps => f62v0 (((ps, ()), ()), ())) (c2 := fun ps => f63v0 (((ps, ()), ()), ())) (c3 := fun ps => f65v0 (((ps, ()), ()), ())) (mk := m38_3) H
    { und := (by kernel_rfl), tye := (by kernel_rfl), gd := ⟨(by kernel_rfl), (by kernel_rfl), (by kernel_rfl), (by kernel_rfl), (by kernel_rfl), (by kernel_rfl), (by kernel_rfl), (by kernel_rfl), (by kernel_rfl), (by kernel_rfl), (by kernel_rfl), (by kernel_rfl)⟩, om := ⟨(by kernel_rfl), (by kernel_rfl)⟩, on := ⟨(by kernel_rfl), (by kernel_rfl), (by kernel_rfl)⟩, ors := ⟨(by kernel_rfl), (by kernel_rfl), (by kernel_rfl)⟩, dst := ⟨(by kernel_rfl), (by kernel_rfl), (by kernel_rfl), (by kernel_rfl), (by kernel_rfl), (by kernel_rfl), (by kernel_rfl), (by kernel_rfl)⟩, nt20 := (by decide), nrB := (by kernel_rfl), nr8 := (by kernel_rfl), nrE := (by kernel_rfl), wr := (by kernel_rfl), wrE := (by kernel_rfl),
      orcs := ⟨(fun f hf => by cases hf), orcs_frags (by kernel_rfl) frags_nil, orcs_frags (by kernel_rfl) frags_nil, orcs_frags (by kernel_rfl) frags_nil⟩, hos := (fun _ _ => rfl), h4 := (fun ps => by kernel_rfl), hset := (fun ps k i => by kernel_rfl), hlt := (fun ps k i => by kernel_rfl),
      hB := (fun gc h => by
        simp only [List.mem_cons, List.not_mem_nil, or_false] at h
        rcases h with rfl | rfl | rfl | rfl
        · exact x38_0
        · exact x38_1
        · exact x38_2
        · exact x38_3),
      h8 := (fun ps k i => by kernel_rfl), hE := (fun ps k i => by kernel_rfl) } (fun ps => rfl) (by kernel_rfl)
@[reducible] noncomputable def i38 : Shape := ⟨[(0, .lf (.d (.sl .pack)))], [], 24⟩
@[reducible] noncomputable def o38 : Shape := ⟨[(2, .lf (.d (.int .i64)))], [], 24⟩
noncomputable def f38 (a : i38.Y) : Option o38.Y :=
(g38_3 (((), ()), ((a.1.1, ()), ()))).bind fun r1245 =>
  some ((r1245.1.1, ()), ())
theorem e38 : ∀ a, f38 a = bodyF (ctxWith c38 [(3, fragOrc s38_3 t38_3 g38_3)]) b38 i38 o38 a := fun a => by kernel_rfl
noncomputable def S38 : Summ := funSumm tt 24 i38 o38 [.tmp 2] f38
theorem z38 (h : ∀ T, (tt T).ok Tryz.prog T) (h60v0 : SummOk Tryz.prog 60 S60v0) (h62v0 : SummOk Tryz.prog 62 S62v0) (h63v0 : SummOk Tryz.prog 63 S63v0) (h65v0 : SummOk Tryz.prog 65 S65v0) : SummOk Tryz.prog 38 S38 :=
  have H := k38 h h60v0 h62v0 h63v0 h65v0
  fun_at (fn := Tryz.f38) (fr := [(3, fragOrc s38_3 t38_3 g38_3)]) H (by kernel_rfl) (by kernel_rfl) (by kernel_rfl) (by kernel_rfl) (by kernel_rfl) ⟨q38_3 H, trivial⟩ (fun y => ⟨_, rfl, rfl⟩) e38
end Go.Proofs

set_option maxRecDepth 100000
set_option linter.unusedVariables false
namespace Go.Proofs
open Go.Jk
-- 17 loop.example/jackstay/impl.RootOk
noncomputable def c17 : Ctx := { tt := tt, fs := fun n => match n with | 38 => some S38 | _ => none }
theorem k17 (h : ∀ T, (tt T).ok Tryz.prog T) (h38 : SummOk Tryz.prog 38 S38) : CtxGood Tryz.prog c17 := ⟨⟨h⟩, fun g S hg => (by
  simp only [c17] at hg
  split at hg
  · cases hg; exact h38
  · cases hg), tt_mo, fun _ _ h => (by cases h)⟩
noncomputable def b17 : Code := codeOf Tryz.f17
@[reducible] noncomputable def i17 : Shape := ⟨[(0, .agg [.d (.sl .pack)])], [], 7⟩
@[reducible] noncomputable def o17 : Shape := ⟨[(2, .lf (.d (.bool)))], [], 7⟩
noncomputable def f17 (a : i17.Y) : Option o17.Y :=
(f38 ((a.1.1.1, ()), ())).bind fun r1247 =>
  some (((r1247.1.1 == (0 : Int)), ()), ())
theorem e17 : ∀ a, f17 a = bodyF (ctxWith c17 []) b17 i17 o17 a := fun a => by kernel_rfl
noncomputable def S17 : Summ := funSumm tt 7 i17 o17 [.tmp 2] f17
theorem z17 (h : ∀ T, (tt T).ok Tryz.prog T) (h38 : SummOk Tryz.prog 38 S38) : SummOk Tryz.prog 17 S17 :=
  have H := k17 h h38
  fun_at (fn := Tryz.f17) (fr := []) H (by kernel_rfl) (by kernel_rfl) (by kernel_rfl) (by kernel_rfl) (by kernel_rfl) frags_nil (fun y => ⟨_, rfl, rfl⟩) e17
end Go.Proofs

set_option maxRecDepth 100000
set_option linter.unusedVariables false
set_option linter.unusedSimpArgs false
namespace Go.Proofs
open Go.Jk

theorem v_l8Pack (a) (hs : Bd a.1.1.length) : (∃ (k : Nat) (q : Pack), f54 a = some (((k : Int), ()), ()) ∧ a.1.1[k]? = some q ∧ a.1.1.find? (fun p => p.name == a.1.2.1) = some q) ∨
    (f54 a = some ((((-1) : Int), ()), ()) ∧ a.1.1.find? (fun p => p.name == a.1.2.1) = none) := by
  obtain ⟨⟨ps, name, u⟩, u'⟩ := a
  have hs : ps.length ≤ 2097152 := hs
  have key : ∀ (r : List Pack) (k : Nat), ps.drop k = r → k ≤ ps.length → (∃ (j : Nat) (q : Pack), l54_26 ((ps, (name, ((k : Int), ()))), ()) = some (.inl (((j : Int), ()), ())) ∧ ps[j]? = some q ∧ r.find? (fun p => p.name == name) = some q) ∨
      (l54_26 ((ps, (name, ((k : Int), ()))), ()) = some (.inr ((), ())) ∧ r.find? (fun p => p.name == name) = none) := by
    intro r
    induction r with
    | nil =>
      intro k hr hk
      have := drop_nil hr
      have d1 : decide ((k : Int) < (ps.length : Int)) = false := by simp only [decide_eq_false_iff_not]; omega
      refine .inr ⟨loopF_r ?_, rfl⟩
      simp only [g54_26, d1, cond_false]
    | cons q r ih =>
      intro k hr hk
      obtain ⟨c1, c2, c3⟩ := drop_cons hr
      have hw : Sm k := by unfold Sm; omega
      have step : g54_26 ((ps, (name, ((k : Int), ()))), ()) = some (bif q.name == name then .inr (.inl (((k : Int), ()), ())) else .inl ((ps, (name, (((k + 1 : Nat) : Int), ()))), ())) := by
        simp only [g54_26, lt_dec c3, cond_true, ix_nat, c1, Option.bind_some, wrap_add1 hw]
        cases (q.name == name) <;> rfl
      cases hq : (q.name == name) with
      | true =>
        rw [hq, cond_true] at step
        exact .inl ⟨k, q, loopF_r step, c1, by simp [List.find?_cons, hq]⟩
      | false =>
        rw [hq, cond_false] at step
        rcases ih (k + 1) c2 c3 with ⟨j, q', h1, h2, h3⟩ | ⟨h1, h2⟩
        · exact .inl ⟨j, q', (loopF_l step).trans h1, h2, by simp [List.find?_cons, hq]; exact h3⟩
        · exact .inr ⟨(loopF_l step).trans h1, by simp only [List.find?_cons, hq]; exact h2⟩
  rcases key ps 0 rfl (Nat.zero_le _) with ⟨j, q, h1, h2, h3⟩ | ⟨h1, h2⟩
  · have h1 : l54_26 ((ps, (name, ((0 : Int), ()))), ()) = some (.inl (((j : Int), ()), ())) := h1
    exact .inl ⟨j, q, by simp only [f54, h1, Option.bind_some], h2, h3⟩
  · have h1 : l54_26 ((ps, (name, ((0 : Int), ()))), ()) = some (.inr ((), ())) := h1
    exact .inr ⟨by simp only [f54, h1, Option.bind_some], h2⟩

abbrev VS (ps : List Pack) : Prop := ∀ p, p ∈ ps → p.version.length ≤ 2097151 ∧ ∀ n, n ∈ p.needs → n.version.length ≤ 2097151
def needS (ps : List Pack) (n : Need) : Bool := match ps.find? (fun q => q.name == n.name) with
  | some q => fitsV n q.version
  | none => false
def needI (ps : List Pack) (n : Need) : Bool := ps.any fun q => fitsB n q.name q.version

theorem v_l9Needs (a) (hb : BdPs a.1.1) (hv : VS a.1.1) : f58 a = some ((a.1.1.all (fun p => p.needs.all (needS a.1.1)), ()), ()) := by
  obtain ⟨⟨ps, u⟩, u'⟩ := a
  have hl : ps.length ≤ 2097152 := hb.1
  have inner : ∀ (i : Nat) (p : Pack), ps[i]? = some p → l58_1682 ((ps, ((i : Int), ((0 : Int), ()))), ()) = some (bif p.needs.all (needS ps) then .inr ((ps, ((i : Int), ())), ()) else .inl ((false, ()), ())) := by
    intro i p hp
    have hpm := List.mem_of_getElem? hp
    have hnl : p.needs.length ≤ 2097152 := (hb.2 p hpm).2.2.1.1
    have := loop_all g58_1682 p.needs (fun k => ((ps, ((i : Int), ((k : Int), ()))), ())) (fun _ n => needS ps n) (.inl ((false, ()), ())) (.inr ((ps, ((i : Int), ())), ())) (fun k n hn => ?_) ?_
    · have := this
      rw [allI_all] at this
      exact this
    · have hk := get_lt hn
      have hw : Sm k := by unfold Sm; omega
      have hnm := List.mem_of_getElem? hn
      have h8 := v_l8Pack ((ps, (n.name, ())), ()) hl
      simp only [g58_1682, ix_nat, hp, Option.bind_some, lt_dec hk, cond_true, hn]
      rcases h8 with ⟨j, q, h1, h2, h3⟩ | ⟨h1, h2⟩
      · have h2 : ps[j]? = some q := h2
        have h3 : ps.find? (fun p => p.name == n.name) = some q := h3
        have hq := hv q (List.mem_of_getElem? h2)
        have hf := v_l3Fits (((n.name, (n.kind, (n.version, ()))), (n.name, (q.version, ()))), ()) ((hv p hpm).2 n hnm) hq.1 rfl
        have hj : decide ((j : Int) < 0) = false := by simp only [decide_eq_false_iff_not]; omega
        simp only [h1, Option.bind_some, g58_215334, hj, cond_false, ix_nat, h2, hf, needS, h3, wrap_add1 hw]
        cases fitsV n q.version <;> rfl
      · have h2 : ps.find? (fun p => p.name == n.name) = none := h2
        have hj : decide ((-1 : Int) < 0) = true := rfl
        simp only [h1, Option.bind_some, g58_215334, hj, cond_true, needS, h2, cond_false]
    · simp only [g58_1682, ix_nat, hp, Option.bind_some, nlt_dec, cond_false]
  have key : l58_26 ((ps, ((0 : Int), ())), ()) = some (bif allI (fun _ p => p.needs.all (needS ps)) 0 ps then .inr ((), ()) else .inl ((false, ()), ())) := by
    refine loop_all g58_26 ps (fun i => ((ps, ((i : Int), ())), ())) _ _ _ (fun i x hx => ?_) ?_
    · have hi := get_lt hx
      have hw : Sm i := by unfold Sm; omega
      simp only [g58_26, lt_dec hi, cond_true, inner i x hx, Option.bind_some]
      cases x.needs.all (needS ps)
      · rfl
      · simp only [cond_true, wrap_add1 hw]
    · simp only [g58_26, nlt_dec, cond_false]
  rw [allI_all] at key
  simp only [f58, key, Option.bind_some]
  cases List.all ps (fun p => p.needs.all (needS ps)) <;> rfl

theorem v_needsThere (a) (hb : BdPs a.1.1) (hv : VS a.1.1) : f64 a = some ((a.1.1.all (fun p => p.needs.all (needI a.1.1)), ()), ()) := by
  obtain ⟨⟨ps, u⟩, u'⟩ := a
  have hl : ps.length ≤ 2097152 := hb.1
  -- is there one that fits?
  have hcon : ∀ n : Need, Bd n.name.length → n.version.length ≤ 2097151 → f94v0 ((ps, (((n.name, (n.kind, (n.version, ()))), ()), ())), ()) = some ((needI ps n, ()), ()) := by
    intro n hn1 hn2
    have key : ∀ (r : List Pack) (k : Nat), ps.drop k = r → k ≤ ps.length → ∃ z : Int, (l121v0_26 ((ps, (((n.name, (n.kind, (n.version, ()))), ()), ((ps.length : Int), ((k : Int), ())))), ())).bind (fun r1146 => (match r1146 with
        | .inl r1147 => some ((r1147.1.1, ()), ())
        | .inr r1148 => some ((((-1) : Int), ()), ()) : Option o121v0.Y)) = some ((z, ()), ()) ∧ decide (z ≥ 0) = r.any (fun q => fitsB n q.name q.version) := by
      intro r
      induction r with
      | nil =>
        intro k hr hk
        have := drop_nil hr
        have d1 : decide ((k : Int) < (ps.length : Int)) = false := by simp only [decide_eq_false_iff_not]; omega
        have : l121v0_26 ((ps, (((n.name, (n.kind, (n.version, ()))), ()), ((ps.length : Int), ((k : Int), ())))), ()) = some (.inr ((), ())) := by
          refine loopF_r ?_
          simp only [g121v0_26, d1, cond_false]
        exact ⟨-1, by rw [this]; rfl, rfl⟩
      | cons q r ih =>
        intro k hr hk
        obtain ⟨c1, c2, c3⟩ := drop_cons hr
        have hw : Sm k := by unfold Sm; omega
        have hq := hv q (List.mem_of_getElem? c1)
        have hf := v_NeedFits (((n.name, (n.kind, (n.version, ()))), (q.name, (q.version, ()))), ()) hn1 hn2 hq.1
        have step : g121v0_26 ((ps, (((n.name, (n.kind, (n.version, ()))), ()), ((ps.length : Int), ((k : Int), ())))), ()) = some (bif fitsB n q.name q.version then .inr (.inl (((k : Int), ()), ())) else .inl ((ps, (((n.name, (n.kind, (n.version, ()))), ()), ((ps.length : Int), (((k + 1 : Nat) : Int), ())))), ())) := by
          simp only [g121v0_26, lt_dec c3, cond_true, ix_nat, c1, Option.bind_some, f93v0, hf, wrap_add1 hw]
          cases fitsB n q.name q.version <;> rfl
        rw [List.any_cons]
        cases hfq : fitsB n q.name q.version with
        | true =>
          rw [hfq, cond_true] at step
          exact ⟨k, by rw [show l121v0_26 _ = _ from loopF_r step]; rfl, by simp⟩
        | false =>
          rw [hfq, cond_false] at step
          obtain ⟨z, h1, h2⟩ := ih (k + 1) c2 c3
          exact ⟨z, by rw [show l121v0_26 _ = _ from loopF_l step]; exact h1, by rw [h2]; rfl⟩
    obtain ⟨z, h1, h2⟩ := key ps 0 rfl (Nat.zero_le _)
    have h3 : f121v0 ((ps, (((n.name, (n.kind, (n.version, ()))), ()), ())), ()) = some ((z, ()), ()) := by
      simp only [f121v0]
      exact h1
    simp only [f94v0, h3, Option.bind_some, h2, needI]
  have inner : ∀ (i : Nat) (p : Pack), ps[i]? = some p → l64_6758 ((ps, (ps, ((ps.length : Int), ((i : Int), (p.needs, ((p.needs.length : Int), ((0 : Int), ()))))))), ()) = some (bif p.needs.all (needI ps) then .inr ((ps, (ps, ((ps.length : Int), ((i : Int), ())))), ()) else .inl ((false, ()), ())) := by
    intro i p hp
    have hpm := List.mem_of_getElem? hp
    have hnl : p.needs.length ≤ 2097152 := (hb.2 p hpm).2.2.1.1
    have := loop_all g64_6758 p.needs (fun k => ((ps, (ps, ((ps.length : Int), ((i : Int), (p.needs, ((p.needs.length : Int), ((k : Int), ()))))))), ())) (fun _ n => needI ps n) (.inl ((false, ()), ())) (.inr ((ps, (ps, ((ps.length : Int), ((i : Int), ())))), ())) (fun k n hn => ?_) ?_
    · have := this
      rw [allI_all] at this
      exact this
    · have hk := get_lt hn
      have hw : Sm k := by unfold Sm; omega
      have hnm := List.mem_of_getElem? hn
      have hc := hcon n ((hb.2 p hpm).2.2.1.2 n hnm).1 ((hv p hpm).2 n hnm)
      simp only [g64_6758, lt_dec hk, cond_true, ix_nat, hn, Option.bind_some, hc, wrap_add1 hw]
      cases needI ps n <;> rfl
    · simp only [g64_6758, nlt_dec, cond_false]
  have key : l64_26 ((ps, (ps, ((ps.length : Int), ((0 : Int), ())))), ()) = some (bif allI (fun _ p => p.needs.all (needI ps)) 0 ps then .inr ((), ()) else .inl ((false, ()), ())) := by
    refine loop_all g64_26 ps (fun i => ((ps, (ps, ((ps.length : Int), ((i : Int), ())))), ())) _ _ _ (fun i x hx => ?_) ?_
    · have hi := get_lt hx
      have hw : Sm i := by unfold Sm; omega
      simp only [g64_26, lt_dec hi, cond_true, ix_nat, hx, inner i x hx, Option.bind_some]
      cases x.needs.all (needI ps)
      · rfl
      · simp only [cond_true, wrap_add1 hw]
    · simp only [g64_26, nlt_dec, cond_false]
  rw [allI_all] at key
  simp only [f64, key, Option.bind_some]
  cases List.all ps (fun p => p.needs.all (needI ps)) <;> rfl

/- The two ways to ask for needs agree. -/
theorem ascP_pair : ∀ ps : List Pack, (∀ i y, ps[i + 1]? = some y → lessP ps i y = true) → ps.Pairwise fun p q => Op.bytesLess p.name q.name = true := by
  intro ps
  induction ps with
  | nil => intro _; exact List.Pairwise.nil
  | cons x r ih =>
    intro h
    have hr := ih (fun i y hy => by
      have := h (i + 1) y (by simpa using hy)
      unfold lessP at this ⊢
      simpa using this)
    refine List.pairwise_cons.2 ⟨fun y hy => ?_, hr⟩
    cases r with
    | nil => cases hy
    | cons z r =>
      have hz : Op.bytesLess x.name z.name = true := by
        have := h 0 z rfl
        unfold lessP at this
        simpa using this
      rcases List.mem_cons.1 hy with rfl | hy
      · exact hz
      · exact bl_trans _ _ _ hz ((List.pairwise_cons.1 hr).1 y hy)
theorem ascP_of {ps : List Pack} (h : ascP ps = true) : ps.Pairwise fun p q => Op.bytesLess p.name q.name = true := by
  refine ascP_pair ps (fun i y hy => ?_)
  have := allI_get ps.tail 0 h i y (by rw [List.getElem?_tail]; exact hy)
  rwa [Nat.zero_add] at this

theorem needs_agree : ∀ (ps : List Pack) (n : Need), (∀ p, p ∈ ps → versOk p.version = true) → needOk n = true → ps.Pairwise (fun p q => Op.bytesLess p.name q.name = true) → needI ps n = needS ps n := by
  intro ps n
  induction ps with
  | nil => intro _ _ _; rfl
  | cons q r ih =>
    intro hv hn hp
    have hp' := List.pairwise_cons.1 hp
    have ih := ih (fun p h => hv p (List.mem_cons_of_mem _ h)) hn hp'.2
    unfold needI needS at ih ⊢
    rw [List.any_cons, List.find?_cons]
    cases hq : (q.name == n.name) with
    | true =>
      have hno : r.any (fun q => fitsB n q.name q.version) = false := by
        rw [List.any_eq_false]
        intro p hpr
        have h1 := hp'.1 p hpr
        rw [eq_of_beq hq] at h1
        have : (p.name == n.name) = false := by
          cases h : (p.name == n.name) with
          | false => rfl
          | true => rw [eq_of_beq h, bl_irr] at h1; cases h1
        unfold fitsB
        rw [this]; simp
      rw [hno]
      unfold fitsB
      rw [hv q List.mem_cons_self, hn, hq]
      simp
    | false =>
      have : fitsB n q.name q.version = false := by unfold fitsB; rw [hq]; simp
      rw [this, Bool.false_or]
      exact ih

/-- A root. -/
def rootOk (ps : List Pack) : Bool := ps.all pkOk && ascP ps && decide (ps.length ≤ 5) && ps.all (fun p => p.needs.all (needS ps)) && (treesL [] ps).isSome

theorem allI_shift {α : Type} (ok : Nat → α → Bool) : ∀ (xs : List α) (j : Nat), allI ok (j + 1) xs = allI (fun i => ok (i + 1)) j xs := by
  intro xs
  induction xs with
  | nil => intro j; rfl
  | cons x r ih => intro j; simp only [allI, ih]
def okP (ps : List Pack) (i : Nat) (x : Pack) : Bool := pkOk x && (i == 0 || lessP ps (i - 1) x)
theorem okP_all (ps : List Pack) : allI (okP ps) 0 ps = (ps.all pkOk && ascP ps) := by
  unfold okP
  rw [allI_and, allI_all]
  congr 1
  unfold ascP
  cases ps with
  | nil => rfl
  | cons x r =>
    simp only [allI, beq_self_eq_true, Bool.true_or, Bool.true_and, List.tail_cons]
    rw [allI_shift]
    refine allI_congr r 0 (fun i y _ _ => ?_)
    have : (i + 1 == 0) = false := rfl
    rw [this, Bool.false_or, Nat.add_sub_cancel]

theorem v_RootOk (a) (hb : BdPs a.1.1.1) (hv : VS a.1.1.1) : f15 a = some ((rootOk a.1.1.1, ()), ()) := by
  obtain ⟨⟨⟨ps, u⟩, u'⟩, u''⟩ := a
  have hl : ps.length ≤ 2097152 := hb.1
  have key : l36_26 ((ps, ((0 : Int), ())), ()) = some (bif allI (okP ps) 0 ps then .inr ((ps, ()), ()) else .inl (((1 : Int), ()), ())) := by
    refine loop_all g36_26 ps (fun i => ((ps, ((i : Int), ())), ())) _ _ _ (fun i x hx => ?_) ?_
    · have hi := get_lt hx
      have hw : Sm i := by unfold Sm; omega
      have hbx := hb.2 x (List.mem_of_getElem? hx)
      simp only [g36_26, lt_dec hi, cond_true, g36_840, ix_nat, hx, Option.bind_some]
      rw [v_PackOk _ hbx]
      simp only [Option.bind_some, okP, dgt0]
      cases pkOk x with
      | false => rfl
      | true =>
        simp only [Bool.not_true, cond_false, Bool.true_and, lessP]
        cases i with
        | zero => simp only [beq_self_eq_true, Bool.not_true, cond_false, Option.bind_some, Bool.true_or, cond_true, wrap_add1 hw]
        | succ i =>
          have h0 : (i + 1 == 0) = false := rfl
          have hi' : i < ps.length := by omega
          obtain ⟨q, hq⟩ : ∃ q, ps[i]? = some q := ⟨ps[i], List.getElem?_eq_getElem hi'⟩
          simp only [h0, Bool.not_false, cond_true, wrap_sub1 (i := i) (by unfold Sm; omega), ix_nat, hq, hx, Option.bind_some, Bool.false_or, Nat.add_sub_cancel]
          cases Op.bytesLess q.name x.name with
          | false => rfl
          | true => simp only [Bool.not_true, cond_false, cond_true, wrap_add1 hw]
    · simp only [g36_26, nlt_dec, cond_false]
  rw [okP_all] at key
  have h5 : decide ((ps.length : Int) > 5) = !decide (ps.length ≤ 5) := by by_cases h : ps.length ≤ 5 <;> simp only [h, decide_true, decide_false, Bool.not_true, Bool.not_false, decide_eq_true_eq, decide_eq_false_iff_not] <;> omega
  simp only [f15, f36, key, Option.bind_some, rootOk]
  cases hA : (ps.all pkOk && ascP ps) with
  | false => rfl
  | true =>
    have hk : ps.all pkOk = true := by simp only [Bool.and_eq_true] at hA; exact hA.1
    obtain ⟨out, ht⟩ := v_l9Tree ((ps, ()), ()) hb hk
    have hn := v_l9Needs ((ps, ()), ()) hb hv
    simp only [cond_true, Option.bind_some, ht, h5, Bool.true_and]
    cases decide (ps.length ≤ 5) with
    | false => rfl
    | true =>
      simp only [Bool.not_true, cond_false, hn, Option.bind_some, Bool.true_and]
      cases ps.all (fun p => p.needs.all (needS ps)) <;> cases (treesL [] ps).isSome <;> rfl

theorem v_iRootOk (a) (hb : BdPs a.1.1.1) (hv : VS a.1.1.1) : f17 a = some ((rootOk a.1.1.1, ()), ()) := by
  obtain ⟨⟨⟨ps, u⟩, u'⟩, u''⟩ := a
  have hl : ps.length ≤ 2097152 := hb.1
  have e1 := v_allPack ((ps, ((), ())), ()) hb
  have e2 := v_packsAscend ((ps, ()), ()) hl
  have e3 := v_needsThere ((ps, ()), ()) hb hv
  have h5 : decide ((ps.length : Int) > 5) = !decide (ps.length ≤ 5) := by by_cases h : ps.length ≤ 5 <;> simp only [h, decide_true, decide_false, Bool.not_true, Bool.not_false, decide_eq_true_eq, decide_eq_false_iff_not] <;> omega
  have c0 : f60v0 (((ps, ()), ()), ()) = some (((bif ps.all pkOk && ascP ps then (0 : Int) else 1), ()), ()) := by
    simp only [f60v0, g60v0_12, e1, Bool.not_not, Option.bind_some]
    cases ps.all pkOk with
    | false => rfl
    | true => simp only [cond_true, e2, Option.bind_some, Bool.true_and]; cases ascP ps <;> rfl
  have c1 : f62v0 (((ps, ()), ()), ()) = some (((bif decide (ps.length ≤ 5) then (0 : Int) else 6), ()), ()) := by
    simp only [f62v0, h5]
    cases decide (ps.length ≤ 5) <;> rfl
  have c2 : f63v0 (((ps, ()), ()), ()) = some (((bif ps.all (fun p => p.needs.all (needI ps)) then (0 : Int) else 4), ()), ()) := by
    simp only [f63v0, e3, Option.bind_some]
    cases ps.all (fun p => p.needs.all (needI ps)) <;> rfl
  have c3 : ps.all pkOk = true → f65v0 (((ps, ()), ()), ()) = some (((bif (treesL [] ps).isSome then (0 : Int) else 5), ()), ()) := by
    intro hk
    obtain ⟨out, ht⟩ := v_joinTrees ((ps, ()), ()) hb hk
    simp only [f65v0, ht, Option.bind_some]
    cases (treesL [] ps).isSome <;> rfl
  have z : ∀ n : Int, ((n : Int) != 0) = !(n == 0) := fun n => rfl
  simp only [f17, f38, g38_3, restC, c0, c1, c2, m38_3, Option.bind_some, rootOk]
  cases hA : (ps.all pkOk && ascP ps) with
  | false => rfl
  | true =>
    simp only [Bool.and_eq_true] at hA
    have hagree : ps.all (fun p => p.needs.all (needI ps)) = ps.all (fun p => p.needs.all (needS ps)) := by
      rw [Bool.eq_iff_iff]
      simp only [List.all_eq_true]
      have hvs : ∀ p, p ∈ ps → versOk p.version = true := fun p hp => by
        have := List.all_eq_true.1 hA.1 p hp
        unfold pkOk at this
        simp only [Bool.and_eq_true] at this
        exact this.1.1.2
      have hns : ∀ p, p ∈ ps → ∀ n, n ∈ p.needs → needI ps n = needS ps n := fun p hp n hn => by
        have := List.all_eq_true.1 hA.1 p hp
        unfold pkOk needsOk at this
        simp only [Bool.and_eq_true] at this
        exact needs_agree ps n hvs (List.all_eq_true.1 this.1.2.1.1 n hn) (ascP_of hA.2)
      constructor
      · intro h p hp n hn; rw [← hns p hp n hn]; exact h p hp n hn
      · intro h p hp n hn; rw [hns p hp n hn]; exact h p hp n hn
    rw [hagree, c3 hA.1]
    cases decide (ps.length ≤ 5) <;> cases ps.all (fun p => p.needs.all (needS ps)) <;> cases (treesL [] ps).isSome <;> rfl
end Go.Proofs

set_option maxRecDepth 100000
set_option linter.unusedVariables false
namespace Go.Proofs
open Go.Jk
-- 117 loop.example/jackstay/laws.szNeed
noncomputable def c117 : Ctx := { tt := tt, fs := fun n => match n with | _ => none }
theorem k117 (h : ∀ T, (tt T).ok Tryz.prog T) : CtxGood Tryz.prog c117 := ⟨⟨h⟩, fun g S hg => (by cases hg), tt_mo, fun _ _ h => (by cases h)⟩
noncomputable def b117 : Code := codeOf Tryz.f117
@[reducible] noncomputable def i117 : Shape := ⟨[(0, .agg [.d (.str), .d (.int .i64), .d (.str)]), (1, .lf (.d (.int .i64)))], [], 20⟩
@[reducible] noncomputable def o117 : Shape := ⟨[(4, .lf (.d (.int .i64)))], [], 20⟩
noncomputable def f117 (a : i117.Y) : Option o117.Y :=
  bif (decide ((IntKind.i64.wrap (a.1.2.1 - (a.1.1.1.length : Int))) < (0 : Int))) then
  some ((((-1) : Int), ()), ())
else
  bif (decide ((IntKind.i64.wrap ((IntKind.i64.wrap (a.1.2.1 - (a.1.1.1.length : Int))) - (a.1.1.2.2.1.length : Int))) < (0 : Int))) then
  some ((((-1) : Int), ()), ())
else
  some (((IntKind.i64.wrap ((IntKind.i64.wrap (a.1.2.1 - (a.1.1.1.length : Int))) - (a.1.1.2.2.1.length : Int))), ()), ())
theorem e117 : ∀ a, f117 a = bodyF (ctxWith c117 []) b117 i117 o117 a := fun a => by kernel_rfl
noncomputable def S117 : Summ := funSumm tt 20 i117 o117 [.tmp 4] f117
theorem z117 (h : ∀ T, (tt T).ok Tryz.prog T) : SummOk Tryz.prog 117 S117 :=
  have H := k117 h
  fun_at (fn := Tryz.f117) (fr := []) H (by kernel_rfl) (by kernel_rfl) (by kernel_rfl) (by kernel_rfl) (by kernel_rfl) frags_nil (fun y => ⟨_, rfl, rfl⟩) e117
end Go.Proofs

set_option maxRecDepth 100000
set_option linter.unusedVariables false
namespace Go.Proofs
open Go.Jk
-- 118 loop.example/jackstay/laws.szEntry
noncomputable def c118 : Ctx := { tt := tt, fs := fun n => match n with | _ => none }
theorem k118 (h : ∀ T, (tt T).ok Tryz.prog T) : CtxGood Tryz.prog c118 := ⟨⟨h⟩, fun g S hg => (by cases hg), tt_mo, fun _ _ h => (by cases h)⟩
noncomputable def b118 : Code := codeOf Tryz.f118
@[reducible] noncomputable def i118 : Shape := ⟨[(0, .agg [.d (.str), .d (.int .i64), .d (.int .i64), .d (.str)]), (1, .lf (.d (.int .i64)))], [], 20⟩
@[reducible] noncomputable def o118 : Shape := ⟨[(4, .lf (.d (.int .i64)))], [], 20⟩
noncomputable def f118 (a : i118.Y) : Option o118.Y :=
  bif (decide ((IntKind.i64.wrap (a.1.2.1 - (a.1.1.1.length : Int))) < (0 : Int))) then
  some ((((-1) : Int), ()), ())
else
  bif (decide ((IntKind.i64.wrap ((IntKind.i64.wrap (a.1.2.1 - (a.1.1.1.length : Int))) - (a.1.1.2.2.2.1.length : Int))) < (0 : Int))) then
  some ((((-1) : Int), ()), ())
else
  some (((IntKind.i64.wrap ((IntKind.i64.wrap (a.1.2.1 - (a.1.1.1.length : Int))) - (a.1.1.2.2.2.1.length : Int))), ()), ())
theorem e118 : ∀ a, f118 a = bodyF (ctxWith c118 []) b118 i118 o118 a := fun a => by kernel_rfl
noncomputable def S118 : Summ := funSumm tt 20 i118 o118 [.tmp 4] f118
theorem z118 (h : ∀ T, (tt T).ok Tryz.prog T) : SummOk Tryz.prog 118 S118 :=
  have H := k118 h
  fun_at (fn := Tryz.f118) (fr := []) H (by kernel_rfl) (by kernel_rfl) (by kernel_rfl) (by kernel_rfl) (by kernel_rfl) frags_nil (fun y => ⟨_, rfl, rfl⟩) e118
end Go.Proofs

set_option maxRecDepth 100000
set_option linter.unusedVariables false
namespace Go.Proofs
open Go.Jk
-- 119 loop.example/jackstay/laws.toNeed
noncomputable def c119 : Ctx := { tt := tt, fs := fun n => match n with | _ => none }
theorem k119 (h : ∀ T, (tt T).ok Tryz.prog T) : CtxGood Tryz.prog c119 := ⟨⟨h⟩, fun g S hg => (by cases hg), tt_mo, fun _ _ h => (by cases h)⟩
noncomputable def b119 : Code := codeOf Tryz.f119
@[reducible] noncomputable def i119 : Shape := ⟨[(0, .agg [.d (.str), .d (.int .i64), .d (.str)])], [], 14⟩
@[reducible] noncomputable def o119 : Shape := ⟨[(2, .lf (.ptr 2 0))], [(2, .box [.d (.str), .d (.int .i64), .d (.str)], .same)], 14⟩
noncomputable def f119 (a : i119.Y) : Option o119.Y :=
  some (((), ()), ((a.1.1.1, (a.1.1.2.1, (a.1.1.2.2.1, ()))), ()))
theorem e119 : ∀ a, f119 a = bodyF (ctxWith c119 []) b119 i119 o119 a := fun a => by kernel_rfl
noncomputable def S119 : Summ := funSumm tt 14 i119 o119 [.cell 2 37] f119
theorem z119 (h : ∀ T, (tt T).ok Tryz.prog T) : SummOk Tryz.prog 119 S119 :=
  have H := k119 h
  fun_at (fn := Tryz.f119) (fr := []) H (by kernel_rfl) (by kernel_rfl) (by kernel_rfl) (by kernel_rfl) (by kernel_rfl) frags_nil (fun y => ⟨_, rfl, rfl⟩) e119
end Go.Proofs

set_option maxRecDepth 100000
set_option linter.unusedVariables false
namespace Go.Proofs
open Go.Jk
-- 120 loop.example/jackstay/laws.toEntry
noncomputable def c120 : Ctx := { tt := tt, fs := fun n => match n with | _ => none }
theorem k120 (h : ∀ T, (tt T).ok Tryz.prog T) : CtxGood Tryz.prog c120 := ⟨⟨h⟩, fun g S hg => (by cases hg), tt_mo, fun _ _ h => (by cases h)⟩
noncomputable def b120 : Code := codeOf Tryz.f120
@[reducible] noncomputable def i120 : Shape := ⟨[(0, .agg [.d (.str), .d (.int .i64), .d (.int .i64), .d (.str)])], [], 17⟩
@[reducible] noncomputable def o120 : Shape := ⟨[(2, .lf (.ptr 2 0))], [(2, .box [.d (.str), .d (.int .i64), .d (.int .i64), .d (.str)], .same)], 17⟩
noncomputable def f120 (a : i120.Y) : Option o120.Y :=
  some (((), ()), ((a.1.1.1, (a.1.1.2.1, (a.1.1.2.2.1, (a.1.1.2.2.2.1, ())))), ()))
theorem e120 : ∀ a, f120 a = bodyF (ctxWith c120 []) b120 i120 o120 a := fun a => by kernel_rfl
noncomputable def S120 : Summ := funSumm tt 17 i120 o120 [.cell 2 74] f120
theorem z120 (h : ∀ T, (tt T).ok Tryz.prog T) : SummOk Tryz.prog 120 S120 :=
  have H := k120 h
  fun_at (fn := Tryz.f120) (fr := []) H (by kernel_rfl) (by kernel_rfl) (by kernel_rfl) (by kernel_rfl) (by kernel_rfl) frags_nil (fun y => ⟨_, rfl, rfl⟩) e120
end Go.Proofs

set_option maxRecDepth 100000
set_option linter.unusedVariables false
namespace Go.Proofs
open Go.Jk
-- 122 loop.example/jackstay/laws.eqNeed
noncomputable def c122 : Ctx := { tt := tt, fs := fun n => match n with | _ => none }
theorem k122 (h : ∀ T, (tt T).ok Tryz.prog T) : CtxGood Tryz.prog c122 := ⟨⟨h⟩, fun g S hg => (by cases hg), tt_mo, fun _ _ h => (by cases h)⟩
noncomputable def b122 : Code := codeOf Tryz.f122
@[reducible] noncomputable def i122 : Shape := ⟨[(0, .agg [.d (.str), .d (.int .i64), .d (.str)]), (1, .agg [.d (.str), .d (.int .i64), .d (.str)])], [], 20⟩
@[reducible] noncomputable def o122 : Shape := ⟨[(4, .lf (.d (.bool)))], [], 20⟩
noncomputable def f122 (a : i122.Y) : Option o122.Y :=
  bif (!(a.1.1.1 == a.1.2.1.1)) then
  some ((false, ()), ())
else
  bif (a.1.1.2.1 != a.1.2.1.2.1) then
  some ((false, ()), ())
else
  bif (!(a.1.1.2.2.1 == a.1.2.1.2.2.1)) then
  some ((false, ()), ())
else
  some ((true, ()), ())
theorem e122 : ∀ a, f122 a = bodyF (ctxWith c122 []) b122 i122 o122 a := fun a => by kernel_rfl
noncomputable def S122 : Summ := funSumm tt 20 i122 o122 [.tmp 4] f122
theorem z122 (h : ∀ T, (tt T).ok Tryz.prog T) : SummOk Tryz.prog 122 S122 :=
  have H := k122 h
  fun_at (fn := Tryz.f122) (fr := []) H (by kernel_rfl) (by kernel_rfl) (by kernel_rfl) (by kernel_rfl) (by kernel_rfl) frags_nil (fun y => ⟨_, rfl, rfl⟩) e122
end Go.Proofs

set_option maxRecDepth 100000
set_option linter.unusedVariables false
namespace Go.Proofs
open Go.Jk
-- 89 loop.example/jackstay/laws.szNeedS
noncomputable def c89 : Ctx := { tt := tt, fs := fun n => match n with | 117 => some S117 | _ => none }
theorem k89 (h : ∀ T, (tt T).ok Tryz.prog T) (h117 : SummOk Tryz.prog 117 S117) : CtxGood Tryz.prog c89 := ⟨⟨h⟩, fun g S hg => (by
  simp only [c89] at hg
  split at hg
  · cases hg; exact h117
  · cases hg), tt_mo, fun _ _ h => (by cases h)⟩
noncomputable def b89 : Code := codeOf Tryz.f89
@[reducible] noncomputable def s89_122 : Shape := ⟨[(0, .lf (.d (.sl .need))), (1, .lf (.d (.int .i64))), (5, .lf (.d (.int .i64)))], [], 27⟩
@[reducible] noncomputable def t89_122 : List OSh := [(.ret, ⟨[(4, .lf (.d (.int .i64)))], [], 27⟩), (.exit 0, ⟨[(1, .lf (.d (.int .i64)))], [], 27⟩)]
noncomputable def g89_122 (y : s89_122.Y) : Option (Sum s89_122.Y (YS t89_122)) :=
  bif (decide (y.1.2.2.1 < (y.1.1.length : Int))) then
(ix y.1.1 y.1.2.2.1).bind fun x8 =>
(f117 (((x8.name, (x8.kind, (x8.version, ()))), (y.1.2.1, ())), ())).bind fun r9 =>
  bif (decide (r9.1.1 < (0 : Int))) then
  some (.inr (.inl ((((-1) : Int), ()), ())))
else
  some (.inl ((y.1.1, (r9.1.1, ((IntKind.i64.wrap (y.1.2.2.1 + (1 : Int))), ()))), ()))
else
  some (.inr (.inr ((y.1.2.1, ()), ())))
theorem r89_122 : ∀ y, g89_122 y = roundF (ctxWith c89 []) (unloop (codeAt b89 1 122)) 122 s89_122 t89_122 y := fun y => by kernel_rfl
noncomputable def l89_122 : s89_122.Y → Option (YS t89_122) := loopF g89_122
theorem q89_122 (H : CtxGood Tryz.prog c89) : FragOk Tryz.prog (codeAt b89 1 122) (fragOrc s89_122 t89_122 l89_122) :=
  loop_at (fr := []) H (by kernel_rfl) (by kernel_rfl) frags_nil (fun y => iter_congr r89_122 y)
@[reducible] noncomputable def i89 : Shape := ⟨[(0, .lf (.d (.sl .need))), (1, .lf (.d (.int .i64)))], [], 27⟩
@[reducible] noncomputable def o89 : Shape := ⟨[(4, .lf (.d (.int .i64)))], [], 27⟩
noncomputable def f89 (a : i89.Y) : Option o89.Y :=
  bif (decide ((IntKind.i64.wrap (a.1.2.1 - (a.1.1.length : Int))) < (0 : Int))) then
  some ((((-1) : Int), ()), ())
else
(l89_122 ((a.1.1, ((IntKind.i64.wrap (a.1.2.1 - (a.1.1.length : Int))), ((0 : Int), ()))), ())).bind fun r10 =>
(match r10 with
| .inl r11 =>
  some ((r11.1.1, ()), ())
| .inr r12 =>
  some ((r12.1.1, ()), ()))
theorem e89 : ∀ a, f89 a = bodyF (ctxWith c89 [(122, fragOrc s89_122 t89_122 l89_122)]) b89 i89 o89 a := fun a => by kernel_rfl
noncomputable def S89 : Summ := funSumm tt 27 i89 o89 [.tmp 4] f89
theorem z89 (h : ∀ T, (tt T).ok Tryz.prog T) (h117 : SummOk Tryz.prog 117 S117) : SummOk Tryz.prog 89 S89 :=
  have H := k89 h h117
  fun_at (fn := Tryz.f89) (fr := [(122, fragOrc s89_122 t89_122 l89_122)]) H (by kernel_rfl) (by kernel_rfl) (by kernel_rfl) (by kernel_rfl) (by kernel_rfl) ⟨q89_122 H, trivial⟩ (fun y => ⟨_, rfl, rfl⟩) e89
end Go.Proofs

set_option maxRecDepth 100000
set_option linter.unusedVariables false
namespace Go.Proofs
open Go.Jk
-- 90 loop.example/jackstay/laws.szEntryS
noncomputable def c90 : Ctx := { tt := tt, fs := fun n => match n with | 118 => some S118 | _ => none }
theorem k90 (h : ∀ T, (tt T).ok Tryz.prog T) (h118 : SummOk Tryz.prog 118 S118) : CtxGood Tryz.prog c90 := ⟨⟨h⟩, fun g S hg => (by
  simp only [c90] at hg
  split at hg
  · cases hg; exact h118
  · cases hg), tt_mo, fun _ _ h => (by cases h)⟩
noncomputable def b90 : Code := codeOf Tryz.f90
@[reducible] noncomputable def s90_122 : Shape := ⟨[(0, .lf (.d (.sl .entry))), (1, .lf (.d (.int .i64))), (5, .lf (.d (.int .i64)))], [], 27⟩
@[reducible] noncomputable def t90_122 : List OSh := [(.ret, ⟨[(4, .lf (.d (.int .i64)))], [], 27⟩), (.exit 0, ⟨[(1, .lf (.d (.int .i64)))], [], 27⟩)]
noncomputable def g90_122 (y : s90_122.Y) : Option (Sum s90_122.Y (YS t90_122)) :=
  bif (decide (y.1.2.2.1 < (y.1.1.length : Int))) then
(ix y.1.1 y.1.2.2.1).bind fun x21 =>
(f118 (((x21.path, (x21.kind, (x21.mode, (x21.text, ())))), (y.1.2.1, ())), ())).bind fun r22 =>
  bif (decide (r22.1.1 < (0 : Int))) then
  some (.inr (.inl ((((-1) : Int), ()), ())))
else
  some (.inl ((y.1.1, (r22.1.1, ((IntKind.i64.wrap (y.1.2.2.1 + (1 : Int))), ()))), ()))
else
  some (.inr (.inr ((y.1.2.1, ()), ())))
theorem r90_122 : ∀ y, g90_122 y = roundF (ctxWith c90 []) (unloop (codeAt b90 1 122)) 122 s90_122 t90_122 y := fun y => by kernel_rfl
noncomputable def l90_122 : s90_122.Y → Option (YS t90_122) := loopF g90_122
theorem q90_122 (H : CtxGood Tryz.prog c90) : FragOk Tryz.prog (codeAt b90 1 122) (fragOrc s90_122 t90_122 l90_122) :=
  loop_at (fr := []) H (by kernel_rfl) (by kernel_rfl) frags_nil (fun y => iter_congr r90_122 y)
@[reducible] noncomputable def i90 : Shape := ⟨[(0, .lf (.d (.sl .entry))), (1, .lf (.d (.int .i64)))], [], 27⟩
@[reducible] noncomputable def o90 : Shape := ⟨[(4, .lf (.d (.int .i64)))], [], 27⟩
noncomputable def f90 (a : i90.Y) : Option o90.Y :=
  bif (decide ((IntKind.i64.wrap (a.1.2.1 - (a.1.1.length : Int))) < (0 : Int))) then
  some ((((-1) : Int), ()), ())
else
(l90_122 ((a.1.1, ((IntKind.i64.wrap (a.1.2.1 - (a.1.1.length : Int))), ((0 : Int), ()))), ())).bind fun r23 =>
(match r23 with
| .inl r24 =>
  some ((r24.1.1, ()), ())
| .inr r25 =>
  some ((r25.1.1, ()), ()))
theorem e90 : ∀ a, f90 a = bodyF (ctxWith c90 [(122, fragOrc s90_122 t90_122 l90_122)]) b90 i90 o90 a := fun a => by kernel_rfl
noncomputable def S90 : Summ := funSumm tt 27 i90 o90 [.tmp 4] f90
theorem z90 (h : ∀ T, (tt T).ok Tryz.prog T) (h118 : SummOk Tryz.prog 118 S118) : SummOk Tryz.prog 90 S90 :=
  have H := k90 h h118
  fun_at (fn := Tryz.f90) (fr := [(122, fragOrc s90_122 t90_122 l90_122)]) H (by kernel_rfl) (by kernel_rfl) (by kernel_rfl) (by kernel_rfl) (by kernel_rfl) ⟨q90_122 H, trivial⟩ (fun y => ⟨_, rfl, rfl⟩) e90
end Go.Proofs

set_option maxRecDepth 100000
set_option linter.unusedVariables false
namespace Go.Proofs
open Go.Jk
-- 57 loop.example/jackstay/laws.szPack
noncomputable def c57 : Ctx := { tt := tt, fs := fun n => match n with | 89 => some S89 | 90 => some S90 | _ => none }
theorem k57 (h : ∀ T, (tt T).ok Tryz.prog T) (h89 : SummOk Tryz.prog 89 S89) (h90 : SummOk Tryz.prog 90 S90) : CtxGood Tryz.prog c57 := ⟨⟨h⟩, fun g S hg => (by
  simp only [c57] at hg
  split at hg
  · cases hg; exact h89
  · cases hg; exact h90
  · cases hg), tt_mo, fun _ _ h => (by cases h)⟩
noncomputable def b57 : Code := codeOf Tryz.f57
@[reducible] noncomputable def i57 : Shape := ⟨[(0, .agg [.d (.str), .d (.str), .d (.sl .need), .d (.sl .entry)]), (1, .lf (.d (.int .i64)))], [], 32⟩
@[reducible] noncomputable def o57 : Shape := ⟨[(4, .lf (.d (.int .i64)))], [], 32⟩
noncomputable def f57 (a : i57.Y) : Option o57.Y :=
  bif (decide ((IntKind.i64.wrap (a.1.2.1 - (a.1.1.1.length : Int))) < (0 : Int))) then
  some ((((-1) : Int), ()), ())
else
  bif (decide ((IntKind.i64.wrap ((IntKind.i64.wrap (a.1.2.1 - (a.1.1.1.length : Int))) - (a.1.1.2.1.length : Int))) < (0 : Int))) then
  some ((((-1) : Int), ()), ())
else
(f89 ((a.1.1.2.2.1, ((IntKind.i64.wrap ((IntKind.i64.wrap (a.1.2.1 - (a.1.1.1.length : Int))) - (a.1.1.2.1.length : Int))), ())), ())).bind fun r29 =>
  bif (decide (r29.1.1 < (0 : Int))) then
  some ((((-1) : Int), ()), ())
else
(f90 ((a.1.1.2.2.2.1, (r29.1.1, ())), ())).bind fun r31 =>
  bif (decide (r31.1.1 < (0 : Int))) then
  some ((((-1) : Int), ()), ())
else
  some ((r31.1.1, ()), ())
theorem e57 : ∀ a, f57 a = bodyF (ctxWith c57 []) b57 i57 o57 a := fun a => by kernel_rfl
noncomputable def S57 : Summ := funSumm tt 32 i57 o57 [.tmp 4] f57
theorem z57 (h : ∀ T, (tt T).ok Tryz.prog T) (h89 : SummOk Tryz.prog 89 S89) (h90 : SummOk Tryz.prog 90 S90) : SummOk Tryz.prog 57 S57 :=
  have H := k57 h h89 h90
  fun_at (fn := Tryz.f57) (fr := []) H (by kernel_rfl) (by kernel_rfl) (by kernel_rfl) (by kernel_rfl) (by kernel_rfl) frags_nil (fun y => ⟨_, rfl, rfl⟩) e57
end Go.Proofs

set_option maxRecDepth 100000
set_option linter.unusedVariables false
namespace Go.Proofs
open Go.Jk
-- 35 loop.example/jackstay/laws.szPackS
noncomputable def c35 : Ctx := { tt := tt, fs := fun n => match n with | 57 => some S57 | _ => none }
theorem k35 (h : ∀ T, (tt T).ok Tryz.prog T) (h57 : SummOk Tryz.prog 57 S57) : CtxGood Tryz.prog c35 := ⟨⟨h⟩, fun g S hg => (by
  simp only [c35] at hg
  split at hg
  · cases hg; exact h57
  · cases hg), tt_mo, fun _ _ h => (by cases h)⟩
noncomputable def b35 : Code := codeOf Tryz.f35
@[reducible] noncomputable def s35_122 : Shape := ⟨[(0, .lf (.d (.sl .pack))), (1, .lf (.d (.int .i64))), (5, .lf (.d (.int .i64)))], [], 27⟩
@[reducible] noncomputable def t35_122 : List OSh := [(.ret, ⟨[(4, .lf (.d (.int .i64)))], [], 27⟩), (.exit 0, ⟨[(1, .lf (.d (.int .i64)))], [], 27⟩)]
noncomputable def g35_122 (y : s35_122.Y) : Option (Sum s35_122.Y (YS t35_122)) :=
  bif (decide (y.1.2.2.1 < (y.1.1.length : Int))) then
(ix y.1.1 y.1.2.2.1).bind fun x37 =>
(f57 (((x37.name, (x37.version, (x37.needs, (x37.tree, ())))), (y.1.2.1, ())), ())).bind fun r38 =>
  bif (decide (r38.1.1 < (0 : Int))) then
  some (.inr (.inl ((((-1) : Int), ()), ())))
else
  some (.inl ((y.1.1, (r38.1.1, ((IntKind.i64.wrap (y.1.2.2.1 + (1 : Int))), ()))), ()))
else
  some (.inr (.inr ((y.1.2.1, ()), ())))
theorem r35_122 : ∀ y, g35_122 y = roundF (ctxWith c35 []) (unloop (codeAt b35 1 122)) 122 s35_122 t35_122 y := fun y => by kernel_rfl
noncomputable def l35_122 : s35_122.Y → Option (YS t35_122) := loopF g35_122
theorem q35_122 (H : CtxGood Tryz.prog c35) : FragOk Tryz.prog (codeAt b35 1 122) (fragOrc s35_122 t35_122 l35_122) :=
  loop_at (fr := []) H (by kernel_rfl) (by kernel_rfl) frags_nil (fun y => iter_congr r35_122 y)
@[reducible] noncomputable def i35 : Shape := ⟨[(0, .lf (.d (.sl .pack))), (1, .lf (.d (.int .i64)))], [], 27⟩
@[reducible] noncomputable def o35 : Shape := ⟨[(4, .lf (.d (.int .i64)))], [], 27⟩
noncomputable def f35 (a : i35.Y) : Option o35.Y :=
  bif (decide ((IntKind.i64.wrap (a.1.2.1 - (a.1.1.length : Int))) < (0 : Int))) then
  some ((((-1) : Int), ()), ())
else
(l35_122 ((a.1.1, ((IntKind.i64.wrap (a.1.2.1 - (a.1.1.length : Int))), ((0 : Int), ()))), ())).bind fun r39 =>
(match r39 with
| .inl r40 =>
  some ((r40.1.1, ()), ())
| .inr r41 =>
  some ((r41.1.1, ()), ()))
theorem e35 : ∀ a, f35 a = bodyF (ctxWith c35 [(122, fragOrc s35_122 t35_122 l35_122)]) b35 i35 o35 a := fun a => by kernel_rfl
noncomputable def S35 : Summ := funSumm tt 27 i35 o35 [.tmp 4] f35
theorem z35 (h : ∀ T, (tt T).ok Tryz.prog T) (h57 : SummOk Tryz.prog 57 S57) : SummOk Tryz.prog 35 S35 :=
  have H := k35 h h57
  fun_at (fn := Tryz.f35) (fr := [(122, fragOrc s35_122 t35_122 l35_122)]) H (by kernel_rfl) (by kernel_rfl) (by kernel_rfl) (by kernel_rfl) (by kernel_rfl) ⟨q35_122 H, trivial⟩ (fun y => ⟨_, rfl, rfl⟩) e35
end Go.Proofs

set_option maxRecDepth 100000
set_option linter.unusedVariables false
namespace Go.Proofs
open Go.Jk
-- 14 loop.example/jackstay/laws.szRoot
noncomputable def c14 : Ctx := { tt := tt, fs := fun n => match n with | 35 => some S35 | _ => none }
theorem k14 (h : ∀ T, (tt T).ok Tryz.prog T) (h35 : SummOk Tryz.prog 35 S35) : CtxGood Tryz.prog c14 := ⟨⟨h⟩, fun g S hg => (by
  simp only [c14] at hg
  split at hg
  · cases hg; exact h35
  · cases hg), tt_mo, fun _ _ h => (by cases h)⟩
noncomputable def b14 : Code := codeOf Tryz.f14
@[reducible] noncomputable def i14 : Shape := ⟨[(0, .agg [.d (.sl .pack)]), (1, .lf (.d (.int .i64)))], [], 12⟩
@[reducible] noncomputable def o14 : Shape := ⟨[(4, .lf (.d (.int .i64)))], [], 12⟩
noncomputable def f14 (a : i14.Y) : Option o14.Y :=
(f35 ((a.1.1.1, (a.1.2.1, ())), ())).bind fun r45 =>
  bif (decide (r45.1.1 < (0 : Int))) then
  some ((((-1) : Int), ()), ())
else
  some ((r45.1.1, ()), ())
theorem e14 : ∀ a, f14 a = bodyF (ctxWith c14 []) b14 i14 o14 a := fun a => by kernel_rfl
noncomputable def S14 : Summ := funSumm tt 12 i14 o14 [.tmp 4] f14
theorem z14 (h : ∀ T, (tt T).ok Tryz.prog T) (h35 : SummOk Tryz.prog 35 S35) : SummOk Tryz.prog 14 S14 :=
  have H := k14 h h35
  fun_at (fn := Tryz.f14) (fr := []) H (by kernel_rfl) (by kernel_rfl) (by kernel_rfl) (by kernel_rfl) (by kernel_rfl) frags_nil (fun y => ⟨_, rfl, rfl⟩) e14
end Go.Proofs

set_option maxRecDepth 100000
set_option linter.unusedVariables false
namespace Go.Proofs
open Go.Jk
-- 91 loop.example/jackstay/laws.toNeedS
noncomputable def c91 : Ctx := { tt := tt, fs := fun n => match n with | 119 => some S119 | _ => none }
theorem k91 (h : ∀ T, (tt T).ok Tryz.prog T) (h119 : SummOk Tryz.prog 119 S119) : CtxGood Tryz.prog c91 := ⟨⟨h⟩, fun g S hg => (by
  simp only [c91] at hg
  split at hg
  · cases hg; exact h119
  · cases hg), tt_mo, fun _ _ h => (by cases h)⟩
noncomputable def b91 : Code := codeOf Tryz.f91
@[reducible] noncomputable def s91_58 : Shape := ⟨[(0, .lf (.d (.sl .need))), (3, .lf (.own 3000192)), (4, .lf (.d (.int .i64)))], [(3000192, .row .need, .slot 3 0)], 23⟩
@[reducible] noncomputable def t91_58 : List OSh := [(.exit 0, ⟨[(3, .lf (.own 3000192))], [(3000192, .row .need, .slot 3 0)], 23⟩)]
noncomputable def g91_58 (y : s91_58.Y) : Option (Sum s91_58.Y (YS t91_58)) :=
  bif (decide (y.1.2.2.1 < (y.1.1.length : Int))) then
(ix y.1.1 y.1.2.2.1).bind fun x61 =>
(f119 (((x61.name, (x61.kind, (x61.version, ()))), ()), ())).bind fun r62 =>
(inb y.2.1.length y.1.2.2.1).bind fun x63 =>
((y.2.1[x63]?).bind fun q => some (Need.mk r62.2.1.1 r62.2.1.2.1 r62.2.1.2.2.1)).bind fun x64 =>
  some (.inl ((y.1.1, ((), ((IntKind.i64.wrap (y.1.2.2.1 + (1 : Int))), ()))), ((y.2.1.set x63 x64), ())))
else
  some (.inr ((((), ()), (y.2.1, ()))))
theorem r91_58 : ∀ y, g91_58 y = roundF (ctxWith c91 []) (unloop (codeAt b91 1 58)) 58 s91_58 t91_58 y := fun y => by kernel_rfl
noncomputable def l91_58 : s91_58.Y → Option (YS t91_58) := loopF g91_58
theorem q91_58 (H : CtxGood Tryz.prog c91) : FragOk Tryz.prog (codeAt b91 1 58) (fragOrc s91_58 t91_58 l91_58) :=
  loop_at (fr := []) H (by kernel_rfl) (by kernel_rfl) frags_nil (fun y => iter_congr r91_58 y)
@[reducible] noncomputable def i91 : Shape := ⟨[(0, .lf (.d (.sl .need)))], [], 23⟩
@[reducible] noncomputable def o91 : Shape := ⟨[(2, .lf (.own 3000128))], [(3000128, .row .need, .slot 2 0)], 23⟩
noncomputable def f91 (a : i91.Y) : Option o91.Y :=
(mk0 40 (a.1.1.length : Int) (a.1.1.length : Int) (Need.mk ([] : Str) (0 : Int) ([] : Str))).bind fun x67 =>
(l91_58 ((a.1.1, ((), ((0 : Int), ()))), (x67, ()))).bind fun r68 =>
  some (((), ()), (r68.2.1, ()))
theorem e91 : ∀ a, f91 a = bodyF (ctxWith c91 [(58, fragOrc s91_58 t91_58 l91_58)]) b91 i91 o91 a := fun a => by kernel_rfl
noncomputable def S91 : Summ := funSumm tt 23 i91 o91 [.tmp 2] f91
theorem z91 (h : ∀ T, (tt T).ok Tryz.prog T) (h119 : SummOk Tryz.prog 119 S119) : SummOk Tryz.prog 91 S91 :=
  have H := k91 h h119
  fun_at (fn := Tryz.f91) (fr := [(58, fragOrc s91_58 t91_58 l91_58)]) H (by kernel_rfl) (by kernel_rfl) (by kernel_rfl) (by kernel_rfl) (by kernel_rfl) ⟨q91_58 H, trivial⟩ (fun y => ⟨_, rfl, rfl⟩) e91
end Go.Proofs

set_option maxRecDepth 100000
set_option linter.unusedVariables false
namespace Go.Proofs
open Go.Jk
-- 92 loop.example/jackstay/laws.toEntryS
noncomputable def c92 : Ctx := { tt := tt, fs := fun n => match n with | 120 => some S120 | _ => none }
theorem k92 (h : ∀ T, (tt T).ok Tryz.prog T) (h120 : SummOk Tryz.prog 120 S120) : CtxGood Tryz.prog c92 := ⟨⟨h⟩, fun g S hg => (by
  simp only [c92] at hg
  split at hg
  · cases hg; exact h120
  · cases hg), tt_mo, fun _ _ h => (by cases h)⟩
noncomputable def b92 : Code := codeOf Tryz.f92
@[reducible] noncomputable def s92_58 : Shape := ⟨[(0, .lf (.d (.sl .entry))), (3, .lf (.own 3000192)), (4, .lf (.d (.int .i64)))], [(3000192, .row .entry, .slot 3 0)], 23⟩
@[reducible] noncomputable def t92_58 : List OSh := [(.exit 0, ⟨[(3, .lf (.own 3000192))], [(3000192, .row .entry, .slot 3 0)], 23⟩)]
noncomputable def g92_58 (y : s92_58.Y) : Option (Sum s92_58.Y (YS t92_58)) :=
  bif (decide (y.1.2.2.1 < (y.1.1.length : Int))) then
(ix y.1.1 y.1.2.2.1).bind fun x79 =>
(f120 (((x79.path, (x79.kind, (x79.mode, (x79.text, ())))), ()), ())).bind fun r80 =>
(inb y.2.1.length y.1.2.2.1).bind fun x81 =>
((y.2.1[x81]?).bind fun q => some (Entry.mk r80.2.1.1 r80.2.1.2.1 r80.2.1.2.2.1 r80.2.1.2.2.2.1)).bind fun x82 =>
  some (.inl ((y.1.1, ((), ((IntKind.i64.wrap (y.1.2.2.1 + (1 : Int))), ()))), ((y.2.1.set x81 x82), ())))
else
  some (.inr ((((), ()), (y.2.1, ()))))
theorem r92_58 : ∀ y, g92_58 y = roundF (ctxWith c92 []) (unloop (codeAt b92 1 58)) 58 s92_58 t92_58 y := fun y => by kernel_rfl
noncomputable def l92_58 : s92_58.Y → Option (YS t92_58) := loopF g92_58
theorem q92_58 (H : CtxGood Tryz.prog c92) : FragOk Tryz.prog (codeAt b92 1 58) (fragOrc s92_58 t92_58 l92_58) :=
  loop_at (fr := []) H (by kernel_rfl) (by kernel_rfl) frags_nil (fun y => iter_congr r92_58 y)
@[reducible] noncomputable def i92 : Shape := ⟨[(0, .lf (.d (.sl .entry)))], [], 23⟩
@[reducible] noncomputable def o92 : Shape := ⟨[(2, .lf (.own 3000128))], [(3000128, .row .entry, .slot 2 0)], 23⟩
noncomputable def f92 (a : i92.Y) : Option o92.Y :=
(mk0 48 (a.1.1.length : Int) (a.1.1.length : Int) (Entry.mk ([] : Str) (0 : Int) (0 : Int) ([] : Str))).bind fun x85 =>
(l92_58 ((a.1.1, ((), ((0 : Int), ()))), (x85, ()))).bind fun r86 =>
  some (((), ()), (r86.2.1, ()))
theorem e92 : ∀ a, f92 a = bodyF (ctxWith c92 [(58, fragOrc s92_58 t92_58 l92_58)]) b92 i92 o92 a := fun a => by kernel_rfl
noncomputable def S92 : Summ := funSumm tt 23 i92 o92 [.tmp 2] f92
theorem z92 (h : ∀ T, (tt T).ok Tryz.prog T) (h120 : SummOk Tryz.prog 120 S120) : SummOk Tryz.prog 92 S92 :=
  have H := k92 h h120
  fun_at (fn := Tryz.f92) (fr := [(58, fragOrc s92_58 t92_58 l92_58)]) H (by kernel_rfl) (by kernel_rfl) (by kernel_rfl) (by kernel_rfl) (by kernel_rfl) ⟨q92_58 H, trivial⟩ (fun y => ⟨_, rfl, rfl⟩) e92
end Go.Proofs

set_option maxRecDepth 100000
set_option linter.unusedVariables false
namespace Go.Proofs
open Go.Jk
-- 59 loop.example/jackstay/laws.toPack
noncomputable def c59 : Ctx := { tt := tt, fs := fun n => match n with | 91 => some S91 | 92 => some S92 | _ => none }
theorem k59 (h : ∀ T, (tt T).ok Tryz.prog T) (h91 : SummOk Tryz.prog 91 S91) (h92 : SummOk Tryz.prog 92 S92) : CtxGood Tryz.prog c59 := ⟨⟨h⟩, fun g S hg => (by
  simp only [c59] at hg
  split at hg
  · cases hg; exact h91
  · cases hg; exact h92
  · cases hg), tt_mo, fun _ _ h => (by cases h)⟩
noncomputable def b59 : Code := codeOf Tryz.f59
@[reducible] noncomputable def i59 : Shape := ⟨[(0, .agg [.d (.str), .d (.str), .d (.sl .need), .d (.sl .entry)])], [], 19⟩
@[reducible] noncomputable def o59 : Shape := ⟨[(2, .lf (.ptr 2 0))], [(5000130, .row .need, .cell 2 2), (5000131, .row .entry, .cell 2 3), (2, .box [.d (.str), .d (.str), .own 5000130, .own 5000131], .same)], 19⟩
noncomputable def f59 (a : i59.Y) : Option o59.Y :=
(f91 ((a.1.1.2.2.1, ()), ())).bind fun r89 =>
(f92 ((a.1.1.2.2.2.1, ()), ())).bind fun r90 =>
  some (((), ()), (r89.2.1, (r90.2.1, ((a.1.1.1, (a.1.1.2.1, ((), ((), ())))), ()))))
theorem e59 : ∀ a, f59 a = bodyF (ctxWith c59 []) b59 i59 o59 a := fun a => by kernel_rfl
noncomputable def S59 : Summ := funSumm tt 19 i59 o59 [.cell 2 35] f59
theorem z59 (h : ∀ T, (tt T).ok Tryz.prog T) (h91 : SummOk Tryz.prog 91 S91) (h92 : SummOk Tryz.prog 92 S92) : SummOk Tryz.prog 59 S59 :=
  have H := k59 h h91 h92
  fun_at (fn := Tryz.f59) (fr := []) H (by kernel_rfl) (by kernel_rfl) (by kernel_rfl) (by kernel_rfl) (by kernel_rfl) frags_nil (fun y => ⟨_, rfl, rfl⟩) e59
end Go.Proofs

set_option maxRecDepth 100000
set_option linter.unusedVariables false
namespace Go.Proofs
open Go.Jk
-- 37 loop.example/jackstay/laws.toPackS
noncomputable def c37 : Ctx := { tt := tt, fs := fun n => match n with | 59 => some S59 | _ => none }
theorem k37 (h : ∀ T, (tt T).ok Tryz.prog T) (h59 : SummOk Tryz.prog 59 S59) : CtxGood Tryz.prog c37 := ⟨⟨h⟩, fun g S hg => (by
  simp only [c37] at hg
  split at hg
  · cases hg; exact h59
  · cases hg), tt_mo, fun _ _ h => (by cases h)⟩
noncomputable def b37 : Code := codeOf Tryz.f37
@[reducible] noncomputable def s37_58 : Shape := ⟨[(0, .lf (.d (.sl .pack))), (3, .lf (.own 3000192)), (4, .lf (.d (.int .i64)))], [(3000192, .row .pack, .slot 3 0)], 23⟩
@[reducible] noncomputable def t37_58 : List OSh := [(.exit 0, ⟨[(3, .lf (.own 3000192))], [(3000192, .row .pack, .slot 3 0)], 23⟩)]
noncomputable def g37_58 (y : s37_58.Y) : Option (Sum s37_58.Y (YS t37_58)) :=
  bif (decide (y.1.2.2.1 < (y.1.1.length : Int))) then
(ix y.1.1 y.1.2.2.1).bind fun x94 =>
(f59 (((x94.name, (x94.version, (x94.needs, (x94.tree, ())))), ()), ())).bind fun r95 =>
(inb y.2.1.length y.1.2.2.1).bind fun x96 =>
((y.2.1[x96]?).bind fun q => some (Pack.mk r95.2.2.2.1.1 r95.2.2.2.1.2.1 r95.2.1 r95.2.2.1)).bind fun x97 =>
  some (.inl ((y.1.1, ((), ((IntKind.i64.wrap (y.1.2.2.1 + (1 : Int))), ()))), ((y.2.1.set x96 x97), ())))
else
  some (.inr ((((), ()), (y.2.1, ()))))
theorem r37_58 : ∀ y, g37_58 y = roundF (ctxWith c37 []) (unloop (codeAt b37 1 58)) 58 s37_58 t37_58 y := fun y => by kernel_rfl
noncomputable def l37_58 : s37_58.Y → Option (YS t37_58) := loopF g37_58
theorem q37_58 (H : CtxGood Tryz.prog c37) : FragOk Tryz.prog (codeAt b37 1 58) (fragOrc s37_58 t37_58 l37_58) :=
  loop_at (fr := []) H (by kernel_rfl) (by kernel_rfl) frags_nil (fun y => iter_congr r37_58 y)
@[reducible] noncomputable def i37 : Shape := ⟨[(0, .lf (.d (.sl .pack)))], [], 23⟩
@[reducible] noncomputable def o37 : Shape := ⟨[(2, .lf (.own 3000128))], [(3000128, .row .pack, .slot 2 0)], 23⟩
noncomputable def f37 (a : i37.Y) : Option o37.Y :=
(mk0 80 (a.1.1.length : Int) (a.1.1.length : Int) (Pack.mk ([] : Str) ([] : Str) ([] : List Need) ([] : List Entry))).bind fun x100 =>
(l37_58 ((a.1.1, ((), ((0 : Int), ()))), (x100, ()))).bind fun r101 =>
  some (((), ()), (r101.2.1, ()))
theorem e37 : ∀ a, f37 a = bodyF (ctxWith c37 [(58, fragOrc s37_58 t37_58 l37_58)]) b37 i37 o37 a := fun a => by kernel_rfl
noncomputable def S37 : Summ := funSumm tt 23 i37 o37 [.tmp 2] f37
theorem z37 (h : ∀ T, (tt T).ok Tryz.prog T) (h59 : SummOk Tryz.prog 59 S59) : SummOk Tryz.prog 37 S37 :=
  have H := k37 h h59
  fun_at (fn := Tryz.f37) (fr := [(58, fragOrc s37_58 t37_58 l37_58)]) H (by kernel_rfl) (by kernel_rfl) (by kernel_rfl) (by kernel_rfl) (by kernel_rfl) ⟨q37_58 H, trivial⟩ (fun y => ⟨_, rfl, rfl⟩) e37
end Go.Proofs

set_option maxRecDepth 100000
set_option linter.unusedVariables false
namespace Go.Proofs
open Go.Jk
-- 16 loop.example/jackstay/laws.toRoot
noncomputable def c16 : Ctx := { tt := tt, fs := fun n => match n with | 37 => some S37 | _ => none }
theorem k16 (h : ∀ T, (tt T).ok Tryz.prog T) (h37 : SummOk Tryz.prog 37 S37) : CtxGood Tryz.prog c16 := ⟨⟨h⟩, fun g S hg => (by
  simp only [c16] at hg
  split at hg
  · cases hg; exact h37
  · cases hg), tt_mo, fun _ _ h => (by cases h)⟩
noncomputable def b16 : Code := codeOf Tryz.f16
@[reducible] noncomputable def i16 : Shape := ⟨[(0, .agg [.d (.sl .pack)])], [], 9⟩
@[reducible] noncomputable def o16 : Shape := ⟨[(2, .lf (.ptr 2 0))], [(5000128, .row .pack, .cell 2 0), (2, .box [.own 5000128], .same)], 9⟩
noncomputable def f16 (a : i16.Y) : Option o16.Y :=
(f37 ((a.1.1.1, ()), ())).bind fun r103 =>
  some (((), ()), (r103.2.1, (((), ()), ())))
theorem e16 : ∀ a, f16 a = bodyF (ctxWith c16 []) b16 i16 o16 a := fun a => by kernel_rfl
noncomputable def S16 : Summ := funSumm tt 9 i16 o16 [.cell 2 44] f16
theorem z16 (h : ∀ T, (tt T).ok Tryz.prog T) (h37 : SummOk Tryz.prog 37 S37) : SummOk Tryz.prog 16 S16 :=
  have H := k16 h h37
  fun_at (fn := Tryz.f16) (fr := []) H (by kernel_rfl) (by kernel_rfl) (by kernel_rfl) (by kernel_rfl) (by kernel_rfl) frags_nil (fun y => ⟨_, rfl, rfl⟩) e16
end Go.Proofs

set_option maxRecDepth 100000
set_option linter.unusedVariables false
namespace Go.Proofs
open Go.Jk
-- 44 loop.example/jackstay/laws.eqEntry
noncomputable def c44 : Ctx := { tt := tt, fs := fun n => match n with | _ => none }
theorem k44 (h : ∀ T, (tt T).ok Tryz.prog T) : CtxGood Tryz.prog c44 := ⟨⟨h⟩, fun g S hg => (by cases hg), tt_mo, fun _ _ h => (by cases h)⟩
noncomputable def b44 : Code := codeOf Tryz.f44
@[reducible] noncomputable def i44 : Shape := ⟨[(0, .agg [.d (.str), .d (.int .i64), .d (.int .i64), .d (.str)]), (1, .agg [.d (.str), .d (.int .i64), .d (.int .i64), .d (.str)])], [], 25⟩
@[reducible] noncomputable def o44 : Shape := ⟨[(4, .lf (.d (.bool)))], [], 25⟩
noncomputable def f44 (a : i44.Y) : Option o44.Y :=
  bif (!(a.1.1.1 == a.1.2.1.1)) then
  some ((false, ()), ())
else
  bif (a.1.1.2.1 != a.1.2.1.2.1) then
  some ((false, ()), ())
else
  bif (a.1.1.2.2.1 != a.1.2.1.2.2.1) then
  some ((false, ()), ())
else
  bif (!(a.1.1.2.2.2.1 == a.1.2.1.2.2.2.1)) then
  some ((false, ()), ())
else
  some ((true, ()), ())
theorem e44 : ∀ a, f44 a = bodyF (ctxWith c44 []) b44 i44 o44 a := fun a => by kernel_rfl
noncomputable def S44 : Summ := funSumm tt 25 i44 o44 [.tmp 4] f44
theorem z44 (h : ∀ T, (tt T).ok Tryz.prog T) : SummOk Tryz.prog 44 S44 :=
  have H := k44 h
  fun_at (fn := Tryz.f44) (fr := []) H (by kernel_rfl) (by kernel_rfl) (by kernel_rfl) (by kernel_rfl) (by kernel_rfl) frags_nil (fun y => ⟨_, rfl, rfl⟩) e44
end Go.Proofs

set_option maxRecDepth 100000
set_option linter.unusedVariables false
namespace Go.Proofs
open Go.Jk
-- 23 loop.example/jackstay/laws.eqEntryS
noncomputable def c23 : Ctx := { tt := tt, fs := fun n => match n with | 44 => some S44 | _ => none }
theorem k23 (h : ∀ T, (tt T).ok Tryz.prog T) (h44 : SummOk Tryz.prog 44 S44) : CtxGood Tryz.prog c23 := ⟨⟨h⟩, fun g S hg => (by
  simp only [c23] at hg
  split at hg
  · cases hg; exact h44
  · cases hg), tt_mo, fun _ _ h => (by cases h)⟩
noncomputable def b23 : Code := codeOf Tryz.f23
@[reducible] noncomputable def s23_58 : Shape := ⟨[(0, .lf (.d (.sl .entry))), (1, .lf (.d (.sl .entry))), (5, .lf (.d (.int .i64)))], [], 27⟩
@[reducible] noncomputable def t23_58 : List OSh := [(.ret, ⟨[(4, .lf (.d (.bool)))], [], 27⟩), (.exit 0, ⟨[], [], 27⟩)]
noncomputable def g23_58 (y : s23_58.Y) : Option (Sum s23_58.Y (YS t23_58)) :=
  bif (decide (y.1.2.2.1 < (y.1.1.length : Int))) then
(ix y.1.1 y.1.2.2.1).bind fun x1281 =>
(ix y.1.2.1 y.1.2.2.1).bind fun x1282 =>
(f44 (((x1281.path, (x1281.kind, (x1281.mode, (x1281.text, ())))), ((x1282.path, (x1282.kind, (x1282.mode, (x1282.text, ())))), ())), ())).bind fun r1283 =>
  bif (!r1283.1.1) then
  some (.inr (.inl ((false, ()), ())))
else
  some (.inl ((y.1.1, (y.1.2.1, ((IntKind.i64.wrap (y.1.2.2.1 + (1 : Int))), ()))), ()))
else
  some (.inr (.inr ((), ())))
theorem r23_58 : ∀ y, g23_58 y = roundF (ctxWith c23 []) (unloop (codeAt b23 1 58)) 58 s23_58 t23_58 y := fun y => by kernel_rfl
noncomputable def l23_58 : s23_58.Y → Option (YS t23_58) := loopF g23_58
theorem q23_58 (H : CtxGood Tryz.prog c23) : FragOk Tryz.prog (codeAt b23 1 58) (fragOrc s23_58 t23_58 l23_58) :=
  loop_at (fr := []) H (by kernel_rfl) (by kernel_rfl) frags_nil (fun y => iter_congr r23_58 y)
@[reducible] noncomputable def i23 : Shape := ⟨[(0, .lf (.d (.sl .entry))), (1, .lf (.d (.sl .entry)))], [], 27⟩
@[reducible] noncomputable def o23 : Shape := ⟨[(4, .lf (.d (.bool)))], [], 27⟩
noncomputable def f23 (a : i23.Y) : Option o23.Y :=
  bif ((a.1.1.length : Int) != (a.1.2.1.length : Int)) then
  some ((false, ()), ())
else
(l23_58 ((a.1.1, (a.1.2.1, ((0 : Int), ()))), ())).bind fun r1284 =>
(match r1284 with
| .inl r1285 =>
  some ((r1285.1.1, ()), ())
| .inr r1286 =>
  some ((true, ()), ()))
theorem e23 : ∀ a, f23 a = bodyF (ctxWith c23 [(58, fragOrc s23_58 t23_58 l23_58)]) b23 i23 o23 a := fun a => by kernel_rfl
noncomputable def S23 : Summ := funSumm tt 27 i23 o23 [.tmp 4] f23
theorem z23 (h : ∀ T, (tt T).ok Tryz.prog T) (h44 : SummOk Tryz.prog 44 S44) : SummOk Tryz.prog 23 S23 :=
  have H := k23 h h44
  fun_at (fn := Tryz.f23) (fr := [(58, fragOrc s23_58 t23_58 l23_58)]) H (by kernel_rfl) (by kernel_rfl) (by kernel_rfl) (by kernel_rfl) (by kernel_rfl) ⟨q23_58 H, trivial⟩ (fun y => ⟨_, rfl, rfl⟩) e23
end Go.Proofs

set_option maxRecDepth 100000
set_option linter.unusedVariables false
namespace Go.Proofs
open Go.Jk
-- 95 loop.example/jackstay/laws.eqNeedS
noncomputable def c95 : Ctx := { tt := tt, fs := fun n => match n with | 122 => some S122 | _ => none }
theorem k95 (h : ∀ T, (tt T).ok Tryz.prog T) (h122 : SummOk Tryz.prog 122 S122) : CtxGood Tryz.prog c95 := ⟨⟨h⟩, fun g S hg => (by
  simp only [c95] at hg
  split at hg
  · cases hg; exact h122
  · cases hg), tt_mo, fun _ _ h => (by cases h)⟩
noncomputable def b95 : Code := codeOf Tryz.f95
@[reducible] noncomputable def s95_58 : Shape := ⟨[(0, .lf (.d (.sl .need))), (1, .lf (.d (.sl .need))), (5, .lf (.d (.int .i64)))], [], 27⟩
@[reducible] noncomputable def t95_58 : List OSh := [(.ret, ⟨[(4, .lf (.d (.bool)))], [], 27⟩), (.exit 0, ⟨[], [], 27⟩)]
noncomputable def g95_58 (y : s95_58.Y) : Option (Sum s95_58.Y (YS t95_58)) :=
  bif (decide (y.1.2.2.1 < (y.1.1.length : Int))) then
(ix y.1.1 y.1.2.2.1).bind fun x1262 =>
(ix y.1.2.1 y.1.2.2.1).bind fun x1263 =>
(f122 (((x1262.name, (x1262.kind, (x1262.version, ()))), ((x1263.name, (x1263.kind, (x1263.version, ()))), ())), ())).bind fun r1264 =>
  bif (!r1264.1.1) then
  some (.inr (.inl ((false, ()), ())))
else
  some (.inl ((y.1.1, (y.1.2.1, ((IntKind.i64.wrap (y.1.2.2.1 + (1 : Int))), ()))), ()))
else
  some (.inr (.inr ((), ())))
theorem r95_58 : ∀ y, g95_58 y = roundF (ctxWith c95 []) (unloop (codeAt b95 1 58)) 58 s95_58 t95_58 y := fun y => by kernel_rfl
noncomputable def l95_58 : s95_58.Y → Option (YS t95_58) := loopF g95_58
theorem q95_58 (H : CtxGood Tryz.prog c95) : FragOk Tryz.prog (codeAt b95 1 58) (fragOrc s95_58 t95_58 l95_58) :=
  loop_at (fr := []) H (by kernel_rfl) (by kernel_rfl) frags_nil (fun y => iter_congr r95_58 y)
@[reducible] noncomputable def i95 : Shape := ⟨[(0, .lf (.d (.sl .need))), (1, .lf (.d (.sl .need)))], [], 27⟩
@[reducible] noncomputable def o95 : Shape := ⟨[(4, .lf (.d (.bool)))], [], 27⟩
noncomputable def f95 (a : i95.Y) : Option o95.Y :=
  bif ((a.1.1.length : Int) != (a.1.2.1.length : Int)) then
  some ((false, ()), ())
else
(l95_58 ((a.1.1, (a.1.2.1, ((0 : Int), ()))), ())).bind fun r1265 =>
(match r1265 with
| .inl r1266 =>
  some ((r1266.1.1, ()), ())
| .inr r1267 =>
  some ((true, ()), ()))
theorem e95 : ∀ a, f95 a = bodyF (ctxWith c95 [(58, fragOrc s95_58 t95_58 l95_58)]) b95 i95 o95 a := fun a => by kernel_rfl
noncomputable def S95 : Summ := funSumm tt 27 i95 o95 [.tmp 4] f95
theorem z95 (h : ∀ T, (tt T).ok Tryz.prog T) (h122 : SummOk Tryz.prog 122 S122) : SummOk Tryz.prog 95 S95 :=
  have H := k95 h h122
  fun_at (fn := Tryz.f95) (fr := [(58, fragOrc s95_58 t95_58 l95_58)]) H (by kernel_rfl) (by kernel_rfl) (by kernel_rfl) (by kernel_rfl) (by kernel_rfl) ⟨q95_58 H, trivial⟩ (fun y => ⟨_, rfl, rfl⟩) e95
end Go.Proofs

set_option maxRecDepth 100000
set_option linter.unusedVariables false
namespace Go.Proofs
open Go.Jk
-- 66 loop.example/jackstay/laws.eqPack
noncomputable def c66 : Ctx := { tt := tt, fs := fun n => match n with | 23 => some S23 | 95 => some S95 | _ => none }
theorem k66 (h : ∀ T, (tt T).ok Tryz.prog T) (h23 : SummOk Tryz.prog 23 S23) (h95 : SummOk Tryz.prog 95 S95) : CtxGood Tryz.prog c66 := ⟨⟨h⟩, fun g S hg => (by
  simp only [c66] at hg
  split at hg
  · cases hg; exact h23
  · cases hg; exact h95
  · cases hg), tt_mo, fun _ _ h => (by cases h)⟩
noncomputable def b66 : Code := codeOf Tryz.f66
@[reducible] noncomputable def i66 : Shape := ⟨[(0, .agg [.d (.str), .d (.str), .d (.sl .need), .d (.sl .entry)]), (1, .agg [.d (.str), .d (.str), .d (.sl .need), .d (.sl .entry)])], [], 27⟩
@[reducible] noncomputable def o66 : Shape := ⟨[(4, .lf (.d (.bool)))], [], 27⟩
noncomputable def f66 (a : i66.Y) : Option o66.Y :=
  bif (!(a.1.1.1 == a.1.2.1.1)) then
  some ((false, ()), ())
else
  bif (!(a.1.1.2.1 == a.1.2.1.2.1)) then
  some ((false, ()), ())
else
(f95 ((a.1.1.2.2.1, (a.1.2.1.2.2.1, ())), ())).bind fun r1292 =>
  bif (!r1292.1.1) then
  some ((false, ()), ())
else
(f23 ((a.1.1.2.2.2.1, (a.1.2.1.2.2.2.1, ())), ())).bind fun r1294 =>
  bif (!r1294.1.1) then
  some ((false, ()), ())
else
  some ((true, ()), ())
theorem e66 : ∀ a, f66 a = bodyF (ctxWith c66 []) b66 i66 o66 a := fun a => by kernel_rfl
noncomputable def S66 : Summ := funSumm tt 27 i66 o66 [.tmp 4] f66
theorem z66 (h : ∀ T, (tt T).ok Tryz.prog T) (h23 : SummOk Tryz.prog 23 S23) (h95 : SummOk Tryz.prog 95 S95) : SummOk Tryz.prog 66 S66 :=
  have H := k66 h h23 h95
  fun_at (fn := Tryz.f66) (fr := []) H (by kernel_rfl) (by kernel_rfl) (by kernel_rfl) (by kernel_rfl) (by kernel_rfl) frags_nil (fun y => ⟨_, rfl, rfl⟩) e66
end Go.Proofs

set_option maxRecDepth 100000
set_option linter.unusedVariables false
namespace Go.Proofs
open Go.Jk
-- 39 loop.example/jackstay/laws.eqPackS
noncomputable def c39 : Ctx := { tt := tt, fs := fun n => match n with | 66 => some S66 | _ => none }
theorem k39 (h : ∀ T, (tt T).ok Tryz.prog T) (h66 : SummOk Tryz.prog 66 S66) : CtxGood Tryz.prog c39 := ⟨⟨h⟩, fun g S hg => (by
  simp only [c39] at hg
  split at hg
  · cases hg; exact h66
  · cases hg), tt_mo, fun _ _ h => (by cases h)⟩
noncomputable def b39 : Code := codeOf Tryz.f39
@[reducible] noncomputable def s39_58 : Shape := ⟨[(0, .lf (.d (.sl .pack))), (1, .lf (.d (.sl .pack))), (5, .lf (.d (.int .i64)))], [], 27⟩
@[reducible] noncomputable def t39_58 : List OSh := [(.ret, ⟨[(4, .lf (.d (.bool)))], [], 27⟩), (.exit 0, ⟨[], [], 27⟩)]
noncomputable def g39_58 (y : s39_58.Y) : Option (Sum s39_58.Y (YS t39_58)) :=
  bif (decide (y.1.2.2.1 < (y.1.1.length : Int))) then
(ix y.1.1 y.1.2.2.1).bind fun x1302 =>
(ix y.1.2.1 y.1.2.2.1).bind fun x1303 =>
(f66 (((x1302.name, (x1302.version, (x1302.needs, (x1302.tree, ())))), ((x1303.name, (x1303.version, (x1303.needs, (x1303.tree, ())))), ())), ())).bind fun r1304 =>
  bif (!r1304.1.1) then
  some (.inr (.inl ((false, ()), ())))
else
  some (.inl ((y.1.1, (y.1.2.1, ((IntKind.i64.wrap (y.1.2.2.1 + (1 : Int))), ()))), ()))
else
  some (.inr (.inr ((), ())))
theorem r39_58 : ∀ y, g39_58 y = roundF (ctxWith c39 []) (unloop (codeAt b39 1 58)) 58 s39_58 t39_58 y := fun y => by kernel_rfl
noncomputable def l39_58 : s39_58.Y → Option (YS t39_58) := loopF g39_58
theorem q39_58 (H : CtxGood Tryz.prog c39) : FragOk Tryz.prog (codeAt b39 1 58) (fragOrc s39_58 t39_58 l39_58) :=
  loop_at (fr := []) H (by kernel_rfl) (by kernel_rfl) frags_nil (fun y => iter_congr r39_58 y)
@[reducible] noncomputable def i39 : Shape := ⟨[(0, .lf (.d (.sl .pack))), (1, .lf (.d (.sl .pack)))], [], 27⟩
@[reducible] noncomputable def o39 : Shape := ⟨[(4, .lf (.d (.bool)))], [], 27⟩
noncomputable def f39 (a : i39.Y) : Option o39.Y :=
  bif ((a.1.1.length : Int) != (a.1.2.1.length : Int)) then
  some ((false, ()), ())
else
(l39_58 ((a.1.1, (a.1.2.1, ((0 : Int), ()))), ())).bind fun r1305 =>
(match r1305 with
| .inl r1306 =>
  some ((r1306.1.1, ()), ())
| .inr r1307 =>
  some ((true, ()), ()))
theorem e39 : ∀ a, f39 a = bodyF (ctxWith c39 [(58, fragOrc s39_58 t39_58 l39_58)]) b39 i39 o39 a := fun a => by kernel_rfl
noncomputable def S39 : Summ := funSumm tt 27 i39 o39 [.tmp 4] f39
theorem z39 (h : ∀ T, (tt T).ok Tryz.prog T) (h66 : SummOk Tryz.prog 66 S66) : SummOk Tryz.prog 39 S39 :=
  have H := k39 h h66
  fun_at (fn := Tryz.f39) (fr := [(58, fragOrc s39_58 t39_58 l39_58)]) H (by kernel_rfl) (by kernel_rfl) (by kernel_rfl) (by kernel_rfl) (by kernel_rfl) ⟨q39_58 H, trivial⟩ (fun y => ⟨_, rfl, rfl⟩) e39
end Go.Proofs

set_option maxRecDepth 100000
set_option linter.unusedVariables false
namespace Go.Proofs
open Go.Jk
-- 18 loop.example/jackstay/laws.eqRoot
noncomputable def c18 : Ctx := { tt := tt, fs := fun n => match n with | 39 => some S39 | _ => none }
theorem k18 (h : ∀ T, (tt T).ok Tryz.prog T) (h39 : SummOk Tryz.prog 39 S39) : CtxGood Tryz.prog c18 := ⟨⟨h⟩, fun g S hg => (by
  simp only [c18] at hg
  split at hg
  · cases hg; exact h39
  · cases hg), tt_mo, fun _ _ h => (by cases h)⟩
noncomputable def b18 : Code := codeOf Tryz.f18
@[reducible] noncomputable def i18 : Shape := ⟨[(0, .agg [.d (.sl .pack)]), (1, .agg [.d (.sl .pack)])], [], 11⟩
@[reducible] noncomputable def o18 : Shape := ⟨[(4, .lf (.d (.bool)))], [], 11⟩
noncomputable def f18 (a : i18.Y) : Option o18.Y :=
(f39 ((a.1.1.1, (a.1.2.1.1, ())), ())).bind fun r1311 =>
  bif (!r1311.1.1) then
  some ((false, ()), ())
else
  some ((true, ()), ())
theorem e18 : ∀ a, f18 a = bodyF (ctxWith c18 []) b18 i18 o18 a := fun a => by kernel_rfl
noncomputable def S18 : Summ := funSumm tt 11 i18 o18 [.tmp 4] f18
theorem z18 (h : ∀ T, (tt T).ok Tryz.prog T) (h39 : SummOk Tryz.prog 39 S39) : SummOk Tryz.prog 18 S18 :=
  have H := k18 h h39
  fun_at (fn := Tryz.f18) (fr := []) H (by kernel_rfl) (by kernel_rfl) (by kernel_rfl) (by kernel_rfl) (by kernel_rfl) frags_nil (fun y => ⟨_, rfl, rfl⟩) e18
end Go.Proofs

set_option maxRecDepth 100000
set_option linter.unusedVariables false
set_option linter.unusedSimpArgs false
namespace Go.Proofs
open Go.Jk

/-- What fits into the bound that the laws set. -/
abbrev Mx (n : Nat) : Prop := n ≤ maxLen
abbrev Sz (n : Nat) : Prop := n ≤ 1048576
abbrev MxN (n : Need) : Prop := Mx n.name.length ∧ Mx n.version.length
abbrev SzN (n : Need) : Prop := Sz n.name.length ∧ Sz n.version.length
abbrev MxE (e : Entry) : Prop := Mx e.path.length ∧ Mx e.text.length
abbrev SzE (e : Entry) : Prop := Sz e.path.length ∧ Sz e.text.length
abbrev MxNs (l : List Need) : Prop := Mx l.length ∧ ∀ n, n ∈ l → MxN n
abbrev SzNs (l : List Need) : Prop := Sz l.length ∧ ∀ n, n ∈ l → SzN n
abbrev MxEs (l : List Entry) : Prop := Mx l.length ∧ ∀ n, n ∈ l → MxE n
abbrev SzEs (l : List Entry) : Prop := Sz l.length ∧ ∀ n, n ∈ l → SzE n
abbrev MxP (p : Pack) : Prop := Mx p.name.length ∧ Mx p.version.length ∧ MxNs p.needs ∧ MxEs p.tree
abbrev SzP (p : Pack) : Prop := Sz p.name.length ∧ Sz p.version.length ∧ SzNs p.needs ∧ SzEs p.tree
abbrev MxPs (l : List Pack) : Prop := Mx l.length ∧ ∀ n, n ∈ l → MxP n
abbrev SzPs (l : List Pack) : Prop := Sz l.length ∧ ∀ n, n ∈ l → SzP n

theorem sz_wrap {l : Int} {n : Nat} (h0 : 0 ≤ l) (h1 : l ≤ 1048576) (hn : Mx n) : IntKind.i64.wrap (l - (n : Int)) = l - n := by
  unfold Mx maxLen at hn
  exact wrap_of (by omega) (by omega)

/-- What is left of a bound; or it does not fit. -/
def LeftOf (l r : Int) (p : Prop) : Prop := r < 0 ∨ (0 ≤ r ∧ r ≤ l ∧ p)

theorem sz_loop {α Y B : Type} (g : Y → Option (Sum Y B)) (xs : List α) (st : Nat → Int → Y) (no : B) (yes : Int → B) (W : α → Prop)
    (h1 : ∀ i x s, xs[i]? = some x → 0 ≤ s → s ≤ 1048576 → g (st i s) = some (.inr no) ∨ ∃ s', 0 ≤ s' ∧ s' ≤ s ∧ W x ∧ g (st i s) = some (.inl (st (i + 1) s')))
    (h2 : ∀ s, g (st xs.length s) = some (.inr (yes s))) (s : Int) (h3 : 0 ≤ s) (h4 : s ≤ 1048576) :
    loopF g (st 0 s) = some no ∨ ∃ s', 0 ≤ s' ∧ s' ≤ s ∧ (∀ x, x ∈ xs → W x) ∧ loopF g (st 0 s) = some (yes s') := by
  suffices h : ∀ (r : List α) (k : Nat) (s : Int), xs.drop k = r → k ≤ xs.length → 0 ≤ s → s ≤ 1048576 → loopF g (st k s) = some no ∨ ∃ s', 0 ≤ s' ∧ s' ≤ s ∧ (∀ x, x ∈ r → W x) ∧ loopF g (st k s) = some (yes s') from
    h xs 0 s rfl (Nat.zero_le _) h3 h4
  intro r
  induction r with
  | nil =>
    intro k s hr hk h3 h4
    have := drop_nil hr
    obtain rfl : k = xs.length := by omega
    exact .inr ⟨s, h3, Int.le_refl _, fun x h => (by cases h), loopF_r (h2 s)⟩
  | cons x r ih =>
    intro k s hr hk h3 h4
    obtain ⟨c1, c2, c3⟩ := drop_cons hr
    rcases h1 k x s c1 h3 h4 with h | ⟨s', k1, k2, k3, k4⟩
    · exact .inl (loopF_r h)
    · rw [loopF_l k4]
      rcases ih (k + 1) s' c2 (by omega) k1 (by omega) with h | ⟨s2, q1, q2, q3, q4⟩
      · exact .inl h
      · exact .inr ⟨s2, q1, by omega, fun y hy => by
          rcases List.mem_cons.1 hy with rfl | hy
          · exact k3
          · exact q3 y hy, q4⟩

theorem v_szNeed (a) (h0 : 0 ≤ a.1.2.1) (h1 : a.1.2.1 ≤ 1048576) (hm : MxN ⟨a.1.1.1, a.1.1.2.1, a.1.1.2.2.1⟩) : ∃ r : Int, f117 a = some ((r, ()), ()) ∧ LeftOf a.1.2.1 r (SzN ⟨a.1.1.1, a.1.1.2.1, a.1.1.2.2.1⟩) := by
  obtain ⟨⟨⟨(n : Str), k, (v : Str), u⟩, (l : Int), u'⟩, u''⟩ := a
  have h0 : 0 ≤ l := h0
  have h1 : l ≤ 1048576 := h1
  obtain ⟨m1, m2⟩ := hm
  have m1 : Mx n.length := m1
  have m2 : Mx v.length := m2
  simp only [f117, sz_wrap h0 h1 m1]
  by_cases c : l - (n.length : Int) < 0
  · simp only [c, decide_true, cond_true]
    exact ⟨_, rfl, .inl (by omega)⟩
  · simp only [c, decide_false, cond_false, sz_wrap (l := l - n.length) (by omega) (by omega) m2]
    by_cases c2 : l - (n.length : Int) - (v.length : Int) < 0
    · simp only [c2, decide_true, cond_true]
      exact ⟨_, rfl, .inl (by omega)⟩
    · simp only [c2, decide_false, cond_false]
      exact ⟨_, rfl, .inr ⟨by omega, (by show l - n.length - v.length ≤ l; omega), (by show n.length ≤ 1048576; omega), (by show v.length ≤ 1048576; omega)⟩⟩

theorem v_szEntry (a) (h0 : 0 ≤ a.1.2.1) (h1 : a.1.2.1 ≤ 1048576) (hm : MxE ⟨a.1.1.1, a.1.1.2.1, a.1.1.2.2.1, a.1.1.2.2.2.1⟩) : ∃ r : Int, f118 a = some ((r, ()), ()) ∧ LeftOf a.1.2.1 r (SzE ⟨a.1.1.1, a.1.1.2.1, a.1.1.2.2.1, a.1.1.2.2.2.1⟩) := by
  obtain ⟨⟨⟨(n : Str), k, k2, (v : Str), u⟩, (l : Int), u'⟩, u''⟩ := a
  have h0 : 0 ≤ l := h0
  have h1 : l ≤ 1048576 := h1
  obtain ⟨m1, m2⟩ := hm
  have m1 : Mx n.length := m1
  have m2 : Mx v.length := m2
  simp only [f118, sz_wrap h0 h1 m1]
  by_cases c : l - (n.length : Int) < 0
  · simp only [c, decide_true, cond_true]
    exact ⟨_, rfl, .inl (by omega)⟩
  · simp only [c, decide_false, cond_false, sz_wrap (l := l - n.length) (by omega) (by omega) m2]
    by_cases c2 : l - (n.length : Int) - (v.length : Int) < 0
    · simp only [c2, decide_true, cond_true]
      exact ⟨_, rfl, .inl (by omega)⟩
    · simp only [c2, decide_false, cond_false]
      exact ⟨_, rfl, .inr ⟨by omega, (by show l - n.length - v.length ≤ l; omega), (by show n.length ≤ 1048576; omega), (by show v.length ≤ 1048576; omega)⟩⟩

theorem v_szNeedS (a) (h0 : 0 ≤ a.1.2.1) (h1 : a.1.2.1 ≤ 1048576) (hm : MxNs a.1.1) : ∃ r : Int, f89 a = some ((r, ()), ()) ∧ LeftOf a.1.2.1 r (SzNs a.1.1) := by
  obtain ⟨⟨xs, (l : Int), u⟩, u'⟩ := a
  have h0 : 0 ≤ l := h0
  have h1 : l ≤ 1048576 := h1
  obtain ⟨m1, m2⟩ := hm
  have m1 : Mx xs.length := m1
  simp only [f89, sz_wrap h0 h1 m1]
  by_cases c : l - (xs.length : Int) < 0
  · simp only [c, decide_true, cond_true]
    exact ⟨_, rfl, .inl (by omega)⟩
  · simp only [c, decide_false, cond_false]
    have hl : xs.length ≤ 1048576 := by omega
    have key := sz_loop g89_122 xs (fun i s => ((xs, (s, ((i : Int), ()))), ())) (.inl (((-1 : Int), ()), ())) (fun s => .inr ((s, ()), ())) SzN (fun i x s hx s0 s1 => ?_) (fun s => ?_) (l - xs.length) (by omega) (by omega)
    · rcases key with h | ⟨s', k1, k2, k3, h⟩
      · have h : l89_122 ((xs, (l - xs.length, ((0 : Int), ()))), ()) = _ := h
        exact ⟨-1, by rw [h]; rfl, .inl (by omega)⟩
      · have h : l89_122 ((xs, (l - xs.length, ((0 : Int), ()))), ()) = _ := h
        exact ⟨s', by rw [h]; rfl, .inr ⟨k1, (by show s' ≤ l; omega), hl, k3⟩⟩
    · have hi := get_lt hx
      have hw : Sm i := by unfold Sm; omega
      obtain ⟨r, e1, e2⟩ := v_szNeed (((x.name, (x.kind, (x.version, ()))), (s, ())), ()) s0 s1 (m2 x (List.mem_of_getElem? hx))
      simp only [g89_122, lt_dec hi, cond_true, ix_nat, hx, Option.bind_some, e1, wrap_add1 hw]
      rcases e2 with e2 | ⟨q1, q2, q3⟩
      · left; simp only [e2, decide_true, cond_true]
      · have : ¬ r < 0 := by omega
        right; refine ⟨r, q1, q2, q3, ?_⟩; simp only [this, decide_false, cond_false]
    · simp only [g89_122, nlt_dec, cond_false]

theorem v_szEntryS (a) (h0 : 0 ≤ a.1.2.1) (h1 : a.1.2.1 ≤ 1048576) (hm : MxEs a.1.1) : ∃ r : Int, f90 a = some ((r, ()), ()) ∧ LeftOf a.1.2.1 r (SzEs a.1.1) := by
  obtain ⟨⟨xs, (l : Int), u⟩, u'⟩ := a
  have h0 : 0 ≤ l := h0
  have h1 : l ≤ 1048576 := h1
  obtain ⟨m1, m2⟩ := hm
  have m1 : Mx xs.length := m1
  simp only [f90, sz_wrap h0 h1 m1]
  by_cases c : l - (xs.length : Int) < 0
  · simp only [c, decide_true, cond_true]
    exact ⟨_, rfl, .inl (by omega)⟩
  · simp only [c, decide_false, cond_false]
    have hl : xs.length ≤ 1048576 := by omega
    have key := sz_loop g90_122 xs (fun i s => ((xs, (s, ((i : Int), ()))), ())) (.inl (((-1 : Int), ()), ())) (fun s => .inr ((s, ()), ())) SzE (fun i x s hx s0 s1 => ?_) (fun s => ?_) (l - xs.length) (by omega) (by omega)
    · rcases key with h | ⟨s', k1, k2, k3, h⟩
      · have h : l90_122 ((xs, (l - xs.length, ((0 : Int), ()))), ()) = _ := h
        exact ⟨-1, by rw [h]; rfl, .inl (by omega)⟩
      · have h : l90_122 ((xs, (l - xs.length, ((0 : Int), ()))), ()) = _ := h
        exact ⟨s', by rw [h]; rfl, .inr ⟨k1, (by show s' ≤ l; omega), hl, k3⟩⟩
    · have hi := get_lt hx
      have hw : Sm i := by unfold Sm; omega
      obtain ⟨r, e1, e2⟩ := v_szEntry (((x.path, (x.kind, (x.mode, (x.text, ())))), (s, ())), ()) s0 s1 (m2 x (List.mem_of_getElem? hx))
      simp only [g90_122, lt_dec hi, cond_true, ix_nat, hx, Option.bind_some, e1, wrap_add1 hw]
      rcases e2 with e2 | ⟨q1, q2, q3⟩
      · left; simp only [e2, decide_true, cond_true]
      · have : ¬ r < 0 := by omega
        right; refine ⟨r, q1, q2, q3, ?_⟩; simp only [this, decide_false, cond_false]
    · simp only [g90_122, nlt_dec, cond_false]

theorem v_szPack (a) (h0 : 0 ≤ a.1.2.1) (h1 : a.1.2.1 ≤ 1048576) (hm : MxP ⟨a.1.1.1, a.1.1.2.1, a.1.1.2.2.1, a.1.1.2.2.2.1⟩) : ∃ r : Int, f57 a = some ((r, ()), ()) ∧ LeftOf a.1.2.1 r (SzP ⟨a.1.1.1, a.1.1.2.1, a.1.1.2.2.1, a.1.1.2.2.2.1⟩) := by
  obtain ⟨⟨⟨(n : Str), (v : Str), ns, es, u⟩, (l : Int), u'⟩, u''⟩ := a
  have h0 : 0 ≤ l := h0
  have h1 : l ≤ 1048576 := h1
  obtain ⟨m1, m2, m3, m4⟩ := hm
  have m1 : Mx n.length := m1
  have m2 : Mx v.length := m2
  simp only [f57, sz_wrap h0 h1 m1]
  by_cases c : l - (n.length : Int) < 0
  · simp only [c, decide_true, cond_true]
    exact ⟨_, rfl, .inl (by omega)⟩
  · simp only [c, decide_false, cond_false, sz_wrap (l := l - n.length) (by omega) (by omega) m2]
    by_cases c2 : l - (n.length : Int) - (v.length : Int) < 0
    · simp only [c2, decide_true, cond_true]
      exact ⟨_, rfl, .inl (by omega)⟩
    · simp only [c2, decide_false, cond_false]
      obtain ⟨r, e1, e2⟩ := v_szNeedS ((ns, (l - (n.length : Int) - (v.length : Int), ())), ()) (by show 0 ≤ l - (n.length : Int) - (v.length : Int); omega) (by show l - (n.length : Int) - (v.length : Int) ≤ _; omega) m3
      simp only [e1, Option.bind_some]
      rcases e2 with e2 | ⟨q1, q2, q3⟩
      · simp only [e2, decide_true, cond_true]
        exact ⟨_, rfl, .inl (by omega)⟩
      · have q2 : r ≤ l - (n.length : Int) - (v.length : Int) := q2
        have c3 : ¬ r < 0 := by omega
        simp only [c3, decide_false, cond_false]
        obtain ⟨r2, e3, e4⟩ := v_szEntryS ((es, (r, ())), ()) q1 (by show r ≤ _; omega) m4
        simp only [e3, Option.bind_some]
        rcases e4 with e4 | ⟨q4, q5, q6⟩
        · simp only [e4, decide_true, cond_true]
          exact ⟨_, rfl, .inl (by omega)⟩
        · have q5 : r2 ≤ r := q5
          have c4 : ¬ r2 < 0 := by omega
          simp only [c4, decide_false, cond_false]
          exact ⟨_, rfl, .inr ⟨q4, (by show r2 ≤ l; omega), (by show n.length ≤ 1048576; omega), (by show v.length ≤ 1048576; omega), q3, q6⟩⟩

theorem v_szPackS (a) (h0 : 0 ≤ a.1.2.1) (h1 : a.1.2.1 ≤ 1048576) (hm : MxPs a.1.1) : ∃ r : Int, f35 a = some ((r, ()), ()) ∧ LeftOf a.1.2.1 r (SzPs a.1.1) := by
  obtain ⟨⟨xs, (l : Int), u⟩, u'⟩ := a
  have h0 : 0 ≤ l := h0
  have h1 : l ≤ 1048576 := h1
  obtain ⟨m1, m2⟩ := hm
  have m1 : Mx xs.length := m1
  simp only [f35, sz_wrap h0 h1 m1]
  by_cases c : l - (xs.length : Int) < 0
  · simp only [c, decide_true, cond_true]
    exact ⟨_, rfl, .inl (by omega)⟩
  · simp only [c, decide_false, cond_false]
    have hl : xs.length ≤ 1048576 := by omega
    have key := sz_loop g35_122 xs (fun i s => ((xs, (s, ((i : Int), ()))), ())) (.inl (((-1 : Int), ()), ())) (fun s => .inr ((s, ()), ())) SzP (fun i x s hx s0 s1 => ?_) (fun s => ?_) (l - xs.length) (by omega) (by omega)
    · rcases key with h | ⟨s', k1, k2, k3, h⟩
      · have h : l35_122 ((xs, (l - xs.length, ((0 : Int), ()))), ()) = _ := h
        exact ⟨-1, by rw [h]; rfl, .inl (by omega)⟩
      · have h : l35_122 ((xs, (l - xs.length, ((0 : Int), ()))), ()) = _ := h
        exact ⟨s', by rw [h]; rfl, .inr ⟨k1, (by show s' ≤ l; omega), hl, k3⟩⟩
    · have hi := get_lt hx
      have hw : Sm i := by unfold Sm; omega
      obtain ⟨r, e1, e2⟩ := v_szPack (((x.name, (x.version, (x.needs, (x.tree, ())))), (s, ())), ()) s0 s1 (m2 x (List.mem_of_getElem? hx))
      simp only [g35_122, lt_dec hi, cond_true, ix_nat, hx, Option.bind_some, e1, wrap_add1 hw]
      rcases e2 with e2 | ⟨q1, q2, q3⟩
      · left; simp only [e2, decide_true, cond_true]
      · have : ¬ r < 0 := by omega
        right; refine ⟨r, q1, q2, q3, ?_⟩; simp only [this, decide_false, cond_false]
    · simp only [g35_122, nlt_dec, cond_false]

theorem v_szRoot (a) (h0 : 0 ≤ a.1.2.1) (h1 : a.1.2.1 ≤ 1048576) (hm : MxPs a.1.1.1) : ∃ r : Int, f14 a = some ((r, ()), ()) ∧ LeftOf a.1.2.1 r (SzPs a.1.1.1) := by
  obtain ⟨⟨⟨xs, u⟩, l, u'⟩, u''⟩ := a
  obtain ⟨r, e1, e2⟩ := v_szPackS ((xs, (l, ())), ()) h0 h1 hm
  simp only [f14, e1, Option.bind_some]
  rcases e2 with e2 | ⟨q1, q2, q3⟩
  · simp only [e2, decide_true, cond_true]
    exact ⟨_, rfl, .inl (by omega)⟩
  · have : ¬ r < 0 := by omega
    simp only [this, decide_false, cond_false]
    exact ⟨_, rfl, .inr ⟨q1, q2, q3⟩⟩

/-- A loop that copies a list. -/
theorem copy_loop {α Y B : Type} (g : Y → Option (Sum Y B)) (xs : List α) (z : α) (st : Nat → List α → Y) (fin : List α → B)
    (h1 : ∀ i x acc, xs[i]? = some x → acc.length = xs.length → g (st i acc) = some (.inl (st (i + 1) (acc.set i x))))
    (h2 : g (st xs.length xs) = some (.inr (fin xs))) : loopF g (st 0 (List.replicate xs.length z)) = some (fin xs) := by
  suffices h : ∀ (r : List α) (k : Nat), xs.drop k = r → k ≤ xs.length → loopF g (st k (xs.take k ++ List.replicate (xs.length - k) z)) = some (fin xs) from by
    have := h xs 0 rfl (Nat.zero_le _)
    simpa using this
  intro r
  induction r with
  | nil =>
    intro k hr hk
    have := drop_nil hr
    obtain rfl : k = xs.length := by omega
    simp only [Nat.sub_self, List.replicate_zero, List.append_nil, List.take_length]
    exact loopF_r h2
  | cons x r ih =>
    intro k hr hk
    obtain ⟨c1, c2, c3⟩ := drop_cons hr
    have hl : (xs.take k ++ List.replicate (xs.length - k) z).length = xs.length := by simp; omega
    rw [loopF_l (h1 k x _ c1 hl)]
    have e : (xs.take k ++ List.replicate (xs.length - k) z).set k x = xs.take (k + 1) ++ List.replicate (xs.length - (k + 1)) z := by
      have hk' : (xs.take k).length = k := by simp; omega
      obtain ⟨m, hm⟩ : ∃ m, xs.length - k = m + 1 := ⟨xs.length - k - 1, by omega⟩
      rw [List.set_append_right _ _ (by omega), hk', Nat.sub_self, hm, show xs.length - (k + 1) = m by omega, List.replicate_succ, List.set_cons_zero, List.take_add_one, c1]
      simp
    rw [e]
    exact ih (k + 1) c2 c3

theorem v_toNeedS (a) (hs : Bd a.1.1.length) : f91 a = some (((), ()), (a.1.1, ())) := by
  obtain ⟨⟨xs, u⟩, u'⟩ := a
  have hs : xs.length ≤ 2097152 := hs
  have key := copy_loop g91_58 xs (Need.mk [] 0 []) (fun i acc => ((xs, ((), ((i : Int), ()))), (acc, ()))) (fun acc => (((), ()), (acc, ()))) (fun i x acc hx hl => ?_) ?_
  · have key : l91_58 ((xs, ((), ((0 : Int), ()))), (List.replicate xs.length (Need.mk [] 0 []), ())) = _ := key
    simp only [f91, mk0_sm (show (40 : Nat) ≤ 100 by decide) (show Sm xs.length by unfold Sm; omega), Option.bind_some, key]
  · have hi := get_lt hx
    have hw : Sm i := by unfold Sm; omega
    have hq : acc[i]? = some acc[i] := List.getElem?_eq_getElem (by omega)
    simp only [g91_58, lt_dec hi, cond_true, ix_nat, hx, Option.bind_some, f119, inb_nat (show i < acc.length by omega), hq, wrap_add1 hw]
  · simp only [g91_58, nlt_dec, cond_false]

theorem v_toEntryS (a) (hs : Bd a.1.1.length) : f92 a = some (((), ()), (a.1.1, ())) := by
  obtain ⟨⟨xs, u⟩, u'⟩ := a
  have hs : xs.length ≤ 2097152 := hs
  have key := copy_loop g92_58 xs (Entry.mk [] 0 0 []) (fun i acc => ((xs, ((), ((i : Int), ()))), (acc, ()))) (fun acc => (((), ()), (acc, ()))) (fun i x acc hx hl => ?_) ?_
  · have key : l92_58 ((xs, ((), ((0 : Int), ()))), (List.replicate xs.length (Entry.mk [] 0 0 []), ())) = _ := key
    simp only [f92, mk0_sm (show (48 : Nat) ≤ 100 by decide) (show Sm xs.length by unfold Sm; omega), Option.bind_some, key]
  · have hi := get_lt hx
    have hw : Sm i := by unfold Sm; omega
    have hq : acc[i]? = some acc[i] := List.getElem?_eq_getElem (by omega)
    simp only [g92_58, lt_dec hi, cond_true, ix_nat, hx, Option.bind_some, f120, inb_nat (show i < acc.length by omega), hq, wrap_add1 hw]
  · simp only [g92_58, nlt_dec, cond_false]

theorem v_toPackS (a) (hs : BdPs a.1.1) : f37 a = some (((), ()), (a.1.1, ())) := by
  obtain ⟨⟨xs, u⟩, u'⟩ := a
  obtain ⟨hs, hm⟩ := hs
  have hs : xs.length ≤ 2097152 := hs
  have key := copy_loop g37_58 xs (Pack.mk [] [] [] []) (fun i acc => ((xs, ((), ((i : Int), ()))), (acc, ()))) (fun acc => (((), ()), (acc, ()))) (fun i x acc hx hl => ?_) ?_
  · have key : l37_58 ((xs, ((), ((0 : Int), ()))), (List.replicate xs.length (Pack.mk [] [] [] []), ())) = _ := key
    simp only [f37, mk0_sm (show (80 : Nat) ≤ 100 by decide) (show Sm xs.length by unfold Sm; omega), Option.bind_some, key]
  · have hi := get_lt hx
    have hw : Sm i := by unfold Sm; omega
    have hq : acc[i]? = some acc[i] := List.getElem?_eq_getElem (by omega)
    obtain ⟨_, _, b3, b4⟩ := hm x (List.mem_of_getElem? hx)
    simp only [g37_58, lt_dec hi, cond_true, ix_nat, hx, Option.bind_some, f59, v_toNeedS ((x.needs, ()), ()) b3.1, v_toEntryS ((x.tree, ()), ()) b4.1, inb_nat (show i < acc.length by omega), hq, wrap_add1 hw]
  · simp only [g37_58, nlt_dec, cond_false]

theorem v_toRoot (a) (hs : BdPs a.1.1.1) : f16 a = some (((), ()), (a.1.1.1, (((), ()), ()))) := by
  obtain ⟨⟨⟨xs, u⟩, u'⟩, u''⟩ := a
  simp only [f16, v_toPackS ((xs, ()), ()) hs, Option.bind_some]

theorem allI_true {α : Type} : ∀ (xs : List α) (i : Nat), allI (fun _ _ => true) i xs = true := by
  intro xs
  induction xs with
  | nil => intro i; rfl
  | cons x r ih => intro i; simp only [allI, ih, Bool.and_self]
theorem bne_self' (a : Int) : (a != a) = false := by simp

theorem v_eqNeed (a) (h : a.1.1 = a.1.2.1) : f122 a = some ((true, ()), ()) := by
  obtain ⟨⟨x, y, u⟩, u'⟩ := a
  have h : x = y := h
  subst h
  simp only [f122, beq_self_eq_true, Bool.not_true, cond_false, bne_self']
theorem v_eqEntry (a) (h : a.1.1 = a.1.2.1) : f44 a = some ((true, ()), ()) := by
  obtain ⟨⟨x, y, u⟩, u'⟩ := a
  have h : x = y := h
  subst h
  simp only [f44, beq_self_eq_true, Bool.not_true, cond_false, bne_self']

theorem v_eqNeedS (xs : List Need) (hs : Bd xs.length) : f95 ((xs, (xs, ())), ()) = some ((true, ()), ()) := by
  have key : l95_58 ((xs, (xs, ((0 : Int), ()))), ()) = some (bif allI (fun _ _ => true) 0 xs then .inr ((), ()) else .inl ((false, ()), ())) := by
    refine loop_all g95_58 xs (fun i => ((xs, (xs, ((i : Int), ()))), ())) _ _ _ (fun i x hx => ?_) ?_
    · have hi := get_lt hx
      have hw : Sm i := by unfold Sm; omega
      simp only [g95_58, lt_dec hi, cond_true, ix_nat, hx, Option.bind_some, v_eqNeed (((x.name, (x.kind, (x.version, ()))), ((x.name, (x.kind, (x.version, ()))), ())), ()) rfl, Bool.not_true, cond_false, wrap_add1 hw]
    · simp only [g95_58, nlt_dec, cond_false]
  rw [allI_true] at key
  simp only [f95, bne_self', cond_false, key, cond_true, Option.bind_some]
theorem v_eqEntryS (xs : List Entry) (hs : Bd xs.length) : f23 ((xs, (xs, ())), ()) = some ((true, ()), ()) := by
  have key : l23_58 ((xs, (xs, ((0 : Int), ()))), ()) = some (bif allI (fun _ _ => true) 0 xs then .inr ((), ()) else .inl ((false, ()), ())) := by
    refine loop_all g23_58 xs (fun i => ((xs, (xs, ((i : Int), ()))), ())) _ _ _ (fun i x hx => ?_) ?_
    · have hi := get_lt hx
      have hw : Sm i := by unfold Sm; omega
      simp only [g23_58, lt_dec hi, cond_true, ix_nat, hx, Option.bind_some, v_eqEntry (((x.path, (x.kind, (x.mode, (x.text, ())))), ((x.path, (x.kind, (x.mode, (x.text, ())))), ())), ()) rfl, Bool.not_true, cond_false, wrap_add1 hw]
    · simp only [g23_58, nlt_dec, cond_false]
  rw [allI_true] at key
  simp only [f23, bne_self', cond_false, key, cond_true, Option.bind_some]
theorem v_eqPack (x : Pack) (h : BdP x) : f66 (((x.name, (x.version, (x.needs, (x.tree, ())))), ((x.name, (x.version, (x.needs, (x.tree, ())))), ())), ()) = some ((true, ()), ()) := by
  simp only [f66, beq_self_eq_true, Bool.not_true, cond_false, v_eqNeedS _ h.2.2.1.1, v_eqEntryS _ h.2.2.2.1, Option.bind_some]
theorem v_eqPackS (xs : List Pack) (hs : BdPs xs) : f39 ((xs, (xs, ())), ()) = some ((true, ()), ()) := by
  have hl : xs.length ≤ 2097152 := hs.1
  have key : l39_58 ((xs, (xs, ((0 : Int), ()))), ()) = some (bif allI (fun _ _ => true) 0 xs then .inr ((), ()) else .inl ((false, ()), ())) := by
    refine loop_all g39_58 xs (fun i => ((xs, (xs, ((i : Int), ()))), ())) _ _ _ (fun i x hx => ?_) ?_
    · have hi := get_lt hx
      have hw : Sm i := by unfold Sm; omega
      simp only [g39_58, lt_dec hi, cond_true, ix_nat, hx, Option.bind_some, v_eqPack x (hs.2 x (List.mem_of_getElem? hx)), Bool.not_true, cond_false, wrap_add1 hw]
    · simp only [g39_58, nlt_dec, cond_false]
  rw [allI_true] at key
  simp only [f39, bne_self', cond_false, key, cond_true, Option.bind_some]
theorem v_eqRoot (xs : List Pack) (hs : BdPs xs) : f18 (((xs, ()), ((xs, ()), ())), ()) = some ((true, ()), ()) := by
  simp only [f18, v_eqPackS xs hs, Option.bind_some, Bool.not_true, cond_false]

theorem SzPs.bd {ps : List Pack} (h : SzPs ps) : BdPs ps ∧ VS ps := by
  obtain ⟨h1, h2⟩ := h
  have up : ∀ {n : Nat}, Sz n → Bd n := fun h => Nat.le_trans h (by decide)
  have up' : ∀ {n : Nat}, Sz n → n ≤ 2097151 := fun h => Nat.le_trans h (by decide)
  refine ⟨⟨up h1, fun p hp => ?_⟩, fun p hp => ?_⟩
  · obtain ⟨a, b, c, d⟩ := h2 p hp
    exact ⟨up a, up b, ⟨up c.1, fun n hn => ⟨up (c.2 n hn).1, up (c.2 n hn).2⟩⟩, up d.1, fun n hn => ⟨up (d.2 n hn).1, up (d.2 n hn).2⟩⟩
  · obtain ⟨a, b, c, d⟩ := h2 p hp
    exact ⟨up' b, fun n hn => up' (c.2 n hn).2⟩

theorem wfd_str {s : Str} (h : WfD (.str s)) : Mx s.length := by cases h; assumption
theorem wfd_sl {t : Ty} {xs : List (den t)} (h : WfD (.sl t xs)) : Mx xs.length ∧ ∀ x, x ∈ xs → ∀ d, d ∈ enc t x → WfD d := by cases h; exact ⟨by assumption, by assumption⟩
theorem wf_needs {xs : List Need} (h : WfD (.sl .need xs)) : MxNs xs := by
  obtain ⟨h1, h2⟩ := wfd_sl h
  exact ⟨h1, fun x hx => ⟨wfd_str (h2 x hx (.str x.name) (by simp [enc])), wfd_str (h2 x hx (.str x.version) (by simp [enc]))⟩⟩
theorem wf_entries {xs : List Entry} (h : WfD (.sl .entry xs)) : MxEs xs := by
  obtain ⟨h1, h2⟩ := wfd_sl h
  exact ⟨h1, fun x hx => ⟨wfd_str (h2 x hx (.str x.path) (by simp [enc])), wfd_str (h2 x hx (.str x.text) (by simp [enc]))⟩⟩
theorem wf_packs {xs : List Pack} (h : WfD (.sl .pack xs)) : MxPs xs := by
  obtain ⟨h1, h2⟩ := wfd_sl h
  exact ⟨h1, fun x hx => ⟨wfd_str (h2 x hx (.str x.name) (by simp [enc])), wfd_str (h2 x hx (.str x.version) (by simp [enc])), wf_needs (h2 x hx (.sl .need x.needs) (by simp [enc])), wf_entries (h2 x hx (.sl .entry x.tree) (by simp [enc]))⟩⟩
end Go.Proofs

set_option maxRecDepth 100000
set_option linter.unusedVariables false
namespace Go.Proofs
open Go.Jk
-- 19 loop.example/jackstay/spec.RootOwner
noncomputable def c19 : Ctx := { tt := tt, fs := fun n => match n with | 15 => some S15 | 40 => some S40 | _ => none }
theorem k19 (h : ∀ T, (tt T).ok Tryz.prog T) (h15 : SummOk Tryz.prog 15 S15) (h40 : SummOk Tryz.prog 40 S40) : CtxGood Tryz.prog c19 := ⟨⟨h⟩, fun g S hg => (by
  simp only [c19] at hg
  split at hg
  · cases hg; exact h15
  · cases hg; exact h40
  · cases hg), tt_mo, fun _ _ h => (by cases h)⟩
noncomputable def b19 : Code := codeOf Tryz.f19
@[reducible] noncomputable def s19_1682 : Shape := ⟨[(1, .lf (.d (.str))), (2, .lf (.ptr 2 0)), (5, .lf (.d (.int .i64))), (6, .lf (.d (.int .i64))), (7, .lf (.d (.bool)))], [(2, .box [.d (.sl .pack)], .same)], 50⟩
@[reducible] noncomputable def t19_1682 : List OSh := [(.norm, ⟨[(1, .lf (.d (.str))), (2, .lf (.ptr 2 0)), (5, .lf (.d (.int .i64))), (43, .lf (.d (.bool)))], [(2, .box [.d (.sl .pack)], .same)], 50⟩)]
noncomputable def g19_1682 (y : s19_1682.Y) : Option (YS t19_1682) :=
  bif y.1.2.2.2.2.1 then
(ix y.2.1.1 y.1.2.2.1).bind fun x1348 =>
(ix x1348.tree y.1.2.2.2.1).bind fun x1349 =>
  some (((y.1.1, ((), (y.1.2.2.1, ((x1349.kind != (1 : Int)), ())))), ((y.2.1.1, ()), ())))
else
  some (((y.1.1, ((), (y.1.2.2.1, (false, ())))), ((y.2.1.1, ()), ())))
theorem r19_1682 : ∀ y, g19_1682 y = pieceF (ctxWith c19 []) (codeAt (unloop (codeAt b19 1 26)) 52 1682) 1682 s19_1682 t19_1682 y := fun y => by kernel_rfl
theorem q19_1682 (H : CtxGood Tryz.prog c19) : FragOk Tryz.prog (codeAt (unloop (codeAt b19 1 26)) 52 1682) (fragOrc s19_1682 t19_1682 g19_1682) :=
  piece_at (fr := []) H (by kernel_rfl) frags_nil r19_1682
@[reducible] noncomputable def s19_26 : Shape := ⟨[(1, .lf (.d (.str))), (2, .lf (.ptr 2 0)), (5, .lf (.d (.int .i64)))], [(2, .box [.d (.sl .pack)], .same)], 50⟩
@[reducible] noncomputable def t19_26 : List OSh := [(.ret, ⟨[(4, .lf (.d (.str)))], [], 50⟩), (.exit 0, ⟨[], [], 50⟩)]
noncomputable def g19_26 (y : s19_26.Y) : Option (Sum s19_26.Y (YS t19_26)) :=
  bif (decide (y.1.2.2.1 < (y.2.1.1.length : Int))) then
(f15 (((y.2.1.1, ()), ()), ())).bind fun r1353 =>
  bif r1353.1.1 then
(ix y.2.1.1 y.1.2.2.1).bind fun x1356 =>
(f40 ((x1356.tree, (y.1.1, ())), ())).bind fun r1357 =>
(g19_1682 ((y.1.1, ((), (y.1.2.2.1, (r1357.1.1, (r1357.1.2.1, ()))))), ((y.2.1.1, ()), ()))).bind fun r1358 =>
  bif r1358.1.2.2.2.1 then
(ix r1358.2.1.1 r1358.1.2.2.1).bind fun x1359 =>
  some (.inr (.inl ((x1359.name, ()), ())))
else
  some (.inl ((r1358.1.1, ((), ((IntKind.i64.wrap (r1358.1.2.2.1 + (1 : Int))), ()))), ((r1358.2.1.1, ()), ())))
else
  some (.inr (.inr ((), ())))
else
  some (.inr (.inr ((), ())))
theorem r19_26 : ∀ y, g19_26 y = roundF (ctxWith c19 [(1682, fragOrc s19_1682 t19_1682 g19_1682)]) (unloop (codeAt b19 1 26)) 26 s19_26 t19_26 y := fun y => by kernel_rfl
noncomputable def l19_26 : s19_26.Y → Option (YS t19_26) := loopF g19_26
theorem q19_26 (H : CtxGood Tryz.prog c19) : FragOk Tryz.prog (codeAt b19 1 26) (fragOrc s19_26 t19_26 l19_26) :=
  loop_at (fr := [(1682, fragOrc s19_1682 t19_1682 g19_1682)]) H (by kernel_rfl) (by kernel_rfl) ⟨q19_1682 H, trivial⟩ (fun y => iter_congr r19_26 y)
@[reducible] noncomputable def i19 : Shape := ⟨[(0, .agg [.d (.sl .pack)]), (1, .lf (.d (.str)))], [], 50⟩
@[reducible] noncomputable def o19 : Shape := ⟨[(4, .lf (.d (.str)))], [], 50⟩
noncomputable def f19 (a : i19.Y) : Option o19.Y :=
(l19_26 ((a.1.2.1, ((), ((0 : Int), ()))), ((a.1.1.1, ()), ()))).bind fun r1363 =>
(match r1363 with
| .inl r1364 =>
  some ((r1364.1.1, ()), ())
| .inr r1365 =>
  some ((([] : Str), ()), ()))
theorem e19 : ∀ a, f19 a = bodyF (ctxWith c19 [(26, fragOrc s19_26 t19_26 l19_26)]) b19 i19 o19 a := fun a => by kernel_rfl
noncomputable def S19 : Summ := funSumm tt 50 i19 o19 [.tmp 4] f19
theorem z19 (h : ∀ T, (tt T).ok Tryz.prog T) (h15 : SummOk Tryz.prog 15 S15) (h40 : SummOk Tryz.prog 40 S40) : SummOk Tryz.prog 19 S19 :=
  have H := k19 h h15 h40
  fun_at (fn := Tryz.f19) (fr := [(26, fragOrc s19_26 t19_26 l19_26)]) H (by kernel_rfl) (by kernel_rfl) (by kernel_rfl) (by kernel_rfl) (by kernel_rfl) ⟨q19_26 H, trivial⟩ (fun y => ⟨_, rfl, rfl⟩) e19
end Go.Proofs

set_option maxRecDepth 100000
set_option linter.unusedVariables false
namespace Go.Proofs
open Go.Jk
-- 41 loop.example/jackstay/impl.TreeGet
noncomputable def c41 : Ctx := { tt := tt, fs := fun n => match n with | 67 => some S67 | 68 => some S68 | _ => none }
theorem k41 (h : ∀ T, (tt T).ok Tryz.prog T) (h67 : SummOk Tryz.prog 67 S67) (h68 : SummOk Tryz.prog 68 S68) : CtxGood Tryz.prog c41 := ⟨⟨h⟩, fun g S hg => (by
  simp only [c41] at hg
  split at hg
  · cases hg; exact h67
  · cases hg; exact h68
  · cases hg), tt_mo, fun _ _ h => (by cases h)⟩
noncomputable def b41 : Code := codeOf Tryz.f41
@[reducible] noncomputable def i41 : Shape := ⟨[(0, .lf (.d (.sl .entry))), (1, .lf (.d (.str)))], [], 25⟩
@[reducible] noncomputable def o41 : Shape := ⟨[(4, .lf (.ptr 4 0)), (5, .lf (.d (.bool)))], [(4, .box [.d (.str), .d (.int .i64), .d (.int .i64), .d (.str)], .same)], 25⟩
noncomputable def f41 (a : i41.Y) : Option o41.Y :=
(f67 ((a.1.1, ()), ())).bind fun r1391 =>
  bif (!r1391.1.1) then
  some (((), (false, ())), ((([] : Str), ((0 : Int), ((0 : Int), (([] : Str), ())))), ()))
else
(f68 ((a.1.1, (a.1.2.1, ())), ())).bind fun r1393 =>
  bif (!r1393.1.2.1) then
  some (((), (false, ())), ((([] : Str), ((0 : Int), ((0 : Int), (([] : Str), ())))), ()))
else
(ix a.1.1 r1393.1.1).bind fun x1394 =>
  some (((), (true, ())), ((x1394.path, (x1394.kind, (x1394.mode, (x1394.text, ())))), ()))
theorem e41 : ∀ a, f41 a = bodyF (ctxWith c41 []) b41 i41 o41 a := fun a => by kernel_rfl
noncomputable def S41 : Summ := funSumm tt 25 i41 o41 [.cell 4 74, .tmp 5] f41
theorem z41 (h : ∀ T, (tt T).ok Tryz.prog T) (h67 : SummOk Tryz.prog 67 S67) (h68 : SummOk Tryz.prog 68 S68) : SummOk Tryz.prog 41 S41 :=
  have H := k41 h h67 h68
  fun_at (fn := Tryz.f41) (fr := []) H (by kernel_rfl) (by kernel_rfl) (by kernel_rfl) (by kernel_rfl) (by kernel_rfl) frags_nil (fun y => ⟨_, rfl, rfl⟩) e41
end Go.Proofs

set_option maxRecDepth 100000
set_option linter.unusedVariables false
namespace Go.Proofs
open Go.Jk
-- 20 loop.example/jackstay/impl.RootOwner
noncomputable def c20 : Ctx := { tt := tt, fs := fun n => match n with | 17 => some S17 | 41 => some S41 | _ => none }
theorem k20 (h : ∀ T, (tt T).ok Tryz.prog T) (h17 : SummOk Tryz.prog 17 S17) (h41 : SummOk Tryz.prog 41 S41) : CtxGood Tryz.prog c20 := ⟨⟨h⟩, fun g S hg => (by
  simp only [c20] at hg
  split at hg
  · cases hg; exact h17
  · cases hg; exact h41
  · cases hg), tt_mo, fun _ _ h => (by cases h)⟩
noncomputable def b20 : Code := codeOf Tryz.f20
@[reducible] noncomputable def s20_14950 : Shape := ⟨[(1, .lf (.d (.str))), (6, .lf (.ptr 6 0)), (7, .lf (.ptr 7 0)), (8, .lf (.d (.bool))), (13, .lf (.d (.sl .pack))), (14, .lf (.d (.int .i64))), (15, .lf (.d (.int .i64)))], [(6, .box [.d (.str), .d (.str), .d (.sl .need), .d (.sl .entry)], .same), (7, .box [.d (.str), .d (.int .i64), .d (.int .i64), .d (.str)], .same)], 35⟩
@[reducible] noncomputable def t20_14950 : List OSh := [(.norm, ⟨[(1, .lf (.d (.str))), (6, .lf (.ptr 6 0)), (13, .lf (.d (.sl .pack))), (14, .lf (.d (.int .i64))), (15, .lf (.d (.int .i64))), (31, .lf (.d (.bool)))], [(6, .box [.d (.str), .d (.str), .d (.sl .need), .d (.sl .entry)], .same)], 35⟩)]
noncomputable def g20_14950 (y : s20_14950.Y) : Option (YS t20_14950) :=
  bif y.1.2.2.2.1 then
  some (((y.1.1, ((), (y.1.2.2.2.2.1, (y.1.2.2.2.2.2.1, (y.1.2.2.2.2.2.2.1, ((y.2.2.1.2.1 != (1 : Int)), ())))))), ((y.2.1.1, (y.2.1.2.1, (y.2.1.2.2.1, (y.2.1.2.2.2.1, ())))), ())))
else
  some (((y.1.1, ((), (y.1.2.2.2.2.1, (y.1.2.2.2.2.2.1, (y.1.2.2.2.2.2.2.1, (false, ())))))), ((y.2.1.1, (y.2.1.2.1, (y.2.1.2.2.1, (y.2.1.2.2.2.1, ())))), ())))
theorem r20_14950 : ∀ y, g20_14950 y = pieceF (ctxWith c20 []) (codeAt (unloop (codeAt b20 1 58)) 116 14950) 14950 s20_14950 t20_14950 y := fun y => by kernel_rfl
theorem q20_14950 (H : CtxGood Tryz.prog c20) : FragOk Tryz.prog (codeAt (unloop (codeAt b20 1 58)) 116 14950) (fragOrc s20_14950 t20_14950 g20_14950) :=
  piece_at (fr := []) H (by kernel_rfl) frags_nil r20_14950
@[reducible] noncomputable def s20_58 : Shape := ⟨[(1, .lf (.d (.str))), (13, .lf (.d (.sl .pack))), (14, .lf (.d (.int .i64))), (15, .lf (.d (.int .i64)))], [], 35⟩
@[reducible] noncomputable def t20_58 : List OSh := [(.ret, ⟨[(4, .lf (.d (.str)))], [], 35⟩), (.exit 0, ⟨[], [], 35⟩)]
noncomputable def g20_58 (y : s20_58.Y) : Option (Sum s20_58.Y (YS t20_58)) :=
  bif (decide (y.1.2.2.2.1 < y.1.2.2.1)) then
(ix y.1.2.1 y.1.2.2.2.1).bind fun x1403 =>
(f41 ((x1403.tree, (y.1.1, ())), ())).bind fun r1405 =>
(g20_14950 ((y.1.1, ((), ((), (r1405.1.2.1, (y.1.2.1, (y.1.2.2.1, (y.1.2.2.2.1, ()))))))), ((x1403.name, (x1403.version, (x1403.needs, (x1403.tree, ())))), ((r1405.2.1.1, (r1405.2.1.2.1, (r1405.2.1.2.2.1, (r1405.2.1.2.2.2.1, ())))), ())))).bind fun r1406 =>
  bif r1406.1.2.2.2.2.2.1 then
  some (.inr (.inl ((r1406.2.1.1, ()), ())))
else
  some (.inl ((r1406.1.1, (r1406.1.2.2.1, (r1406.1.2.2.2.1, ((IntKind.i64.wrap (r1406.1.2.2.2.2.1 + (1 : Int))), ())))), ()))
else
  some (.inr (.inr ((), ())))
theorem r20_58 : ∀ y, g20_58 y = roundF (ctxWith c20 [(14950, fragOrc s20_14950 t20_14950 g20_14950)]) (unloop (codeAt b20 1 58)) 58 s20_58 t20_58 y := fun y => by kernel_rfl
noncomputable def l20_58 : s20_58.Y → Option (YS t20_58) := loopF g20_58
theorem q20_58 (H : CtxGood Tryz.prog c20) : FragOk Tryz.prog (codeAt b20 1 58) (fragOrc s20_58 t20_58 l20_58) :=
  loop_at (fr := [(14950, fragOrc s20_14950 t20_14950 g20_14950)]) H (by kernel_rfl) (by kernel_rfl) ⟨q20_14950 H, trivial⟩ (fun y => iter_congr r20_58 y)
@[reducible] noncomputable def i20 : Shape := ⟨[(0, .agg [.d (.sl .pack)]), (1, .lf (.d (.str)))], [], 35⟩
@[reducible] noncomputable def o20 : Shape := ⟨[(4, .lf (.d (.str)))], [], 35⟩
noncomputable def f20 (a : i20.Y) : Option o20.Y :=
(f17 (((a.1.1.1, ()), ()), ())).bind fun r1378 =>
  bif (!r1378.1.1) then
  some ((([] : Str), ()), ())
else
(l20_58 ((a.1.2.1, (a.1.1.1, ((a.1.1.1.length : Int), ((0 : Int), ())))), ())).bind fun r1407 =>
(match r1407 with
| .inl r1408 =>
  some ((r1408.1.1, ()), ())
| .inr r1409 =>
  some ((([] : Str), ()), ()))
theorem e20 : ∀ a, f20 a = bodyF (ctxWith c20 [(58, fragOrc s20_58 t20_58 l20_58)]) b20 i20 o20 a := fun a => by kernel_rfl
noncomputable def S20 : Summ := funSumm tt 35 i20 o20 [.tmp 4] f20
theorem z20 (h : ∀ T, (tt T).ok Tryz.prog T) (h17 : SummOk Tryz.prog 17 S17) (h41 : SummOk Tryz.prog 41 S41) : SummOk Tryz.prog 20 S20 :=
  have H := k20 h h17 h41
  fun_at (fn := Tryz.f20) (fr := [(58, fragOrc s20_58 t20_58 l20_58)]) H (by kernel_rfl) (by kernel_rfl) (by kernel_rfl) (by kernel_rfl) (by kernel_rfl) ⟨q20_58 H, trivial⟩ (fun y => ⟨_, rfl, rfl⟩) e20
end Go.Proofs

set_option maxRecDepth 100000
set_option linter.unusedVariables false
namespace Go.Proofs
open Go.Jk
-- 7 loop.example/jackstay/laws.FnExactRootOwner
noncomputable def c7 : Ctx := { tt := tt, fs := fun n => match n with | 14 => some S14 | 16 => some S16 | 18 => some S18 | 19 => some S19 | 20 => some S20 | _ => none }
theorem k7 (h : ∀ T, (tt T).ok Tryz.prog T) (h14 : SummOk Tryz.prog 14 S14) (h16 : SummOk Tryz.prog 16 S16) (h18 : SummOk Tryz.prog 18 S18) (h19 : SummOk Tryz.prog 19 S19) (h20 : SummOk Tryz.prog 20 S20) : CtxGood Tryz.prog c7 := ⟨⟨h⟩, fun g S hg => (by
  simp only [c7] at hg
  split at hg
  · cases hg; exact h14
  · cases hg; exact h16
  · cases hg; exact h18
  · cases hg; exact h19
  · cases hg; exact h20
  · cases hg), tt_mo, fun _ _ h => (by cases h)⟩
noncomputable def b7 : Code := codeOf Tryz.f7
@[reducible] noncomputable def i7 : Shape := ⟨[(0, .agg [.d (.sl .pack)]), (1, .lf (.d (.str)))], [], 34⟩
@[reducible] noncomputable def o7 : Shape := ⟨[(4, .lf (.d (.bool)))], [], 34⟩
noncomputable def f7 (a : i7.Y) : Option o7.Y :=
  bif (decide ((a.1.2.1.length : Int) > (1048576 : Int))) then
  some ((true, ()), ())
else
(f14 (((a.1.1.1, ()), ((1048576 : Int), ())), ())).bind fun r1417 =>
  bif (decide (r1417.1.1 < (0 : Int))) then
  some ((true, ()), ())
else
(f16 (((a.1.1.1, ()), ()), ())).bind fun r1420 =>
(f19 (((r1420.2.1, ()), (a.1.2.1, ())), ())).bind fun r1421 =>
(f16 (((a.1.1.1, ()), ()), ())).bind fun r1423 =>
(f20 (((r1423.2.1, ()), (a.1.2.1, ())), ())).bind fun r1425 =>
  bif (!(r1425.1.1 == r1421.1.1)) then
  some ((false, ()), ())
else
(f16 (((a.1.1.1, ()), ()), ())).bind fun r1428 =>
(f18 (((r1423.2.1, ()), ((r1428.2.1, ()), ())), ())).bind fun r1429 =>
  bif (!r1429.1.1) then
  some ((false, ()), ())
else
  some ((true, ()), ())
theorem e7 : ∀ a, f7 a = bodyF (ctxWith c7 []) b7 i7 o7 a := fun a => by kernel_rfl
noncomputable def S7 : Summ := funSumm tt 34 i7 o7 [.tmp 4] f7
theorem z7 (h : ∀ T, (tt T).ok Tryz.prog T) (h14 : SummOk Tryz.prog 14 S14) (h16 : SummOk Tryz.prog 16 S16) (h18 : SummOk Tryz.prog 18 S18) (h19 : SummOk Tryz.prog 19 S19) (h20 : SummOk Tryz.prog 20 S20) : SummOk Tryz.prog 7 S7 :=
  have H := k7 h h14 h16 h18 h19 h20
  fun_at (fn := Tryz.f7) (fr := []) H (by kernel_rfl) (by kernel_rfl) (by kernel_rfl) (by kernel_rfl) (by kernel_rfl) frags_nil (fun y => ⟨_, rfl, rfl⟩) e7
end Go.Proofs

set_option maxRecDepth 100000
set_option linter.unusedVariables false
set_option linter.unusedSimpArgs false
namespace Go.Proofs
open Go.Jk

def getL (t : List Entry) (p : Str) : Option Entry := match t[posL t p]? with
  | some e => bif e.path == p then some e else none
  | none => none
def noE : Entry := ⟨[], 0, 0, []⟩
theorem hasAt_get (t : List Entry) (p : Str) : hasAt t p = (getL t p).isSome := by
  unfold hasAt getL
  cases t[posL t p]? with
  | none => rfl
  | some e => cases h : (e.path == p) <;> simp [h]
theorem getL_at {t : List Entry} {p : Str} {e : Entry} (h : getL t p = some e) : t[posL t p]? = some e ∧ e.path = p := by
  unfold getL at h
  cases ht : t[posL t p]? with
  | none => rw [ht] at h; cases h
  | some x =>
    rw [ht] at h
    cases hx : (x.path == p) with
    | false => simp [hx] at h
    | true => simp only [hx, cond_true, Option.some.injEq] at h; subst h; exact ⟨rfl, eq_of_beq hx⟩

theorem v_TreeGet (a) (hb : BdEs a.1.1) : f41 a = some (((), (treeOk a.1.1 && (getL a.1.1 a.1.2.1).isSome, ())),
    ((match (bif treeOk a.1.1 then getL a.1.1 a.1.2.1 else none) with | some e => (e.path, (e.kind, (e.mode, (e.text, ())))) | none => (([] : Str), ((0 : Int), ((0 : Int), (([] : Str), ()))))), ())) := by
  obtain ⟨⟨t, p, u⟩, u'⟩ := a
  have hb : BdEs t := hb
  have e1 := v_iTreeOk ((t, ()), ()) hb
  simp only [f41, e1, Option.bind_some]
  cases ht : treeOk t with
  | false => rfl
  | true =>
    have e2 := v_findEntry ((t, (p, ())), ()) hb.1 (treeOk_asc ht)
    simp only [Bool.not_true, cond_false, cond_true, e2, Option.bind_some, hasAt_get, Bool.true_and]
    cases hg : getL t p with
    | none => rfl
    | some e =>
      simp only [Option.isSome_some, Bool.not_true, cond_false, ix_nat, (getL_at hg).1, Option.bind_some]

/-- Whose a path is. -/
def ownL (path : Str) : List Pack → Str
  | [] => []
  | p :: r => match getL p.tree path with
    | some e => bif e.kind != 1 then p.name else ownL path r
    | none => ownL path r

theorem v_iRootOwner (a) (hb : BdPs a.1.1.1) (hv : VS a.1.1.1) : f20 a = some (((bif rootOk a.1.1.1 then ownL a.1.2.1 a.1.1.1 else []), ()), ()) := by
  obtain ⟨⟨⟨ps, u⟩, path, u'⟩, u''⟩ := a
  have hl : ps.length ≤ 2097152 := hb.1
  have e1 := v_iRootOk (((ps, ()), ()), ()) hb hv
  simp only [f20, e1, Option.bind_some]
  cases hr : rootOk ps with
  | false => rfl
  | true =>
    have hk : ps.all pkOk = true := by unfold rootOk at hr; simp only [Bool.and_eq_true] at hr; exact hr.1.1.1.1
    simp only [Bool.not_true, cond_false, cond_true]
    have key : ∀ (r : List Pack) (k : Nat), ps.drop k = r → k ≤ ps.length → (l20_58 ((path, (ps, ((ps.length : Int), ((k : Int), ())))), ())).bind (fun r1407 => (match r1407 with
        | .inl r1408 => some ((r1408.1.1, ()), ())
        | .inr r1409 => some ((([] : Str), ()), ()) : Option o20.Y)) = some ((ownL path r, ()), ()) := by
      intro r
      induction r with
      | nil =>
        intro k hk' hle
        have := drop_nil hk'
        obtain rfl : k = ps.length := by omega
        have : l20_58 ((path, (ps, ((ps.length : Int), ((ps.length : Int), ())))), ()) = some (.inr ((), ())) := by
          refine loopF_r ?_
          simp only [g20_58, nlt_dec, cond_false]
        rw [this]; rfl
      | cons q r ih =>
        intro k hk' hle
        obtain ⟨c1, c2, c3⟩ := drop_cons hk'
        have hw : Sm k := by unfold Sm; omega
        have hq := List.mem_of_getElem? c1
        have hqk := List.all_eq_true.1 hk q hq
        have hqt : treeOk q.tree = true := by unfold pkOk at hqk; simp only [Bool.and_eq_true] at hqk; exact hqk.2
        have e2 := v_TreeGet ((q.tree, (path, ())), ()) (hb.2 q hq).2.2.2
        simp only [hqt, Bool.true_and, cond_true] at e2
        have step : g20_58 ((path, (ps, ((ps.length : Int), ((k : Int), ())))), ()) = some (match getL q.tree path with
            | some e => bif e.kind != 1 then .inr (.inl ((q.name, ()), ())) else .inl ((path, (ps, ((ps.length : Int), (((k + 1 : Nat) : Int), ())))), ())
            | none => .inl ((path, (ps, ((ps.length : Int), (((k + 1 : Nat) : Int), ())))), ())) := by
          simp only [g20_58, lt_dec c3, cond_true, ix_nat, c1, Option.bind_some, e2, g20_14950, wrap_add1 hw]
          cases hg : getL q.tree path with
          | none => simp only [Option.isSome_none, cond_false, Option.bind_some, wrap_add1 hw]
          | some e =>
            simp only [Option.isSome_some, cond_true, Option.bind_some, wrap_add1 hw]
            cases (e.kind != 1) <;> rfl
        simp only [ownL]
        cases hg : getL q.tree path with
        | none =>
          rw [hg] at step
          rw [show l20_58 _ = _ from loopF_l step]
          exact ih (k + 1) c2 c3
        | some e =>
          rw [hg] at step
          cases he : (e.kind != 1) with
          | false =>
            simp only [he, cond_false] at step ⊢
            rw [show l20_58 _ = _ from loopF_l step]
            exact ih (k + 1) c2 c3
          | true =>
            simp only [he, cond_true] at step ⊢
            rw [show l20_58 _ = _ from loopF_r step]
            rfl
    exact key ps 0 rfl (Nat.zero_le _)

theorem v_RootOwner (a) (hb : BdPs a.1.1.1) (hv : VS a.1.1.1) : f19 a = some (((bif rootOk a.1.1.1 then ownL a.1.2.1 a.1.1.1 else []), ()), ()) := by
  obtain ⟨⟨⟨ps, u⟩, path, u'⟩, u''⟩ := a
  have hl : ps.length ≤ 2097152 := hb.1
  have e1 := v_RootOk (((ps, ()), ()), ()) hb hv
  have key : ∀ (r : List Pack) (k : Nat), ps.drop k = r → k ≤ ps.length → (l19_26 ((path, ((), ((k : Int), ()))), ((ps, ()), ()))).bind (fun r1363 => (match r1363 with
      | .inl r1364 => some ((r1364.1.1, ()), ())
      | .inr r1365 => some ((([] : Str), ()), ()) : Option o19.Y)) = some (((bif rootOk ps then ownL path r else []), ()), ()) := by
    intro r
    induction r with
    | nil =>
      intro k hk' hle
      have := drop_nil hk'
      obtain rfl : k = ps.length := by omega
      have : l19_26 ((path, ((), ((ps.length : Int), ()))), ((ps, ()), ())) = some (.inr ((), ())) := by
        refine loopF_r ?_
        simp only [g19_26, nlt_dec, cond_false]
      rw [this]
      cases rootOk ps <;> rfl
    | cons q r ih =>
      intro k hk' hle
      obtain ⟨c1, c2, c3⟩ := drop_cons hk'
      have hw : Sm k := by unfold Sm; omega
      have hq := List.mem_of_getElem? c1
      have e2 := v_l2At ((q.tree, (path, ())), ()) (hb.2 q hq).2.2.2.1
      cases hr : rootOk ps with
      | false =>
        rw [hr] at e1
        have : l19_26 ((path, ((), ((k : Int), ()))), ((ps, ()), ())) = some (.inr ((), ())) := by
          refine loopF_r ?_
          simp only [g19_26, lt_dec c3, cond_true, e1, Option.bind_some, cond_false]
        rw [this]; rfl
      | true =>
        rw [hr] at e1 ih
        have step : g19_26 ((path, ((), ((k : Int), ()))), ((ps, ()), ())) = some (match getL q.tree path with
            | some e => bif e.kind != 1 then .inr (.inl ((q.name, ()), ())) else .inl ((path, ((), (((k + 1 : Nat) : Int), ()))), ((ps, ()), ()))
            | none => .inl ((path, ((), (((k + 1 : Nat) : Int), ()))), ((ps, ()), ()))) := by
          simp only [g19_26, lt_dec c3, cond_true, ix_nat, c1, Option.bind_some, e1, e2, g19_1682, hasAt_get]
          cases hg : getL q.tree path with
          | none => simp only [Option.isSome_none, cond_false, Option.bind_some, wrap_add1 hw]
          | some e =>
            simp only [Option.isSome_some, cond_true, Option.bind_some, (getL_at hg).1, c1, wrap_add1 hw]
            cases (e.kind != 1)
            · rfl
            · simp only [cond_true, ix_nat, c1, Option.bind_some]
        simp only [ownL, cond_true] at ih ⊢
        cases hg : getL q.tree path with
        | none =>
          rw [hg] at step
          rw [show l19_26 _ = _ from loopF_l step]
          exact ih (k + 1) c2 c3
        | some e =>
          rw [hg] at step
          cases he : (e.kind != 1) with
          | false =>
            simp only [he, cond_false] at step ⊢
            rw [show l19_26 _ = _ from loopF_l step]
            exact ih (k + 1) c2 c3
          | true =>
            simp only [he, cond_true] at step ⊢
            rw [show l19_26 _ = _ from loopF_r step]
            rfl
  have := key ps 0 rfl (Nat.zero_le _)
  simp only [f19]
  exact this

theorem v_FnExactRootOwner (a) (hm : MxPs a.1.1.1) : f7 a = some ((true, ()), ()) := by
  obtain ⟨⟨⟨ps, u⟩, path, u'⟩, u''⟩ := a
  obtain ⟨r, e1, e2⟩ := v_szRoot (((ps, ()), ((1048576 : Int), ())), ()) (show (0 : Int) ≤ 1048576 by decide) (show (1048576 : Int) ≤ 1048576 by decide) hm
  simp only [f7]
  cases decide (((path : Str).length : Int) > 1048576) with
  | true => rfl
  | false =>
  simp only [cond_false, e1, Option.bind_some]
  rcases e2 with e2 | ⟨q1, q2, q3⟩
  · simp only [e2, decide_true, cond_true]
  · have : ¬ r < 0 := by omega
    obtain ⟨hb, hv⟩ := q3.bd
    simp only [this, decide_false, cond_false, v_toRoot (((ps, ()), ()), ()) hb, Option.bind_some, v_RootOwner (((ps, ()), (path, ())), ()) hb hv, v_iRootOwner (((ps, ()), (path, ())), ()) hb hv, beq_self_eq_true, Bool.not_true, v_eqRoot ps hb]

theorem pure_FnExactRootOwner : LawOk S7 [(true, [.sl .pack]), (false, [.str])] := by
  rintro ⟨⟨ps, u⟩, ⟨path, u3⟩, u'⟩ ⟨h, _⟩
  have hm : MxPs ps := wf_packs (h (.sl .pack ps) (by simp [mkDs, SD.mk]))
  refine ⟨((true, ()), ()), ?_, rfl⟩
  exact v_FnExactRootOwner (((ps, ()), (path, ())), ()) hm
end Go.Proofs

set_option maxRecDepth 100000
set_option linter.unusedVariables false
namespace Go.Proofs
open Go.Jk
noncomputable def SH178 : Summ := indexSumm
theorem zH178 (h : ∀ T, (tt T).ok Tryz.prog T) : SummOk Tryz.prog 178 SH178 := indexByte_ok (fn := Tryz.f178) (by kernel_rfl) (by kernel_rfl) (by kernel_rfl) (by kernel_rfl) (by kernel_rfl)
end Go.Proofs

set_option maxRecDepth 100000
set_option linter.unusedVariables false
namespace Go.Proofs
open Go.Jk
-- 174 internal/stringslite.IndexByte
noncomputable def c174 : Ctx := { tt := tt, fs := fun n => match n with | 178 => some SH178 | _ => none }
theorem k174 (h : ∀ T, (tt T).ok Tryz.prog T) (hH178 : SummOk Tryz.prog 178 SH178) : CtxGood Tryz.prog c174 := ⟨⟨h⟩, fun g S hg => (by
  simp only [c174] at hg
  split at hg
  · cases hg; exact hH178
  · cases hg), tt_mo, fun _ _ h => (by cases h)⟩
noncomputable def b174 : Code := codeOf Tryz.f174
@[reducible] noncomputable def i174 : Shape := ⟨[(0, .lf (.d (.str))), (1, .lf (.d (.int .u8)))], [], 8⟩
@[reducible] noncomputable def o174 : Shape := ⟨[(4, .lf (.d (.int .i64)))], [], 8⟩
noncomputable def f174 (a : i174.Y) : Option o174.Y :=
(some ()).bind fun r1433 =>
  some (((Lib.indexByte a.1.1 (a.1.2.1).toNat.toUInt8), ()), ())
theorem e174 : ∀ a, f174 a = bodyF (ctxWith c174 []) b174 i174 o174 a := fun a => by kernel_rfl
noncomputable def S174 : Summ := funSumm tt 8 i174 o174 [.tmp 4] f174
theorem z174 (h : ∀ T, (tt T).ok Tryz.prog T) (hH178 : SummOk Tryz.prog 178 SH178) : SummOk Tryz.prog 174 S174 :=
  have H := k174 h hH178
  fun_at (fn := Tryz.f174) (fr := []) H (by kernel_rfl) (by kernel_rfl) (by kernel_rfl) (by kernel_rfl) (by kernel_rfl) frags_nil (fun y => ⟨_, rfl, rfl⟩) e174
end Go.Proofs

set_option maxRecDepth 100000
set_option linter.unusedVariables false
namespace Go.Proofs
open Go.Jk
-- 173 internal/stringslite.Index
noncomputable def c173 : Ctx := { tt := tt, fs := fun n => match n with | 174 => some S174 | _ => none }
theorem k173 (h : ∀ T, (tt T).ok Tryz.prog T) (h174 : SummOk Tryz.prog 174 S174) : CtxGood Tryz.prog c173 := ⟨⟨h⟩, fun g S hg => (by
  simp only [c173] at hg
  split at hg
  · cases hg; exact h174
  · cases hg), tt_mo, fun _ _ h => (by cases h)⟩
noncomputable def b173 : Code := codeOf Tryz.f173
@[reducible] noncomputable def s173_56 : Shape := ⟨[(0, .lf (.d (.str))), (1, .lf (.d (.str))), (5, .lf (.d (.int .i64)))], [], 143⟩
@[reducible] noncomputable def t173_56 : List OSh := [(.norm, ⟨[(0, .lf (.d (.str))), (1, .lf (.d (.str))), (5, .lf (.d (.int .i64))), (16, .lf (.d (.bool)))], [], 143⟩)]
noncomputable def g173_56 (y : s173_56.Y) : Option (YS t173_56) :=
  bif (!(y.1.2.2.1 == (0 : Int))) then
  some (((y.1.1, (y.1.2.1, (y.1.2.2.1, ((y.1.2.1 == y.1.1), ())))), ()))
else
  some (((y.1.1, (y.1.2.1, (y.1.2.2.1, (true, ())))), ()))
theorem r173_56 : ∀ y, g173_56 y = pieceF (ctxWith c173 []) (codeAt b173 1 56) 56 s173_56 t173_56 y := fun y => by kernel_rfl
theorem q173_56 (H : CtxGood Tryz.prog c173) : FragOk Tryz.prog (codeAt b173 1 56) (fragOrc s173_56 t173_56 g173_56) :=
  piece_at (fr := []) H (by kernel_rfl) frags_nil r173_56
@[reducible] noncomputable def i173 : Shape := ⟨[(0, .lf (.d (.str))), (1, .lf (.d (.str)))], [], 143⟩
@[reducible] noncomputable def o173 : Shape := ⟨[(4, .lf (.d (.int .i64)))], [], 143⟩
noncomputable def f173 (a : i173.Y) : Option o173.Y :=
(g173_56 ((a.1.1, (a.1.2.1, ((a.1.2.1.length : Int), ()))), ())).bind fun r1435 =>
  bif r1435.1.2.2.2.1 then
  some (((0 : Int), ()), ())
else
  bif (r1435.1.2.2.1 == (1 : Int)) then
(ix r1435.1.2.1 (0 : Int)).bind fun x1436 =>
(f174 ((r1435.1.1, ((x1436.toNat : Int), ())), ())).bind fun r1437 =>
  some ((r1437.1.1, ()), ())
else
  bif (decide (r1435.1.2.2.1 ≥ (r1435.1.1.length : Int))) then
  some ((((-1) : Int), ()), ())
else
  none
theorem e173 : ∀ a, f173 a = bodyF (ctxWith c173 [(56, fragOrc s173_56 t173_56 g173_56)]) b173 i173 o173 a := fun a => by kernel_rfl
noncomputable def S173 : Summ := funSumm tt 143 i173 o173 [.tmp 4] f173
theorem z173 (h : ∀ T, (tt T).ok Tryz.prog T) (h174 : SummOk Tryz.prog 174 S174) : SummOk Tryz.prog 173 S173 :=
  have H := k173 h h174
  fun_at (fn := Tryz.f173) (fr := [(56, fragOrc s173_56 t173_56 g173_56)]) H (by kernel_rfl) (by kernel_rfl) (by kernel_rfl) (by kernel_rfl) (by kernel_rfl) ⟨q173_56 H, trivial⟩ (fun y => ⟨_, rfl, rfl⟩) e173
end Go.Proofs

set_option maxRecDepth 100000
set_option linter.unusedVariables false
namespace Go.Proofs
open Go.Jk
-- 166 strings.Index
noncomputable def c166 : Ctx := { tt := tt, fs := fun n => match n with | 173 => some S173 | _ => none }
theorem k166 (h : ∀ T, (tt T).ok Tryz.prog T) (h173 : SummOk Tryz.prog 173 S173) : CtxGood Tryz.prog c166 := ⟨⟨h⟩, fun g S hg => (by
  simp only [c166] at hg
  split at hg
  · cases hg; exact h173
  · cases hg), tt_mo, fun _ _ h => (by cases h)⟩
noncomputable def b166 : Code := codeOf Tryz.f166
@[reducible] noncomputable def i166 : Shape := ⟨[(0, .lf (.d (.str))), (1, .lf (.d (.str)))], [], 8⟩
@[reducible] noncomputable def o166 : Shape := ⟨[(4, .lf (.d (.int .i64)))], [], 8⟩
noncomputable def f166 (a : i166.Y) : Option o166.Y :=
(f173 ((a.1.1, (a.1.2.1, ())), ())).bind fun r1439 =>
  some ((r1439.1.1, ()), ())
theorem e166 : ∀ a, f166 a = bodyF (ctxWith c166 []) b166 i166 o166 a := fun a => by kernel_rfl
noncomputable def S166 : Summ := funSumm tt 8 i166 o166 [.tmp 4] f166
theorem z166 (h : ∀ T, (tt T).ok Tryz.prog T) (h173 : SummOk Tryz.prog 173 S173) : SummOk Tryz.prog 166 S166 :=
  have H := k166 h h173
  fun_at (fn := Tryz.f166) (fr := []) H (by kernel_rfl) (by kernel_rfl) (by kernel_rfl) (by kernel_rfl) (by kernel_rfl) frags_nil (fun y => ⟨_, rfl, rfl⟩) e166
end Go.Proofs

set_option maxRecDepth 100000
namespace Go.Proofs
open Go.Jk
theorem sp156 (s p : ByteArray) (k : Int) (w : World) : Calls Tryz.prog 156 #[.string s, .string p, .int .i64 k] w fun e w' =>
    e = .returned (.func (.func 164) #[] #[.pointer (some ⟨w.heap.size + 1, 0, none⟩), .pointer (some ⟨w.heap.size, 0, none⟩), .pointer (some ⟨w.heap.size + 2, 0, none⟩)]) ∧
    w' = ((w.alloc (.cells #[.string s] 9)).alloc (.cells #[.string p] 9)).alloc (.cells #[.int .i64 k] 3) := by
  go_enter Tryz.func156, Tryz.ntmps156
  go_wp2
  go_ret
  exact ⟨rfl, rfl⟩
theorem sp137 (s p : ByteArray) (w : World) : Calls Tryz.prog 137 #[.string s, .string p] w fun e w' =>
    e = .returned (.func (.func 164) #[] #[.pointer (some ⟨w.heap.size + 1, 0, none⟩), .pointer (some ⟨w.heap.size, 0, none⟩), .pointer (some ⟨w.heap.size + 2, 0, none⟩)]) ∧
    w' = ((w.alloc (.cells #[.string s] 9)).alloc (.cells #[.string p] 9)).alloc (.cells #[.int .i64 0] 3) := by
  go_enter Tryz.func137, Tryz.ntmps137
  go_wp2_with (go_at_call 156; refine (sp156 _ _ _ _).mono ?_; rintro e w' ⟨rfl, rfl⟩)
  go_ret
  exact ⟨rfl, rfl⟩
theorem y137 : SplitOk Tryz.prog 137 164 := fun a b w => .inl ⟨enters_of Tryz.func137 (by kernel_rfl) rfl _ _, (sp137 a b w).mono fun e w' h => by obtain ⟨rfl, rfl⟩ := h; exact ⟨9, 3, rfl, rfl⟩⟩
end Go.Proofs

set_option maxRecDepth 100000
set_option linter.unusedVariables false
namespace Go.Proofs
open Go.Jk
noncomputable def c164 : Ctx := { tt := tt, fs := fun n => match n with | 166 => some S166 | _ => none }
theorem k164 (h : ∀ T, (tt T).ok Tryz.prog T) (h166 : SummOk Tryz.prog 166 S166) : CtxGood Tryz.prog c164 := ⟨⟨h⟩, fun g S hg => (by
  simp only [c164] at hg
  split at hg
  · cases hg; exact h166
  · cases hg), tt_mo, fun _ _ h => (by cases h)⟩
noncomputable def b164 : Code := codeOf Tryz.f164
noncomputable def l164 : Code := unloop (codeAt b164 1 12)
noncomputable def op164 (p j : Nat) : Oper := (opsOf (codeAt l164 24 p)).getD j default
def ridOf : Code → Nat
  | .region i _ _ => i
  | _ => 0
noncomputable def oq164 (j : Nat) : Oper := (opsOf (codeAt b164 1 7)).getD j default
theorem idx166 (c : UInt8) (r : Str) : f166 ((r, ([c], ())), ()) = some ((Lib.indexByte r c, ()), ()) := by
  have h0 : ix ([c] : Str) (0 : Int) = some c := rfl
  have h1 : ((([c] : Str).length : Int) == 0) = false := rfl
  have h2 : ((([c] : Str).length : Int) == 1) = true := rfl
  have h3 : ((c.toNat : Int)).toNat.toUInt8 = c := by simp
  simp only [f166, f173, g173_56, f174, h0, h1, h2, h3, Bool.not_false, cond_true, cond_false, Option.bind_some, Option.bind]
  by_cases h : (([c] : Str) == r) = true
  · have : r = [c] := (by simpa using h : [c] = r).symm
    subst this
    simp [Lib.indexByte] <;> rfl
  · simp [h] <;> rfl
theorem e164B (c : UInt8) (r : Str) : exec (ctxWith c164 []) (codeAt l164 24 96) 96 (ist 52 c r) (kIdx (ctxWith c164 []) 52 7 8 (codeAt l164 24 194) (codeAt l164 24 390) 194 390) =
  (f166 ((r, ([c], ())), ())).bind fun q => bif decide (q.1.1 < 0) then some (.inl (iy 52 c r)) else (subl r 0 (IntKind.i64.wrap (q.1.1 + 0))).bind fun x => some (.inr ((q.1.1, x), iy 52 c r)) := by kernel_rfl
theorem x164 (h : ∀ T, (tt T).ok Tryz.prog T) (h166 : SummOk Tryz.prog 166 S166) : IterOk Tryz.prog 164 :=
  iter_ok (C := ctxWith c164 []) (k164 h h166) (fn := Tryz.f164) (k := 52) (A := codeAt b164 1 2) (r5 := codeAt l164 24 96) (c6 := codeAt l164 24 194) (r7 := codeAt l164 24 390) (r9 := codeAt l164 24 783)
    (o0 := op164 1564 0) (o1 := op164 1564 1) (o2 := op164 1564 2) (o3 := op164 1564 3) (q0 := oq164 0) (q1 := oq164 1) (q2 := oq164 2) (pA := 2) (p5 := 96) (p6 := 194) (p7 := 390) (p9 := 783) (t7 := 7) (t8 := 8) (a1 := 39) (a2 := 40)
    (t41 := 41) (t42 := 42) (u1 := 49) (u2 := 50) (ty := #[9]) (ty' := #[9])
    { isFn := (by kernel_rfl), nt := (by kernel_rfl), k4 := (by decide), res := (by kernel_rfl), ent := enters_of Tryz.func164 (by kernel_rfl) rfl, body := ⟨ridOf (codeAt l164 24 1564), ridOf (codeAt b164 1 7), (by kernel_rfl)⟩, nr := (by kernel_rfl), wr := (by kernel_rfl),
      gd := ⟨(by kernel_rfl), (by kernel_rfl), (by kernel_rfl), (by kernel_rfl), (by kernel_rfl), (by kernel_rfl), (by kernel_rfl)⟩, wo := (by kernel_rfl), wq := (by kernel_rfl), d2 := (by kernel_rfl), lt41 := (by decide), c2 := (by kernel_rfl), d5 := (by kernel_rfl),
      orcs := ⟨orcs_frags (by kernel_rfl) frags_nil, orcs_frags (by kernel_rfl) frags_nil, orcs_frags (by kernel_rfl) frags_nil, orcs_frags (by kernel_rfl) frags_nil, orcs_frags (by kernel_rfl) frags_nil⟩,
      hA := fun c r => (by kernel_rfl), hB := fun c r => (e164B c r).trans (by rw [idx166]; rfl), hT := fun c r i x v => (by kernel_rfl), h3 := fun c r b => (by kernel_rfl), h30 := (by kernel_rfl), hC := fun c r i => (by kernel_rfl), hQ := fun c r v => (by kernel_rfl) }
    (by kernel_rfl) (by decide)
end Go.Proofs

set_option maxRecDepth 100000
set_option linter.unusedVariables false
namespace Go.Proofs
open Go.Jk
theorem xH178 : SummOk Tryz.prog 178 SH178 := zH178 tt_ok
theorem x174 : SummOk Tryz.prog 174 S174 := z174 tt_ok xH178
theorem x173 : SummOk Tryz.prog 173 S173 := z173 tt_ok x174
theorem x166 : SummOk Tryz.prog 166 S166 := z166 tt_ok x173
theorem it164 : IterOk Tryz.prog 164 := x164 tt_ok x166
theorem x117 : SummOk Tryz.prog 117 S117 := z117 tt_ok
theorem x89 : SummOk Tryz.prog 89 S89 := z89 tt_ok x117
theorem x118 : SummOk Tryz.prog 118 S118 := z118 tt_ok
theorem x90 : SummOk Tryz.prog 90 S90 := z90 tt_ok x118
theorem x57 : SummOk Tryz.prog 57 S57 := z57 tt_ok x89 x90
theorem x35 : SummOk Tryz.prog 35 S35 := z35 tt_ok x57
theorem x14 : SummOk Tryz.prog 14 S14 := z14 tt_ok x35
theorem x119 : SummOk Tryz.prog 119 S119 := z119 tt_ok
theorem x91 : SummOk Tryz.prog 91 S91 := z91 tt_ok x119
theorem x120 : SummOk Tryz.prog 120 S120 := z120 tt_ok
theorem x92 : SummOk Tryz.prog 92 S92 := z92 tt_ok x120
theorem x59 : SummOk Tryz.prog 59 S59 := z59 tt_ok x91 x92
theorem x37 : SummOk Tryz.prog 37 S37 := z37 tt_ok x59
theorem x16 : SummOk Tryz.prog 16 S16 := z16 tt_ok x37
theorem x44 : SummOk Tryz.prog 44 S44 := z44 tt_ok
theorem x23 : SummOk Tryz.prog 23 S23 := z23 tt_ok x44
theorem x122 : SummOk Tryz.prog 122 S122 := z122 tt_ok
theorem x95 : SummOk Tryz.prog 95 S95 := z95 tt_ok x122
theorem x66 : SummOk Tryz.prog 66 S66 := z66 tt_ok x23 x95
theorem x39 : SummOk Tryz.prog 39 S39 := z39 tt_ok x66
theorem x18 : SummOk Tryz.prog 18 S18 := z18 tt_ok x39
theorem x100 : SummOk Tryz.prog 100 S100 := z100 tt_ok
theorem x40 : SummOk Tryz.prog 40 S40 := z40 tt_ok
theorem x110 : SummOk Tryz.prog 110 S110 := z110 tt_ok
theorem x141 : SummOk Tryz.prog 141 S141 := z141 tt_ok
theorem x168 : SummOk Tryz.prog 168 S168 := z168 tt_ok
theorem x158 : SummOk Tryz.prog 158 S158 := z158 tt_ok x110 x168
theorem x144 : SummOk Tryz.prog 144 S144 := z144 tt_ok x141 x158
theorem x145 : SummOk Tryz.prog 145 S145 := z145 tt_ok x110
theorem x113 : SummOk Tryz.prog 113 S113 := z113 tt_ok x110 x144 x145
theorem x114 : SummOk Tryz.prog 114 S114 := z114 tt_ok x40
theorem x115 : SummOk Tryz.prog 115 S115 := z115 tt_ok
theorem x87 : SummOk Tryz.prog 87 S87 := z87 tt_ok x113 x114 x115
theorem x69 : SummOk Tryz.prog 69 S69 := z69 tt_ok x40 x87 x100
theorem x42 : SummOk Tryz.prog 42 S42 := z42 tt_ok x69
theorem x84 : SummOk Tryz.prog 84 S84 := z84 tt_ok x110
theorem x142 : SummOk Tryz.prog 142 S142 := z142 tt_ok
theorem x111 : SummOk Tryz.prog 111 S111 := z111 tt_ok x110 x141 x142
theorem x85 : SummOk Tryz.prog 85 S85 := z85 tt_ok x111
theorem x143 : SummOk Tryz.prog 143 S143 := z143 tt_ok x84 x85 x110
theorem x112 : SummOk Tryz.prog 112 S112 := z112 tt_ok x143
theorem x53 : SummOk Tryz.prog 53 S53 := z53 tt_ok
theorem x86 : SummOk Tryz.prog 86 S86 := z86 tt_ok x53 x112
theorem x52 : SummOk Tryz.prog 52 S52 := z52 tt_ok x84 x85 x86 x87
theorem x54 : SummOk Tryz.prog 54 S54 := z54 tt_ok
theorem x116 : SummOk Tryz.prog 116 S116 := z116 tt_ok
theorem x88 : SummOk Tryz.prog 88 S88 := z88 tt_ok x111 x116
theorem x56 : SummOk Tryz.prog 56 S56 := z56 tt_ok x88
theorem x58 : SummOk Tryz.prog 58 S58 := z58 tt_ok x54 x56
theorem x36 : SummOk Tryz.prog 36 S36 := z36 tt_ok x42 x52 x58
theorem x15 : SummOk Tryz.prog 15 S15 := z15 tt_ok x36
theorem x19 : SummOk Tryz.prog 19 S19 := z19 tt_ok x15 x40
theorem x169 : SummOk Tryz.prog 169 S169 := z169 tt_ok
theorem x159 : SummOk Tryz.prog 159 S159 := z159 tt_ok x169
theorem x146 : SummOk Tryz.prog 146 S146 := z146 tt_ok x159
theorem x123 : SummOk Tryz.prog 123 S123 := z123 tt_ok x146 y137 it164
theorem x147 : SummOk Tryz.prog 147 S147 := z147 tt_ok
theorem x124 : SummOk Tryz.prog 124 S124 := z124 tt_ok x147
theorem x96 : SummOk Tryz.prog 96 S96 := z96 tt_ok x123 x124
theorem x160 : SummOk Tryz.prog 160 S160 := z160 tt_ok
theorem x148 : SummOk Tryz.prog 148 S148 := z148 tt_ok x160
theorem x125 : SummOk Tryz.prog 125 S125 := z125 tt_ok x123 x148
theorem x149 : SummOk Tryz.prog 149 S149 := z149 tt_ok
theorem x126 : SummOk Tryz.prog 126 S126 := z126 tt_ok x149
theorem x99 : SummOk Tryz.prog 99 S99 := z99 tt_ok x126
theorem x98v0 : SummOk Tryz.prog 98 S98v0 := z98v0 tt_ok x99
theorem x68 : SummOk Tryz.prog 68 S68 := z68 tt_ok x98v0
theorem x97 : SummOk Tryz.prog 97 S97 := z97 tt_ok x68 x125
theorem x67 : SummOk Tryz.prog 67 S67 := z67 tt_ok x96 x97
theorem x77 : SummOk Tryz.prog 77 S77 := z77 tt_ok
theorem x138 : SummOk Tryz.prog 138 S138 := z138 tt_ok
theorem x106 : SummOk Tryz.prog 106 S106 := z106 tt_ok x138 y137 it164
theorem x78 : SummOk Tryz.prog 78 S78 := z78 tt_ok x106
theorem x80 : SummOk Tryz.prog 80 S80 := z80 tt_ok x77 x78
theorem x79v0 : SummOk Tryz.prog 79 S79v0 := z79v0 tt_ok x80
theorem x107 : SummOk Tryz.prog 107 S107 := z107 tt_ok
theorem x139 : SummOk Tryz.prog 139 S139 := z139 tt_ok
theorem x108 : SummOk Tryz.prog 108 S108 := z108 tt_ok x139
theorem x82 : SummOk Tryz.prog 82 S82 := z82 tt_ok
theorem x81v0 : SummOk Tryz.prog 81 S81v0 := z81v0 tt_ok x82 x107 x108
theorem x50 : SummOk Tryz.prog 50 S50 := z50 tt_ok x67 x77 x78 x79v0 x81v0
theorem x49v0 : SummOk Tryz.prog 49 S49v0 := z49v0 tt_ok x50
theorem x61 : SummOk Tryz.prog 61 S61 := z61 tt_ok
theorem x60v0 : SummOk Tryz.prog 60 S60v0 := z60v0 tt_ok x49v0 x61
theorem x62v0 : SummOk Tryz.prog 62 S62v0 := z62v0 tt_ok
theorem x167 : SummOk Tryz.prog 167 S167 := z167 tt_ok
theorem x157 : SummOk Tryz.prog 157 S157 := z157 tt_ok x167
theorem x140 : SummOk Tryz.prog 140 S140 := z140 tt_ok x157
theorem x109 : SummOk Tryz.prog 109 S109 := z109 tt_ok x140
theorem x83 : SummOk Tryz.prog 83 S83 := z83 tt_ok x106 x109
theorem x51 : SummOk Tryz.prog 51 S51 := z51 tt_ok x78 x80 x83
theorem x93v0 : SummOk Tryz.prog 93 S93v0 := z93v0 tt_ok x51
theorem x121v0 : SummOk Tryz.prog 121 S121v0 := z121v0 tt_ok x93v0
theorem x94v0 : SummOk Tryz.prog 94 S94v0 := z94v0 tt_ok x121v0
theorem x64 : SummOk Tryz.prog 64 S64 := z64 tt_ok x94v0
theorem x63v0 : SummOk Tryz.prog 63 S63v0 := z63v0 tt_ok x64
theorem x101 : SummOk Tryz.prog 101 S101 := z101 tt_ok
theorem xH102 : SummOk Tryz.prog 102 SH102 := zH102 tt_ok
theorem x70 : SummOk Tryz.prog 70 S70 := z70 tt_ok x67 x68 x101 xH102
theorem x43 : SummOk Tryz.prog 43 S43 := z43 tt_ok x70
theorem x65v0 : SummOk Tryz.prog 65 S65v0 := z65v0 tt_ok x43
theorem x38 : SummOk Tryz.prog 38 S38 := z38 tt_ok x60v0 x62v0 x63v0 x65v0
theorem x17 : SummOk Tryz.prog 17 S17 := z17 tt_ok x38
theorem x41 : SummOk Tryz.prog 41 S41 := z41 tt_ok x67 x68
theorem x20 : SummOk Tryz.prog 20 S20 := z20 tt_ok x17 x41
theorem x7 : SummOk Tryz.prog 7 S7 := z7 tt_ok x14 x16 x18 x19 x20
end Go.Proofs
