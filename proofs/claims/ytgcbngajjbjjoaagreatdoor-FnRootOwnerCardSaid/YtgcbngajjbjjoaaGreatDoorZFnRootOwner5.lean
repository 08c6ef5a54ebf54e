/- It is proved that every file has one owner (FnRootOwner). (part 6 of 7: JkBPuQ, JkBF107v0, JkBF123v0, JkBF120v0, JkBF121v0, JkBF122v0, JkBF170v0, JkBF124v0, JkBF126, JkBF128, JkBF127, JkBF64v0, JkBF66, JkBF65, JkBF90v0, JkBF47v0, JkBPuR, JkBF21, JkBF24, JkBF25, JkBPuN, Jk) Conditions: none beyond the statement. -/
import Derived.Test.YtgcbngajjbjjoaaGreatDoorZFnRootOwner4
import Derived.Tactics
import Derived.Deep.RegionLaw
import Derived.Shelf.Abstract
import Derived.Test.YtgcbngajjbjjoaaGreatDoorProg
import Derived.KernelRfl
set_option maxRecDepth 100000
set_option linter.unusedVariables false
set_option linter.unusedSimpArgs false
namespace Go.Proofs
open Go.Jk
abbrev NoBr (g : Str) : Prop := ∀ b, b ∈ g → b.toNat ≠ 91
theorem ix_str {s : Str} {i : Int} (h0 : 0 ≤ i) (h1 : i < (s.length : Int)) : ∃ x, ix s i = some x ∧ x ∈ s := ix_in h0 h1
theorem v_l1Globbed (a) (hs : Bd a.1.1.length) (hn : NoBr a.1.1) : Ev (f234 a) (fun _ => True) := by
  obtain ⟨⟨(s : Str), u⟩, u'⟩ := a
  have hs : s.length ≤ 2097152 := hs
  unfold f234
  refine Ev.bind (P := fun _ => True) ?_ fun r _ => ?_
  · refine Ev.loop (fun (k : Nat) y => y.1.1 = s ∧ (0 : Int) ≤ y.1.2.1 ∧ (y.1.2.1 : Int) + k = s.length) (fun k y hy => ?_) s.length _ ⟨rfl, Int.le_refl _, by show (0 : Int) + s.length = s.length; omega⟩
    obtain ⟨⟨(s1 : Str), (i : Int), u⟩, u'⟩ := y
    obtain ⟨y1, y2, y3⟩ := hy
    have y1 : s1 = s := y1
    subst y1
    have y2 : 0 ≤ i := y2
    have y3 : i + k = s1.length := y3
    unfold g234_26
    refine Ev.ite (fun hc => ?_) fun _ => Ev.ret trivial
    have hc : i < (s1.length : Int) := of_decide_eq_true hc
    obtain ⟨x, k1, k2⟩ := ix_str y2 hc
    have hx : ((x.toNat : Int) == 91) = false := by
      have := hn x k2
      simp only [beq_eq_false_iff_ne, ne_eq]; omega
    have hw : IntKind.i64.wrap (i + 1) = i + 1 := wrap_of (by omega) (by omega)
    refine Ev.eq k1 ?_
    refine Ev.ite (fun hd => by rw [hx] at hd; cases hd) fun _ => ?_
    have piece : Ev (g234_6726 ((s1, (i, ())), ())) (fun r => r.1.1 = s1 ∧ r.1.2.1 = i) := by
      unfold g234_6726
      refine Ev.eq k1 ?_
      exact Ev.ite (fun _ => Ev.eq k1 (Ev.ret ⟨rfl, rfl⟩)) fun _ => Ev.ret ⟨rfl, rfl⟩
    refine Ev.bind piece fun r hr => ?_
    obtain ⟨⟨(s2 : Str), (i2 : Int), (c : Bool), v⟩, v'⟩ := r
    obtain ⟨r1, r2⟩ := hr
    have r1 : s2 = s1 := r1
    have r2 : i2 = i := r2
    subst r1 r2
    refine Ev.ite (fun _ => ?_) fun _ => ?_
    · refine Ev.ret ⟨k - 1, by omega, rfl, ?_, ?_⟩
      · show 0 ≤ IntKind.i64.wrap (i2 + 1); rw [hw]; omega
      · show IntKind.i64.wrap (i2 + 1) + ((k - 1 : Nat) : Int) = _; rw [hw]; omega
    · refine Ev.eq k1 ?_
      refine Ev.eq (v_l1Small (((x.toNat : Int), ()), ())) ?_
      refine Ev.ite (fun _ => Ev.ret trivial) fun _ => ?_
      refine Ev.ret ⟨k - 1, by omega, rfl, ?_, ?_⟩
      · show 0 ≤ IntKind.i64.wrap (i2 + 1); rw [hw]; omega
      · show IntKind.i64.wrap (i2 + 1) + ((k - 1 : Nat) : Int) = _; rw [hw]; omega
  · cases r with
    | inl r => exact Ev.ret trivial
    | inr r => exact Ev.ret trivial
theorem splitL_nobr {g : Str} (h : NoBr g) : ∀ x, x ∈ splitL 47 g → NoBr x := by
  induction g with
  | nil =>
    intro x hx b hb
    simp [splitL] at hx
    subst hx; cases hb
  | cons c g ih =>
    have ih := ih fun b hb => h b (List.mem_cons_of_mem _ hb)
    intro x hx b hb
    simp only [splitL] at hx
    cases hc : (c == 47) with
    | true =>
      simp only [hc, cond_true, List.mem_cons] at hx
      rcases hx with rfl | hx
      · cases hb
      · exact ih x hx b hb
    | false =>
      simp only [hc, cond_false] at hx
      cases hL : splitL 47 g with
      | nil => exact absurd hL (splitL_ne 47 g)
      | cons y L =>
        rw [hL] at hx ih
        simp only [List.mem_cons] at hx
        rcases hx with rfl | hx
        · rcases List.mem_cons.1 hb with rfl | hb
          · exact h _ List.mem_cons_self
          · exact ih y List.mem_cons_self b hb
        · exact ih x (List.mem_cons_of_mem _ hx) b hb
theorem v_GlobOk (a) (hs : a.1.1.length ≤ 200) (hn : NoBr a.1.1) : Ev (f224 a) (fun _ => True) := by
  obtain ⟨⟨(g : Str), u⟩, u'⟩ := a
  have hs : g.length ≤ 200 := hs
  unfold f224
  have hw : IntKind.i64.wrap ((g.length : Int) + 1) = ((g.length + 1 : Nat) : Int) := wrap_add1 (by unfold Sm; omega)
  refine Ev.eq (v_l1Cut 47 ((g, ((47 : Int), (IntKind.i64.wrap ((g.length : Int) + 1), ()))), ()) (by show g.length ≤ 2097152; omega) rfl hw) ?_
  have hL : (splitL 47 g).length ≤ 201 := by have := splitL_len 47 g; omega
  refine Ev.bind (P := fun _ => True) ?_ fun r _ => ?_
  · refine Ev.loop (fun (k : Nat) y => y.2.1 = splitL 47 g ∧ (0 : Int) ≤ y.1.2.2.1 ∧ (y.1.2.2.1 : Int) + k = (splitL 47 g).length) (fun k y hy => ?_) (splitL 47 g).length _ ⟨rfl, Int.le_refl _, by show (0 : Int) + _ = _; omega⟩
    obtain ⟨⟨(g1 : Str), u1, (i : Int), u⟩, (L : List Str), u'⟩ := y
    obtain ⟨y1, y2, y3⟩ := hy
    have y1 : L = splitL 47 g := y1
    have y2 : 0 ≤ i := y2
    have y3 : i + k = (splitL 47 g).length := y3
    subst y1
    unfold g224_58
    refine Ev.ite (fun hc => ?_) fun _ => Ev.ret trivial
    have hc : i < ((splitL 47 g).length : Int) := of_decide_eq_true hc
    obtain ⟨j, rfl⟩ := Int.eq_ofNat_of_zero_le y2
    have hj : j < (splitL 47 g).length := by omega
    have hw : IntKind.i64.wrap ((j : Int) + 1) = (j : Int) + 1 := wrap_of (by omega) (by omega)
    refine Ev.eq (inb_nat hj) ?_
    refine Ev.eq (List.getElem?_eq_getElem hj) ?_
    have hm := List.getElem_mem hj
    refine Ev.bind (v_l1Globbed (((splitL 47 g)[j], ()), ()) (by have := splitL_mem 47 g _ hm; show ((splitL 47 g)[j]).length ≤ 2097152; omega) (splitL_nobr hn _ hm)) fun r _ => ?_
    refine Ev.ite (fun _ => Ev.ret trivial) fun _ => ?_
    refine Ev.ret ⟨k - 1, by omega, rfl, ?_, ?_⟩
    · show 0 ≤ IntKind.i64.wrap ((j : Int) + 1); rw [hw]; omega
    · show IntKind.i64.wrap ((j : Int) + 1) + ((k - 1 : Nat) : Int) = _; rw [hw]; omega
  · cases r with
    | inl r => exact Ev.ret trivial
    | inr r => exact Ev.ite (fun _ => Ev.ret trivial) fun _ => Ev.ret trivial
theorem subl1 {s : Str} (h : s ≠ []) : subl s (1 : Int) (s.length : Int) = some (s.drop 1) := subl_from (a := 1) (by have := List.length_pos_iff.2 h; omega)
theorem subl1L {s : List Str} (h : 0 < s.length) : subl s (1 : Int) (s.length : Int) = some (s.drop 1) := subl_from (a := 1) h
theorem ne_of_beq {s : Str} (h : (s == ([] : Str)) = false) : s ≠ [] := by simpa using h
theorem fits_ev : ∀ (n : Nat) (g s : Str), NoBr g → g.length + s.length < n → Ev (iterR ff235 n ((g, (s, ())), ())) (fun _ => True) := by
  intro n
  induction n with
  | zero => intro g s _ h; omega
  | succ n ih =>
    intro g s hn hl
    show Ev (ff235 (iterR ff235 n) _) _
    unfold ff235
    refine Ev.ite (fun _ => Ev.ret trivial) fun hg => ?_
    have hg : g ≠ [] := ne_of_beq hg
    have hgp := List.length_pos_iff.2 hg
    obtain ⟨x, k1, k2⟩ := ix_str (s := g) (i := 0) (by omega) (by omega)
    refine Ev.eq k1 ?_
    have hd1 : NoBr (g.drop 1) := fun b hb => hn b (List.mem_of_mem_drop hb)
    have hdl : (g.drop 1).length + 1 = g.length := by rw [List.length_drop]; omega
    refine Ev.ite (fun _ => ?_) fun _ => ?_
    · refine Ev.eq (subl1 hg) ?_
      refine Ev.bind (ih (g.drop 1) s hd1 (by omega)) fun r _ => ?_
      refine Ev.ite (fun _ => ?_) fun _ => Ev.ret trivial
      refine Ev.ite (fun hs => ?_) fun _ => Ev.ret trivial
      have hs : s ≠ [] := by
        have hs : (!(s == ([] : Str))) = true := hs
        intro e; subst e; cases hs
      have hsp := List.length_pos_iff.2 hs
      refine Ev.eq (subl1 hs) ?_
      exact Ev.bind (ih g (s.drop 1) hn (by rw [List.length_drop]; omega)) fun r _ => Ev.ret trivial
    · refine Ev.ite (fun _ => Ev.ret trivial) fun hs => ?_
      have hs : s ≠ [] := ne_of_beq hs
      have hsp := List.length_pos_iff.2 hs
      have step : Ev (iterR ff235 n ((g.drop 1, (s.drop 1, ())), ())) (fun _ => True) := ih _ _ hd1 (by rw [List.length_drop]; rw [List.length_drop]; omega)
      refine Ev.eq k1 ?_
      refine Ev.ite (fun _ => ?_) fun _ => ?_
      · refine Ev.eq (subl1 hg) ?_
        refine Ev.eq (subl1 hs) ?_
        exact Ev.bind step fun r _ => Ev.ret trivial
      · have hx : ((x.toNat : Int) == 91) = false := by
          have := hn x k2
          simp only [beq_eq_false_iff_ne, ne_eq]; omega
        refine Ev.ite (fun hd => by rw [hx] at hd; cases hd) fun _ => ?_
        refine Ev.eq k1 ?_
        obtain ⟨y, l1, l2⟩ := ix_str (s := s) (i := 0) (by omega) (by omega)
        refine Ev.eq l1 ?_
        refine Ev.ite (fun _ => ?_) fun _ => Ev.ret trivial
        refine Ev.eq (subl1 hg) ?_
        refine Ev.eq (subl1 hs) ?_
        exact Ev.bind step fun r _ => Ev.ret trivial
theorem v_l1Fits (a) (h1 : Bd a.1.1.length) (h2 : Bd a.1.2.1.length) (hn : NoBr a.1.1) : Ev (f235 a) (fun _ => True) := by
  obtain ⟨⟨(g : Str), (s : Str), u⟩, u'⟩ := a
  have h1 : g.length ≤ 2097152 := h1
  have h2 : s.length ≤ 2097152 := h2
  exact fits_ev fuelN g s hn (by unfold fuelN; omega)
theorem match_ev : ∀ (n : Nat) (g s : List Str), (∀ x, x ∈ g → NoBr x ∧ Bd x.length) → (∀ x, x ∈ s → Bd x.length) → g.length + s.length < n → Ev (iterR ff225 n ((g, (s, ())), ())) (fun _ => True) := by
  intro n
  induction n with
  | zero => intro g s _ _ h; omega
  | succ n ih =>
    intro g s hn hs hl
    show Ev (ff225 (iterR ff225 n) _) _
    unfold ff225
    refine Ev.ite (fun _ => Ev.ret trivial) fun hg => ?_
    have hgp : 0 < g.length := by
      have hg : ((g.length : Int) == 0) = false := hg
      simp only [beq_eq_false_iff_ne, ne_eq] at hg; omega
    obtain ⟨x, k1, k2⟩ := ix_in (xs := g) (i := 0) (by omega) (by omega)
    refine Ev.eq k1 ?_
    have hd1 : ∀ x, x ∈ g.drop 1 → NoBr x ∧ Bd x.length := fun b hb => hn b (List.mem_of_mem_drop hb)
    have hs1 : ∀ x, x ∈ s.drop 1 → Bd x.length := fun b hb => hs b (List.mem_of_mem_drop hb)
    have hdl : (g.drop 1).length + 1 = g.length := by rw [List.length_drop]; omega
    refine Ev.ite (fun _ => ?_) fun _ => ?_
    · refine Ev.eq (subl1L hgp) ?_
      refine Ev.bind (ih (g.drop 1) s hd1 hs (by omega)) fun r _ => ?_
      refine Ev.ite (fun _ => ?_) fun _ => Ev.ret trivial
      refine Ev.ite (fun hc => ?_) fun _ => Ev.ret trivial
      have hc : (s.length : Int) > 0 := of_decide_eq_true hc
      refine Ev.eq (subl1L (s := s) (by omega)) ?_
      exact Ev.bind (ih g (s.drop 1) hn hs1 (by rw [List.length_drop]; omega)) fun r _ => Ev.ret trivial
    · refine Ev.ite (fun hc => ?_) fun _ => Ev.ret trivial
      have hc : (s.length : Int) > 0 := of_decide_eq_true hc
      refine Ev.eq k1 ?_
      obtain ⟨y, l1, l2⟩ := ix_in (xs := s) (i := 0) (by omega) (by omega)
      refine Ev.eq l1 ?_
      refine Ev.bind (v_l1Fits ((x, (y, ())), ()) (hn x k2).2 (hs y l2) (hn x k2).1) fun r _ => ?_
      refine Ev.ite (fun _ => ?_) fun _ => Ev.ret trivial
      refine Ev.eq (subl1L hgp) ?_
      refine Ev.eq (subl1L (s := s) (by omega)) ?_
      exact Ev.bind (ih (g.drop 1) (s.drop 1) hd1 hs1 (by rw [List.length_drop]; rw [List.length_drop]; omega)) fun r _ => Ev.ret trivial
theorem v_GlobHas (a) (h1 : a.1.1.length ≤ 200) (h2 : a.1.2.1.length ≤ 1048576) (hn : NoBr a.1.1) : Ev (f200 a) (fun _ => True) := by
  obtain ⟨⟨(g : Str), (s : Str), u⟩, u'⟩ := a
  have h1 : g.length ≤ 200 := h1
  have h2 : s.length ≤ 1048576 := h2
  unfold f200
  refine Ev.bind (v_GlobOk ((g, ()), ()) h1 hn) fun r _ => ?_
  refine Ev.ite (fun _ => ?_) fun _ => Ev.ret trivial
  refine Ev.eq (v_l1Path ((s, ()), ()) (by show s.length ≤ 2097152; omega)) ?_
  refine Ev.ite (fun _ => ?_) fun _ => Ev.ret trivial
  refine Ev.eq (v_l1Cut 47 ((g, ((47 : Int), (IntKind.i64.wrap ((g.length : Int) + 1), ()))), ()) (by show g.length ≤ 2097152; omega) rfl (wrap_add1 (by unfold Sm; omega))) ?_
  refine Ev.eq (v_l1Cut 47 ((s, ((47 : Int), (IntKind.i64.wrap ((s.length : Int) + 1), ()))), ()) (by show s.length ≤ 2097152; omega) rfl (wrap_add1 (by unfold Sm; omega))) ?_
  have g1 := splitL_len 47 g
  have s1 := splitL_len 47 s
  refine Ev.bind (P := fun _ => True) ?_ fun r _ => Ev.ret trivial
  exact match_ev fuelN (splitL 47 g) (splitL 47 s) (fun x hx => ⟨splitL_nobr hn x hx, by have := splitL_mem 47 g x hx; unfold Bd; omega⟩) (fun x hx => by have := splitL_mem 47 s x hx; unfold Bd; omega) (by unfold fuelN; omega)
theorem v_l1Below (a) (h1 : Bd a.1.1.length) : Ev (f226 a) (fun _ => True) := by
  obtain ⟨⟨(g : Str), (s : Str), u⟩, u'⟩ := a
  unfold f226
  refine Ev.ite (fun _ => ?_) fun _ => Ev.ret trivial
  refine Ev.ite (fun hc => ?_) fun _ => Ev.ret trivial
  have hc : (s.length : Int) > (g.length : Int) := of_decide_eq_true hc
  refine Ev.eq (subl_to (xs := s) (b := g.length) (by omega)) ?_
  refine Ev.ite (fun _ => ?_) fun _ => Ev.ret trivial
  obtain ⟨x, k1, _⟩ := ix_str (s := s) (i := (g.length : Int)) (by omega) (by omega)
  exact Ev.eq k1 (Ev.ret trivial)
theorem v_l2Needed (a) (ht : ShT a.1.1) (hg : a.1.2.1.length ≤ 200) (hn : NoBr a.1.2.1) (hd : Sh a.1.2.2.1) : Ev (f201 a) (fun _ => True) := by
  obtain ⟨⟨(t : List Entry), (g : Str), (d : Str), u⟩, u'⟩ := a
  obtain ⟨ht1, ht2⟩ := ht
  have ht1 : t.length ≤ 16 := ht1
  have hd : d.length ≤ 200 := hd
  unfold f201
  refine Ev.bind (P := fun _ => True) ?_ fun r _ => ?_
  · refine Ev.loop (fun (k : Nat) y => y.1.1 = t ∧ y.1.2.1 = g ∧ y.1.2.2.1 = d ∧ (0 : Int) ≤ y.1.2.2.2.1 ∧ (y.1.2.2.2.1 : Int) + k = t.length) (fun k y hy => ?_) t.length _ ⟨rfl, rfl, rfl, Int.le_refl _, by show (0 : Int) + _ = _; omega⟩
    obtain ⟨⟨(t1 : List Entry), (g1 : Str), (d1 : Str), (i : Int), u⟩, u'⟩ := y
    obtain ⟨y1, y2, y3, y4, y5⟩ := hy
    have y1 : t1 = t := y1
    have y2 : g1 = g := y2
    have y3 : d1 = d := y3
    subst y1 y2 y3
    have y4 : 0 ≤ i := y4
    have y5 : i + k = t1.length := y5
    unfold g201_26
    refine Ev.ite (fun hc => ?_) fun _ => Ev.ret trivial
    have hc : i < (t1.length : Int) := of_decide_eq_true hc
    have hw : IntKind.i64.wrap (i + 1) = i + 1 := wrap_of (by omega) (by omega)
    obtain ⟨x, k1, k2⟩ := ix_in (xs := t1) y4 hc
    have piece : Ev (g201_840 ((t1, (g1, (d1, (i, ())))), ())) (fun r => r.1.1 = t1 ∧ r.1.2.1 = g1 ∧ r.1.2.2.1 = d1 ∧ r.1.2.2.2.1 = i) := by
      unfold g201_840
      refine Ev.eq k1 ?_
      refine Ev.bind (v_l1Below ((d1, (x.path, ())), ()) (by show d1.length ≤ 2097152; omega)) fun r _ => ?_
      refine Ev.ite (fun _ => ?_) fun _ => Ev.ret ⟨rfl, rfl, rfl, rfl⟩
      refine Ev.eq k1 ?_
      exact Ev.bind (v_GlobHas ((g1, (x.path, ())), ()) hg (Nat.le_trans (ht2 x k2).1 (by decide)) hn) fun r _ => Ev.ret ⟨rfl, rfl, rfl, rfl⟩
    refine Ev.bind piece fun r hr => ?_
    obtain ⟨⟨(t2' : List Entry), (g2 : Str), (d2 : Str), (i2 : Int), (c : Bool), v⟩, v'⟩ := r
    obtain ⟨r1, r2, r3, r4⟩ := hr
    have r1 : t2' = t1 := r1
    have r2 : g2 = g1 := r2
    have r3 : d2 = d1 := r3
    have r4 : i2 = i := r4
    subst r1 r2 r3 r4
    refine Ev.ite (fun _ => Ev.ret trivial) fun _ => ?_
    refine Ev.ret ⟨k - 1, by omega, rfl, rfl, rfl, ?_, ?_⟩
    · show 0 ≤ IntKind.i64.wrap (i2 + 1); rw [hw]; omega
    · show IntKind.i64.wrap (i2 + 1) + ((k - 1 : Nat) : Int) = _; rw [hw]; omega
  · cases r with
    | inl r => exact Ev.ret trivial
    | inr r => exact Ev.ret trivial
theorem v_TreePart (a) (ht : ShT a.1.1) (hg : a.1.2.1.length ≤ 200) (hn : NoBr a.1.2.1) : Ev (f168 a) (fun r => ShT r.2.1) := by
  obtain ⟨⟨(t : List Entry), (g : Str), u⟩, u'⟩ := a
  obtain ⟨ht1, ht2⟩ := ht
  have ht1 : t.length ≤ 16 := ht1
  have hg : g.length ≤ 200 := hg
  have hbE : BdEs t := ⟨by show t.length ≤ 2097152; omega, fun e he => ⟨Nat.le_trans (ht2 e he).1 (by decide), Nat.le_trans (ht2 e he).2 (by decide)⟩⟩
  unfold f168
  refine Ev.bind (P := fun r => ShT r.2.1) ?_ fun r hr => Ev.ret hr
  refine Ev.loop (fun (k : Nat) y => y.1.1 = t ∧ y.1.2.1 = g ∧ (0 : Int) ≤ y.1.2.2.2.1 ∧ (y.1.2.2.2.1 : Int) + k = t.length ∧ ((y.2.1 : List Entry).length : Int) ≤ y.1.2.2.2.1 ∧ ∀ e, e ∈ (y.2.1 : List Entry) → ShE e) (fun k y hy => ?_) t.length _
    ⟨rfl, rfl, Int.le_refl _, by show (0 : Int) + _ = _; omega, by show (0 : Int) ≤ 0; omega, fun e he => by cases he⟩
  obtain ⟨⟨(t1 : List Entry), (g1 : Str), u1, (i : Int), u⟩, (out : List Entry), u'⟩ := y
  obtain ⟨y1, y2, y3, y4, y5, y6⟩ := hy
  have y1 : t1 = t := y1
  have y2 : g1 = g := y2
  subst y1 y2
  have y3 : 0 ≤ i := y3
  have y4 : i + k = t1.length := y4
  have y5 : (out.length : Int) ≤ i := y5
  unfold g168_58
  refine Ev.ite (fun hc => ?_) fun _ => Ev.ret ⟨by show out.length ≤ 16; omega, y6⟩
  have hc : i < (t1.length : Int) := of_decide_eq_true hc
  have hw : IntKind.i64.wrap (i + 1) = i + 1 := wrap_of (by omega) (by omega)
  obtain ⟨x, k1, k2⟩ := ix_in (xs := t1) y3 hc
  refine Ev.eq (v_TreeOk ((t1, ()), ()) hbE) ?_
  refine Ev.ite (fun _ => ?_) fun _ => Ev.ret ⟨by show out.length ≤ 16; omega, y6⟩
  have piece : Ev (g168_1864 ((t1, (g1, ((), (i, ())))), (out, ()))) (fun r => r.1.1 = t1 ∧ r.1.2.1 = g1 ∧ r.1.2.2.2.1 = i ∧ r.2.1 = out) := by
    unfold g168_1864
    refine Ev.eq k1 ?_
    refine Ev.bind (v_GlobHas ((g1, (x.path, ())), ()) hg (Nat.le_trans (ht2 x k2).1 (by decide)) hn) fun r _ => ?_
    refine Ev.ite (fun _ => ?_) fun _ => Ev.ret ⟨rfl, rfl, rfl, rfl⟩
    refine Ev.eq k1 ?_
    refine Ev.ite (fun _ => ?_) fun _ => Ev.ret ⟨rfl, rfl, rfl, rfl⟩
    refine Ev.eq k1 ?_
    exact Ev.bind (v_l2Needed ((t1, (g1, (x.path, ()))), ()) ⟨ht1, ht2⟩ hg hn (ht2 x k2).1) fun r _ => Ev.ret ⟨rfl, rfl, rfl, rfl⟩
  refine Ev.bind piece fun r hr => ?_
  obtain ⟨⟨(t2' : List Entry), (g2 : Str), w1, (i2 : Int), (c : Bool), v⟩, (out2 : List Entry), v'⟩ := r
  obtain ⟨r1, r2, r3, r4⟩ := hr
  have r1 : t2' = t1 := r1
  have r2 : g2 = g1 := r2
  have r3 : i2 = i := r3
  have r4 : out2 = out := r4
  subst r1 r2 r3 r4
  refine Ev.ite (fun _ => ?_) fun _ => ?_
  · refine Ev.eq k1 ?_
    refine Ev.eq (apd_sm (by decide) (by unfold Sm; simp; omega)) ?_
    refine Ev.ret ⟨k - 1, by omega, rfl, rfl, ?_, ?_, ?_, fun e he => ?_⟩
    · show 0 ≤ IntKind.i64.wrap (i2 + 1); rw [hw]; omega
    · show IntKind.i64.wrap (i2 + 1) + ((k - 1 : Nat) : Int) = _; rw [hw]; omega
    · show ((out2 ++ [x]).length : Int) ≤ IntKind.i64.wrap (i2 + 1); rw [hw]; simp; omega
    · have he : e ∈ out2 ++ [x] := he
      rcases List.mem_append.1 he with he | he
      · exact y6 e he
      · rw [List.mem_singleton.1 he]; exact ht2 x k2
  · refine Ev.ret ⟨k - 1, by omega, rfl, rfl, ?_, ?_, ?_, y6⟩
    · show 0 ≤ IntKind.i64.wrap (i2 + 1); rw [hw]; omega
    · show IntKind.i64.wrap (i2 + 1) + ((k - 1 : Nat) : Int) = _; rw [hw]; omega
    · show (out2.length : Int) ≤ IntKind.i64.wrap (i2 + 1); rw [hw]; omega
theorem dec_ev : ∀ (n : Nat) (x : Int), 0 ≤ x → x ≤ 100000 → x < n → Ev (iterR ff204 n ((x, ()), ())) (fun r => ((r.1.1 : Str).length : Int) ≤ x + 1) := by
  intro n
  induction n with
  | zero => intro x h0 _ h; omega
  | succ n ih =>
    intro x h0 h1 hl
    show Ev (ff204 (iterR ff204 n) _) _
    unfold ff204
    refine Ev.ite (fun hc => ?_) fun _ => ?_
    · have hc : x < -9223372036854775807 := of_decide_eq_true hc
      omega
    refine Ev.ite (fun hc => ?_) fun _ => ?_
    · have hc : x < 0 := of_decide_eq_true hc
      omega
    refine Ev.ite (fun hc => ?_) fun hc => ?_
    · exact Ev.ret (by show ((strOf [_]).length : Int) ≤ x + 1; simp [strOf]; omega)
    · have hc : ¬ x < 10 := of_decide_eq_false hc
      refine Ev.eq (quo_nn (x := x) rfl h0 (by omega) (by decide)) ?_
      refine Ev.bind (ih (x / 10) (by omega) (by omega) (by omega)) fun r hr => ?_
      refine Ev.eq (rem_nn (x := x) h0 (by decide)) ?_
      have hr : ((r.1.1 : Str).length : Int) ≤ x / 10 + 1 := hr
      refine Ev.eq (ev_cat (s := r.1.1) (by simp [strOf]; omega)) ?_
      exact Ev.ret (by show (((r.1.1 : Str) ++ strOf [_]).length : Int) ≤ x + 1; rw [List.length_append]; simp [strOf]; omega)
theorem v_l1Dec (a) (h0 : (0 : Int) ≤ a.1.1) (h1 : (a.1.1 : Int) ≤ 100) : Ev (f204 a) (fun r => (r.1.1 : Str).length ≤ 101) := by
  obtain ⟨⟨(x : Int), u⟩, u'⟩ := a
  have h0 : 0 ≤ x := h0
  have h1 : x ≤ 100 := h1
  exact (dec_ev fuelN x h0 (by omega) (by unfold fuelN; omega)).mono fun r hr => by have hr : ((r.1.1 : Str).length : Int) ≤ x + 1 := hr; omega
theorem v_l11Tree (a) (m : Nat) (h : RD a.2.1.1 a.2.1.2.1 m) (hm : 40 ≤ m) : Ev (f169v0 a) (fun r => RD r.2.1.1 r.2.1.2.1 (m - 40) ∧ ShT r.2.2.1) := by
  obtain ⟨⟨u1, u2⟩, ⟨⟨(b : List Int), (p : Int), u3⟩, u4⟩⟩ := a
  have h : RD b p m := h
  unfold f169v0
  refine Ev.bind (P := fun r => RD r.2.1.1 r.2.1.2.1 (m - 5) ∧ ShT r.2.2.1) ?_ fun r1 h1 => ?_
  · refine Ev.loop (fun (k : Nat) y => k ≤ 5 ∧ (0 : Int) ≤ y.1.2.2.2.1 ∧ (y.1.2.2.2.1 : Int) + k = 5 ∧ (y.2.2.2.1 : List Str) = [[97], [108, 105, 98], [98, 105, 110], [100, 111, 99], [97, 47, 98]] ∧ RD y.2.1.1 y.2.1.2.1 (m - (5 - k)) ∧ ShT y.2.2.1) (fun k y hy => ?_) 5 _
      ⟨Nat.le_refl _, Int.le_refl _, by show (0 : Int) + (5 : Nat) = 5; rfl, rfl, h, by show (0 : Nat) ≤ 16; decide, fun e he => by cases he⟩
    obtain ⟨⟨w1, w2, w3, (i : Int), w4⟩, ⟨⟨(b' : List Int), (p' : Int), w5⟩, (t : List Entry), (L : List Str), w6⟩⟩ := y
    obtain ⟨y1, y2, y3, y4, y5, y6⟩ := hy
    have y2 : 0 ≤ i := y2
    have y3 : i + k = 5 := y3
    have y4 : L = _ := y4
    have hL : L.length = 5 := by rw [y4]; rfl
    have hLs : ∀ s, s ∈ L → Sh s := by rw [y4]; exact fun s hs => sh_all (by rfl) hs
    have y5 : RD b' p' (m - (5 - k)) := y5
    have y6 : ShT t := y6
    unfold g169v0_122
    refine Ev.ite (fun hc => ?_) fun hc => ?_
    · have hc : i < (L.length : Int) := of_decide_eq_true hc
      have hw : IntKind.i64.wrap (i + 1) = i + 1 := wrap_of (by omega) (by omega)
      obtain ⟨j, rfl⟩ := Int.eq_ofNat_of_zero_le y2
      have hj : j < L.length := by omega
      refine Ev.bind (v_pick _ _ y5 (by omega)) fun r hr => ?_
      have hR : RD r.2.1.1 r.2.1.2.1 (m - (5 - (k - 1))) := hr.1.less (by omega)
      refine Ev.ite (fun _ => ?_) fun _ => ?_
      · refine Ev.eq (inb_nat hj) ?_
        refine Ev.eq (List.getElem?_eq_getElem hj) ?_
        have hsh : Sh L[j] := hLs _ (List.getElem_mem hj)
        refine Ev.bind (v_l2Put ((t, ((L[j], ((1 : Int), ((7 : Int), (([] : Str), ())))), ())), ()) y6 ⟨hsh, by show (0 : Nat) ≤ 200; decide⟩) fun r2 h2 => ?_
        refine Ev.ret ⟨k - 1, by omega, by omega, ?_, ?_, y4, hR, h2⟩
        · show 0 ≤ IntKind.i64.wrap ((j : Int) + 1); rw [hw]; omega
        · show IntKind.i64.wrap ((j : Int) + 1) + ((k - 1 : Nat) : Int) = 5; rw [hw]; omega
      · refine Ev.ret ⟨k - 1, by omega, by omega, ?_, ?_, y4, hR, y6⟩
        · show 0 ≤ IntKind.i64.wrap ((j : Int) + 1); rw [hw]; omega
        · show IntKind.i64.wrap ((j : Int) + 1) + ((k - 1 : Nat) : Int) = 5; rw [hw]; omega
    · exact Ev.ret ⟨y5.less (by omega), y6⟩
  refine Ev.bind (v_pick _ _ h1.1 (by omega)) fun r2 h2 => ?_
  obtain ⟨⟨v1, (q : Int), v2⟩, ⟨⟨(b1 : List Int), (p1 : Int), v3⟩, v4⟩⟩ := r2
  have h2n : q < 7 := h2.2.2 (by show (1 : Int) ≤ 7; decide)
  have h20 : 0 ≤ q := h2.2.1
  refine Ev.bind (P := fun r => RD r.2.1.1 r.2.1.2.1 (m - 34) ∧ ShT r.2.2.1) ?_ fun r3 h3 => ?_
  · refine Ev.loop (fun (k : Nat) y => k ≤ 6 ∧ (y.1.2.2.1 : Int) = k ∧ RD y.2.1.1 y.2.1.2.1 (m - 34 + 4 * k) ∧ ShT y.2.2.1) (fun k y hy => ?_) q.toNat _
      ⟨by omega, by show q = _; omega, (by refine h2.1.less ?_; omega), h1.2⟩
    obtain ⟨⟨w1, w2, (i : Int), w4⟩, ⟨⟨(b' : List Int), (p' : Int), w5⟩, (t : List Entry), w6⟩⟩ := y
    obtain ⟨y1, y3, y5, y6⟩ := hy
    have y3 : i = k := y3
    subst y3
    have y5 : RD b' p' (m - 34 + 4 * k) := y5
    have y6 : ShT t := y6
    unfold g169v0_250
    refine Ev.ite (fun hc => ?_) fun hc => ?_
    · have hc : (k : Int) > 0 := of_decide_eq_true hc
      have hw : IntKind.i64.wrap ((k : Int) - 1) = ((k - 1 : Nat) : Int) := by rw [wrap_of (by omega) (by omega)]; omega
      refine Ev.bind (v_l11Entry _ _ y5 (by omega)) fun r hr => ?_
      refine Ev.bind (v_l2Put ((t, ((r.2.2.1.1, (r.2.2.1.2.1, (r.2.2.1.2.2.1, (r.2.2.1.2.2.2.1, ())))), ())), ()) y6 hr.2) fun r2 h2 => ?_
      exact Ev.ret ⟨k - 1, by omega, by omega, hw, hr.1.less (by omega), h2⟩
    · exact Ev.ret ⟨y5.less (by omega), y6⟩
  refine Ev.bind (v_pick _ _ h3.1 (by omega)) fun r4 h4 => ?_
  refine Ev.ite (fun _ => ?_) fun _ => Ev.ret ⟨h4.1.less (by omega), h3.2⟩
  refine Ev.bind (P := fun r => RD r.2.1.1 r.2.1.2.1 (m - 34 - 1) ∧ ShT r.2.2.1) ?_ fun r5 h5 => Ev.ret ⟨h5.1.less (by omega), h5.2⟩
  refine Ev.loop (fun (k : Nat) y => (0 : Int) ≤ y.1.2.2.1 ∧ (y.1.2.2.1 : Int) + k = 16 ∧ RD y.2.1.1 y.2.1.2.1 (m - 34 - 1) ∧ ShT y.2.2.1) (fun k y hy => ?_) 16 _ ⟨Int.le_refl _, by show (0 : Int) + (16 : Nat) = 16; rfl, h4.1, h3.2⟩
  obtain ⟨⟨w1, w2, (i : Int), w4⟩, ⟨⟨(b' : List Int), (p' : Int), w5⟩, (t : List Entry), w6⟩⟩ := y
  obtain ⟨y1, y3, y5, y6⟩ := hy
  have y1 : 0 ≤ i := y1
  have y3 : i + k = 16 := y3
  have y6 : ShT t := y6
  unfold g169v0_2026
  refine Ev.ite (fun hc => ?_) fun hc => Ev.ret ⟨y5, y6⟩
  have hc : i < 16 := of_decide_eq_true hc
  have hw : IntKind.i64.wrap (i + 1) = i + 1 := wrap_of (by omega) (by omega)
  refine Ev.bind (v_l1Dec ((i, ()), ()) y1 (by show i ≤ 100; omega)) fun r hr => ?_
  have hr : (r.1.1 : Str).length ≤ 101 := hr
  refine Ev.eq (ev_cat (s := [102]) (t := r.1.1) (by show 1 + _ ≤ _; omega)) ?_
  refine Ev.bind (v_l2Put ((t, (((([102] : Str) ++ r.1.1, ((2 : Int), ((0 : Int), (([] : Str), ()))))), ())), ()) y6 ⟨by show ((([102] : Str) ++ r.1.1).length) ≤ 200; simp; omega, by show (0 : Nat) ≤ 200; decide⟩) fun r2 h2 => ?_
  refine Ev.ret ⟨k - 1, by omega, ?_, ?_, y5, h2⟩
  · show 0 ≤ IntKind.i64.wrap (i + 1); rw [hw]; omega
  · show IntKind.i64.wrap (i + 1) + ((k - 1 : Nat) : Int) = 16; rw [hw]; omega
noncomputable def c107v0 : Ctx := { tt := tt, fs := fun n => match n with | 69 => some S69v0 | 70 => some S70v0 | 159 => some S159v0 | _ => none }
theorem k107v0 (h : ∀ T, (tt T).ok Tryz.prog T) (h69v0 : SummOk Tryz.prog 69 S69v0) (h70v0 : SummOk Tryz.prog 70 S70v0) (h159v0 : SummOk Tryz.prog 159 S159v0) : CtxGood Tryz.prog c107v0 := ⟨⟨h⟩, fun g S hg => (by
  simp only [c107v0] at hg
  split at hg
  · cases hg; exact h69v0
  · cases hg; exact h70v0
  · cases hg; exact h159v0
  · cases hg), tt_mo, fun _ _ h => (by cases h), fun _ h => (by cases h)⟩
noncomputable def b107v0 : Code := codeOf Tryz.f107
@[reducible] noncomputable def i107v0 : Shape := ⟨[(0, .lf (.ptr 500000 0))], [(500000, .box [.d (.sl .u8), .d (.int .i64)], .same)], 11⟩
@[reducible] noncomputable def o107v0 : Shape := ⟨[(0, .lf (.ptr 500000 0)), (2, .lf (.d (.str)))], [(500000, .box [.d (.sl .u8), .d (.int .i64)], .same)], 11⟩
noncomputable def f107v0 (a : i107v0.Y) : Option o107v0.Y :=
(f69v0 (((), ((6 : Int), ())), ((a.2.1.1, (a.2.1.2.1, ())), ()))).bind fun r1251 =>
  bif (r1251.1.2.1 == (0 : Int)) then
(f70v0 (((), (([([] : Str), ([47] : Str), ([97, 47] : Str), ([47, 97] : Str), ([46] : Str), ([46, 46] : Str), ([97, 47, 47, 98] : Str), ([65] : Str), ([97, 47, 98, 47, 99, 47, 100, 47, 101, 47, 102] : Str), ([101, 108, 101, 118, 101, 110, 108, 101, 116, 116, 101] : Str), ([97, 32, 98] : Str), ([120, 47, 46, 46, 47, 121] : Str)] : List Str), ())), ((r1251.2.1.1, (r1251.2.1.2.1, ())), ()))).bind fun r1252 =>
  some (((), (r1252.1.2.1, ())), ((r1252.2.1.1, (r1252.2.1.2.1, ())), ()))
else
(f159v0 (((), ()), ((r1251.2.1.1, (r1251.2.1.2.1, ())), ()))).bind fun r1253 =>
  some (((), (r1253.1.2.1, ())), ((r1253.2.1.1, (r1253.2.1.2.1, ())), ()))
theorem e107v0 : ∀ a, f107v0 a = bodyF (ctxWith c107v0 []) b107v0 i107v0 o107v0 a := fun a => by kernel_rfl
noncomputable def S107v0 : Summ := funSumm tt 11 i107v0 o107v0 [.tmp 2] [0] f107v0
theorem z107v0 (h : ∀ T, (tt T).ok Tryz.prog T) (h69v0 : SummOk Tryz.prog 69 S69v0) (h70v0 : SummOk Tryz.prog 70 S70v0) (h159v0 : SummOk Tryz.prog 159 S159v0) : SummOk Tryz.prog 107 S107v0 :=
  have H := k107v0 h h69v0 h70v0 h159v0
  fun_at (fn := Tryz.f107) (fr := []) H (by kernel_rfl) (by kernel_rfl) (by kernel_rfl) (by kernel_rfl) (by kernel_rfl) frags_nil (by kernel_rfl) (fun y => ⟨_, _, rfl, rfl, rfl⟩) e107v0
noncomputable def c123v0 : Ctx := { tt := tt, fs := fun n => match n with | 69 => some S69v0 | 70 => some S70v0 | 167 => some S167v0 | _ => none }
theorem k123v0 (h : ∀ T, (tt T).ok Tryz.prog T) (h69v0 : SummOk Tryz.prog 69 S69v0) (h70v0 : SummOk Tryz.prog 70 S70v0) (h167v0 : SummOk Tryz.prog 167 S167v0) : CtxGood Tryz.prog c123v0 := ⟨⟨h⟩, fun g S hg => (by
  simp only [c123v0] at hg
  split at hg
  · cases hg; exact h69v0
  · cases hg; exact h70v0
  · cases hg; exact h167v0
  · cases hg), tt_mo, fun _ _ h => (by cases h), fun _ h => (by cases h)⟩
noncomputable def b123v0 : Code := codeOf Tryz.f123
@[reducible] noncomputable def i123v0 : Shape := ⟨[(0, .lf (.ptr 500000 0))], [(500000, .box [.d (.sl .u8), .d (.int .i64)], .same)], 17⟩
@[reducible] noncomputable def o123v0 : Shape := ⟨[(0, .lf (.ptr 500000 0)), (2, .lf (.ptr 2 0))], [(500000, .box [.d (.sl .u8), .d (.int .i64)], .same), (2, .box [.d (.str), .d (.int .i64), .d (.str)], .same)], 17⟩
noncomputable def f123v0 (a : i123v0.Y) : Option o123v0.Y :=
(f70v0 (((), (([([111, 110, 101] : Str), ([116, 119, 111] : Str), ([116, 104, 114, 101, 101] : Str), ([122, 105, 112] : Str)] : List Str), ())), ((a.2.1.1, (a.2.1.2.1, ())), ()))).bind fun r715 =>
(f69v0 (((), ((4 : Int), ())), ((r715.2.1.1, (r715.2.1.2.1, ())), ()))).bind fun r716 =>
  bif (r716.1.2.1 != (0 : Int)) then
(f167v0 (((), ()), ((r716.2.1.1, (r716.2.1.2.1, ())), ()))).bind fun r717 =>
  some (((), ((), ())), ((r717.2.1.1, (r717.2.1.2.1, ())), ((r715.1.2.1, (r716.1.2.1, (r717.1.2.1, ()))), ())))
else
  some (((), ((), ())), ((r716.2.1.1, (r716.2.1.2.1, ())), ((r715.1.2.1, (r716.1.2.1, (([] : Str), ()))), ())))
theorem e123v0 : ∀ a, f123v0 a = bodyF (ctxWith c123v0 []) b123v0 i123v0 o123v0 a := fun a => by kernel_rfl
noncomputable def S123v0 : Summ := funSumm tt 17 i123v0 o123v0 [.cell 2 50] [0] f123v0
theorem z123v0 (h : ∀ T, (tt T).ok Tryz.prog T) (h69v0 : SummOk Tryz.prog 69 S69v0) (h70v0 : SummOk Tryz.prog 70 S70v0) (h167v0 : SummOk Tryz.prog 167 S167v0) : SummOk Tryz.prog 123 S123v0 :=
  have H := k123v0 h h69v0 h70v0 h167v0
  fun_at (fn := Tryz.f123) (fr := []) H (by kernel_rfl) (by kernel_rfl) (by kernel_rfl) (by kernel_rfl) (by kernel_rfl) frags_nil (by kernel_rfl) (fun y => ⟨_, _, rfl, rfl, rfl⟩) e123v0
noncomputable def c120v0 : Ctx := { tt := tt, fs := fun n => match n with | 69 => some S69v0 | 70 => some S70v0 | 123 => some S123v0 | 167 => some S167v0 | 168 => some S168 | 169 => some S169v0 | _ => none }
theorem k120v0 (h : ∀ T, (tt T).ok Tryz.prog T) (h69v0 : SummOk Tryz.prog 69 S69v0) (h70v0 : SummOk Tryz.prog 70 S70v0) (h123v0 : SummOk Tryz.prog 123 S123v0) (h167v0 : SummOk Tryz.prog 167 S167v0) (h168 : SummOk Tryz.prog 168 S168) (h169v0 : SummOk Tryz.prog 169 S169v0) : CtxGood Tryz.prog c120v0 := ⟨⟨h⟩, fun g S hg => (by
  simp only [c120v0] at hg
  split at hg
  · cases hg; exact h69v0
  · cases hg; exact h70v0
  · cases hg; exact h123v0
  · cases hg; exact h167v0
  · cases hg; exact h168
  · cases hg; exact h169v0
  · cases hg), tt_mo, fun _ _ h => (by cases h), fun _ h => (by cases h)⟩
noncomputable def b120v0 : Code := codeOf Tryz.f120
@[reducible] noncomputable def i120v0 : Shape := ⟨[(0, .lf (.ptr 500000 0)), (1, .lf (.d (.str)))], [(500000, .box [.d (.sl .u8), .d (.int .i64)], .same)], 27⟩
@[reducible] noncomputable def o120v0 : Shape := ⟨[(0, .lf (.ptr 500000 0)), (4, .lf (.ptr 4 0))], [(500000, .box [.d (.sl .u8), .d (.int .i64)], .same), (5000258, .row .need, .cell 4 2), (5000259, .row .entry, .cell 4 3), (4, .box [.d (.str), .d (.str), .own 5000258, .own 5000259], .same)], 27⟩
noncomputable def f120v0 (a : i120v0.Y) : Option o120v0.Y :=
(f167v0 (((), ()), ((a.2.1.1, (a.2.1.2.1, ())), ()))).bind fun r724 =>
(f169v0 (((), ()), ((r724.2.1.1, (r724.2.1.2.1, ())), ()))).bind fun r725 =>
(f70v0 (((), (([([42, 42] : Str), ([97, 47, 42, 42] : Str), ([108, 105, 98, 47, 42, 42] : Str), ([100, 111, 99, 47, 42, 42] : Str), ([98, 42] : Str)] : List Str), ())), ((r725.2.1.1, (r725.2.1.2.1, ())), ()))).bind fun r726 =>
(f168 ((r725.2.2.1, (r726.1.2.1, ())), ())).bind fun r727 =>
(f69v0 (((), ((3 : Int), ())), ((r726.2.1.1, (r726.2.1.2.1, ())), ()))).bind fun r729 =>
  bif (r729.1.2.1 == (0 : Int)) then
(f123v0 (((), ()), ((r729.2.1.1, (r729.2.1.2.1, ())), ()))).bind fun r730 =>
(apd 40 ([] : List Need) ([(Need.mk r730.2.2.1.1 r730.2.2.1.2.1 r730.2.2.1.2.2.1)] : List Need)).bind fun x731 =>
  some (((), ((), ())), ((r730.2.1.1, (r730.2.1.2.1, ())), (x731, (r727.2.1, ((a.1.2.1, (r724.1.2.1, ((), ((), ())))), ())))))
else
  some (((), ((), ())), ((r729.2.1.1, (r729.2.1.2.1, ())), (([] : List Need), (r727.2.1, ((a.1.2.1, (r724.1.2.1, ((), ((), ())))), ())))))
theorem e120v0 : ∀ a, f120v0 a = bodyF (ctxWith c120v0 []) b120v0 i120v0 o120v0 a := fun a => by kernel_rfl
noncomputable def S120v0 : Summ := funSumm tt 27 i120v0 o120v0 [.cell 4 37] [0] f120v0
theorem z120v0 (h : ∀ T, (tt T).ok Tryz.prog T) (h69v0 : SummOk Tryz.prog 69 S69v0) (h70v0 : SummOk Tryz.prog 70 S70v0) (h123v0 : SummOk Tryz.prog 123 S123v0) (h167v0 : SummOk Tryz.prog 167 S167v0) (h168 : SummOk Tryz.prog 168 S168) (h169v0 : SummOk Tryz.prog 169 S169v0) : SummOk Tryz.prog 120 S120v0 :=
  have H := k120v0 h h69v0 h70v0 h123v0 h167v0 h168 h169v0
  fun_at (fn := Tryz.f120) (fr := []) H (by kernel_rfl) (by kernel_rfl) (by kernel_rfl) (by kernel_rfl) (by kernel_rfl) frags_nil (by kernel_rfl) (fun y => ⟨_, _, rfl, rfl, rfl⟩) e120v0
noncomputable def c121v0 : Ctx := { tt := tt, fs := fun n => match n with | 69 => some S69v0 | 70 => some S70v0 | 167 => some S167v0 | _ => none }
theorem k121v0 (h : ∀ T, (tt T).ok Tryz.prog T) (h69v0 : SummOk Tryz.prog 69 S69v0) (h70v0 : SummOk Tryz.prog 70 S70v0) (h167v0 : SummOk Tryz.prog 167 S167v0) : CtxGood Tryz.prog c121v0 := ⟨⟨h⟩, fun g S hg => (by
  simp only [c121v0] at hg
  split at hg
  · cases hg; exact h69v0
  · cases hg; exact h70v0
  · cases hg; exact h167v0
  · cases hg), tt_mo, fun _ _ h => (by cases h), fun _ h => (by cases h)⟩
noncomputable def b121v0 : Code := codeOf Tryz.f121
@[reducible] noncomputable def i121v0 : Shape := ⟨[(0, .lf (.ptr 500000 0))], [(500000, .box [.d (.sl .u8), .d (.int .i64)], .same)], 11⟩
@[reducible] noncomputable def o121v0 : Shape := ⟨[(0, .lf (.ptr 500000 0)), (2, .lf (.d (.str)))], [(500000, .box [.d (.sl .u8), .d (.int .i64)], .same)], 11⟩
noncomputable def f121v0 (a : i121v0.Y) : Option o121v0.Y :=
(f69v0 (((), ((6 : Int), ())), ((a.2.1.1, (a.2.1.2.1, ())), ()))).bind fun r1209 =>
  bif (r1209.1.2.1 == (0 : Int)) then
(f70v0 (((), (([([] : Str), ([46] : Str), ([49, 46] : Str), ([48, 49] : Str), ([49, 48, 48, 48] : Str), ([49, 46, 50, 46, 51, 46, 52, 46, 53] : Str), ([97] : Str), ([49, 46, 45, 49] : Str)] : List Str), ())), ((r1209.2.1.1, (r1209.2.1.2.1, ())), ()))).bind fun r1210 =>
  some (((), (r1210.1.2.1, ())), ((r1210.2.1.1, (r1210.2.1.2.1, ())), ()))
else
(f167v0 (((), ()), ((r1209.2.1.1, (r1209.2.1.2.1, ())), ()))).bind fun r1211 =>
  some (((), (r1211.1.2.1, ())), ((r1211.2.1.1, (r1211.2.1.2.1, ())), ()))
theorem e121v0 : ∀ a, f121v0 a = bodyF (ctxWith c121v0 []) b121v0 i121v0 o121v0 a := fun a => by kernel_rfl
noncomputable def S121v0 : Summ := funSumm tt 11 i121v0 o121v0 [.tmp 2] [0] f121v0
theorem z121v0 (h : ∀ T, (tt T).ok Tryz.prog T) (h69v0 : SummOk Tryz.prog 69 S69v0) (h70v0 : SummOk Tryz.prog 70 S70v0) (h167v0 : SummOk Tryz.prog 167 S167v0) : SummOk Tryz.prog 121 S121v0 :=
  have H := k121v0 h h69v0 h70v0 h167v0
  fun_at (fn := Tryz.f121) (fr := []) H (by kernel_rfl) (by kernel_rfl) (by kernel_rfl) (by kernel_rfl) (by kernel_rfl) frags_nil (by kernel_rfl) (fun y => ⟨_, _, rfl, rfl, rfl⟩) e121v0
noncomputable def c122v0 : Ctx := { tt := tt, fs := fun n => match n with | 69 => some S69v0 | 70 => some S70v0 | 121 => some S121v0 | 123 => some S123v0 | _ => none }
theorem k122v0 (h : ∀ T, (tt T).ok Tryz.prog T) (h69v0 : SummOk Tryz.prog 69 S69v0) (h70v0 : SummOk Tryz.prog 70 S70v0) (h121v0 : SummOk Tryz.prog 121 S121v0) (h123v0 : SummOk Tryz.prog 123 S123v0) : CtxGood Tryz.prog c122v0 := ⟨⟨h⟩, fun g S hg => (by
  simp only [c122v0] at hg
  split at hg
  · cases hg; exact h69v0
  · cases hg; exact h70v0
  · cases hg; exact h121v0
  · cases hg; exact h123v0
  · cases hg), tt_mo, fun _ _ h => (by cases h), fun _ h => (by cases h)⟩
noncomputable def b122v0 : Code := codeOf Tryz.f122
@[reducible] noncomputable def i122v0 : Shape := ⟨[(0, .lf (.ptr 500000 0))], [(500000, .box [.d (.sl .u8), .d (.int .i64)], .same)], 26⟩
@[reducible] noncomputable def o122v0 : Shape := ⟨[(0, .lf (.ptr 500000 0)), (2, .lf (.ptr 2 0))], [(500000, .box [.d (.sl .u8), .d (.int .i64)], .same), (2, .box [.d (.str), .d (.int .i64), .d (.str)], .same)], 26⟩
noncomputable def f122v0 (a : i122v0.Y) : Option o122v0.Y :=
(f123v0 (((), ()), ((a.2.1.1, (a.2.1.2.1, ())), ()))).bind fun r1221 =>
(f69v0 (((), ((14 : Int), ())), ((r1221.2.1.1, (r1221.2.1.2.1, ())), ()))).bind fun r1223 =>
  bif (r1223.1.2.1 == (0 : Int)) then
(f70v0 (((), (([([] : Str), ([57] : Str), ([79, 110, 101] : Str), ([101, 108, 101, 118, 101, 110, 108, 101, 116, 116, 101] : Str)] : List Str), ())), ((r1223.2.1.1, (r1223.2.1.2.1, ())), ()))).bind fun r1224 =>
  some (((), ((), ())), ((r1224.2.1.1, (r1224.2.1.2.1, ())), ((r1224.1.2.1, (r1221.2.2.1.2.1, (r1221.2.2.1.2.2.1, ()))), ())))
else
  bif (r1223.1.2.1 == (1 : Int)) then
(f69v0 (((), ((6 : Int), ())), ((r1223.2.1.1, (r1223.2.1.2.1, ())), ()))).bind fun r1225 =>
  some (((), ((), ())), ((r1225.2.1.1, (r1225.2.1.2.1, ())), ((r1221.2.2.1.1, ((IntKind.i64.wrap (r1225.1.2.1 - (1 : Int))), (r1221.2.2.1.2.2.1, ()))), ())))
else
  bif (r1223.1.2.1 == (2 : Int)) then
(f121v0 (((), ()), ((r1223.2.1.1, (r1223.2.1.2.1, ())), ()))).bind fun r1226 =>
  some (((), ((), ())), ((r1226.2.1.1, (r1226.2.1.2.1, ())), ((r1221.2.2.1.1, (r1221.2.2.1.2.1, (r1226.1.2.1, ()))), ())))
else
  some (((), ((), ())), ((r1223.2.1.1, (r1223.2.1.2.1, ())), ((r1221.2.2.1.1, (r1221.2.2.1.2.1, (r1221.2.2.1.2.2.1, ()))), ())))
theorem e122v0 : ∀ a, f122v0 a = bodyF (ctxWith c122v0 []) b122v0 i122v0 o122v0 a := fun a => by kernel_rfl
noncomputable def S122v0 : Summ := funSumm tt 26 i122v0 o122v0 [.cell 2 50] [0] f122v0
theorem z122v0 (h : ∀ T, (tt T).ok Tryz.prog T) (h69v0 : SummOk Tryz.prog 69 S69v0) (h70v0 : SummOk Tryz.prog 70 S70v0) (h121v0 : SummOk Tryz.prog 121 S121v0) (h123v0 : SummOk Tryz.prog 123 S123v0) : SummOk Tryz.prog 122 S122v0 :=
  have H := k122v0 h h69v0 h70v0 h121v0 h123v0
  fun_at (fn := Tryz.f122) (fr := []) H (by kernel_rfl) (by kernel_rfl) (by kernel_rfl) (by kernel_rfl) (by kernel_rfl) frags_nil (by kernel_rfl) (fun y => ⟨_, _, rfl, rfl, rfl⟩) e122v0
noncomputable def c170v0 : Ctx := { tt := tt, fs := fun n => match n with | 69 => some S69v0 | 70 => some S70v0 | 107 => some S107v0 | 203 => some S203v0 | 205 => some S205v0 | 206 => some S206 | _ => none }
theorem k170v0 (h : ∀ T, (tt T).ok Tryz.prog T) (h69v0 : SummOk Tryz.prog 69 S69v0) (h70v0 : SummOk Tryz.prog 70 S70v0) (h107v0 : SummOk Tryz.prog 107 S107v0) (h203v0 : SummOk Tryz.prog 203 S203v0) (h205v0 : SummOk Tryz.prog 205 S205v0) (h206 : SummOk Tryz.prog 206 S206) : CtxGood Tryz.prog c170v0 := ⟨⟨h⟩, fun g S hg => (by
  simp only [c170v0] at hg
  split at hg
  · cases hg; exact h69v0
  · cases hg; exact h70v0
  · cases hg; exact h107v0
  · cases hg; exact h203v0
  · cases hg; exact h205v0
  · cases hg; exact h206
  · cases hg), tt_mo, fun _ _ h => (by cases h), fun _ h => (by cases h)⟩
noncomputable def b170v0 : Code := codeOf Tryz.f170
@[reducible] noncomputable def i170v0 : Shape := ⟨[(0, .lf (.ptr 500000 0))], [(500000, .box [.d (.sl .u8), .d (.int .i64)], .same)], 32⟩
@[reducible] noncomputable def o170v0 : Shape := ⟨[(0, .lf (.ptr 500000 0)), (2, .lf (.ptr 2 0))], [(500000, .box [.d (.sl .u8), .d (.int .i64)], .same), (2, .box [.d (.str), .d (.int .i64), .d (.int .i64), .d (.str)], .same)], 32⟩
noncomputable def f170v0 (a : i170v0.Y) : Option o170v0.Y :=
(f203v0 (((), ()), ((a.2.1.1, (a.2.1.2.1, ())), ()))).bind fun r1260 =>
(f69v0 (((), ((14 : Int), ())), ((r1260.2.1.1, (r1260.2.1.2.1, ())), ()))).bind fun r1262 =>
  bif (r1262.1.2.1 == (0 : Int)) then
(f107v0 (((), ()), ((r1262.2.1.1, (r1262.2.1.2.1, ())), ()))).bind fun r1263 =>
  some (((), ((), ())), ((r1263.2.1.1, (r1263.2.1.2.1, ())), ((r1263.1.2.1, (r1260.2.2.1.2.1, (r1260.2.2.1.2.2.1, (r1260.2.2.1.2.2.2.1, ())))), ())))
else
  bif (r1262.1.2.1 == (1 : Int)) then
(f69v0 (((), ((5 : Int), ())), ((r1262.2.1.1, (r1262.2.1.2.1, ())), ()))).bind fun r1264 =>
  some (((), ((), ())), ((r1264.2.1.1, (r1264.2.1.2.1, ())), ((r1260.2.2.1.1, (r1264.1.2.1, (r1260.2.2.1.2.2.1, (r1260.2.2.1.2.2.2.1, ())))), ())))
else
  bif (r1262.1.2.1 == (2 : Int)) then
(f205v0 (((), (([((-1) : Int), (8 : Int), (0 : Int)] : List Int), ())), ((r1262.2.1.1, (r1262.2.1.2.1, ())), ()))).bind fun r1265 =>
  some (((), ((), ())), ((r1265.2.1.1, (r1265.2.1.2.1, ())), ((r1260.2.2.1.1, (r1260.2.2.1.2.1, (r1265.1.2.1, (r1260.2.2.1.2.2.2.1, ())))), ())))
else
  bif (r1262.1.2.1 == (3 : Int)) then
(f206 ((([117] : Str), ((81 : Int), ())), ())).bind fun r1266 =>
(f70v0 (((), (([([1] : Str), r1266.1.1, ([120] : Str), ([] : Str)] : List Str), ())), ((r1262.2.1.1, (r1262.2.1.2.1, ())), ()))).bind fun r1267 =>
  some (((), ((), ())), ((r1267.2.1.1, (r1267.2.1.2.1, ())), ((r1260.2.2.1.1, (r1260.2.2.1.2.1, (r1260.2.2.1.2.2.1, (r1267.1.2.1, ())))), ())))
else
  some (((), ((), ())), ((r1262.2.1.1, (r1262.2.1.2.1, ())), ((r1260.2.2.1.1, (r1260.2.2.1.2.1, (r1260.2.2.1.2.2.1, (r1260.2.2.1.2.2.2.1, ())))), ())))
theorem e170v0 : ∀ a, f170v0 a = bodyF (ctxWith c170v0 []) b170v0 i170v0 o170v0 a := fun a => by kernel_rfl
noncomputable def S170v0 : Summ := funSumm tt 32 i170v0 o170v0 [.cell 2 32] [0] f170v0
theorem z170v0 (h : ∀ T, (tt T).ok Tryz.prog T) (h69v0 : SummOk Tryz.prog 69 S69v0) (h70v0 : SummOk Tryz.prog 70 S70v0) (h107v0 : SummOk Tryz.prog 107 S107v0) (h203v0 : SummOk Tryz.prog 203 S203v0) (h205v0 : SummOk Tryz.prog 205 S205v0) (h206 : SummOk Tryz.prog 206 S206) : SummOk Tryz.prog 170 S170v0 :=
  have H := k170v0 h h69v0 h70v0 h107v0 h203v0 h205v0 h206
  fun_at (fn := Tryz.f170) (fr := []) H (by kernel_rfl) (by kernel_rfl) (by kernel_rfl) (by kernel_rfl) (by kernel_rfl) frags_nil (by kernel_rfl) (fun y => ⟨_, _, rfl, rfl, rfl⟩) e170v0
noncomputable def c124v0 : Ctx := { tt := tt, fs := fun n => match n with | 69 => some S69v0 | 147 => some S147 | 169 => some S169v0 | 170 => some S170v0 | _ => none }
theorem k124v0 (h : ∀ T, (tt T).ok Tryz.prog T) (h69v0 : SummOk Tryz.prog 69 S69v0) (h147 : SummOk Tryz.prog 147 S147) (h169v0 : SummOk Tryz.prog 169 S169v0) (h170v0 : SummOk Tryz.prog 170 S170v0) : CtxGood Tryz.prog c124v0 := ⟨⟨h⟩, fun g S hg => (by
  simp only [c124v0] at hg
  split at hg
  · cases hg; exact h69v0
  · cases hg; exact h147
  · cases hg; exact h169v0
  · cases hg; exact h170v0
  · cases hg), tt_mo, fun _ _ h => (by cases h), fun _ h => (by cases h)⟩
noncomputable def b124v0 : Code := codeOf Tryz.f124
@[reducible] noncomputable def i124v0 : Shape := ⟨[(0, .lf (.ptr 500000 0))], [(500000, .box [.d (.sl .u8), .d (.int .i64)], .same)], 30⟩
@[reducible] noncomputable def o124v0 : Shape := ⟨[(0, .lf (.ptr 500000 0)), (2, .lf (.own 3000128))], [(500000, .box [.d (.sl .u8), .d (.int .i64)], .same), (3000128, .row .entry, .slot 2 0)], 30⟩
noncomputable def f124v0 (a : i124v0.Y) : Option o124v0.Y :=
(f169v0 (((), ()), ((a.2.1.1, (a.2.1.2.1, ())), ()))).bind fun r1276 =>
(f147 ((r1276.2.2.1, ()), ())).bind fun r1277 =>
(f69v0 (((), ((14 : Int), ())), ((r1276.2.1.1, (r1276.2.1.2.1, ())), ()))).bind fun r1279 =>
  bif (r1279.1.2.1 == (0 : Int)) then
(f170v0 (((), ()), ((r1279.2.1.1, (r1279.2.1.2.1, ())), ()))).bind fun r1280 =>
(apd 48 r1277.2.1 ([(Entry.mk r1280.2.2.1.1 r1280.2.2.1.2.1 r1280.2.2.1.2.2.1 r1280.2.2.1.2.2.2.1)] : List Entry)).bind fun x1281 =>
  some (((), ((), ())), ((r1280.2.1.1, (r1280.2.1.2.1, ())), (x1281, ())))
else
  bif (r1279.1.2.1 == (1 : Int)) then
  bif (decide ((r1277.2.1.length : Int) > (0 : Int))) then
(f69v0 (((), ((r1277.2.1.length : Int), ())), ((r1279.2.1.1, (r1279.2.1.2.1, ())), ()))).bind fun r1282 =>
(f170v0 (((), ()), ((r1282.2.1.1, (r1282.2.1.2.1, ())), ()))).bind fun r1283 =>
(inb r1277.2.1.length r1282.1.2.1).bind fun x1284 =>
((r1277.2.1[x1284]?).bind fun q => some (Entry.mk r1283.2.2.1.1 r1283.2.2.1.2.1 r1283.2.2.1.2.2.1 r1283.2.2.1.2.2.2.1)).bind fun x1285 =>
  some (((), ((), ())), ((r1283.2.1.1, (r1283.2.1.2.1, ())), ((r1277.2.1.set x1284 x1285), ())))
else
  some (((), ((), ())), ((r1279.2.1.1, (r1279.2.1.2.1, ())), (r1277.2.1, ())))
else
  some (((), ((), ())), ((r1279.2.1.1, (r1279.2.1.2.1, ())), (r1277.2.1, ())))
theorem e124v0 : ∀ a, f124v0 a = bodyF (ctxWith c124v0 []) b124v0 i124v0 o124v0 a := fun a => by kernel_rfl
noncomputable def S124v0 : Summ := funSumm tt 30 i124v0 o124v0 [.tmp 2] [0] f124v0
theorem z124v0 (h : ∀ T, (tt T).ok Tryz.prog T) (h69v0 : SummOk Tryz.prog 69 S69v0) (h147 : SummOk Tryz.prog 147 S147) (h169v0 : SummOk Tryz.prog 169 S169v0) (h170v0 : SummOk Tryz.prog 170 S170v0) : SummOk Tryz.prog 124 S124v0 :=
  have H := k124v0 h h69v0 h147 h169v0 h170v0
  fun_at (fn := Tryz.f124) (fr := []) H (by kernel_rfl) (by kernel_rfl) (by kernel_rfl) (by kernel_rfl) (by kernel_rfl) frags_nil (by kernel_rfl) (fun y => ⟨_, _, rfl, rfl, rfl⟩) e124v0
noncomputable def c126 : Ctx := { tt := tt, fs := fun n => match n with | 52 => some S52 | _ => none }
theorem k126 (h : ∀ T, (tt T).ok Tryz.prog T) (h52 : SummOk Tryz.prog 52 S52) : CtxGood Tryz.prog c126 := ⟨⟨h⟩, fun g S hg => (by
  simp only [c126] at hg
  split at hg
  · cases hg; exact h52
  · cases hg), tt_mo, fun _ _ h => (by cases h), fun _ h => (by cases h)⟩
noncomputable def b126 : Code := codeOf Tryz.f126
@[reducible] noncomputable def i126 : Shape := ⟨[(0, .agg [.d (.sl .pack)]), (1, .lf (.d (.sl .pack)))], [], 15⟩
@[reducible] noncomputable def o126 : Shape := ⟨[(4, .lf (.ptr 4 0)), (5, .lf (.d (.int .i64)))], [(4, .box [.d (.sl .pack)], .same)], 15⟩
noncomputable def f126 (a : i126.Y) : Option o126.Y :=
(f52 ((a.1.2.1, ()), ())).bind fun r1158 =>
  bif (r1158.1.1 != (0 : Int)) then
  some (((), (r1158.1.1, ())), ((a.1.1.1, ()), ()))
else
  some (((), ((0 : Int), ())), ((a.1.2.1, ()), ()))
theorem e126 : ∀ a, f126 a = bodyF (ctxWith c126 []) b126 i126 o126 a := fun a => by kernel_rfl
noncomputable def S126 : Summ := funSumm tt 15 i126 o126 [.cell 4 25, .tmp 5] [] f126
theorem z126 (h : ∀ T, (tt T).ok Tryz.prog T) (h52 : SummOk Tryz.prog 52 S52) : SummOk Tryz.prog 126 S126 :=
  have H := k126 h h52
  fun_at (fn := Tryz.f126) (fr := []) H (by kernel_rfl) (by kernel_rfl) (by kernel_rfl) (by kernel_rfl) (by kernel_rfl) frags_nil (by kernel_rfl) (fun y => ⟨_, _, rfl, rfl, rfl⟩) e126
noncomputable def c128 : Ctx := { tt := tt, fs := fun n => match n with | 147 => some S147 | _ => none }
theorem k128 (h : ∀ T, (tt T).ok Tryz.prog T) (h147 : SummOk Tryz.prog 147 S147) : CtxGood Tryz.prog c128 := ⟨⟨h⟩, fun g S hg => (by
  simp only [c128] at hg
  split at hg
  · cases hg; exact h147
  · cases hg), tt_mo, fun _ _ h => (by cases h), fun _ h => (by cases h)⟩
noncomputable def b128 : Code := codeOf Tryz.f128
@[reducible] noncomputable def i128 : Shape := ⟨[(0, .agg [.d (.str), .d (.str), .d (.sl .need), .d (.sl .entry)])], [], 13⟩
@[reducible] noncomputable def o128 : Shape := ⟨[(2, .lf (.ptr 2 0))], [(5000130, .row .need, .cell 2 2), (5000131, .row .entry, .cell 2 3), (2, .box [.d (.str), .d (.str), .own 5000130, .own 5000131], .same)], 13⟩
noncomputable def f128 (a : i128.Y) : Option o128.Y :=
(apd 40 ([] : List Need) a.1.1.2.2.1).bind fun x929 =>
(f147 ((a.1.1.2.2.2.1, ()), ())).bind fun r930 =>
  some (((), ()), (x929, (r930.2.1, ((a.1.1.1, (a.1.1.2.1, ((), ((), ())))), ()))))
theorem e128 : ∀ a, f128 a = bodyF (ctxWith c128 []) b128 i128 o128 a := fun a => by kernel_rfl
noncomputable def S128 : Summ := funSumm tt 13 i128 o128 [.cell 2 37] [] f128
theorem z128 (h : ∀ T, (tt T).ok Tryz.prog T) (h147 : SummOk Tryz.prog 147 S147) : SummOk Tryz.prog 128 S128 :=
  have H := k128 h h147
  fun_at (fn := Tryz.f128) (fr := []) H (by kernel_rfl) (by kernel_rfl) (by kernel_rfl) (by kernel_rfl) (by kernel_rfl) frags_nil (by kernel_rfl) (fun y => ⟨_, _, rfl, rfl, rfl⟩) e128
noncomputable def c127 : Ctx := { tt := tt, fs := fun n => match n with | 128 => some S128 | _ => none }
theorem k127 (h : ∀ T, (tt T).ok Tryz.prog T) (h128 : SummOk Tryz.prog 128 S128) : CtxGood Tryz.prog c127 := ⟨⟨h⟩, fun g S hg => (by
  simp only [c127] at hg
  split at hg
  · cases hg; exact h128
  · cases hg), tt_mo, fun _ _ h => (by cases h), fun _ h => (by cases h)⟩
noncomputable def b127 : Code := codeOf Tryz.f127
@[reducible] noncomputable def s127_28 : Shape := ⟨[(0, .lf (.d (.sl .pack))), (3, .lf (.ptr 3 0)), (4, .lf (.own 3000256)), (5, .lf (.d (.int .i64)))], [(3, .box [.d (.str), .d (.str), .d (.sl .need), .d (.sl .entry)], .same), (3000256, .row .pack, .slot 4 0)], 35⟩
@[reducible] noncomputable def t127_28 : List OSh := [(.exit 0, ⟨[(0, .lf (.d (.sl .pack))), (3, .lf (.ptr 3 0)), (4, .lf (.own 3000256)), (5, .lf (.d (.int .i64)))], [(3, .box [.d (.str), .d (.str), .d (.sl .need), .d (.sl .entry)], .same), (3000256, .row .pack, .slot 4 0)], 35⟩)]
noncomputable def g127_28 (y : s127_28.Y) : Option (Sum s127_28.Y (YS t127_28)) :=
  bif (decide (y.1.2.2.2.1 < (y.1.1.length : Int))) then
(ix y.1.1 y.1.2.2.2.1).bind fun x921 =>
  bif (Op.bytesLess x921.name y.2.1.1) then
  some (.inl ((y.1.1, ((), ((), ((IntKind.i64.wrap (y.1.2.2.2.1 + (1 : Int))), ())))), ((y.2.1.1, (y.2.1.2.1, (y.2.1.2.2.1, (y.2.1.2.2.2.1, ())))), (y.2.2.1, ()))))
else
  some (.inr (((y.1.1, ((), ((), (y.1.2.2.2.1, ())))), ((y.2.1.1, (y.2.1.2.1, (y.2.1.2.2.1, (y.2.1.2.2.2.1, ())))), (y.2.2.1, ())))))
else
  some (.inr (((y.1.1, ((), ((), (y.1.2.2.2.1, ())))), ((y.2.1.1, (y.2.1.2.1, (y.2.1.2.2.1, (y.2.1.2.2.2.1, ())))), (y.2.2.1, ())))))
theorem r127_28 : ∀ y, g127_28 y = roundF (ctxWith c127 []) (unloop (codeAt b127 1 28)) 28 s127_28 t127_28 y := fun y => by kernel_rfl
noncomputable def l127_28 : s127_28.Y → Option (YS t127_28) := loopF g127_28
theorem q127_28 (H : CtxGood Tryz.prog c127) : FragOk Tryz.prog (codeAt b127 1 28) (fragOrc s127_28 t127_28 l127_28) :=
  loop_at (fr := []) H (by kernel_rfl) (by kernel_rfl) frags_nil (fun y => iter_congr r127_28 y)
@[reducible] noncomputable def i127 : Shape := ⟨[(0, .lf (.d (.sl .pack))), (1, .agg [.d (.str), .d (.str), .d (.sl .need), .d (.sl .entry)])], [], 35⟩
@[reducible] noncomputable def o127 : Shape := ⟨[(4, .lf (.own 3000256))], [(3000256, .row .pack, .slot 4 0)], 35⟩
noncomputable def f127 (a : i127.Y) : Option o127.Y :=
(l127_28 ((a.1.1, ((), ((), ((0 : Int), ())))), ((a.1.2.1.1, (a.1.2.1.2.1, (a.1.2.1.2.2.1, (a.1.2.1.2.2.2.1, ())))), (([] : List Pack), ())))).bind fun r935 =>
(subl r935.1.1 (0 : Int) r935.1.2.2.2.1).bind fun x936 =>
(apd 80 ([] : List Pack) x936).bind fun x937 =>
(f128 (((r935.2.1.1, (r935.2.1.2.1, (r935.2.1.2.2.1, (r935.2.1.2.2.2.1, ())))), ()), ())).bind fun r938 =>
(apd 80 x937 ([(Pack.mk r938.2.2.2.1.1 r938.2.2.2.1.2.1 r938.2.1 r938.2.2.1)] : List Pack)).bind fun x939 =>
(subl r935.1.1 r935.1.2.2.2.1 (r935.1.1.length : Int)).bind fun x940 =>
(apd 80 x939 x940).bind fun x941 =>
  some (((), ()), (x941, ()))
theorem e127 : ∀ a, f127 a = bodyF (ctxWith c127 [(28, fragOrc s127_28 t127_28 l127_28)]) b127 i127 o127 a := fun a => by kernel_rfl
noncomputable def S127 : Summ := funSumm tt 35 i127 o127 [.tmp 4] [] f127
theorem z127 (h : ∀ T, (tt T).ok Tryz.prog T) (h128 : SummOk Tryz.prog 128 S128) : SummOk Tryz.prog 127 S127 :=
  have H := k127 h h128
  fun_at (fn := Tryz.f127) (fr := [(28, fragOrc s127_28 t127_28 l127_28)]) H (by kernel_rfl) (by kernel_rfl) (by kernel_rfl) (by kernel_rfl) (by kernel_rfl) ⟨q127_28 H, trivial⟩ (by kernel_rfl) (fun y => ⟨_, _, rfl, rfl, rfl⟩) e127
noncomputable def c64v0 : Ctx := { tt := tt, fs := fun n => match n with | 69 => some S69v0 | 70 => some S70v0 | 120 => some S120v0 | 121 => some S121v0 | 122 => some S122v0 | 123 => some S123v0 | 124 => some S124v0 | _ => none }
theorem k64v0 (h : ∀ T, (tt T).ok Tryz.prog T) (h69v0 : SummOk Tryz.prog 69 S69v0) (h70v0 : SummOk Tryz.prog 70 S70v0) (h120v0 : SummOk Tryz.prog 120 S120v0) (h121v0 : SummOk Tryz.prog 121 S121v0) (h122v0 : SummOk Tryz.prog 122 S122v0) (h123v0 : SummOk Tryz.prog 123 S123v0) (h124v0 : SummOk Tryz.prog 124 S124v0) : CtxGood Tryz.prog c64v0 := ⟨⟨h⟩, fun g S hg => (by
  simp only [c64v0] at hg
  split at hg
  · cases hg; exact h69v0
  · cases hg; exact h70v0
  · cases hg; exact h120v0
  · cases hg; exact h121v0
  · cases hg; exact h122v0
  · cases hg; exact h123v0
  · cases hg; exact h124v0
  · cases hg), tt_mo, fun _ _ h => (by cases h), fun _ h => (by cases h)⟩
noncomputable def b64v0 : Code := codeOf Tryz.f64
@[reducible] noncomputable def i64v0 : Shape := ⟨[(0, .lf (.ptr 500000 0))], [(500000, .box [.d (.sl .u8), .d (.int .i64)], .same)], 39⟩
@[reducible] noncomputable def o64v0 : Shape := ⟨[(0, .lf (.ptr 500000 0)), (2, .lf (.ptr 2 0))], [(500000, .box [.d (.sl .u8), .d (.int .i64)], .same), (5000130, .row .need, .cell 2 2), (5000131, .row .entry, .cell 2 3), (2, .box [.d (.str), .d (.str), .own 5000130, .own 5000131], .same)], 39⟩
noncomputable def f64v0 (a : i64v0.Y) : Option o64v0.Y :=
(f70v0 (((), (([([111, 110, 101] : Str), ([116, 119, 111] : Str), ([116, 104, 114, 101, 101] : Str), ([122, 105, 112] : Str)] : List Str), ())), ((a.2.1.1, (a.2.1.2.1, ())), ()))).bind fun r1289 =>
(f120v0 (((), (r1289.1.2.1, ())), ((r1289.2.1.1, (r1289.2.1.2.1, ())), ()))).bind fun r1290 =>
(f69v0 (((), ((14 : Int), ())), ((r1290.2.1.1, (r1290.2.1.2.1, ())), ()))).bind fun r1292 =>
  bif (r1292.1.2.1 == (0 : Int)) then
(f70v0 (((), (([([] : Str), ([79, 110, 101] : Str)] : List Str), ())), ((r1292.2.1.1, (r1292.2.1.2.1, ())), ()))).bind fun r1293 =>
  some (((), ((), ())), ((r1293.2.1.1, (r1293.2.1.2.1, ())), (r1290.2.2.1, (r1290.2.2.2.1, ((r1293.1.2.1, (r1290.2.2.2.2.1.2.1, ((), ((), ())))), ())))))
else
  bif (r1292.1.2.1 == (1 : Int)) then
(f121v0 (((), ()), ((r1292.2.1.1, (r1292.2.1.2.1, ())), ()))).bind fun r1294 =>
  some (((), ((), ())), ((r1294.2.1.1, (r1294.2.1.2.1, ())), (r1290.2.2.1, (r1290.2.2.2.1, ((r1290.2.2.2.2.1.1, (r1294.1.2.1, ((), ((), ())))), ())))))
else
  bif (r1292.1.2.1 == (2 : Int)) then
(f122v0 (((), ()), ((r1292.2.1.1, (r1292.2.1.2.1, ())), ()))).bind fun r1295 =>
(f123v0 (((), ()), ((r1295.2.1.1, (r1295.2.1.2.1, ())), ()))).bind fun r1296 =>
(apd 40 r1290.2.2.1 ([(Need.mk r1295.2.2.1.1 r1295.2.2.1.2.1 r1295.2.2.1.2.2.1), (Need.mk r1296.2.2.1.1 r1296.2.2.1.2.1 r1296.2.2.1.2.2.1)] : List Need)).bind fun x1297 =>
  some (((), ((), ())), ((r1296.2.1.1, (r1296.2.1.2.1, ())), (x1297, (r1290.2.2.2.1, ((r1290.2.2.2.2.1.1, (r1290.2.2.2.2.1.2.1, ((), ((), ())))), ())))))
else
  bif (r1292.1.2.1 == (3 : Int)) then
(f124v0 (((), ()), ((r1292.2.1.1, (r1292.2.1.2.1, ())), ()))).bind fun r1298 =>
  some (((), ((), ())), ((r1298.2.1.1, (r1298.2.1.2.1, ())), (r1290.2.2.1, (r1298.2.2.1, ((r1290.2.2.2.2.1.1, (r1290.2.2.2.2.1.2.1, ((), ((), ())))), ())))))
else
  some (((), ((), ())), ((r1292.2.1.1, (r1292.2.1.2.1, ())), (r1290.2.2.1, (r1290.2.2.2.1, ((r1290.2.2.2.2.1.1, (r1290.2.2.2.2.1.2.1, ((), ((), ())))), ())))))
theorem e64v0 : ∀ a, f64v0 a = bodyF (ctxWith c64v0 []) b64v0 i64v0 o64v0 a := fun a => by kernel_rfl
noncomputable def S64v0 : Summ := funSumm tt 39 i64v0 o64v0 [.cell 2 37] [0] f64v0
theorem z64v0 (h : ∀ T, (tt T).ok Tryz.prog T) (h69v0 : SummOk Tryz.prog 69 S69v0) (h70v0 : SummOk Tryz.prog 70 S70v0) (h120v0 : SummOk Tryz.prog 120 S120v0) (h121v0 : SummOk Tryz.prog 121 S121v0) (h122v0 : SummOk Tryz.prog 122 S122v0) (h123v0 : SummOk Tryz.prog 123 S123v0) (h124v0 : SummOk Tryz.prog 124 S124v0) : SummOk Tryz.prog 64 S64v0 :=
  have H := k64v0 h h69v0 h70v0 h120v0 h121v0 h122v0 h123v0 h124v0
  fun_at (fn := Tryz.f64) (fr := []) H (by kernel_rfl) (by kernel_rfl) (by kernel_rfl) (by kernel_rfl) (by kernel_rfl) frags_nil (by kernel_rfl) (fun y => ⟨_, _, rfl, rfl, rfl⟩) e64v0
noncomputable def c66 : Ctx := { tt := tt, fs := fun n => match n with | 128 => some S128 | _ => none }
theorem k66 (h : ∀ T, (tt T).ok Tryz.prog T) (h128 : SummOk Tryz.prog 128 S128) : CtxGood Tryz.prog c66 := ⟨⟨h⟩, fun g S hg => (by
  simp only [c66] at hg
  split at hg
  · cases hg; exact h128
  · cases hg), tt_mo, fun _ _ h => (by cases h), fun _ h => (by cases h)⟩
noncomputable def b66 : Code := codeOf Tryz.f66
@[reducible] noncomputable def s66_58 : Shape := ⟨[(1, .lf (.ptr 1 0)), (2, .lf (.ptr 2 0)), (3, .lf (.ptr 3 0)), (4, .lf (.d (.int .i64)))], [(1, .box [.d (.sl .pack)], .same), (5000128, .row .pack, .cell 2 0), (2, .box [.own 5000128], .same), (5000192, .row .pack, .cell 3 0), (3, .box [.own 5000192], .same)], 25⟩
@[reducible] noncomputable def t66_58 : List OSh := [(.exit 0, ⟨[(2, .lf (.ptr 2 0)), (3, .lf (.ptr 3 0))], [(5000128, .row .pack, .cell 2 0), (2, .box [.own 5000128], .same), (5000192, .row .pack, .cell 3 0), (3, .box [.own 5000192], .same)], 25⟩)]
noncomputable def g66_58 (y : s66_58.Y) : Option (Sum s66_58.Y (YS t66_58)) :=
  bif (decide (y.1.2.2.2.1 < (y.2.1.1.length : Int))) then
(ix y.2.1.1 y.1.2.2.2.1).bind fun x1181 =>
(f128 (((x1181.name, (x1181.version, (x1181.needs, (x1181.tree, ())))), ()), ())).bind fun r1182 =>
(apd 80 y.2.2.2.2.1 ([(Pack.mk r1182.2.2.2.1.1 r1182.2.2.2.1.2.1 r1182.2.1 r1182.2.2.1)] : List Pack)).bind fun x1183 =>
  some (.inl (((), ((), ((), ((IntKind.i64.wrap (y.1.2.2.2.1 + (1 : Int))), ())))), ((y.2.1.1, ()), (y.2.2.1, (((), ()), (x1183, (((), ()), ())))))))
else
  some (.inr ((((), ((), ())), (y.2.2.1, (((), ()), (y.2.2.2.2.1, (((), ()), ())))))))
theorem r66_58 : ∀ y, g66_58 y = roundF (ctxWith c66 []) (unloop (codeAt b66 1 58)) 58 s66_58 t66_58 y := fun y => by kernel_rfl
noncomputable def l66_58 : s66_58.Y → Option (YS t66_58) := loopF g66_58
theorem q66_58 (H : CtxGood Tryz.prog c66) : FragOk Tryz.prog (codeAt b66 1 58) (fragOrc s66_58 t66_58 l66_58) :=
  loop_at (fr := []) H (by kernel_rfl) (by kernel_rfl) frags_nil (fun y => iter_congr r66_58 y)
@[reducible] noncomputable def i66 : Shape := ⟨[(0, .agg [.d (.sl .pack)])], [], 25⟩
@[reducible] noncomputable def o66 : Shape := ⟨[(2, .lf (.ptr 2 0))], [(5000128, .row .pack, .cell 2 0), (2, .box [.own 5000128], .same)], 25⟩
noncomputable def f66 (a : i66.Y) : Option o66.Y :=
(l66_58 (((), ((), ((), ((0 : Int), ())))), ((a.1.1.1, ()), (([] : List Pack), (((), ()), (([] : List Pack), (((), ()), ()))))))).bind fun r1185 =>
  some (((), ()), (r1185.2.2.2.1, (((), ()), ())))
theorem e66 : ∀ a, f66 a = bodyF (ctxWith c66 [(58, fragOrc s66_58 t66_58 l66_58)]) b66 i66 o66 a := fun a => by kernel_rfl
noncomputable def S66 : Summ := funSumm tt 25 i66 o66 [.cell 2 25] [] f66
theorem z66 (h : ∀ T, (tt T).ok Tryz.prog T) (h128 : SummOk Tryz.prog 128 S128) : SummOk Tryz.prog 66 S66 :=
  have H := k66 h h128
  fun_at (fn := Tryz.f66) (fr := [(58, fragOrc s66_58 t66_58 l66_58)]) H (by kernel_rfl) (by kernel_rfl) (by kernel_rfl) (by kernel_rfl) (by kernel_rfl) ⟨q66_58 H, trivial⟩ (by kernel_rfl) (fun y => ⟨_, _, rfl, rfl, rfl⟩) e66
noncomputable def c65 : Ctx := { tt := tt, fs := fun n => match n with | 100 => some S100 | 125 => some S125 | 126 => some S126 | 127 => some S127 | _ => none }
theorem k65 (h : ∀ T, (tt T).ok Tryz.prog T) (h100 : SummOk Tryz.prog 100 S100) (h125 : SummOk Tryz.prog 125 S125) (h126 : SummOk Tryz.prog 126 S126) (h127 : SummOk Tryz.prog 127 S127) : CtxGood Tryz.prog c65 := ⟨⟨h⟩, fun g S hg => (by
  simp only [c65] at hg
  split at hg
  · cases hg; exact h100
  · cases hg; exact h125
  · cases hg; exact h126
  · cases hg; exact h127
  · cases hg), tt_mo, fun _ _ h => (by cases h), fun _ h => (by cases h)⟩
noncomputable def b65 : Code := codeOf Tryz.f65
@[reducible] noncomputable def i65 : Shape := ⟨[(0, .agg [.d (.sl .pack)]), (1, .agg [.d (.str), .d (.str), .d (.sl .need), .d (.sl .entry)])], [], 27⟩
@[reducible] noncomputable def o65 : Shape := ⟨[(4, .lf (.ptr 4 0)), (5, .lf (.d (.int .i64)))], [(4, .box [.d (.sl .pack)], .same)], 27⟩
noncomputable def f65 (a : i65.Y) : Option o65.Y :=
(f100 (((a.1.2.1.1, (a.1.2.1.2.1, (a.1.2.1.2.2.1, (a.1.2.1.2.2.2.1, ())))), ()), ())).bind fun r1161 =>
  bif (!r1161.1.1) then
  some (((), ((1 : Int), ())), ((a.1.1.1, ()), ()))
else
(f125 ((a.1.1.1, (a.1.2.1.1, ())), ())).bind fun r1163 =>
  bif (decide (r1163.1.1 ≥ (0 : Int))) then
  some (((), ((2 : Int), ())), ((a.1.1.1, ()), ()))
else
(f127 ((a.1.1.1, ((a.1.2.1.1, (a.1.2.1.2.1, (a.1.2.1.2.2.1, (a.1.2.1.2.2.2.1, ())))), ())), ())).bind fun r1164 =>
(f126 (((a.1.1.1, ()), (r1164.2.1, ())), ())).bind fun r1165 =>
  some (((), (r1165.1.2.1, ())), ((r1165.2.1.1, ()), ()))
theorem e65 : ∀ a, f65 a = bodyF (ctxWith c65 []) b65 i65 o65 a := fun a => by kernel_rfl
noncomputable def S65 : Summ := funSumm tt 27 i65 o65 [.cell 4 25, .tmp 5] [] f65
theorem z65 (h : ∀ T, (tt T).ok Tryz.prog T) (h100 : SummOk Tryz.prog 100 S100) (h125 : SummOk Tryz.prog 125 S125) (h126 : SummOk Tryz.prog 126 S126) (h127 : SummOk Tryz.prog 127 S127) : SummOk Tryz.prog 65 S65 :=
  have H := k65 h h100 h125 h126 h127
  fun_at (fn := Tryz.f65) (fr := []) H (by kernel_rfl) (by kernel_rfl) (by kernel_rfl) (by kernel_rfl) (by kernel_rfl) frags_nil (by kernel_rfl) (fun y => ⟨_, _, rfl, rfl, rfl⟩) e65
noncomputable def c90v0 : Ctx := { tt := tt, fs := fun n => match n with | 65 => some S65 | 69 => some S69v0 | 70 => some S70v0 | 120 => some S120v0 | _ => none }
theorem k90v0 (h : ∀ T, (tt T).ok Tryz.prog T) (h65 : SummOk Tryz.prog 65 S65) (h69v0 : SummOk Tryz.prog 69 S69v0) (h70v0 : SummOk Tryz.prog 70 S70v0) (h120v0 : SummOk Tryz.prog 120 S120v0) : CtxGood Tryz.prog c90v0 := ⟨⟨h⟩, fun g S hg => (by
  simp only [c90v0] at hg
  split at hg
  · cases hg; exact h65
  · cases hg; exact h69v0
  · cases hg; exact h70v0
  · cases hg; exact h120v0
  · cases hg), tt_mo, fun _ _ h => (by cases h), fun _ h => (by cases h)⟩
noncomputable def b90v0 : Code := codeOf Tryz.f90
@[reducible] noncomputable def s90v0_58 : Shape := ⟨[(0, .lf (.ptr 500000 0)), (2, .lf (.ptr 2 0)), (3, .lf (.ptr 3 0)), (4, .lf (.d (.int .i64)))], [(500000, .box [.d (.sl .u8), .d (.int .i64)], .same), (5000128, .row .pack, .cell 2 0), (2, .box [.own 5000128], .same), (3, .box [.d (.sl .pack)], .same)], 23⟩
@[reducible] noncomputable def t90v0_58 : List OSh := [(.exit 0, ⟨[(0, .lf (.ptr 500000 0)), (2, .lf (.ptr 2 0)), (3, .lf (.ptr 3 0))], [(500000, .box [.d (.sl .u8), .d (.int .i64)], .same), (5000128, .row .pack, .cell 2 0), (2, .box [.own 5000128], .same), (3, .box [.d (.sl .pack)], .same)], 23⟩)]
noncomputable def g90v0_58 (y : s90v0_58.Y) : Option (Sum s90v0_58.Y (YS t90v0_58)) :=
  bif (decide (y.1.2.2.2.1 > (0 : Int))) then
(f70v0 (((), (([([111, 110, 101] : Str), ([116, 119, 111] : Str), ([116, 104, 114, 101, 101] : Str), ([122, 105, 112] : Str)] : List Str), ())), ((y.2.1.1, (y.2.1.2.1, ())), ()))).bind fun r1170 =>
(f120v0 (((), (r1170.1.2.1, ())), ((r1170.2.1.1, (r1170.2.1.2.1, ())), ()))).bind fun r1171 =>
(f65 (((y.2.2.2.2.1.1, ()), ((r1171.2.2.2.2.1.1, (r1171.2.2.2.2.1.2.1, (r1171.2.2.1, (r1171.2.2.2.1, ())))), ())), ())).bind fun r1172 =>
  some (.inl (((), ((), ((), ((IntKind.i64.wrap (y.1.2.2.2.1 - (1 : Int))), ())))), ((r1171.2.1.1, (r1171.2.1.2.1, ())), (y.2.2.1, (((), ()), ((r1172.2.1.1, ()), ()))))))
else
  some (.inr ((((), ((), ((), ()))), ((y.2.1.1, (y.2.1.2.1, ())), (y.2.2.1, (((), ()), ((y.2.2.2.2.1.1, ()), ())))))))
theorem r90v0_58 : ∀ y, g90v0_58 y = roundF (ctxWith c90v0 []) (unloop (codeAt b90v0 1 58)) 58 s90v0_58 t90v0_58 y := fun y => by kernel_rfl
noncomputable def l90v0_58 : s90v0_58.Y → Option (YS t90v0_58) := loopF g90v0_58
theorem q90v0_58 (H : CtxGood Tryz.prog c90v0) : FragOk Tryz.prog (codeAt b90v0 1 58) (fragOrc s90v0_58 t90v0_58 l90v0_58) :=
  loop_at (fr := []) H (by kernel_rfl) (by kernel_rfl) frags_nil (fun y => iter_congr r90v0_58 y)
@[reducible] noncomputable def i90v0 : Shape := ⟨[(0, .lf (.ptr 500000 0))], [(500000, .box [.d (.sl .u8), .d (.int .i64)], .same)], 23⟩
@[reducible] noncomputable def o90v0 : Shape := ⟨[(0, .lf (.ptr 500000 0)), (2, .lf (.ptr 2 0))], [(500000, .box [.d (.sl .u8), .d (.int .i64)], .same), (2, .box [.d (.sl .pack)], .same)], 23⟩
noncomputable def f90v0 (a : i90v0.Y) : Option o90v0.Y :=
(f69v0 (((), ((5 : Int), ())), ((a.2.1.1, (a.2.1.2.1, ())), ()))).bind fun r1175 =>
(l90v0_58 (((), ((), ((), (r1175.1.2.1, ())))), ((r1175.2.1.1, (r1175.2.1.2.1, ())), (([] : List Pack), (((), ()), ((([] : List Pack), ()), ())))))).bind fun r1176 =>
  some (((), ((), ())), ((r1176.2.1.1, (r1176.2.1.2.1, ())), ((r1176.2.2.2.2.1.1, ()), ())))
theorem e90v0 : ∀ a, f90v0 a = bodyF (ctxWith c90v0 [(58, fragOrc s90v0_58 t90v0_58 l90v0_58)]) b90v0 i90v0 o90v0 a := fun a => by kernel_rfl
noncomputable def S90v0 : Summ := funSumm tt 23 i90v0 o90v0 [.cell 2 25] [0] f90v0
theorem z90v0 (h : ∀ T, (tt T).ok Tryz.prog T) (h65 : SummOk Tryz.prog 65 S65) (h69v0 : SummOk Tryz.prog 69 S69v0) (h70v0 : SummOk Tryz.prog 70 S70v0) (h120v0 : SummOk Tryz.prog 120 S120v0) : SummOk Tryz.prog 90 S90v0 :=
  have H := k90v0 h h65 h69v0 h70v0 h120v0
  fun_at (fn := Tryz.f90) (fr := [(58, fragOrc s90v0_58 t90v0_58 l90v0_58)]) H (by kernel_rfl) (by kernel_rfl) (by kernel_rfl) (by kernel_rfl) (by kernel_rfl) ⟨q90v0_58 H, trivial⟩ (by kernel_rfl) (fun y => ⟨_, _, rfl, rfl, rfl⟩) e90v0
noncomputable def c47v0 : Ctx := { tt := tt, fs := fun n => match n with | 64 => some S64v0 | 66 => some S66 | 69 => some S69v0 | 90 => some S90v0 | _ => none }
theorem k47v0 (h : ∀ T, (tt T).ok Tryz.prog T) (h64v0 : SummOk Tryz.prog 64 S64v0) (h66 : SummOk Tryz.prog 66 S66) (h69v0 : SummOk Tryz.prog 69 S69v0) (h90v0 : SummOk Tryz.prog 90 S90v0) : CtxGood Tryz.prog c47v0 := ⟨⟨h⟩, fun g S hg => (by
  simp only [c47v0] at hg
  split at hg
  · cases hg; exact h64v0
  · cases hg; exact h66
  · cases hg; exact h69v0
  · cases hg; exact h90v0
  · cases hg), tt_mo, fun _ _ h => (by cases h), fun _ h => (by cases h)⟩
noncomputable def b47v0 : Code := codeOf Tryz.f47
@[reducible] noncomputable def i47v0 : Shape := ⟨[(0, .lf (.ptr 500000 0))], [(500000, .box [.d (.sl .u8), .d (.int .i64)], .same)], 29⟩
@[reducible] noncomputable def o47v0 : Shape := ⟨[(0, .lf (.ptr 500000 0)), (2, .lf (.ptr 2 0))], [(500000, .box [.d (.sl .u8), .d (.int .i64)], .same), (2, .box [.d (.sl .pack)], .same)], 29⟩
noncomputable def f47v0 (a : i47v0.Y) : Option o47v0.Y :=
(f90v0 (((), ()), ((a.2.1.1, (a.2.1.2.1, ())), ()))).bind fun r1304 =>
(f66 (((r1304.2.2.1.1, ()), ()), ())).bind fun r1305 =>
(f69v0 (((), ((12 : Int), ())), ((r1304.2.1.1, (r1304.2.1.2.1, ())), ()))).bind fun r1307 =>
  bif (r1307.1.2.1 == (0 : Int)) then
(f64v0 (((), ()), ((r1307.2.1.1, (r1307.2.1.2.1, ())), ()))).bind fun r1308 =>
(apd 80 r1305.2.1 ([(Pack.mk r1308.2.2.2.2.1.1 r1308.2.2.2.2.1.2.1 r1308.2.2.1 r1308.2.2.2.1)] : List Pack)).bind fun x1309 =>
  some (((), ((), ())), ((r1308.2.1.1, (r1308.2.1.2.1, ())), ((x1309, ()), ())))
else
  bif (r1307.1.2.1 == (1 : Int)) then
  bif (decide ((r1305.2.1.length : Int) > (0 : Int))) then
(subl r1305.2.1 (1 : Int) (r1305.2.1.length : Int)).bind fun x1310 =>
  some (((), ((), ())), ((r1307.2.1.1, (r1307.2.1.2.1, ())), ((x1310, ()), ())))
else
  some (((), ((), ())), ((r1307.2.1.1, (r1307.2.1.2.1, ())), ((r1305.2.1, ()), ())))
else
  some (((), ((), ())), ((r1307.2.1.1, (r1307.2.1.2.1, ())), ((r1305.2.1, ()), ())))
theorem e47v0 : ∀ a, f47v0 a = bodyF (ctxWith c47v0 []) b47v0 i47v0 o47v0 a := fun a => by kernel_rfl
noncomputable def S47v0 : Summ := funSumm tt 29 i47v0 o47v0 [.cell 2 25] [0] f47v0
theorem z47v0 (h : ∀ T, (tt T).ok Tryz.prog T) (h64v0 : SummOk Tryz.prog 64 S64v0) (h66 : SummOk Tryz.prog 66 S66) (h69v0 : SummOk Tryz.prog 69 S69v0) (h90v0 : SummOk Tryz.prog 90 S90v0) : SummOk Tryz.prog 47 S47v0 :=
  have H := k47v0 h h64v0 h66 h69v0 h90v0
  fun_at (fn := Tryz.f47) (fr := []) H (by kernel_rfl) (by kernel_rfl) (by kernel_rfl) (by kernel_rfl) (by kernel_rfl) frags_nil (by kernel_rfl) (fun y => ⟨_, _, rfl, rfl, rfl⟩) e47v0
def codeL (ps : List Pack) : Int := bif ps.all pkOk && ascP ps then (bif decide (ps.length ≤ 5) then (bif ps.all (fun p => p.needs.all (needS ps)) then (bif (treesL [] ps).isSome then 0 else 5) else 4) else 6) else 1
theorem rootOk_code (ps : List Pack) : rootOk ps = (codeL ps == 0) := by
  unfold rootOk codeL
  cases ps.all pkOk <;> cases ascP ps <;> cases decide (ps.length ≤ 5) <;> cases ps.all (fun p => p.needs.all (needS ps)) <;> cases (treesL [] ps).isSome <;> rfl
theorem v_l9Check (a) (hb : BdPs a.1.1) (hv : VS a.1.1) : f52 a = some ((codeL a.1.1, ()), ()) := by
  obtain ⟨⟨ps, u⟩, u'⟩ := a
  have hl : ps.length ≤ 2097152 := hb.1
  have key : l52_26 ((ps, ((0 : Int), ())), ()) = some (bif allI (okP ps) 0 ps then .inr ((ps, ()), ()) else .inl (((1 : Int), ()), ())) := by
    refine loop_all g52_26 ps (fun i => ((ps, ((i : Int), ())), ())) _ _ _ (fun i x hx => ?_) ?_
    · have hi := get_lt hx
      have hw : Sm i := by unfold Sm; omega
      have hbx := hb.2 x (List.mem_of_getElem? hx)
      simp only [g52_26, lt_dec hi, cond_true, g52_840, ix_nat, hx, Option.bind_some]
      rw [v_PackOk _ hbx]
      simp only [Option.bind_some, okP, dgt0]
      cases pkOk x with
      | false => rfl
      | true =>
        simp only [Bool.not_true, cond_false, Bool.true_and, lessP]
        cases i with
        | zero => simp only [beq_self_eq_true, Bool.not_true, cond_false, Option.bind_some, Bool.true_or, cond_true, wrap_add1 hw]
        | succ i =>
          have h0 : (i + 1 == 0) = false := rfl
          have hi' : i < ps.length := by omega
          obtain ⟨q, hq⟩ : ∃ q, ps[i]? = some q := ⟨ps[i], List.getElem?_eq_getElem hi'⟩
          simp only [h0, Bool.not_false, cond_true, wrap_sub1 (i := i) (by unfold Sm; omega), ix_nat, hq, hx, Option.bind_some, Bool.false_or, Nat.add_sub_cancel]
          cases Op.bytesLess q.name x.name with
          | false => rfl
          | true => simp only [Bool.not_true, cond_false, cond_true, wrap_add1 hw]
    · simp only [g52_26, nlt_dec, cond_false]
  rw [okP_all] at key
  have h5 : decide ((ps.length : Int) > 5) = !decide (ps.length ≤ 5) := by by_cases h : ps.length ≤ 5 <;> simp only [h, decide_true, decide_false, Bool.not_true, Bool.not_false, decide_eq_true_eq, decide_eq_false_iff_not] <;> omega
  simp only [f52, key, Option.bind_some, codeL]
  cases hA : (ps.all pkOk && ascP ps) with
  | false => rfl
  | true =>
    have hk : ps.all pkOk = true := by simp only [Bool.and_eq_true] at hA; exact hA.1
    obtain ⟨out, ht⟩ := v_l9Tree ((ps, ()), ()) hb hk
    have hn := v_l9Needs ((ps, ()), ()) hb hv
    simp only [cond_true, Option.bind_some, ht, h5]
    cases decide (ps.length ≤ 5) with
    | false => rfl
    | true =>
      simp only [Bool.not_true, cond_false, hn, Option.bind_some]
      cases ps.all (fun p => p.needs.all (needS ps)) <;> cases (treesL [] ps).isSome <;> rfl
abbrev OkP (p : Pack) : Prop := BdP p ∧ p.version.length ≤ 2097151 ∧ ∀ n, n ∈ p.needs → n.version.length ≤ 2097151
abbrev OkR (k : Nat) (ps : List Pack) : Prop := ps.length ≤ k ∧ ∀ p, p ∈ ps → OkP p
theorem OkR.bd {k : Nat} {ps : List Pack} (h : OkR k ps) (hk : k ≤ 2097152) : BdPs ps := ⟨Nat.le_trans h.1 hk, fun p hp => (h.2 p hp).1⟩
theorem OkR.vs {k : Nat} {ps : List Pack} (h : OkR k ps) : VS ps := fun p hp => (h.2 p hp).2
theorem v_l9Pack (a) (h : BdP ⟨a.1.1.1, a.1.1.2.1, a.1.1.2.2.1, a.1.1.2.2.2.1⟩) : f128 a = some (((), ()), (a.1.1.2.2.1, (a.1.1.2.2.2.1, ((a.1.1.1, (a.1.1.2.1, ((), ((), ())))), ())))) := by
  obtain ⟨⟨⟨name, version, needs, tree, u⟩, u'⟩, u''⟩ := a
  have h1 : needs.length ≤ 2097152 := h.2.2.1.1
  have h2 := v_l2Copy ((tree, ()), ()) h.2.2.2.1
  simp only [f128, apd_sm (show (40 : Nat) ≤ 100 by decide) (show Sm (([] : List Need).length + needs.length) by unfold Sm; simp; omega), List.nil_append, Option.bind_some, h2]
def posP (ps : List Pack) (n : Str) : Nat := (ps.takeWhile fun p => Op.bytesLess p.name n).length
theorem posP_le (ps : List Pack) (n : Str) : posP ps n ≤ ps.length := (List.takeWhile_prefix _).length_le
def withL (ps : List Pack) (p : Pack) : List Pack := ps.take (posP ps p.name) ++ [p] ++ ps.drop (posP ps p.name)
theorem withL_len (ps : List Pack) (p : Pack) : (withL ps p).length = ps.length + 1 := by
  have := posP_le ps p.name
  unfold withL
  simp only [List.length_append, List.length_take, List.length_drop, List.length_cons, List.length_nil]; omega
theorem withL_mem {ps : List Pack} {p x : Pack} (h : x ∈ withL ps p) : x = p ∨ x ∈ ps := by
  unfold withL at h
  simp only [List.mem_append, List.mem_singleton] at h
  rcases h with (h | h) | h
  · exact .inr (List.mem_of_mem_take h)
  · exact .inl h
  · exact .inr (List.mem_of_mem_drop h)
theorem withL_ok {k : Nat} {ps : List Pack} {p : Pack} (h : OkR k ps) (hp : OkP p) : OkR (k + 1) (withL ps p) :=
  ⟨by rw [withL_len]; exact Nat.succ_le_succ h.1, fun x hx => by
    rcases withL_mem hx with rfl | hx
    · exact hp
    · exact h.2 x hx⟩
theorem v_l9With (a) (h1 : a.1.1.length ≤ 2097151) (hp : BdP ⟨a.1.2.1.1, a.1.2.1.2.1, a.1.2.1.2.2.1, a.1.2.1.2.2.2.1⟩) : f127 a = some (((), ()), (withL a.1.1 ⟨a.1.2.1.1, a.1.2.1.2.1, a.1.2.1.2.2.1, a.1.2.1.2.2.2.1⟩, ())) := by
  obtain ⟨⟨ps, ⟨name, version, needs, tree, u0⟩, u⟩, u'⟩ := a
  have h1 : ps.length ≤ 2097151 := h1
  have key : ∀ (r : List Pack) (k : Nat), ps.drop k = r → k ≤ ps.length → l127_28 ((ps, ((), ((), ((k : Int), ())))), ((name, (version, (needs, (tree, ())))), (([] : List Pack), ()))) =
      some ((ps, ((), ((), (((k + (r.takeWhile fun p => Op.bytesLess p.name name).length : Nat) : Int), ())))), ((name, (version, (needs, (tree, ())))), (([] : List Pack), ()))) := by
    intro r
    induction r with
    | nil =>
      intro k hr hk
      have := drop_nil hr
      obtain rfl : k = ps.length := by omega
      refine loopF_r ?_
      simp only [g127_28, nlt_dec, cond_false, List.takeWhile_nil, List.length_nil, Nat.add_zero]
    | cons q r ih =>
      intro k hr hk
      obtain ⟨c1, c2, c3⟩ := drop_cons hr
      have hw : Sm k := by unfold Sm; omega
      rw [List.takeWhile_cons]
      cases hq : Op.bytesLess q.name name with
      | false =>
        refine loopF_r ?_
        simp only [g127_28, lt_dec c3, cond_true, ix_nat, c1, Option.bind_some, hq, cond_false]
        rfl
      | true =>
        have step : g127_28 ((ps, ((), ((), ((k : Int), ())))), ((name, (version, (needs, (tree, ())))), (([] : List Pack), ()))) = some (.inl ((ps, ((), ((), (((k + 1 : Nat) : Int), ())))), ((name, (version, (needs, (tree, ())))), (([] : List Pack), ())))) := by
          simp only [g127_28, lt_dec c3, cond_true, ix_nat, c1, Option.bind_some, hq, wrap_add1 hw]
        refine Eq.trans (loopF_l step) (Eq.trans (ih (k + 1) c2 c3) ?_)
        simp only [if_true, List.length_cons]
        have e : k + 1 + (r.takeWhile fun p => Op.bytesLess p.name name).length = k + ((r.takeWhile fun p => Op.bytesLess p.name name).length + 1) := by omega
        rw [e]
  have key := key ps 0 rfl (Nat.zero_le _)
  rw [Nat.zero_add] at key
  have hk : (ps.takeWhile fun p => Op.bytesLess p.name name).length = posP ps name := rfl
  rw [hk] at key
  have key : l127_28 ((ps, ((), ((), ((0 : Int), ())))), ((name, (version, (needs, (tree, ())))), (([] : List Pack), ()))) = _ := key
  have hle := posP_le ps name
  have e2 := v_l9Pack (((name, (version, (needs, (tree, ())))), ()), ()) hp
  simp only [f127, key, Option.bind_some, subl_to hle, subl_from hle, e2]
  rw [apd_sm (show (80 : Nat) ≤ 100 by decide) (by unfold Sm; simp; omega)]
  simp only [List.nil_append, Option.bind_some]
  rw [apd_sm (show (80 : Nat) ≤ 100 by decide) (by unfold Sm; simp; omega)]
  simp only [Option.bind_some]
  rw [apd_sm (show (80 : Nat) ≤ 100 by decide) (by unfold Sm; simp; omega)]
  rfl
theorem v_l9Try (a) (hb : BdPs a.1.2.1) (hv : VS a.1.2.1) : f126 a = some (((), (codeL a.1.2.1, ())), (((bif codeL a.1.2.1 == 0 then a.1.2.1 else a.1.1.1), ()), ())) := by
  obtain ⟨⟨⟨r, u0⟩, list, u⟩, u'⟩ := a
  have e := v_l9Check ((list, ()), ()) hb hv
  simp only [f126, e, Option.bind_some]
  have z : (codeL list != 0) = !(codeL list == 0) := rfl
  rw [z]
  cases hc : (codeL list == 0) with
  | false => rfl
  | true =>
    have hc : codeL list = 0 := by simpa using hc
    simp only [Bool.not_true, cond_false, cond_true]
    rw [hc]
def inL (ps : List Pack) (p : Pack) : List Pack × Int := bif pkOk p then (match ps.find? (fun q => q.name == p.name) with
  | some _ => (ps, 2)
  | none => (bif codeL (withL ps p) == 0 then withL ps p else ps, codeL (withL ps p))) else (ps, 1)
theorem inL_ok {k : Nat} {ps : List Pack} {p : Pack} (h : OkR k ps) (hp : OkP p) : OkR (k + 1) (inL ps p).1 := by
  have h' : OkR (k + 1) ps := ⟨Nat.le_succ_of_le h.1, h.2⟩
  unfold inL
  cases pkOk p with
  | false => exact h'
  | true =>
    simp only [cond_true]
    cases ps.find? (fun q => q.name == p.name) with
    | some q => exact h'
    | none =>
      simp only
      cases codeL (withL ps p) == 0 with
      | false => exact h'
      | true => exact withL_ok h hp
theorem v_l9In (a) (k : Nat) (hk : k ≤ 2000000) (h : OkR k a.1.1.1) (hp : OkP ⟨a.1.2.1.1, a.1.2.1.2.1, a.1.2.1.2.2.1, a.1.2.1.2.2.2.1⟩) : f65 a = some (((), ((inL a.1.1.1 ⟨a.1.2.1.1, a.1.2.1.2.1, a.1.2.1.2.2.1, a.1.2.1.2.2.2.1⟩).2, ())), (((inL a.1.1.1 ⟨a.1.2.1.1, a.1.2.1.2.1, a.1.2.1.2.2.1, a.1.2.1.2.2.2.1⟩).1, ()), ())) := by
  obtain ⟨⟨⟨ps, u0⟩, ⟨name, version, needs, tree, u1⟩, u⟩, u'⟩ := a
  have h : OkR k ps := h
  have hp : OkP ⟨name, version, needs, tree⟩ := hp
  have hl : ps.length ≤ 2000000 := Nat.le_trans h.1 hk
  have e1 := v_PackOk (((name, (version, (needs, (tree, ())))), ()), ()) hp.1
  simp only [f65, e1, Option.bind_some, inL]
  cases pkOk ⟨name, version, needs, tree⟩ with
  | false => rfl
  | true =>
    simp only [Bool.not_true, cond_false, cond_true]
    rcases v_l8Pack ((ps, (name, ())), ()) (show ps.length ≤ 2097152 by omega) with ⟨j, q, g1, g2, g3⟩ | ⟨g1, g2⟩
    · have g3 : ps.find? (fun p => p.name == name) = some q := g3
      have hj : decide ((j : Int) ≥ 0) = true := by simp
      simp only [g1, Option.bind_some, hj, cond_true, g3]
    · have g2 : ps.find? (fun p => p.name == name) = none := g2
      have hj : decide ((-1 : Int) ≥ 0) = false := rfl
      have hw := withL_ok h hp
      have e2 := v_l9With ((ps, ((name, (version, (needs, (tree, ())))), ())), ()) (show ps.length ≤ 2097151 by omega) hp.1
      have e3 := v_l9Try (((ps, ()), (withL ps ⟨name, version, needs, tree⟩, ())), ()) (hw.bd (by omega)) hw.vs
      simp only [g1, Option.bind_some, hj, cond_false, g2, e2, e3]
theorem v_l9Copy (a) (h : BdPs a.1.1.1) : f66 a = some (((), ()), (a.1.1.1, (((), ()), ()))) := by
  obtain ⟨⟨⟨ps, u0⟩, u⟩, u'⟩ := a
  have hl : ps.length ≤ 2097152 := h.1
  have key := loop_fold (S := List Pack) g66_58 ps (fun i acc => (((), ((), ((), ((i : Int), ())))), ((ps, ()), (([] : List Pack), (((), ()), (acc, (((), ()), ()))))))) (fun x acc => acc ++ [x]) (fun acc => (((), ((), ())), (([] : List Pack), (((), ()), (acc, (((), ()), ())))))) (fun i acc => acc.length = i) [] rfl (fun i x acc hx hI => ?_) (fun acc hI => ?_)
  · have key : l66_58 (((), ((), ((), ((0 : Int), ())))), ((ps, ()), (([] : List Pack), (((), ()), (([] : List Pack), (((), ()), ())))))) = _ := key
    have e : ∀ (l acc : List Pack), l.foldl (fun s x => s ++ [x]) acc = acc ++ l := by
      intro l
      induction l with
      | nil => intro acc; simp
      | cons x l ih => intro acc; simp only [List.foldl_cons]; rw [ih]; simp
    simp only [f66, key, Option.bind_some]
    rw [e]; rfl
  · have hi := get_lt hx
    have hw : Sm i := by unfold Sm; omega
    have e2 := v_l9Pack (((x.name, (x.version, (x.needs, (x.tree, ())))), ()), ()) (h.2 x (List.mem_of_getElem? hx))
    have ha : apd 80 acc [x] = some (acc ++ [x]) := apd_sm (by decide) (by unfold Sm; simp; omega)
    simp only [g66_58, lt_dec hi, cond_true, ix_nat, hx, Option.bind_some, e2, ha, wrap_add1 hw]
    exact ⟨trivial, by simp [hI]⟩
  · simp only [g66_58, nlt_dec, cond_false]
abbrev ShN (n : Need) : Prop := Sh n.name ∧ Sh n.version
abbrev ShP (p : Pack) : Prop := Sh p.name ∧ Sh p.version ∧ (p.needs.length ≤ 3 ∧ ∀ n, n ∈ p.needs → ShN n) ∧ (p.tree.length ≤ 17 ∧ ∀ e, e ∈ p.tree → ShE e)
theorem ShP.ok {p : Pack} (h : ShP p) : OkP p := by
  obtain ⟨a, b, ⟨c1, c2⟩, d1, d2⟩ := h
  have up : ∀ {s : Str}, Sh s → Bd s.length := fun h => Nat.le_trans h (by decide)
  exact ⟨⟨up a, up b, ⟨Nat.le_trans c1 (by decide), fun n hn => ⟨up (c2 n hn).1, up (c2 n hn).2⟩⟩, Nat.le_trans d1 (by decide), fun e he => ⟨up (d2 e he).1, up (d2 e he).2⟩⟩, Nat.le_trans b (by decide), fun n hn => Nat.le_trans (c2 n hn).2 (by decide)⟩
theorem v_l11Need (a) (m : Nat) (h : RD a.2.1.1 a.2.1.2.1 m) (hm : 3 ≤ m) : Ev (f123v0 a) (fun r => RD r.2.1.1 r.2.1.2.1 (m - 3) ∧ ShN ⟨r.2.2.1.1, r.2.2.1.2.1, r.2.2.1.2.2.1⟩) := by
  unfold f123v0
  refine Ev.bind (v_of _ m h (by omega) (by simp)) fun r1 h1 => ?_
  have s1 : Sh r1.1.2.1 := sh_all (by rfl) h1.2
  refine Ev.bind (v_pick _ _ h1.1 (by omega)) fun r2 h2 => ?_
  refine Ev.ite (fun _ => ?_) fun _ => Ev.ret ⟨h2.1.less (by omega), s1, by show (0 : Nat) ≤ 200; decide⟩
  exact Ev.bind (v_l11Version _ _ h2.1 (by omega)) fun r3 h3 => Ev.ret ⟨h3.1.less (by omega), s1, h3.2⟩
theorem v_l11Pack (a) (m : Nat) (h : RD a.2.1.1 a.2.1.2.1 m) (hm : 50 ≤ m) (hn : Sh a.1.2.1) : Ev (f120v0 a) (fun r => RD r.2.1.1 r.2.1.2.1 (m - 50) ∧ ShP ⟨r.2.2.2.2.1.1, r.2.2.2.2.1.2.1, r.2.2.1, r.2.2.2.1⟩ ∧ (r.2.2.1 : List Need).length ≤ 1) := by
  unfold f120v0
  refine Ev.bind (v_l11Version _ m h (by omega)) fun r1 h1 => ?_
  refine Ev.bind (v_l11Tree _ _ h1.1 (by omega)) fun r2 h2 => ?_
  refine Ev.bind (v_of _ _ h2.1 (by omega) (by simp)) fun r3 h3 => ?_
  have hg : (r3.1.2.1 : Str).length ≤ 200 ∧ NoBr r3.1.2.1 := by
    have := h3.2
    simp only [List.mem_cons, List.not_mem_nil, or_false] at this
    rcases this with e | e | e | e | e
    all_goals (rw [e]; exact ⟨by decide, by decide⟩)
  refine Ev.bind (v_TreePart ((r2.2.2.1, (r3.1.2.1, ())), ()) h2.2 hg.1 hg.2) fun r4 h4 => ?_
  refine Ev.bind (v_pick _ _ h3.1 (by omega)) fun r5 h5 => ?_
  have ht : (r4.2.1 : List Entry).length ≤ 17 ∧ ∀ e, e ∈ (r4.2.1 : List Entry) → ShE e := ⟨Nat.le_succ_of_le h4.1, h4.2⟩
  refine Ev.ite (fun _ => ?_) fun _ => Ev.ret ⟨h5.1.less (by omega), ⟨hn, h1.2, ⟨by show (0 : Nat) ≤ 3; decide, fun n hn => by cases hn⟩, ht⟩, by show (0 : Nat) ≤ 1; decide⟩
  refine Ev.bind (v_l11Need _ _ h5.1 (by omega)) fun r6 h6 => ?_
  refine Ev.eq (apd_sm (by decide) (by unfold Sm; simp)) ?_
  refine Ev.ret ⟨h6.1.less (by omega), ⟨hn, h1.2, ⟨by show (1 : Nat) ≤ 3; decide, fun n hn => ?_⟩, ht⟩, by show (1 : Nat) ≤ 1; decide⟩
  have hn : n ∈ ([] : List Need) ++ [_] := hn
  rw [List.nil_append, List.mem_singleton] at hn
  rw [hn]; exact h6.2
abbrev ShR (k : Nat) (ps : List Pack) : Prop := ps.length ≤ k ∧ ∀ p, p ∈ ps → ShP p
theorem ShR.ok {k : Nat} {ps : List Pack} (h : ShR k ps) : OkR k ps := ⟨h.1, fun p hp => (h.2 p hp).ok⟩
theorem inL_sh {k : Nat} {ps : List Pack} {p : Pack} (h : ShR k ps) (hp : ShP p) : ShR (k + 1) (inL ps p).1 := by
  have h' : ShR (k + 1) ps := ⟨Nat.le_succ_of_le h.1, h.2⟩
  unfold inL
  cases pkOk p with
  | false => exact h'
  | true =>
    simp only [cond_true]
    cases ps.find? (fun q => q.name == p.name) with
    | some q => exact h'
    | none =>
      simp only
      cases codeL (withL ps p) == 0 with
      | false => exact h'
      | true =>
        refine ⟨by show (withL ps p).length ≤ k + 1; rw [withL_len]; exact Nat.succ_le_succ h.1, fun x hx => ?_⟩
        rcases withL_mem hx with rfl | hx
        · exact hp
        · exact h.2 x hx
theorem v_l11Root (a) (m : Nat) (h : RD a.2.1.1 a.2.1.2.1 m) (hm : 300 ≤ m) : Ev (f90v0 a) (fun r => RD r.2.1.1 r.2.1.2.1 (m - 300) ∧ ShR 4 r.2.2.1.1) := by
  unfold f90v0
  refine Ev.bind (v_pick _ m h (by omega)) fun r1 h1 => ?_
  obtain ⟨⟨v1, (q : Int), v2⟩, ⟨⟨(b1 : List Int), (p1 : Int), v3⟩, v4⟩⟩ := r1
  have hn : q < 5 := h1.2.2 (by show (1 : Int) ≤ 5; decide)
  have h0 : 0 ≤ q := h1.2.1
  refine Ev.bind (P := fun r => RD r.2.1.1 r.2.1.2.1 (m - 300) ∧ ShR 4 r.2.2.2.2.1.1) ?_ fun r hr => Ev.ret hr
  refine Ev.loop (fun (k : Nat) y => k ≤ 4 ∧ (y.1.2.2.2.1 : Int) = k ∧ RD y.2.1.1 y.2.1.2.1 (m - 300 + 55 * k) ∧ ShR (4 - k) y.2.2.2.2.1.1) (fun k y hy => ?_) q.toNat _ ⟨by omega, by show q = _; omega, h1.1.less (by omega), by show (0 : Nat) ≤ _; omega, fun p hp => by cases hp⟩
  obtain ⟨⟨w1, w2, w3, (i : Int), w4⟩, ⟨⟨(b' : List Int), (p' : Int), w5⟩, w6, w7, ⟨(ps : List Pack), w8⟩, w9⟩⟩ := y
  obtain ⟨y1, y3, y5, y6⟩ := hy
  have y3 : i = k := y3
  subst y3
  have y5 : RD b' p' (m - 300 + 55 * k) := y5
  have y6 : ShR (4 - k) ps := y6
  unfold g90v0_58
  refine Ev.ite (fun hc => ?_) fun hc => Ev.ret ⟨y5.less (by omega), Nat.le_trans y6.1 (by omega), y6.2⟩
  have hc : (k : Int) > 0 := of_decide_eq_true hc
  have hw : IntKind.i64.wrap ((k : Int) - 1) = ((k - 1 : Nat) : Int) := by rw [wrap_of (by omega) (by omega)]; omega
  refine Ev.bind (v_of _ _ y5 (by omega) (by simp)) fun r2 h2 => ?_
  refine Ev.bind (v_l11Pack _ _ h2.1 (by omega) (sh_all (by rfl) h2.2)) fun r3 h3 => ?_
  refine Ev.eq (v_l9In (((ps, ()), ((r3.2.2.2.2.1.1, (r3.2.2.2.2.1.2.1, (r3.2.2.1, (r3.2.2.2.1, ())))), ())), ()) (4 - k) (by omega) y6.ok h3.2.1.ok) ?_
  refine Ev.ret ⟨k - 1, by omega, by omega, hw, h3.1.less (by omega), ?_⟩
  have := inL_sh y6 h3.2.1
  exact ⟨Nat.le_trans this.1 (by omega), this.2⟩
theorem v_l11AnyVersion (a) (m : Nat) (h : RD a.2.1.1 a.2.1.2.1 m) (hm : 2 ≤ m) : Ev (f121v0 a) (fun r => RD r.2.1.1 r.2.1.2.1 (m - 2) ∧ Sh r.1.2.1) := by
  unfold f121v0
  refine Ev.bind (v_pick _ m h (by omega)) fun r1 h1 => ?_
  refine Ev.ite (fun _ => ?_) fun _ => ?_
  · exact Ev.bind (v_of _ _ h1.1 (by omega) (by simp)) fun r hr => Ev.ret ⟨hr.1.less (by omega), sh_all (by rfl) hr.2⟩
  · exact Ev.bind (v_l11Version _ _ h1.1 (by omega)) fun r hr => Ev.ret ⟨hr.1.less (by omega), hr.2⟩
theorem v_l11AnyPath (a) (m : Nat) (h : RD a.2.1.1 a.2.1.2.1 m) (hm : 2 ≤ m) : Ev (f107v0 a) (fun r => RD r.2.1.1 r.2.1.2.1 (m - 2) ∧ Sh r.1.2.1) := by
  unfold f107v0
  refine Ev.bind (v_pick _ m h (by omega)) fun r1 h1 => ?_
  refine Ev.ite (fun _ => ?_) fun _ => ?_
  · exact Ev.bind (v_of _ _ h1.1 (by omega) (by simp)) fun r hr => Ev.ret ⟨hr.1.less (by omega), sh_all (by rfl) hr.2⟩
  · exact Ev.bind (v_l11Path _ _ h1.1 (by omega)) fun r hr => Ev.ret ⟨hr.1.less (by omega), hr.2⟩
theorem v_l11AnyNeed (a) (m : Nat) (h : RD a.2.1.1 a.2.1.2.1 m) (hm : 7 ≤ m) : Ev (f122v0 a) (fun r => RD r.2.1.1 r.2.1.2.1 (m - 7) ∧ ShN ⟨r.2.2.1.1, r.2.2.1.2.1, r.2.2.1.2.2.1⟩) := by
  unfold f122v0
  refine Ev.bind (v_l11Need _ m h (by omega)) fun r1 h1 => ?_
  refine Ev.bind (v_pick _ _ h1.1 (by omega)) fun r2 h2 => ?_
  refine Ev.ite (fun _ => ?_) fun _ => Ev.ite (fun _ => ?_) fun _ => Ev.ite (fun _ => ?_) fun _ => ?_
  · exact Ev.bind (v_of _ _ h2.1 (by omega) (by simp)) fun r hr => Ev.ret ⟨hr.1.less (by omega), sh_all (by rfl) hr.2, h1.2.2⟩
  · exact Ev.bind (v_pick _ _ h2.1 (by omega)) fun r hr => Ev.ret ⟨hr.1.less (by omega), h1.2⟩
  · exact Ev.bind (v_l11AnyVersion _ _ h2.1 (by omega)) fun r hr => Ev.ret ⟨hr.1.less (by omega), h1.2.1, hr.2⟩
  · exact Ev.ret ⟨h2.1.less (by omega), h1.2⟩
theorem v_l11AnyEntry (a) (m : Nat) (h : RD a.2.1.1 a.2.1.2.1 m) (hm : 8 ≤ m) : Ev (f170v0 a) (fun r => RD r.2.1.1 r.2.1.2.1 (m - 8) ∧ ShE ⟨r.2.2.1.1, r.2.2.1.2.1, r.2.2.1.2.2.1, r.2.2.1.2.2.2.1⟩) := by
  unfold f170v0
  refine Ev.bind (v_l11Entry _ m h (by omega)) fun r1 h1 => ?_
  refine Ev.bind (v_pick _ _ h1.1 (by omega)) fun r2 h2 => ?_
  refine Ev.ite (fun _ => ?_) fun _ => Ev.ite (fun _ => ?_) fun _ => Ev.ite (fun _ => ?_) fun _ => Ev.ite (fun _ => ?_) fun _ => ?_
  · exact Ev.bind (v_l11AnyPath _ _ h2.1 (by omega)) fun r hr => Ev.ret ⟨hr.1.less (by omega), hr.2, h1.2.2⟩
  · exact Ev.bind (v_pick _ _ h2.1 (by omega)) fun r hr => Ev.ret ⟨hr.1.less (by omega), h1.2⟩
  · exact Ev.bind (v_one _ _ h2.1 (by omega) (by simp)) fun r hr => Ev.ret ⟨hr.1.less (by omega), h1.2⟩
  · refine Ev.bind (v_l1Many _ (by simp) (by show (0 : Int) ≤ 81; decide) (by show (81 : Int) ≤ 127; decide)) fun q hq => ?_
    refine Ev.bind (v_of _ _ h2.1 (by omega) (by simp)) fun r hr => Ev.ret ⟨hr.1.less (by omega), h1.2.1, ?_⟩
    have := hr.2
    simp only [List.mem_cons, List.not_mem_nil, or_false] at this
    rcases this with e | e | e | e
    · show (r.1.2.1 : Str).length ≤ 200; rw [e]; decide
    · show (r.1.2.1 : Str).length ≤ 200; rw [e]; exact hq
    · show (r.1.2.1 : Str).length ≤ 200; rw [e]; decide
    · show (r.1.2.1 : Str).length ≤ 200; rw [e]; decide
  · exact Ev.ret ⟨h2.1.less (by omega), h1.2⟩
abbrev ShT' (t : List Entry) : Prop := t.length ≤ 17 ∧ ∀ e, e ∈ t → ShE e
theorem v_l11AnyTree (a) (m : Nat) (h : RD a.2.1.1 a.2.1.2.1 m) (hm : 50 ≤ m) : Ev (f124v0 a) (fun r => RD r.2.1.1 r.2.1.2.1 (m - 50) ∧ ShT' r.2.2.1) := by
  unfold f124v0
  refine Ev.bind (v_l11Tree _ m h (by omega)) fun r1 h1 => ?_
  obtain ⟨u0, ⟨u1, (t : List Entry), u2⟩⟩ := r1
  have ht : ShT t := h1.2
  have htl := ht.1
  refine Ev.eq (v_l2Copy ((t, ()), ()) (by show t.length ≤ 2097152; omega)) ?_
  refine Ev.bind (v_pick _ _ h1.1 (by omega)) fun r2 h2 => ?_
  have ht' : ShT' t := ⟨Nat.le_succ_of_le ht.1, ht.2⟩
  refine Ev.ite (fun _ => ?_) fun _ => Ev.ite (fun _ => ?_) fun _ => Ev.ret ⟨h2.1.less (by omega), ht'⟩
  · refine Ev.bind (v_l11AnyEntry _ _ h2.1 (by omega)) fun r3 h3 => ?_
    refine Ev.eq (apd_sm (xs := t) (by decide) (by unfold Sm; simp; omega)) ?_
    refine Ev.ret ⟨h3.1.less (by omega), by show (t ++ [_]).length ≤ 17; simp; omega, fun e he => ?_⟩
    have he : e ∈ t ++ [_] := he
    rcases List.mem_append.1 he with he | he
    · exact ht.2 e he
    · rw [List.mem_singleton.1 he]; exact h3.2
  · refine Ev.ite (fun hc => ?_) fun _ => Ev.ret ⟨h2.1.less (by omega), ht'⟩
    have hc : (t.length : Int) > 0 := of_decide_eq_true hc
    refine Ev.bind (v_pick _ _ h2.1 (by omega)) fun r3 h3 => ?_
    obtain ⟨⟨v1, (q : Int), v2⟩, v3⟩ := r3
    have hq0 : 0 ≤ q := h3.2.1
    have hq1 : q < (t.length : Int) := h3.2.2 (by show (1 : Int) ≤ (t.length : Int); omega)
    obtain ⟨j, rfl⟩ := Int.eq_ofNat_of_zero_le hq0
    have hj : j < t.length := by omega
    refine Ev.bind (v_l11AnyEntry _ _ h3.1 (by omega)) fun r4 h4 => ?_
    refine Ev.eq (inb_nat (n := t.length) (i := j) hj) ?_
    refine Ev.eq (x := Entry.mk r4.2.2.1.1 r4.2.2.1.2.1 r4.2.2.1.2.2.1 r4.2.2.1.2.2.2.1) (by show (t[j]?).bind _ = _; rw [List.getElem?_eq_getElem hj]; rfl) ?_
    exact Ev.ret ⟨h4.1.less (by omega), by show (t.set _ _).length ≤ 17; rw [List.length_set]; omega, shE_set ht.2 h4.2⟩
theorem v_l11AnyPack (a) (m : Nat) (h : RD a.2.1.1 a.2.1.2.1 m) (hm : 110 ≤ m) : Ev (f64v0 a) (fun r => RD r.2.1.1 r.2.1.2.1 (m - 110) ∧ ShP ⟨r.2.2.2.2.1.1, r.2.2.2.2.1.2.1, r.2.2.1, r.2.2.2.1⟩) := by
  unfold f64v0
  refine Ev.bind (v_of _ m h (by omega) (by simp)) fun r1 h1 => ?_
  refine Ev.bind (v_l11Pack _ _ h1.1 (by omega) (sh_all (by rfl) h1.2)) fun r2 h2 => ?_
  obtain ⟨hp1, hp2, hp3, hp4⟩ := h2.2.1
  refine Ev.bind (v_pick _ _ h2.1 (by omega)) fun r3 h3 => ?_
  refine Ev.ite (fun _ => ?_) fun _ => Ev.ite (fun _ => ?_) fun _ => Ev.ite (fun _ => ?_) fun _ => Ev.ite (fun _ => ?_) fun _ => ?_
  · exact Ev.bind (v_of _ _ h3.1 (by omega) (by simp)) fun r hr => Ev.ret ⟨hr.1.less (by omega), sh_all (by rfl) hr.2, hp2, hp3, hp4⟩
  · exact Ev.bind (v_l11AnyVersion _ _ h3.1 (by omega)) fun r hr => Ev.ret ⟨hr.1.less (by omega), hp1, hr.2, hp3, hp4⟩
  · refine Ev.bind (v_l11AnyNeed _ _ h3.1 (by omega)) fun r4 h4 => ?_
    refine Ev.bind (v_l11Need _ _ h4.1 (by omega)) fun r5 h5 => ?_
    have hl := h2.2.2
    refine Ev.eq (apd_sm (xs := (r2.2.2.1 : List Need)) (by decide) (by unfold Sm; simp; omega)) ?_
    refine Ev.ret ⟨h5.1.less (by omega), hp1, hp2, ⟨by show ((r2.2.2.1 : List Need) ++ [_, _]).length ≤ 3; simp; omega, fun n hn => ?_⟩, hp4⟩
    have hn : n ∈ (r2.2.2.1 : List Need) ++ [_, _] := hn
    rcases List.mem_append.1 hn with hn | hn
    · exact hp3.2 n hn
    · simp only [List.mem_cons, List.not_mem_nil, or_false] at hn
      rcases hn with rfl | rfl
      · exact h4.2
      · exact h5.2
  · exact Ev.bind (v_l11AnyTree _ _ h3.1 (by omega)) fun r hr => Ev.ret ⟨hr.1.less (by omega), hp1, hp2, hp3, hr.2⟩
  · exact Ev.ret ⟨h3.1.less (by omega), hp1, hp2, hp3, hp4⟩
theorem v_l11AnyRoot (a) (m : Nat) (h : RD a.2.1.1 a.2.1.2.1 m) (hm : 500 ≤ m) : Ev (f47v0 a) (fun r => RD r.2.1.1 r.2.1.2.1 (m - 500) ∧ ShR 5 r.2.2.1.1) := by
  unfold f47v0
  refine Ev.bind (v_l11Root _ m h (by omega)) fun r1 h1 => ?_
  obtain ⟨u0, ⟨u1, ⟨(ps : List Pack), u2⟩, u3⟩⟩ := r1
  have hr : ShR 4 ps := h1.2
  have hrl := hr.1
  refine Ev.eq (v_l9Copy (((ps, ()), ()), ()) (hr.ok.bd (by decide))) ?_
  refine Ev.bind (v_pick _ _ h1.1 (by omega)) fun r2 h2 => ?_
  have hr' : ShR 5 ps := ⟨Nat.le_succ_of_le hr.1, hr.2⟩
  refine Ev.ite (fun _ => ?_) fun _ => Ev.ite (fun _ => ?_) fun _ => Ev.ret ⟨h2.1.less (by omega), hr'⟩
  · refine Ev.bind (v_l11AnyPack _ _ h2.1 (by omega)) fun r3 h3 => ?_
    refine Ev.eq (apd_sm (xs := ps) (by decide) (by unfold Sm; simp; omega)) ?_
    refine Ev.ret ⟨h3.1.less (by omega), by show (ps ++ [_]).length ≤ 5; simp; omega, fun e he => ?_⟩
    have he : e ∈ ps ++ [_] := he
    rcases List.mem_append.1 he with he | he
    · exact hr.2 e he
    · rw [List.mem_singleton.1 he]; exact h3.2
  · refine Ev.ite (fun hc => ?_) fun _ => Ev.ret ⟨h2.1.less (by omega), hr'⟩
    have hc : (ps.length : Int) > 0 := of_decide_eq_true hc
    refine Ev.eq (subl_from (xs := ps) (a := 1) (by omega)) ?_
    exact Ev.ret ⟨h2.1.less (by omega), by show (ps.drop 1).length ≤ 5; rw [List.length_drop]; omega, fun e he => hr.2 e (List.mem_of_mem_drop he)⟩
noncomputable def c21 : Ctx := { tt := tt, fs := fun n => match n with | 22 => some S22 | 53 => some S53 | _ => none }
theorem k21 (h : ∀ T, (tt T).ok Tryz.prog T) (h22 : SummOk Tryz.prog 22 S22) (h53 : SummOk Tryz.prog 53 S53) : CtxGood Tryz.prog c21 := ⟨⟨h⟩, fun g S hg => (by
  simp only [c21] at hg
  split at hg
  · cases hg; exact h22
  · cases hg; exact h53
  · cases hg), tt_mo, fun _ _ h => (by cases h), fun _ h => (by cases h)⟩
noncomputable def b21 : Code := codeOf Tryz.f21
@[reducible] noncomputable def i21 : Shape := ⟨[(0, .lf (.d (.sl .entry))), (1, .lf (.d (.str)))], [], 25⟩
@[reducible] noncomputable def o21 : Shape := ⟨[(4, .lf (.ptr 4 0)), (5, .lf (.d (.bool)))], [(4, .box [.d (.str), .d (.int .i64), .d (.int .i64), .d (.str)], .same)], 25⟩
noncomputable def f21 (a : i21.Y) : Option o21.Y :=
(f22 ((a.1.1, ()), ())).bind fun r1960 =>
  bif (!r1960.1.1) then
  some (((), (false, ())), ((([] : Str), ((0 : Int), ((0 : Int), (([] : Str), ())))), ()))
else
(f53 ((a.1.1, (a.1.2.1, ())), ())).bind fun r1962 =>
  bif (!r1962.1.2.1) then
  some (((), (false, ())), ((([] : Str), ((0 : Int), ((0 : Int), (([] : Str), ())))), ()))
else
(ix a.1.1 r1962.1.1).bind fun x1963 =>
  some (((), (true, ())), ((x1963.path, (x1963.kind, (x1963.mode, (x1963.text, ())))), ()))
theorem e21 : ∀ a, f21 a = bodyF (ctxWith c21 []) b21 i21 o21 a := fun a => by kernel_rfl
noncomputable def S21 : Summ := funSumm tt 25 i21 o21 [.cell 4 32, .tmp 5] [] f21
theorem z21 (h : ∀ T, (tt T).ok Tryz.prog T) (h22 : SummOk Tryz.prog 22 S22) (h53 : SummOk Tryz.prog 53 S53) : SummOk Tryz.prog 21 S21 :=
  have H := k21 h h22 h53
  fun_at (fn := Tryz.f21) (fr := []) H (by kernel_rfl) (by kernel_rfl) (by kernel_rfl) (by kernel_rfl) (by kernel_rfl) frags_nil (by kernel_rfl) (fun y => ⟨_, _, rfl, rfl, rfl⟩) e21
noncomputable def c24 : Ctx := { tt := tt, fs := fun n => match n with | 19 => some S19 | 21 => some S21 | _ => none }
theorem k24 (h : ∀ T, (tt T).ok Tryz.prog T) (h19 : SummOk Tryz.prog 19 S19) (h21 : SummOk Tryz.prog 21 S21) : CtxGood Tryz.prog c24 := ⟨⟨h⟩, fun g S hg => (by
  simp only [c24] at hg
  split at hg
  · cases hg; exact h19
  · cases hg; exact h21
  · cases hg), tt_mo, fun _ _ h => (by cases h), fun _ h => (by cases h)⟩
noncomputable def b24 : Code := codeOf Tryz.f24
@[reducible] noncomputable def s24_14950 : Shape := ⟨[(1, .lf (.d (.str))), (6, .lf (.ptr 6 0)), (7, .lf (.ptr 7 0)), (8, .lf (.d (.bool))), (13, .lf (.d (.sl .pack))), (14, .lf (.d (.int .i64))), (15, .lf (.d (.int .i64)))], [(6, .box [.d (.str), .d (.str), .d (.sl .need), .d (.sl .entry)], .same), (7, .box [.d (.str), .d (.int .i64), .d (.int .i64), .d (.str)], .same)], 35⟩
@[reducible] noncomputable def t24_14950 : List OSh := [(.norm, ⟨[(1, .lf (.d (.str))), (6, .lf (.ptr 6 0)), (13, .lf (.d (.sl .pack))), (14, .lf (.d (.int .i64))), (15, .lf (.d (.int .i64))), (31, .lf (.d (.bool)))], [(6, .box [.d (.str), .d (.str), .d (.sl .need), .d (.sl .entry)], .same)], 35⟩)]
noncomputable def g24_14950 (y : s24_14950.Y) : Option (YS t24_14950) :=
  bif y.1.2.2.2.1 then
  some (((y.1.1, ((), (y.1.2.2.2.2.1, (y.1.2.2.2.2.2.1, (y.1.2.2.2.2.2.2.1, ((y.2.2.1.2.1 != (1 : Int)), ())))))), ((y.2.1.1, (y.2.1.2.1, (y.2.1.2.2.1, (y.2.1.2.2.2.1, ())))), ())))
else
  some (((y.1.1, ((), (y.1.2.2.2.2.1, (y.1.2.2.2.2.2.1, (y.1.2.2.2.2.2.2.1, (false, ())))))), ((y.2.1.1, (y.2.1.2.1, (y.2.1.2.2.1, (y.2.1.2.2.2.1, ())))), ())))
theorem r24_14950 : ∀ y, g24_14950 y = pieceF (ctxWith c24 []) (codeAt (unloop (codeAt b24 1 58)) 116 14950) 14950 s24_14950 t24_14950 y := fun y => by kernel_rfl
theorem q24_14950 (H : CtxGood Tryz.prog c24) : FragOk Tryz.prog (codeAt (unloop (codeAt b24 1 58)) 116 14950) (fragOrc s24_14950 t24_14950 g24_14950) :=
  piece_at (fr := []) H (by kernel_rfl) frags_nil r24_14950
@[reducible] noncomputable def s24_58 : Shape := ⟨[(1, .lf (.d (.str))), (13, .lf (.d (.sl .pack))), (14, .lf (.d (.int .i64))), (15, .lf (.d (.int .i64)))], [], 35⟩
@[reducible] noncomputable def t24_58 : List OSh := [(.ret, ⟨[(4, .lf (.d (.str)))], [], 35⟩), (.exit 0, ⟨[], [], 35⟩)]
noncomputable def g24_58 (y : s24_58.Y) : Option (Sum s24_58.Y (YS t24_58)) :=
  bif (decide (y.1.2.2.2.1 < y.1.2.2.1)) then
(ix y.1.2.1 y.1.2.2.2.1).bind fun x2082 =>
(f21 ((x2082.tree, (y.1.1, ())), ())).bind fun r2084 =>
(g24_14950 ((y.1.1, ((), ((), (r2084.1.2.1, (y.1.2.1, (y.1.2.2.1, (y.1.2.2.2.1, ()))))))), ((x2082.name, (x2082.version, (x2082.needs, (x2082.tree, ())))), ((r2084.2.1.1, (r2084.2.1.2.1, (r2084.2.1.2.2.1, (r2084.2.1.2.2.2.1, ())))), ())))).bind fun r2085 =>
  bif r2085.1.2.2.2.2.2.1 then
  some (.inr (.inl ((r2085.2.1.1, ()), ())))
else
  some (.inl ((r2085.1.1, (r2085.1.2.2.1, (r2085.1.2.2.2.1, ((IntKind.i64.wrap (r2085.1.2.2.2.2.1 + (1 : Int))), ())))), ()))
else
  some (.inr (.inr ((), ())))
theorem r24_58 : ∀ y, g24_58 y = roundF (ctxWith c24 [(14950, fragOrc s24_14950 t24_14950 g24_14950)]) (unloop (codeAt b24 1 58)) 58 s24_58 t24_58 y := fun y => by kernel_rfl
noncomputable def l24_58 : s24_58.Y → Option (YS t24_58) := loopF g24_58
theorem q24_58 (H : CtxGood Tryz.prog c24) : FragOk Tryz.prog (codeAt b24 1 58) (fragOrc s24_58 t24_58 l24_58) :=
  loop_at (fr := [(14950, fragOrc s24_14950 t24_14950 g24_14950)]) H (by kernel_rfl) (by kernel_rfl) ⟨q24_14950 H, trivial⟩ (fun y => iter_congr r24_58 y)
@[reducible] noncomputable def i24 : Shape := ⟨[(0, .agg [.d (.sl .pack)]), (1, .lf (.d (.str)))], [], 35⟩
@[reducible] noncomputable def o24 : Shape := ⟨[(4, .lf (.d (.str)))], [], 35⟩
noncomputable def f24 (a : i24.Y) : Option o24.Y :=
(f19 (((a.1.1.1, ()), ()), ())).bind fun r2071 =>
  bif (!r2071.1.1) then
  some ((([] : Str), ()), ())
else
(l24_58 ((a.1.2.1, (a.1.1.1, ((a.1.1.1.length : Int), ((0 : Int), ())))), ())).bind fun r2086 =>
(match r2086 with
| .inl r2087 =>
  some ((r2087.1.1, ()), ())
| .inr r2088 =>
  some ((([] : Str), ()), ()))
theorem e24 : ∀ a, f24 a = bodyF (ctxWith c24 [(58, fragOrc s24_58 t24_58 l24_58)]) b24 i24 o24 a := fun a => by kernel_rfl
noncomputable def S24 : Summ := funSumm tt 35 i24 o24 [.tmp 4] [] f24
theorem z24 (h : ∀ T, (tt T).ok Tryz.prog T) (h19 : SummOk Tryz.prog 19 S19) (h21 : SummOk Tryz.prog 21 S21) : SummOk Tryz.prog 24 S24 :=
  have H := k24 h h19 h21
  fun_at (fn := Tryz.f24) (fr := [(58, fragOrc s24_58 t24_58 l24_58)]) H (by kernel_rfl) (by kernel_rfl) (by kernel_rfl) (by kernel_rfl) (by kernel_rfl) ⟨q24_58 H, trivial⟩ (by kernel_rfl) (fun y => ⟨_, _, rfl, rfl, rfl⟩) e24
noncomputable def c25 : Ctx := { tt := tt, fs := fun n => match n with | 20 => some S20 | 57 => some S57 | _ => none }
theorem k25 (h : ∀ T, (tt T).ok Tryz.prog T) (h20 : SummOk Tryz.prog 20 S20) (h57 : SummOk Tryz.prog 57 S57) : CtxGood Tryz.prog c25 := ⟨⟨h⟩, fun g S hg => (by
  simp only [c25] at hg
  split at hg
  · cases hg; exact h20
  · cases hg; exact h57
  · cases hg), tt_mo, fun _ _ h => (by cases h), fun _ h => (by cases h)⟩
noncomputable def b25 : Code := codeOf Tryz.f25
@[reducible] noncomputable def s25_1682 : Shape := ⟨[(1, .lf (.d (.str))), (2, .lf (.ptr 2 0)), (5, .lf (.d (.int .i64))), (6, .lf (.d (.int .i64))), (7, .lf (.d (.bool)))], [(2, .box [.d (.sl .pack)], .same)], 50⟩
@[reducible] noncomputable def t25_1682 : List OSh := [(.norm, ⟨[(1, .lf (.d (.str))), (2, .lf (.ptr 2 0)), (5, .lf (.d (.int .i64))), (43, .lf (.d (.bool)))], [(2, .box [.d (.sl .pack)], .same)], 50⟩)]
noncomputable def g25_1682 (y : s25_1682.Y) : Option (YS t25_1682) :=
  bif y.1.2.2.2.2.1 then
(ix y.2.1.1 y.1.2.2.1).bind fun x2107 =>
(ix x2107.tree y.1.2.2.2.1).bind fun x2108 =>
  some (((y.1.1, ((), (y.1.2.2.1, ((x2108.kind != (1 : Int)), ())))), ((y.2.1.1, ()), ())))
else
  some (((y.1.1, ((), (y.1.2.2.1, (false, ())))), ((y.2.1.1, ()), ())))
theorem r25_1682 : ∀ y, g25_1682 y = pieceF (ctxWith c25 []) (codeAt (unloop (codeAt b25 1 26)) 52 1682) 1682 s25_1682 t25_1682 y := fun y => by kernel_rfl
theorem q25_1682 (H : CtxGood Tryz.prog c25) : FragOk Tryz.prog (codeAt (unloop (codeAt b25 1 26)) 52 1682) (fragOrc s25_1682 t25_1682 g25_1682) :=
  piece_at (fr := []) H (by kernel_rfl) frags_nil r25_1682
@[reducible] noncomputable def s25_26 : Shape := ⟨[(1, .lf (.d (.str))), (2, .lf (.ptr 2 0)), (5, .lf (.d (.int .i64)))], [(2, .box [.d (.sl .pack)], .same)], 50⟩
@[reducible] noncomputable def t25_26 : List OSh := [(.ret, ⟨[(4, .lf (.d (.str)))], [], 50⟩), (.exit 0, ⟨[], [], 50⟩)]
noncomputable def g25_26 (y : s25_26.Y) : Option (Sum s25_26.Y (YS t25_26)) :=
  bif (decide (y.1.2.2.1 < (y.2.1.1.length : Int))) then
(f20 (((y.2.1.1, ()), ()), ())).bind fun r2112 =>
  bif r2112.1.1 then
(ix y.2.1.1 y.1.2.2.1).bind fun x2115 =>
(f57 ((x2115.tree, (y.1.1, ())), ())).bind fun r2116 =>
(g25_1682 ((y.1.1, ((), (y.1.2.2.1, (r2116.1.1, (r2116.1.2.1, ()))))), ((y.2.1.1, ()), ()))).bind fun r2117 =>
  bif r2117.1.2.2.2.1 then
(ix r2117.2.1.1 r2117.1.2.2.1).bind fun x2118 =>
  some (.inr (.inl ((x2118.name, ()), ())))
else
  some (.inl ((r2117.1.1, ((), ((IntKind.i64.wrap (r2117.1.2.2.1 + (1 : Int))), ()))), ((r2117.2.1.1, ()), ())))
else
  some (.inr (.inr ((), ())))
else
  some (.inr (.inr ((), ())))
theorem r25_26 : ∀ y, g25_26 y = roundF (ctxWith c25 [(1682, fragOrc s25_1682 t25_1682 g25_1682)]) (unloop (codeAt b25 1 26)) 26 s25_26 t25_26 y := fun y => by kernel_rfl
noncomputable def l25_26 : s25_26.Y → Option (YS t25_26) := loopF g25_26
theorem q25_26 (H : CtxGood Tryz.prog c25) : FragOk Tryz.prog (codeAt b25 1 26) (fragOrc s25_26 t25_26 l25_26) :=
  loop_at (fr := [(1682, fragOrc s25_1682 t25_1682 g25_1682)]) H (by kernel_rfl) (by kernel_rfl) ⟨q25_1682 H, trivial⟩ (fun y => iter_congr r25_26 y)
@[reducible] noncomputable def i25 : Shape := ⟨[(0, .agg [.d (.sl .pack)]), (1, .lf (.d (.str)))], [], 50⟩
@[reducible] noncomputable def o25 : Shape := ⟨[(4, .lf (.d (.str)))], [], 50⟩
noncomputable def f25 (a : i25.Y) : Option o25.Y :=
(l25_26 ((a.1.2.1, ((), ((0 : Int), ()))), ((a.1.1.1, ()), ()))).bind fun r2122 =>
(match r2122 with
| .inl r2123 =>
  some ((r2123.1.1, ()), ())
| .inr r2124 =>
  some ((([] : Str), ()), ()))
theorem e25 : ∀ a, f25 a = bodyF (ctxWith c25 [(26, fragOrc s25_26 t25_26 l25_26)]) b25 i25 o25 a := fun a => by kernel_rfl
noncomputable def S25 : Summ := funSumm tt 50 i25 o25 [.tmp 4] [] f25
theorem z25 (h : ∀ T, (tt T).ok Tryz.prog T) (h20 : SummOk Tryz.prog 20 S20) (h57 : SummOk Tryz.prog 57 S57) : SummOk Tryz.prog 25 S25 :=
  have H := k25 h h20 h57
  fun_at (fn := Tryz.f25) (fr := [(26, fragOrc s25_26 t25_26 l25_26)]) H (by kernel_rfl) (by kernel_rfl) (by kernel_rfl) (by kernel_rfl) (by kernel_rfl) ⟨q25_26 H, trivial⟩ (by kernel_rfl) (fun y => ⟨_, _, rfl, rfl, rfl⟩) e25
def getL (t : List Entry) (p : Str) : Option Entry := match t[posL t p]? with
  | some e => bif e.path == p then some e else none
  | none => none
def noE : Entry := ⟨[], 0, 0, []⟩
theorem hasAt_get (t : List Entry) (p : Str) : hasAt t p = (getL t p).isSome := by
  unfold hasAt getL
  cases t[posL t p]? with
  | none => rfl
  | some e => cases h : (e.path == p) <;> simp [h]
theorem getL_at {t : List Entry} {p : Str} {e : Entry} (h : getL t p = some e) : t[posL t p]? = some e ∧ e.path = p := by
  unfold getL at h
  cases ht : t[posL t p]? with
  | none => rw [ht] at h; cases h
  | some x =>
    rw [ht] at h
    cases hx : (x.path == p) with
    | false => simp [hx] at h
    | true => simp only [hx, cond_true, Option.some.injEq] at h; subst h; exact ⟨rfl, eq_of_beq hx⟩
theorem v_TreeGet (a) (hb : BdEs a.1.1) : f21 a = some (((), (treeOk a.1.1 && (getL a.1.1 a.1.2.1).isSome, ())),
    ((match (bif treeOk a.1.1 then getL a.1.1 a.1.2.1 else none) with | some e => (e.path, (e.kind, (e.mode, (e.text, ())))) | none => (([] : Str), ((0 : Int), ((0 : Int), (([] : Str), ()))))), ())) := by
  obtain ⟨⟨t, p, u⟩, u'⟩ := a
  have hb : BdEs t := hb
  have e1 := v_iTreeOk ((t, ()), ()) hb
  simp only [f21, e1, Option.bind_some]
  cases ht : treeOk t with
  | false => rfl
  | true =>
    have e2 := v_findEntry ((t, (p, ())), ()) hb.1 (treeOk_asc ht)
    simp only [Bool.not_true, cond_false, cond_true, e2, Option.bind_some, hasAt_get, Bool.true_and]
    cases hg : getL t p with
    | none => rfl
    | some e =>
      simp only [Option.isSome_some, Bool.not_true, cond_false, ix_nat, (getL_at hg).1, Option.bind_some]
def ownL (path : Str) : List Pack → Str
  | [] => []
  | p :: r => match getL p.tree path with
    | some e => bif e.kind != 1 then p.name else ownL path r
    | none => ownL path r
theorem v_iRootOwner (a) (hb : BdPs a.1.1.1) (hv : VS a.1.1.1) : f24 a = some (((bif rootOk a.1.1.1 then ownL a.1.2.1 a.1.1.1 else []), ()), ()) := by
  obtain ⟨⟨⟨ps, u⟩, path, u'⟩, u''⟩ := a
  have hl : ps.length ≤ 2097152 := hb.1
  have e1 := v_iRootOk (((ps, ()), ()), ()) hb hv
  simp only [f24, e1, Option.bind_some]
  cases hr : rootOk ps with
  | false => rfl
  | true =>
    have hk : ps.all pkOk = true := by unfold rootOk at hr; simp only [Bool.and_eq_true] at hr; exact hr.1.1.1.1
    simp only [Bool.not_true, cond_false, cond_true]
    have key : ∀ (r : List Pack) (k : Nat), ps.drop k = r → k ≤ ps.length → (l24_58 ((path, (ps, ((ps.length : Int), ((k : Int), ())))), ())).bind (fun r1407 => (match r1407 with
        | .inl r1408 => some ((r1408.1.1, ()), ())
        | .inr r1409 => some ((([] : Str), ()), ()) : Option o24.Y)) = some ((ownL path r, ()), ()) := by
      intro r
      induction r with
      | nil =>
        intro k hk' hle
        have := drop_nil hk'
        obtain rfl : k = ps.length := by omega
        have : l24_58 ((path, (ps, ((ps.length : Int), ((ps.length : Int), ())))), ()) = some (.inr ((), ())) := by
          refine loopF_r ?_
          simp only [g24_58, nlt_dec, cond_false]
        rw [this]; rfl
      | cons q r ih =>
        intro k hk' hle
        obtain ⟨c1, c2, c3⟩ := drop_cons hk'
        have hw : Sm k := by unfold Sm; omega
        have hq := List.mem_of_getElem? c1
        have hqk := List.all_eq_true.1 hk q hq
        have hqt : treeOk q.tree = true := by unfold pkOk at hqk; simp only [Bool.and_eq_true] at hqk; exact hqk.2
        have e2 := v_TreeGet ((q.tree, (path, ())), ()) (hb.2 q hq).2.2.2
        simp only [hqt, Bool.true_and, cond_true] at e2
        have step : g24_58 ((path, (ps, ((ps.length : Int), ((k : Int), ())))), ()) = some (match getL q.tree path with
            | some e => bif e.kind != 1 then .inr (.inl ((q.name, ()), ())) else .inl ((path, (ps, ((ps.length : Int), (((k + 1 : Nat) : Int), ())))), ())
            | none => .inl ((path, (ps, ((ps.length : Int), (((k + 1 : Nat) : Int), ())))), ())) := by
          simp only [g24_58, lt_dec c3, cond_true, ix_nat, c1, Option.bind_some, e2, g24_14950, wrap_add1 hw]
          cases hg : getL q.tree path with
          | none => simp only [Option.isSome_none, cond_false, Option.bind_some, wrap_add1 hw]
          | some e =>
            simp only [Option.isSome_some, cond_true, Option.bind_some, wrap_add1 hw]
            cases (e.kind != 1) <;> rfl
        simp only [ownL]
        cases hg : getL q.tree path with
        | none =>
          rw [hg] at step
          rw [show l24_58 _ = _ from loopF_l step]
          exact ih (k + 1) c2 c3
        | some e =>
          rw [hg] at step
          cases he : (e.kind != 1) with
          | false =>
            simp only [he, cond_false] at step ⊢
            rw [show l24_58 _ = _ from loopF_l step]
            exact ih (k + 1) c2 c3
          | true =>
            simp only [he, cond_true] at step ⊢
            rw [show l24_58 _ = _ from loopF_r step]
            rfl
    exact key ps 0 rfl (Nat.zero_le _)
theorem v_RootOwner (a) (hb : BdPs a.1.1.1) (hv : VS a.1.1.1) : f25 a = some (((bif rootOk a.1.1.1 then ownL a.1.2.1 a.1.1.1 else []), ()), ()) := by
  obtain ⟨⟨⟨ps, u⟩, path, u'⟩, u''⟩ := a
  have hl : ps.length ≤ 2097152 := hb.1
  have e1 := v_RootOk (((ps, ()), ()), ()) hb hv
  have key : ∀ (r : List Pack) (k : Nat), ps.drop k = r → k ≤ ps.length → (l25_26 ((path, ((), ((k : Int), ()))), ((ps, ()), ()))).bind (fun r1363 => (match r1363 with
      | .inl r1364 => some ((r1364.1.1, ()), ())
      | .inr r1365 => some ((([] : Str), ()), ()) : Option o25.Y)) = some (((bif rootOk ps then ownL path r else []), ()), ()) := by
    intro r
    induction r with
    | nil =>
      intro k hk' hle
      have := drop_nil hk'
      obtain rfl : k = ps.length := by omega
      have : l25_26 ((path, ((), ((ps.length : Int), ()))), ((ps, ()), ())) = some (.inr ((), ())) := by
        refine loopF_r ?_
        simp only [g25_26, nlt_dec, cond_false]
      rw [this]
      cases rootOk ps <;> rfl
    | cons q r ih =>
      intro k hk' hle
      obtain ⟨c1, c2, c3⟩ := drop_cons hk'
      have hw : Sm k := by unfold Sm; omega
      have hq := List.mem_of_getElem? c1
      have e2 := v_l2At ((q.tree, (path, ())), ()) (hb.2 q hq).2.2.2.1
      cases hr : rootOk ps with
      | false =>
        rw [hr] at e1
        have : l25_26 ((path, ((), ((k : Int), ()))), ((ps, ()), ())) = some (.inr ((), ())) := by
          refine loopF_r ?_
          simp only [g25_26, lt_dec c3, cond_true, e1, Option.bind_some, cond_false]
        rw [this]; rfl
      | true =>
        rw [hr] at e1 ih
        have step : g25_26 ((path, ((), ((k : Int), ()))), ((ps, ()), ())) = some (match getL q.tree path with
            | some e => bif e.kind != 1 then .inr (.inl ((q.name, ()), ())) else .inl ((path, ((), (((k + 1 : Nat) : Int), ()))), ((ps, ()), ()))
            | none => .inl ((path, ((), (((k + 1 : Nat) : Int), ()))), ((ps, ()), ()))) := by
          simp only [g25_26, lt_dec c3, cond_true, ix_nat, c1, Option.bind_some, e1, e2, g25_1682, hasAt_get]
          cases hg : getL q.tree path with
          | none => simp only [Option.isSome_none, cond_false, Option.bind_some, wrap_add1 hw]
          | some e =>
            simp only [Option.isSome_some, cond_true, Option.bind_some, (getL_at hg).1, c1, wrap_add1 hw]
            cases (e.kind != 1)
            · rfl
            · simp only [cond_true, ix_nat, c1, Option.bind_some]
        simp only [ownL, cond_true] at ih ⊢
        cases hg : getL q.tree path with
        | none =>
          rw [hg] at step
          rw [show l25_26 _ = _ from loopF_l step]
          exact ih (k + 1) c2 c3
        | some e =>
          rw [hg] at step
          cases he : (e.kind != 1) with
          | false =>
            simp only [he, cond_false] at step ⊢
            rw [show l25_26 _ = _ from loopF_l step]
            exact ih (k + 1) c2 c3
          | true =>
            simp only [he, cond_true] at step ⊢
            rw [show l25_26 _ = _ from loopF_r step]
            rfl
  have := key ps 0 rfl (Nat.zero_le _)
  simp only [f25]
  exact this
noncomputable def c16 : Ctx := { tt := tt, fs := fun n => match n with | 19 => some S19 | 49 => some S49 | _ => none }
theorem k16 (h : ∀ T, (tt T).ok Tryz.prog T) (h19 : SummOk Tryz.prog 19 S19) (h49 : SummOk Tryz.prog 49 S49) : CtxGood Tryz.prog c16 := ⟨⟨h⟩, fun g S hg => (by
  simp only [c16] at hg
  split at hg
  · cases hg; exact h19
  · cases hg; exact h49
  · cases hg), tt_mo, fun _ _ h => (by cases h), fun _ h => (by cases h)⟩
noncomputable def b16 : Code := codeOf Tryz.f16
@[reducible] noncomputable def i16 : Shape := ⟨[(0, .agg [.d (.sl .pack)])], [], 15⟩
@[reducible] noncomputable def o16 : Shape := ⟨[(2, .lf (.own 3000128))], [(3000128, .row .entry, .slot 2 0)], 15⟩
noncomputable def f16 (a : i16.Y) : Option o16.Y :=
(f19 (((a.1.1.1, ()), ()), ())).bind fun r1877 =>
  bif (!r1877.1.1) then
  some (((), ()), (([] : List Entry), ()))
else
(f49 ((a.1.1.1, ()), ())).bind fun r1878 =>
  some (((), ()), (r1878.2.1, ()))
theorem e16 : ∀ a, f16 a = bodyF (ctxWith c16 []) b16 i16 o16 a := fun a => by kernel_rfl
noncomputable def S16 : Summ := funSumm tt 15 i16 o16 [.tmp 2] [] f16
theorem z16 (h : ∀ T, (tt T).ok Tryz.prog T) (h19 : SummOk Tryz.prog 19 S19) (h49 : SummOk Tryz.prog 49 S49) : SummOk Tryz.prog 16 S16 :=
  have H := k16 h h19 h49
  fun_at (fn := Tryz.f16) (fr := []) H (by kernel_rfl) (by kernel_rfl) (by kernel_rfl) (by kernel_rfl) (by kernel_rfl) frags_nil (by kernel_rfl) (fun y => ⟨_, _, rfl, rfl, rfl⟩) e16
noncomputable def c18 : Ctx := { tt := tt, fs := fun n => match n with | 20 => some S20 | 50 => some S50 | _ => none }
theorem k18 (h : ∀ T, (tt T).ok Tryz.prog T) (h20 : SummOk Tryz.prog 20 S20) (h50 : SummOk Tryz.prog 50 S50) : CtxGood Tryz.prog c18 := ⟨⟨h⟩, fun g S hg => (by
  simp only [c18] at hg
  split at hg
  · cases hg; exact h20
  · cases hg; exact h50
  · cases hg), tt_mo, fun _ _ h => (by cases h), fun _ h => (by cases h)⟩
noncomputable def b18 : Code := codeOf Tryz.f18
@[reducible] noncomputable def i18 : Shape := ⟨[(0, .agg [.d (.sl .pack)])], [], 16⟩
@[reducible] noncomputable def o18 : Shape := ⟨[(2, .lf (.own 3000128))], [(3000128, .row .entry, .slot 2 0)], 16⟩
noncomputable def f18 (a : i18.Y) : Option o18.Y :=
(f20 (((a.1.1.1, ()), ()), ())).bind fun r1891 =>
  bif (!r1891.1.1) then
  some (((), ()), (([] : List Entry), ()))
else
(f50 ((a.1.1.1, ()), ())).bind fun r1892 =>
  some (((), ()), (r1892.2.1, ()))
theorem e18 : ∀ a, f18 a = bodyF (ctxWith c18 []) b18 i18 o18 a := fun a => by kernel_rfl
noncomputable def S18 : Summ := funSumm tt 16 i18 o18 [.tmp 2] [] f18
theorem z18 (h : ∀ T, (tt T).ok Tryz.prog T) (h20 : SummOk Tryz.prog 20 S20) (h50 : SummOk Tryz.prog 50 S50) : SummOk Tryz.prog 18 S18 :=
  have H := k18 h h20 h50
  fun_at (fn := Tryz.f18) (fr := []) H (by kernel_rfl) (by kernel_rfl) (by kernel_rfl) (by kernel_rfl) (by kernel_rfl) frags_nil (by kernel_rfl) (fun y => ⟨_, _, rfl, rfl, rfl⟩) e18
theorem pos_of {t : List Entry} (ha : Asc t) {k : Nat} {e : Entry} (h : t[k]? = some e) : posL t e.path = k := by
  have h1 := pos_spec (p := e.path) ha k e h
  have h2 : Op.bytesLess e.path e.path = false := bl_irr _
  rw [h1] at h2
  have h2 : ¬ k < posL t e.path := of_decide_eq_false h2
  rcases Nat.lt_or_ge (posL t e.path) k with h3 | h3
  · exfalso
    have h4 : posL t e.path < t.length := Nat.lt_trans h3 (get_lt h)
    have h5 := List.getElem?_eq_getElem h4
    have h6 := pos_spec (p := e.path) ha (posL t e.path) t[posL t e.path] h5
    have h7 : Op.bytesLess (t[posL t e.path]).path e.path = true := by
      have hp := List.pairwise_iff_getElem.1 ha (posL t e.path) k h4 (get_lt h) h3
      have : t[k]'(get_lt h) = e := by
        have := List.getElem?_eq_getElem (get_lt h)
        rw [h] at this
        exact (Option.some.inj this).symm
      rw [this] at hp
      exact hp
    rw [h7] at h6
    have := of_decide_eq_true h6.symm
    omega
  · omega
theorem getL_iff {t : List Entry} (ha : Asc t) {p : Str} {e : Entry} : getL t p = some e ↔ e ∈ t ∧ e.path = p := by
  constructor
  · intro h
    obtain ⟨h1, h2⟩ := getL_at h
    exact ⟨List.mem_of_getElem? h1, h2⟩
  · rintro ⟨h1, rfl⟩
    obtain ⟨k, hk⟩ := List.mem_iff_getElem?.1 h1
    have := pos_of ha hk
    unfold getL
    rw [this, hk]
    simp
theorem getL_none {t : List Entry} (ha : Asc t) {p : Str} : getL t p = none ↔ ∀ e, e ∈ t → e.path ≠ p := by
  constructor
  · intro h e he hp
    rw [(getL_iff ha).2 ⟨he, hp⟩] at h
    cases h
  · intro h
    cases hg : getL t p with
    | none => rfl
    | some e => exact absurd ((getL_iff ha).1 hg).2 (h e ((getL_iff ha).1 hg).1)
theorem eqE_eq {a b : Entry} (h : eqE a b = true) : a = b := by
  unfold eqE at h
  simp only [Bool.and_eq_true, beq_iff_eq] at h
  obtain ⟨h1, h2, h3, h4⟩ := h
  cases a; cases b
  simp only at h1 h2 h3 h4
  subst h1 h2 h3 h4
  rfl
theorem eqE_refl (a : Entry) : eqE a a = true := by unfold eqE; simp
theorem insAt_in {t : List Entry} {k : Nat} {e x : Entry} : x ∈ insAt t k e ↔ x = e ∨ x ∈ t := by
  constructor
  · exact insAt_mem
  · unfold insAt
    intro h
    rcases h with rfl | h
    · simp
    · have : x ∈ t.take k ++ t.drop k := by rw [List.take_append_drop]; exact h
      simp only [List.mem_append, List.mem_singleton] at this ⊢
      rcases this with h | h
      · exact .inl (.inl h)
      · exact .inr h
theorem stepJ_in {out o : List Entry} {e : Entry} (h : stepJ out e = some o) (x : Entry) : x ∈ o ↔ x = e ∨ x ∈ out := by
  unfold stepJ at h
  split at h
  · rename_i q hq
    cases hp : (q.path == e.path) with
    | true =>
      rw [hp] at h
      cases hc : conf e q with
      | true => rw [hc] at h; cases h
      | false =>
        rw [hc] at h
        cases h
        have : eqE e q = true := by
          unfold conf at hc
          simp only [Bool.or_eq_false_iff, Bool.not_eq_false'] at hc
          exact hc.2
        have := eqE_eq this
        subst this
        constructor
        · exact .inr
        · rintro (rfl | h)
          · exact List.mem_of_getElem? hq
          · exact h
    | false => rw [hp] at h; cases h; exact insAt_in
  · cases h; exact insAt_in
theorem joinL_in : ∀ {es out o : List Entry}, joinL out es = some o → ∀ x, x ∈ o ↔ x ∈ out ∨ x ∈ es := by
  intro es
  induction es with
  | nil => intro out o h x; simp only [joinL, Option.some.injEq] at h; subst h; simp
  | cons e r ih =>
    intro out o h x
    rw [joinL_step] at h
    obtain ⟨o1, h1, h2⟩ := Option.bind_eq_some_iff.1 h
    rw [ih h2, stepJ_in h1, List.mem_cons]
    constructor
    · rintro ((h | h) | h)
      · exact .inr (.inl h)
      · exact .inl h
      · exact .inr (.inr h)
    · rintro (h | h | h)
      · exact .inl (.inr h)
      · exact .inl (.inl h)
      · exact .inr h
theorem joinL_dir : ∀ {es out o : List Entry}, Asc out → joinL out es = some o → ∀ x, x ∈ es → ∀ y, y ∈ out → y.path = x.path → x.kind = 1 := by
  intro es
  induction es with
  | nil => intro out o _ _ x hx; cases hx
  | cons e r ih =>
    intro out o ha h x hx y hy hp
    rw [joinL_step] at h
    obtain ⟨o1, h1, h2⟩ := Option.bind_eq_some_iff.1 h
    rcases List.mem_cons.1 hx with rfl | hx
    · have hg : getL out x.path = some y := (getL_iff ha).2 ⟨hy, hp⟩
      have hq := (getL_at hg).1
      unfold stepJ at h1
      rw [hq] at h1
      simp only [hp, beq_self_eq_true, cond_true] at h1
      cases hc : conf x y with
      | true => rw [hc] at h1; cases h1
      | false =>
        unfold conf at hc
        simp only [Bool.or_eq_false_iff, bne_eq_false_iff_eq] at hc
        exact hc.1
    · exact ih (stepJ_asc ha h1) h2 x hx y ((stepJ_in h1 y).2 (.inr hy)) hp
theorem joinL_asc : ∀ {es out o : List Entry}, Asc out → joinL out es = some o → Asc o := by
  intro es
  induction es with
  | nil => intro out o ha h; simp only [joinL, Option.some.injEq] at h; subst h; exact ha
  | cons e r ih =>
    intro out o ha h
    rw [joinL_step] at h
    obtain ⟨o1, h1, h2⟩ := Option.bind_eq_some_iff.1 h
    exact ih (stepJ_asc ha h1) h2
theorem treesL_in : ∀ {ps : List Pack} {out t : List Entry}, treesL out ps = some t → ∀ x, x ∈ t ↔ x ∈ out ∨ ∃ p, p ∈ ps ∧ x ∈ p.tree := by
  intro ps
  induction ps with
  | nil => intro out t h x; simp only [treesL, Option.some.injEq] at h; subst h; simp
  | cons p r ih =>
    intro out t h x
    rw [treesL_step] at h
    obtain ⟨o, h1, h2⟩ := Option.bind_eq_some_iff.1 h
    rw [ih h2, joinL_in (stepT_ok h1).2]
    constructor
    · rintro ((h | h) | ⟨q, h, h'⟩)
      · exact .inl h
      · exact .inr ⟨p, List.mem_cons_self, h⟩
      · exact .inr ⟨q, List.mem_cons_of_mem _ h, h'⟩
    · rintro (h | ⟨q, h, h'⟩)
      · exact .inl (.inl h)
      · rcases List.mem_cons.1 h with rfl | h
        · exact .inl (.inr h')
        · exact .inr ⟨q, h, h'⟩
theorem treesL_ok : ∀ {ps : List Pack} {out t : List Entry}, treeOk out = true → treesL out ps = some t → treeOk t = true := by
  intro ps
  induction ps with
  | nil => intro out t ho h; simp only [treesL, Option.some.injEq] at h; subst h; exact ho
  | cons p r ih =>
    intro out t ho h
    rw [treesL_step] at h
    obtain ⟨o, h1, h2⟩ := Option.bind_eq_some_iff.1 h
    exact ih (stepT_ok h1).1 h2
def cntP (path : Str) (ps : List Pack) : Nat := (ps.filter fun p => (getL p.tree path).isSome).length
theorem cntP_cons (path : Str) (p : Pack) (ps : List Pack) : cntP path (p :: ps) = (if (getL p.tree path).isSome then 1 else 0) + cntP path ps := by
  unfold cntP
  rw [List.filter_cons]
  by_cases h : (getL p.tree path).isSome = true
  · simp [h]; omega
  · simp [h]
theorem treesL_dir : ∀ {ps : List Pack} {out t : List Entry} {path : Str} {e : Entry}, (∀ p, p ∈ ps → Asc p.tree) → treeOk out = true → treesL out ps = some t → getL t path = some e →
    ((∃ y, y ∈ out ∧ y.path = path) → 1 ≤ cntP path ps → e.kind = 1) ∧ (2 ≤ cntP path ps → e.kind = 1) := by
  intro ps
  induction ps with
  | nil => intro out t path e _ _ _ _; exact ⟨fun _ h => by simp [cntP] at h, fun h => by simp [cntP] at h⟩
  | cons p r ih =>
    intro out t path e hA ho h he
    have h' := h
    rw [treesL_step] at h
    obtain ⟨o, h1, h2⟩ := Option.bind_eq_some_iff.1 h
    obtain ⟨g1, g2⟩ := stepT_ok h1
    have hAt := treeOk_asc (treesL_ok ho h')
    obtain ⟨i1, i2⟩ := ih (fun q hq => hA q (List.mem_cons_of_mem _ hq)) g1 h2 he
    rw [cntP_cons]
    have same : ∀ x, getL p.tree path = some x → x = e ∧ x ∈ p.tree ∧ x.path = path := fun x hx => by
      obtain ⟨k1, k2⟩ := (getL_iff (hA p List.mem_cons_self)).1 hx
      have : getL t path = some x := (getL_iff hAt).2 ⟨(treesL_in h' x).2 (.inr ⟨p, List.mem_cons_self, k1⟩), k2⟩
      rw [he] at this
      exact ⟨(Option.some.inj this).symm, k1, k2⟩
    cases hg : getL p.tree path with
    | none =>
      simp only [Option.isSome_none, Bool.false_eq_true, if_false, Nat.zero_add]
      exact ⟨fun ⟨y, hy, hyp⟩ hc => i1 ⟨y, (joinL_in g2 y).2 (.inl hy), hyp⟩ hc, i2⟩
    | some x =>
      obtain ⟨rfl, k1, k2⟩ := same x hg
      simp only [Option.isSome_some, if_true]
      exact ⟨fun ⟨y, hy, hyp⟩ _ => joinL_dir (treeOk_asc ho) g2 x k1 y hy (hyp.trans k2.symm), fun hc => i1 ⟨x, (joinL_in g2 x).2 (.inr k1), k2⟩ (by omega)⟩
structure Rt (ps : List Pack) (t : List Entry) : Prop where
  tree : treesL [] ps = some t
  packs : ps.all pkOk = true
  asc : ps.Pairwise fun p q => Op.bytesLess p.name q.name = true
theorem rt_of {ps : List Pack} (h : rootOk ps = true) : ∃ t, Rt ps t := by
  unfold rootOk at h
  simp only [Bool.and_eq_true] at h
  obtain ⟨⟨⟨⟨h1, h2⟩, h3⟩, h4⟩, h5⟩ := h
  obtain ⟨t, ht⟩ := Option.isSome_iff_exists.1 h5
  exact ⟨t, ht, h1, ascP_of h2⟩
section
variable {ps : List Pack} {t : List Entry} (R : Rt ps t)
include R
theorem Rt.ok : treeOk t = true := treesL_ok (by rfl) R.tree
theorem Rt.pk {p : Pack} (h : p ∈ ps) : pkName p.name = true ∧ treeOk p.tree = true := by
  have := List.all_eq_true.1 R.packs p h
  unfold pkOk at this
  simp only [Bool.and_eq_true] at this
  exact ⟨this.1.1.1, this.2⟩
theorem Rt.tr {p : Pack} (h : p ∈ ps) : Asc p.tree := treeOk_asc (R.pk h).2
theorem Rt.up {p : Pack} (h : p ∈ ps) {path : Str} {e : Entry} (he : getL p.tree path = some e) : getL t path = some e := by
  obtain ⟨k1, k2⟩ := (getL_iff (R.tr h)).1 he
  exact (getL_iff (treeOk_asc R.ok)).2 ⟨(treesL_in R.tree e).2 (.inr ⟨p, h, k1⟩), k2⟩
theorem Rt.down {path : Str} {e : Entry} (he : getL t path = some e) : ∃ p, p ∈ ps ∧ getL p.tree path = some e := by
  obtain ⟨k1, k2⟩ := (getL_iff (treeOk_asc R.ok)).1 he
  rcases (treesL_in R.tree e).1 k1 with h | ⟨p, hp, h⟩
  · cases h
  · exact ⟨p, hp, (getL_iff (R.tr hp)).2 ⟨h, k2⟩⟩
theorem Rt.dir {path : Str} {e : Entry} (he : getL t path = some e) (hc : 2 ≤ cntP path ps) : e.kind = 1 := (treesL_dir (fun p hp => R.tr hp) (by rfl) R.tree he).2 hc
theorem Rt.cnt {path : Str} {e : Entry} (he : getL t path = some e) : 1 ≤ cntP path ps := by
  obtain ⟨p, hp, h⟩ := R.down he
  unfold cntP
  exact List.length_pos_iff_exists_mem.2 ⟨p, List.mem_filter.2 ⟨hp, by rw [h]; rfl⟩⟩
end
theorem v_RootTree (a) (hb : BdPs a.1.1.1) (hv : VS a.1.1.1) : f18 a = some (((), ()), ((bif rootOk a.1.1.1 then (treesL [] a.1.1.1).getD [] else []), ())) := by
  obtain ⟨⟨⟨ps, u⟩, u'⟩, u''⟩ := a
  have e1 := v_RootOk (((ps, ()), ()), ()) hb hv
  simp only [f18, e1, Option.bind_some]
  cases hr : rootOk ps with
  | false => rfl
  | true =>
    obtain ⟨t, R⟩ := rt_of hr
    have e2 := v_l9TreeV ((ps, ()), ()) hb R.packs
    simp only [Bool.not_true, cond_false, cond_true, e2, Option.bind_some]
theorem v_iRootTree (a) (hb : BdPs a.1.1.1) (hv : VS a.1.1.1) : f16 a = some (((), ()), ((bif rootOk a.1.1.1 then (treesL [] a.1.1.1).getD [] else []), ())) := by
  obtain ⟨⟨⟨ps, u⟩, u'⟩, u''⟩ := a
  have e1 := v_iRootOk (((ps, ()), ()), ()) hb hv
  simp only [f16, e1, Option.bind_some]
  cases hr : rootOk ps with
  | false => rfl
  | true =>
    obtain ⟨t, R⟩ := rt_of hr
    have e2 := v_joinTreesV ((ps, ()), ()) hb R.packs
    simp only [Bool.not_true, cond_false, cond_true, e2, Option.bind_some]
theorem tree_bd {ps : List Pack} {t : List Entry} (hb : BdPs ps) (R : Rt ps t) : BdEs t := by
  have := treeOk_len R.ok
  refine ⟨by unfold Bd; omega, fun e he => ?_⟩
  rcases (treesL_in R.tree e).1 he with h | ⟨p, hp, h⟩
  · cases h
  · exact (hb.2 p hp).2.2.2.2 e h
noncomputable def c17 : Ctx := { tt := tt, fs := fun n => match n with | _ => none }
theorem k17 (h : ∀ T, (tt T).ok Tryz.prog T) : CtxGood Tryz.prog c17 := ⟨⟨h⟩, fun g S hg => (by cases hg), tt_mo, fun _ _ h => (by cases h), fun _ h => (by cases h)⟩
noncomputable def b17 : Code := codeOf Tryz.f17
@[reducible] noncomputable def s17_58 : Shape := ⟨[(0, .lf (.d (.sl .entry))), (1, .lf (.d (.sl .entry))), (5, .lf (.d (.int .i64)))], [], 26⟩
@[reducible] noncomputable def t17_58 : List OSh := [(.ret, ⟨[(4, .lf (.d (.bool)))], [], 26⟩), (.exit 0, ⟨[], [], 26⟩)]
noncomputable def g17_58 (y : s17_58.Y) : Option (Sum s17_58.Y (YS t17_58)) :=
  bif (decide (y.1.2.2.1 < (y.1.1.length : Int))) then
(ix y.1.1 y.1.2.2.1).bind fun x2106 =>
(ix y.1.2.1 y.1.2.2.1).bind fun x2107 =>
  bif (!((x2106.path == x2107.path) && ((x2106.kind == x2107.kind) && ((x2106.mode == x2107.mode) && (x2106.text == x2107.text))))) then
  some (.inr (.inl ((false, ()), ())))
else
  some (.inl ((y.1.1, (y.1.2.1, ((IntKind.i64.wrap (y.1.2.2.1 + (1 : Int))), ()))), ()))
else
  some (.inr (.inr ((), ())))
theorem r17_58 : ∀ y, g17_58 y = roundF (ctxWith c17 []) (unloop (codeAt b17 1 58)) 58 s17_58 t17_58 y := fun y => by kernel_rfl
noncomputable def l17_58 : s17_58.Y → Option (YS t17_58) := loopF g17_58
theorem q17_58 (H : CtxGood Tryz.prog c17) : FragOk Tryz.prog (codeAt b17 1 58) (fragOrc s17_58 t17_58 l17_58) :=
  loop_at (fr := []) H (by kernel_rfl) (by kernel_rfl) frags_nil (fun y => iter_congr r17_58 y)
@[reducible] noncomputable def i17 : Shape := ⟨[(0, .lf (.d (.sl .entry))), (1, .lf (.d (.sl .entry)))], [], 26⟩
@[reducible] noncomputable def o17 : Shape := ⟨[(4, .lf (.d (.bool)))], [], 26⟩
noncomputable def f17 (a : i17.Y) : Option o17.Y :=
  bif ((a.1.1.length : Int) != (a.1.2.1.length : Int)) then
  some ((false, ()), ())
else
(l17_58 ((a.1.1, (a.1.2.1, ((0 : Int), ()))), ())).bind fun r2108 =>
(match r2108 with
| .inl r2109 =>
  some ((r2109.1.1, ()), ())
| .inr r2110 =>
  some ((true, ()), ()))
theorem e17 : ∀ a, f17 a = bodyF (ctxWith c17 [(58, fragOrc s17_58 t17_58 l17_58)]) b17 i17 o17 a := fun a => by kernel_rfl
noncomputable def S17 : Summ := funSumm tt 26 i17 o17 [.tmp 4] [] f17
theorem z17 (h : ∀ T, (tt T).ok Tryz.prog T) : SummOk Tryz.prog 17 S17 :=
  have H := k17 h
  fun_at (fn := Tryz.f17) (fr := [(58, fragOrc s17_58 t17_58 l17_58)]) H (by kernel_rfl) (by kernel_rfl) (by kernel_rfl) (by kernel_rfl) (by kernel_rfl) ⟨q17_58 H, trivial⟩ (by kernel_rfl) (fun y => ⟨_, _, rfl, rfl, rfl⟩) e17
theorem wf_str {s : Str} (h : WfD (.str s)) : s.length ≤ maxLen := by cases h; assumption
theorem wf_sl {t : Ty} {xs : List (den t)} (h : WfD (.sl t xs)) : xs.length ≤ maxLen ∧ ∀ x, x ∈ xs → ∀ d, d ∈ enc t x → WfD d := by cases h; exact ⟨by assumption, by assumption⟩
theorem wf_bytes {xs : List Int} (h : WfD (.sl .u8 xs)) : ∀ x, x ∈ xs → 0 ≤ x ∧ x ≤ 255 := by
  intro x hx
  have := (wf_sl h).2 x hx (.int .u8 x) (by simp [enc])
  cases this with
  | int k n hw =>
    simp only [Lit.wf, Bool.and_eq_true, decide_eq_true_eq] at hw
    have h1 : (0 : Int) ≤ x := hw.1
    have h2 : x ≤ (255 : Int) := hw.2
    exact ⟨h1, h2⟩
theorem rd_code {code : List Int} (h : ∀ x, x ∈ code → 0 ≤ x ∧ x ≤ 255) : RD (code.take 2000) 0 1000000 :=
  ⟨by rw [List.length_take]; omega, fun x hx => h x (List.mem_of_mem_take hx), Int.le_refl _, by decide⟩
theorem allI_true' {α : Type} : ∀ (xs : List α) (i : Nat), allI (fun _ _ => true) i xs = true := by
  intro xs
  induction xs with
  | nil => intro i; rfl
  | cons x r ih => intro i; simp only [allI, ih, Bool.and_self]
theorem v_jsTree (a) (h : a.1.1 = a.1.2.1) (hl : Bd a.1.1.length) : f17 a = some ((true, ()), ()) := by
  obtain ⟨⟨xs, ys, u⟩, u'⟩ := a
  have h : xs = ys := h
  subst h
  have hs : xs.length ≤ 2097152 := hl
  have key : l17_58 ((xs, (xs, ((0 : Int), ()))), ()) = some (bif allI (fun _ _ => true) 0 xs then .inr ((), ()) else .inl ((false, ()), ())) := by
    refine loop_all g17_58 xs (fun i => ((xs, (xs, ((i : Int), ()))), ())) _ _ _ (fun i x hx => ?_) ?_
    · have hi := get_lt hx
      have hw : Sm i := by unfold Sm; omega
      simp only [g17_58, lt_dec hi, cond_true, ix_nat, hx, Option.bind_some, beq_self_eq_true, Bool.and_self, Bool.not_true, cond_false, wrap_add1 hw]
    · simp only [g17_58, nlt_dec, cond_false]
  rw [allI_true'] at key
  have hb : ((xs.length : Int) != (xs.length : Int)) = false := by simp
  simp only [f17, hb, cond_false, key, cond_true, Option.bind_some]
noncomputable def c56v0 : Ctx := { tt := tt, fs := fun n => match n with | 69 => some S69v0 | 107 => some S107v0 | _ => none }
theorem k56v0 (h : ∀ T, (tt T).ok Tryz.prog T) (h69v0 : SummOk Tryz.prog 69 S69v0) (h107v0 : SummOk Tryz.prog 107 S107v0) : CtxGood Tryz.prog c56v0 := ⟨⟨h⟩, fun g S hg => (by
  simp only [c56v0] at hg
  split at hg
  · cases hg; exact h69v0
  · cases hg; exact h107v0
  · cases hg), tt_mo, fun _ _ h => (by cases h), fun _ h => (by cases h)⟩
noncomputable def b56v0 : Code := codeOf Tryz.f56
@[reducible] noncomputable def s56v0_12 : Shape := ⟨[(0, .lf (.ptr 500000 0)), (1, .lf (.d (.sl .entry)))], [(500000, .box [.d (.sl .u8), .d (.int .i64)], .same)], 23⟩
@[reducible] noncomputable def t56v0_12 : List OSh := [(.norm, ⟨[(0, .lf (.ptr 500000 0)), (1, .lf (.d (.sl .entry))), (12, .lf (.d (.bool)))], [(500000, .box [.d (.sl .u8), .d (.int .i64)], .same)], 23⟩)]
noncomputable def g56v0_12 (y : s56v0_12.Y) : Option (YS t56v0_12) :=
  bif (decide ((y.1.2.1.length : Int) > (0 : Int))) then
(f69v0 (((), ((4 : Int), ())), ((y.2.1.1, (y.2.1.2.1, ())), ()))).bind fun r2042 =>
  some ((((), (y.1.2.1, ((decide (r2042.1.2.1 > (0 : Int))), ()))), ((r2042.2.1.1, (r2042.2.1.2.1, ())), ())))
else
  some ((((), (y.1.2.1, (false, ()))), ((y.2.1.1, (y.2.1.2.1, ())), ())))
theorem r56v0_12 : ∀ y, g56v0_12 y = pieceF (ctxWith c56v0 []) (codeAt b56v0 1 12) 12 s56v0_12 t56v0_12 y := fun y => by kernel_rfl
theorem q56v0_12 (H : CtxGood Tryz.prog c56v0) : FragOk Tryz.prog (codeAt b56v0 1 12) (fragOrc s56v0_12 t56v0_12 g56v0_12) :=
  piece_at (fr := []) H (by kernel_rfl) frags_nil r56v0_12
@[reducible] noncomputable def i56v0 : Shape := ⟨[(0, .lf (.ptr 500000 0)), (1, .lf (.d (.sl .entry)))], [(500000, .box [.d (.sl .u8), .d (.int .i64)], .same)], 23⟩
@[reducible] noncomputable def o56v0 : Shape := ⟨[(0, .lf (.ptr 500000 0)), (4, .lf (.d (.str)))], [(500000, .box [.d (.sl .u8), .d (.int .i64)], .same)], 23⟩
noncomputable def f56v0 (a : i56v0.Y) : Option o56v0.Y :=
(g56v0_12 (((), (a.1.2.1, ())), ((a.2.1.1, (a.2.1.2.1, ())), ()))).bind fun r2053 =>
  bif r2053.1.2.2.1 then
(f69v0 (((), ((r2053.1.2.1.length : Int), ())), ((r2053.2.1.1, (r2053.2.1.2.1, ())), ()))).bind fun r2054 =>
(ix r2053.1.2.1 r2054.1.2.1).bind fun x2055 =>
  some (((), (x2055.path, ())), ((r2054.2.1.1, (r2054.2.1.2.1, ())), ()))
else
(f107v0 (((), ()), ((r2053.2.1.1, (r2053.2.1.2.1, ())), ()))).bind fun r2056 =>
  some (((), (r2056.1.2.1, ())), ((r2056.2.1.1, (r2056.2.1.2.1, ())), ()))
theorem e56v0 : ∀ a, f56v0 a = bodyF (ctxWith c56v0 [(12, fragOrc s56v0_12 t56v0_12 g56v0_12)]) b56v0 i56v0 o56v0 a := fun a => by kernel_rfl
noncomputable def S56v0 : Summ := funSumm tt 23 i56v0 o56v0 [.tmp 4] [0] f56v0
theorem z56v0 (h : ∀ T, (tt T).ok Tryz.prog T) (h69v0 : SummOk Tryz.prog 69 S69v0) (h107v0 : SummOk Tryz.prog 107 S107v0) : SummOk Tryz.prog 56 S56v0 :=
  have H := k56v0 h h69v0 h107v0
  fun_at (fn := Tryz.f56) (fr := [(12, fragOrc s56v0_12 t56v0_12 g56v0_12)]) H (by kernel_rfl) (by kernel_rfl) (by kernel_rfl) (by kernel_rfl) (by kernel_rfl) ⟨q56v0_12 H, trivial⟩ (by kernel_rfl) (fun y => ⟨_, _, rfl, rfl, rfl⟩) e56v0
noncomputable def c23 : Ctx := { tt := tt, fs := fun n => match n with | 18 => some S18 | 47 => some S47v0 | 56 => some S56v0 | _ => none, op := fun n => match n with | 48 => true | _ => false }
theorem k23 (h : ∀ T, (tt T).ok Tryz.prog T) (h18 : SummOk Tryz.prog 18 S18) (h47v0 : SummOk Tryz.prog 47 S47v0) (h56v0 : SummOk Tryz.prog 56 S56v0) (hO : OpenOk Tryz.prog 48) : CtxGood Tryz.prog c23 := ⟨⟨h⟩, fun g S hg => (by
  simp only [c23] at hg
  split at hg
  · cases hg; exact h18
  · cases hg; exact h47v0
  · cases hg; exact h56v0
  · cases hg), tt_mo, fun _ _ h => (by cases h), fun g hg => (by
  simp only [c23] at hg
  split at hg
  · exact hO
  · cases hg)⟩
noncomputable def b23 : Code := codeOf Tryz.f23
@[reducible] noncomputable def i23 : Shape := ⟨[(0, .lf (.d (.sl .u8)))], [], 15⟩
@[reducible] noncomputable def o23 : Shape := ⟨[(2, .lf (.ptr 2 0)), (3, .lf (.d (.str)))], [(2, .box [.d (.sl .pack)], .same)], 15⟩
noncomputable def f23 (a : i23.Y) : Option o23.Y :=
(f47v0 (((), ()), (((a.1.1.take 2000), ((0 : Int), ())), ()))).bind fun r2059 =>
(f18 (((r2059.2.2.1.1, ()), ()), ())).bind fun r2060 =>
(f56v0 (((), (r2060.2.1, ())), ((r2059.2.1.1, (r2059.2.1.2.1, ())), ()))).bind fun r2061 =>
  some (((), (r2061.1.2.1, ())), ((r2059.2.2.1.1, ()), ()))
theorem e23 : ∀ a, f23 a = bodyF (ctxWith c23 []) b23 i23 o23 a := fun a => by kernel_rfl
noncomputable def S23 : Summ := funSumm tt 15 i23 o23 [.cell 2 25, .tmp 3] [] f23
theorem z23 (h : ∀ T, (tt T).ok Tryz.prog T) (h18 : SummOk Tryz.prog 18 S18) (h47v0 : SummOk Tryz.prog 47 S47v0) (h56v0 : SummOk Tryz.prog 56 S56v0) (hO : OpenOk Tryz.prog 48) : SummOk Tryz.prog 23 S23 :=
  have H := k23 h h18 h47v0 h56v0 hO
  fun_at (fn := Tryz.f23) (fr := []) H (by kernel_rfl) (by kernel_rfl) (by kernel_rfl) (by kernel_rfl) (by kernel_rfl) frags_nil (by kernel_rfl) (fun y => ⟨_, _, rfl, rfl, rfl⟩) e23
noncomputable def c4 : Ctx := { tt := tt, fs := fun n => match n with | 16 => some S16 | 20 => some S20 | 21 => some S21 | 23 => some S23 | 24 => some S24 | 25 => some S25 | _ => none }
theorem k4 (h : ∀ T, (tt T).ok Tryz.prog T) (h16 : SummOk Tryz.prog 16 S16) (h20 : SummOk Tryz.prog 20 S20) (h21 : SummOk Tryz.prog 21 S21) (h23 : SummOk Tryz.prog 23 S23) (h24 : SummOk Tryz.prog 24 S24) (h25 : SummOk Tryz.prog 25 S25) : CtxGood Tryz.prog c4 := ⟨⟨h⟩, fun g S hg => (by
  simp only [c4] at hg
  split at hg
  · cases hg; exact h16
  · cases hg; exact h20
  · cases hg; exact h21
  · cases hg; exact h23
  · cases hg; exact h24
  · cases hg; exact h25
  · cases hg), tt_mo, fun _ _ h => (by cases h), fun _ h => (by cases h)⟩
noncomputable def b4 : Code := codeOf Tryz.f4
@[reducible] noncomputable def s4_124 : Shape := ⟨[(3, .lf (.ptr 3 0)), (4, .lf (.d (.str))), (5, .lf (.d (.str)))], [(3, .box [.d (.sl .pack)], .same)], 83⟩
@[reducible] noncomputable def t4_124 : List OSh := [(.norm, ⟨[(3, .lf (.ptr 3 0)), (4, .lf (.d (.str))), (5, .lf (.d (.str))), (31, .lf (.d (.bool)))], [(3, .box [.d (.sl .pack)], .same)], 83⟩)]
noncomputable def g4_124 (y : s4_124.Y) : Option (YS t4_124) :=
(f25 (((y.2.1.1, ()), (y.1.2.1, ())), ())).bind fun r2133 =>
  bif (!(!(y.1.2.2.1 == r2133.1.1))) then
(f20 (((y.2.1.1, ()), ()), ())).bind fun r2134 =>
  some ((((), (y.1.2.1, (y.1.2.2.1, ((!r2134.1.1), ())))), ((y.2.1.1, ()), ())))
else
  some ((((), (y.1.2.1, (y.1.2.2.1, (true, ())))), ((y.2.1.1, ()), ())))
theorem r4_124 : ∀ y, g4_124 y = pieceF (ctxWith c4 []) (codeAt b4 1 124) 124 s4_124 t4_124 y := fun y => by kernel_rfl
theorem q4_124 (H : CtxGood Tryz.prog c4) : FragOk Tryz.prog (codeAt b4 1 124) (fragOrc s4_124 t4_124 g4_124) :=
  piece_at (fr := []) H (by kernel_rfl) frags_nil r4_124
@[reducible] noncomputable def s4_508 : Shape := ⟨[(3, .lf (.ptr 3 0)), (4, .lf (.d (.str))), (5, .lf (.d (.str))), (6, .lf (.ptr 6 0)), (7, .lf (.d (.bool)))], [(3, .box [.d (.sl .pack)], .same), (6, .box [.d (.str), .d (.int .i64), .d (.int .i64), .d (.str)], .same)], 83⟩
@[reducible] noncomputable def t4_508 : List OSh := [(.norm, ⟨[(3, .lf (.ptr 3 0)), (4, .lf (.d (.str))), (5, .lf (.d (.str))), (50, .lf (.d (.bool)))], [(3, .box [.d (.sl .pack)], .same)], 83⟩)]
noncomputable def g4_508 (y : s4_508.Y) : Option (YS t4_508) :=
  bif (!(!y.1.2.2.2.2.1)) then
  some ((((), (y.1.2.1, (y.1.2.2.1, ((y.2.2.1.2.1 == (1 : Int)), ())))), ((y.2.1.1, ()), ())))
else
  some ((((), (y.1.2.1, (y.1.2.2.1, (true, ())))), ((y.2.1.1, ()), ())))
theorem r4_508 : ∀ y, g4_508 y = pieceF (ctxWith c4 []) (codeAt b4 1 508) 508 s4_508 t4_508 y := fun y => by kernel_rfl
theorem q4_508 (H : CtxGood Tryz.prog c4) : FragOk Tryz.prog (codeAt b4 1 508) (fragOrc s4_508 t4_508 g4_508) :=
  piece_at (fr := []) H (by kernel_rfl) frags_nil r4_508
@[reducible] noncomputable def s4_2042 : Shape := ⟨[(3, .lf (.ptr 3 0)), (4, .lf (.d (.str))), (5, .lf (.d (.str))), (8, .lf (.d (.int .i64)))], [(3, .box [.d (.sl .pack)], .same)], 83⟩
@[reducible] noncomputable def t4_2042 : List OSh := [(.ret, ⟨[(2, .lf (.d (.bool)))], [], 83⟩), (.exit 0, ⟨[(5, .lf (.d (.str)))], [], 83⟩)]
noncomputable def g4_2042 (y : s4_2042.Y) : Option (Sum s4_2042.Y (YS t4_2042)) :=
  bif (decide (y.1.2.2.2.1 < (y.2.1.1.length : Int))) then
(ix y.2.1.1 y.1.2.2.2.1).bind fun x2179 =>
(f21 ((x2179.tree, (y.1.2.1, ())), ())).bind fun r2180 =>
(ix y.2.1.1 y.1.2.2.2.1).bind fun x2182 =>
  bif (!(r2180.1.2.1 == (x2182.name == y.1.2.2.1))) then
  some (.inr (.inl ((false, ()), ())))
else
  some (.inl (((), (y.1.2.1, (y.1.2.2.1, ((IntKind.i64.wrap (y.1.2.2.2.1 + (1 : Int))), ())))), ((y.2.1.1, ()), ())))
else
  some (.inr (.inr ((y.1.2.2.1, ()), ())))
theorem r4_2042 : ∀ y, g4_2042 y = roundF (ctxWith c4 []) (unloop (codeAt b4 1 2042)) 2042 s4_2042 t4_2042 y := fun y => by kernel_rfl
noncomputable def l4_2042 : s4_2042.Y → Option (YS t4_2042) := loopF g4_2042
theorem q4_2042 (H : CtxGood Tryz.prog c4) : FragOk Tryz.prog (codeAt b4 1 2042) (fragOrc s4_2042 t4_2042 l4_2042) :=
  loop_at (fr := []) H (by kernel_rfl) (by kernel_rfl) frags_nil (fun y => iter_congr r4_2042 y)
@[reducible] noncomputable def i4 : Shape := ⟨[(0, .lf (.d (.sl .u8)))], [], 83⟩
@[reducible] noncomputable def o4 : Shape := ⟨[(2, .lf (.d (.bool)))], [], 83⟩
noncomputable def f4 (a : i4.Y) : Option o4.Y :=
  bif (decide ((a.1.1.length : Int) > (1048576 : Int))) then
  some ((true, ()), ())
else
(f23 ((a.1.1, ()), ())).bind fun r2158 =>
(f24 (((r2158.2.1.1, ()), (r2158.1.2.1, ())), ())).bind fun r2160 =>
(g4_124 (((), (r2158.1.2.1, (r2160.1.1, ()))), ((r2158.2.1.1, ()), ()))).bind fun r2163 =>
  bif r2163.1.2.2.2.1 then
(f25 (((r2163.2.1.1, ()), (r2163.1.2.1, ())), ())).bind fun r2164 =>
  some (((r2163.1.2.2.1 == r2164.1.1), ()), ())
else
(f16 (((r2163.2.1.1, ()), ()), ())).bind fun r2167 =>
(f21 ((r2167.2.1, (r2163.1.2.1, ())), ())).bind fun r2168 =>
(g4_508 (((), (r2163.1.2.1, (r2163.1.2.2.1, ((), (r2168.1.2.1, ()))))), ((r2163.2.1.1, ()), ((r2168.2.1.1, (r2168.2.1.2.1, (r2168.2.1.2.2.1, (r2168.2.1.2.2.2.1, ())))), ())))).bind fun r2170 =>
  bif r2170.1.2.2.2.1 then
  some (((r2170.1.2.2.1 == ([] : Str)), ()), ())
else
(l4_2042 (((), (r2170.1.2.1, (r2170.1.2.2.1, ((0 : Int), ())))), ((r2170.2.1.1, ()), ()))).bind fun r2186 =>
(match r2186 with
| .inl r2187 =>
  some ((r2187.1.1, ()), ())
| .inr r2188 =>
  some (((!(r2188.1.1 == ([] : Str))), ()), ()))
theorem e4 : ∀ a, f4 a = bodyF (ctxWith c4 [(124, fragOrc s4_124 t4_124 g4_124), (508, fragOrc s4_508 t4_508 g4_508), (2042, fragOrc s4_2042 t4_2042 l4_2042)]) b4 i4 o4 a := fun a => by kernel_rfl
noncomputable def S4 : Summ := funSumm tt 83 i4 o4 [.tmp 2] [] f4
theorem z4 (h : ∀ T, (tt T).ok Tryz.prog T) (h16 : SummOk Tryz.prog 16 S16) (h20 : SummOk Tryz.prog 20 S20) (h21 : SummOk Tryz.prog 21 S21) (h23 : SummOk Tryz.prog 23 S23) (h24 : SummOk Tryz.prog 24 S24) (h25 : SummOk Tryz.prog 25 S25) : SummOk Tryz.prog 4 S4 :=
  have H := k4 h h16 h20 h21 h23 h24 h25
  fun_at (fn := Tryz.f4) (fr := [(124, fragOrc s4_124 t4_124 g4_124), (508, fragOrc s4_508 t4_508 g4_508), (2042, fragOrc s4_2042 t4_2042 l4_2042)]) H (by kernel_rfl) (by kernel_rfl) (by kernel_rfl) (by kernel_rfl) (by kernel_rfl) ⟨q4_124 H, q4_508 H, q4_2042 H, trivial⟩ (by kernel_rfl) (fun y => ⟨_, _, rfl, rfl, rfl⟩) e4
theorem v_l11At (a) (m : Nat) (h : RD a.2.1.1 a.2.1.2.1 m) (hm : 10 ≤ m) : Ev (f56v0 a) (fun _ => True) := by
  obtain ⟨⟨u0, (t : List Entry), u1⟩, ⟨⟨(b : List Int), (p : Int), u2⟩, u3⟩⟩ := a
  have h : RD b p m := h
  unfold f56v0
  refine Ev.bind (P := fun r => RD r.2.1.1 r.2.1.2.1 (m - 1) ∧ r.1.2.1 = t ∧ (r.1.2.2.1 = true → 0 < t.length)) ?_ fun r hr => ?_
  · unfold g56v0_12
    refine Ev.ite (fun hc => ?_) fun _ => Ev.ret ⟨h.less (by omega), rfl, fun h => by cases h⟩
    have hc : (t.length : Int) > 0 := of_decide_eq_true hc
    exact Ev.bind (v_pick _ m h (by omega)) fun r hr => Ev.ret ⟨hr.1, rfl, fun _ => by omega⟩
  · obtain ⟨⟨v0, (t' : List Entry), (c : Bool), v1⟩, ⟨⟨(b' : List Int), (p' : Int), v2⟩, v3⟩⟩ := r
    obtain ⟨r1, r2, r3⟩ := hr
    have r2 : t' = t := r2
    subst r2
    refine Ev.ite (fun hc => ?_) fun _ => Ev.bind (v_l11AnyPath _ _ r1 (by omega)) fun r _ => Ev.ret trivial
    have hl := r3 hc
    refine Ev.bind (v_pick _ _ r1 (by omega)) fun r hr => ?_
    obtain ⟨x, k1, _⟩ := ix_in (xs := t') hr.2.1 (hr.2.2 (by show (1 : Int) ≤ (t'.length : Int); omega))
    exact Ev.eq k1 (Ev.ret trivial)
theorem v_DrawRootOwner (a) (h : RD (a.1.1.take 2000) 0 1000000) : Ev (f23 a) (fun r => ShR 5 r.2.1.1) := by
  unfold f23
  refine Ev.bind (v_l11AnyRoot _ 1000000 h (by decide)) fun r hr => ?_
  have hb := hr.2.ok.bd (by decide)
  have hv := hr.2.ok.vs
  refine Ev.eq (v_RootTree (((r.2.2.1.1, ()), ()), ()) hb hv) ?_
  exact Ev.bind (v_l11At _ _ hr.1 (by decide)) fun r2 _ => Ev.ret hr.2
theorem ownL_none {path : Str} : ∀ {ps : List Pack}, (∀ p, p ∈ ps → ∀ e, getL p.tree path = some e → e.kind = 1) → ownL path ps = [] := by
  intro ps
  induction ps with
  | nil => intro _; rfl
  | cons p r ih =>
    intro h
    have ih := ih fun q hq => h q (List.mem_cons_of_mem _ hq)
    unfold ownL
    cases hg : getL p.tree path with
    | none => exact ih
    | some e =>
      have := h p List.mem_cons_self e hg
      simp only [this]
      exact ih
theorem ownL_one {path : Str} {e : Entry} (he : e.kind ≠ 1) : ∀ {ps : List Pack}, (∀ p, p ∈ ps → ∀ x, getL p.tree path = some x → x = e) → cntP path ps = 1 → ∃ p, p ∈ ps ∧ ownL path ps = p.name ∧ getL p.tree path = some e ∧ ∀ q, q ∈ ps → (getL q.tree path).isSome = true → q = p := by
  intro ps
  induction ps with
  | nil => intro _ h; simp [cntP] at h
  | cons p r ih =>
    intro h hc
    rw [cntP_cons] at hc
    unfold ownL
    cases hg : getL p.tree path with
    | none =>
      rw [hg] at hc
      simp only [Option.isSome_none, Bool.false_eq_true, if_false, Nat.zero_add] at hc
      obtain ⟨q, h1, h2, h3, h4⟩ := ih (fun q hq => h q (List.mem_cons_of_mem _ hq)) hc
      refine ⟨q, List.mem_cons_of_mem _ h1, h2, h3, fun x hx hs => ?_⟩
      rcases List.mem_cons.1 hx with rfl | hx
      · rw [hg] at hs; cases hs
      · exact h4 x hx hs
    | some x =>
      have hx := h p List.mem_cons_self x hg
      subst hx
      rw [hg] at hc
      simp only [Option.isSome_some, if_true] at hc
      have hk : (x.kind != 1) = true := by simp [he]
      simp only [hk, cond_true]
      refine ⟨p, List.mem_cons_self, rfl, hg, fun q hq hs => ?_⟩
      rcases List.mem_cons.1 hq with rfl | hq
      · rfl
      · exfalso
        have : 0 < cntP path r := by
          unfold cntP
          exact List.length_pos_iff_exists_mem.2 ⟨q, List.mem_filter.2 ⟨hq, hs⟩⟩
        omega
theorem v_FnRootOwner (a) (h : ∀ x, x ∈ (a.1.1 : List Int) → 0 ≤ x ∧ x ≤ 255) : Ev (f4 a) (fun r => r.1.1 = true) := by
  unfold f4
  refine Ev.ite (fun _ => Ev.ret rfl) fun _ => ?_
  refine Ev.bind (v_DrawRootOwner _ (rd_code h)) fun r hr => ?_
  obtain ⟨⟨u0, (path : Str), u3⟩, ⟨⟨(ps : List Pack), u1⟩, u2⟩⟩ := r
  have hr : ShR 5 ps := hr
  have hb := hr.ok.bd (by decide)
  have hv := hr.ok.vs
  have hl : ps.length ≤ 5 := hr.1
  have e1 := v_iRootOwner (((ps, ()), (path, ())), ()) hb hv
  have e2 := v_RootOwner (((ps, ()), (path, ())), ()) hb hv
  have e3 := v_RootOk (((ps, ()), ()), ()) hb hv
  have e5 := v_iRootTree (((ps, ()), ()), ()) hb hv
  refine Ev.eq e1 ?_
  cases hk : rootOk ps with
  | false =>
    simp only [hk, cond_false] at e2 e3
    simp only [cond_false, g4_124, e2, e3, Option.bind_some, beq_self_eq_true, Bool.not_true, Bool.not_false, cond_true]
    exact Ev.ret rfl
  | true =>
    obtain ⟨t, R⟩ := rt_of hk
    have hbt := tree_bd hb R
    have hT : (treesL [] ps).getD [] = t := by rw [R.tree]; rfl
    have e6 := v_TreeGet ((t, (path, ())), ()) hbt
    simp only [R.ok, Bool.true_and, cond_true] at e6
    simp only [hk, cond_true, hT] at e2 e3 e5
    simp only [cond_true, g4_124, e2, e3, e5, e6, Option.bind_some, beq_self_eq_true, Bool.not_true, Bool.not_false, cond_false]
    cases hg : getL t path with
    | none =>
      have : ownL path ps = [] := ownL_none fun p hp e he => by
        have := R.up hp he
        rw [hg] at this
        cases this
      simp only [Option.isSome_none, g4_508, Bool.not_false, Bool.not_true, cond_false, Option.bind_some, cond_true, this]
      exact Ev.ret rfl
    | some e =>
      simp only [Option.isSome_some, g4_508, Bool.not_true, Bool.not_false, cond_true, Option.bind_some]
      cases hk1 : (e.kind == 1) with
      | true =>
        have hk1 : e.kind = 1 := by simpa using hk1
        have : ownL path ps = [] := ownL_none fun p hp x hx => by
          have := R.up hp hx
          rw [hg] at this
          rw [← Option.some.inj this]; exact hk1
        simp only [this, cond_true]
        exact Ev.ret rfl
      | false =>
        have hk1 : e.kind ≠ 1 := by simpa using hk1
        have hc : cntP path ps = 1 := by
          have h1 := R.cnt hg
          by_cases h2 : 2 ≤ cntP path ps
          · exact absurd (R.dir hg h2) hk1
          · omega
        obtain ⟨p, hp, ho, hpe, hu⟩ := ownL_one hk1 (fun q hq x hx => by
          have := R.up hq hx
          rw [hg] at this
          exact (Option.some.inj this).symm) hc
        have loop : l4_2042 (((), (path, (p.name, ((0 : Int), ())))), ((ps, ()), ())) = some (bif allI (fun _ _ => true) 0 ps then .inr ((p.name, ()), ()) else .inl ((false, ()), ())) := by
          refine loop_all g4_2042 ps (fun i => (((), (path, (p.name, ((i : Int), ())))), ((ps, ()), ()))) (fun _ _ => true) _ _ (fun i q hq => ?_) ?_
          · have hi := get_lt hq
            have hw : Sm i := by unfold Sm; omega
            have hqm := List.mem_of_getElem? hq
            have eg := v_TreeGet ((q.tree, (path, ())), ()) (hb.2 q hqm).2.2.2
            simp only [(R.pk hqm).2, Bool.true_and, cond_true] at eg
            have same : (getL q.tree path).isSome = (q.name == p.name) := by
              cases hs : (getL q.tree path).isSome with
              | true => rw [hu q hqm hs]; simp
              | false =>
                symm
                cases hn : (q.name == p.name) with
                | false => rfl
                | true =>
                  exfalso
                  have hn : q.name = p.name := eq_of_beq hn
                  have hqp : q = p := by
                    rcases List.mem_iff_getElem.1 hqm with ⟨i1, hi1, rfl⟩
                    rcases List.mem_iff_getElem.1 hp with ⟨j1, hj1, rfl⟩
                    have hpw := List.pairwise_iff_getElem.1 R.asc
                    rcases Nat.lt_trichotomy i1 j1 with h | h | h
                    · have := hpw i1 j1 hi1 hj1 h; rw [hn, bl_irr] at this; cases this
                    · subst h; rfl
                    · have := hpw j1 i1 hj1 hi1 h; rw [hn, bl_irr] at this; cases this
                  rw [hqp, hpe] at hs
                  cases hs
            simp only [g4_2042, lt_dec hi, cond_true, ix_nat, hq, Option.bind_some, eg, same, beq_self_eq_true, Bool.not_true, cond_false, wrap_add1 hw]
          · simp only [g4_2042, nlt_dec, cond_false]
        rw [allI_true'] at loop
        have hne : (p.name == ([] : Str)) = false := by
          have := (R.pk hp).1
          cases hpn : p.name with
          | nil => rw [hpn] at this; cases this
          | cons b r => rfl
        rw [ho]
        simp only [cond_false]
        refine Ev.eq loop ?_
        exact Ev.ret (by show (!(p.name == ([] : Str))) = true; rw [hne]; rfl)
theorem pure_FnRootOwner : LawOk S4 [(false, [.sl .u8])] := by
  rintro ⟨⟨code, u⟩, u'⟩ ⟨h, _⟩
  obtain ⟨r, hr, hq⟩ := v_FnRootOwner ((code, ()), ()) (wf_bytes (h (.sl .u8 code) (by simp [mkDs, SD.mk])))
  obtain ⟨⟨b, v⟩, v'⟩ := r
  have hq : b = true := hq
  subst hq
  exact ⟨((true, ()), ()), hr, rfl⟩
noncomputable def SH243 : Summ := indexSumm
theorem zH243 (h : ∀ T, (tt T).ok Tryz.prog T) : SummOk Tryz.prog 243 SH243 := indexByte_ok (fn := Tryz.f243) (by kernel_rfl) (by kernel_rfl) (by kernel_rfl) (by kernel_rfl) (by kernel_rfl)
noncomputable def c237 : Ctx := { tt := tt, fs := fun n => match n with | 243 => some SH243 | _ => none }
theorem k237 (h : ∀ T, (tt T).ok Tryz.prog T) (hH243 : SummOk Tryz.prog 243 SH243) : CtxGood Tryz.prog c237 := ⟨⟨h⟩, fun g S hg => (by
  simp only [c237] at hg
  split at hg
  · cases hg; exact hH243
  · cases hg), tt_mo, fun _ _ h => (by cases h), fun _ h => (by cases h)⟩
noncomputable def b237 : Code := codeOf Tryz.f237
@[reducible] noncomputable def i237 : Shape := ⟨[(0, .lf (.d (.str))), (1, .lf (.d (.int .u8)))], [], 8⟩
@[reducible] noncomputable def o237 : Shape := ⟨[(4, .lf (.d (.int .i64)))], [], 8⟩
noncomputable def f237 (a : i237.Y) : Option o237.Y :=
(some ()).bind fun r2220 =>
  some (((Lib.indexByte a.1.1 (a.1.2.1).toNat.toUInt8), ()), ())
theorem e237 : ∀ a, f237 a = bodyF (ctxWith c237 []) b237 i237 o237 a := fun a => by kernel_rfl
noncomputable def S237 : Summ := funSumm tt 8 i237 o237 [.tmp 4] [] f237
theorem z237 (h : ∀ T, (tt T).ok Tryz.prog T) (hH243 : SummOk Tryz.prog 243 SH243) : SummOk Tryz.prog 237 S237 :=
  have H := k237 h hH243
  fun_at (fn := Tryz.f237) (fr := []) H (by kernel_rfl) (by kernel_rfl) (by kernel_rfl) (by kernel_rfl) (by kernel_rfl) frags_nil (by kernel_rfl) (fun y => ⟨_, _, rfl, rfl, rfl⟩) e237
noncomputable def c233 : Ctx := { tt := tt, fs := fun n => match n with | 237 => some S237 | _ => none }
theorem k233 (h : ∀ T, (tt T).ok Tryz.prog T) (h237 : SummOk Tryz.prog 237 S237) : CtxGood Tryz.prog c233 := ⟨⟨h⟩, fun g S hg => (by
  simp only [c233] at hg
  split at hg
  · cases hg; exact h237
  · cases hg), tt_mo, fun _ _ h => (by cases h), fun _ h => (by cases h)⟩
noncomputable def b233 : Code := codeOf Tryz.f233
@[reducible] noncomputable def s233_56 : Shape := ⟨[(0, .lf (.d (.str))), (1, .lf (.d (.str))), (5, .lf (.d (.int .i64)))], [], 143⟩
@[reducible] noncomputable def t233_56 : List OSh := [(.norm, ⟨[(0, .lf (.d (.str))), (1, .lf (.d (.str))), (5, .lf (.d (.int .i64))), (16, .lf (.d (.bool)))], [], 143⟩)]
noncomputable def g233_56 (y : s233_56.Y) : Option (YS t233_56) :=
  bif (!(y.1.2.2.1 == (0 : Int))) then
  some (((y.1.1, (y.1.2.1, (y.1.2.2.1, ((y.1.2.1 == y.1.1), ())))), ()))
else
  some (((y.1.1, (y.1.2.1, (y.1.2.2.1, (true, ())))), ()))
theorem r233_56 : ∀ y, g233_56 y = pieceF (ctxWith c233 []) (codeAt b233 1 56) 56 s233_56 t233_56 y := fun y => by kernel_rfl
theorem q233_56 (H : CtxGood Tryz.prog c233) : FragOk Tryz.prog (codeAt b233 1 56) (fragOrc s233_56 t233_56 g233_56) :=
  piece_at (fr := []) H (by kernel_rfl) frags_nil r233_56
@[reducible] noncomputable def i233 : Shape := ⟨[(0, .lf (.d (.str))), (1, .lf (.d (.str)))], [], 143⟩
@[reducible] noncomputable def o233 : Shape := ⟨[(4, .lf (.d (.int .i64)))], [], 143⟩
noncomputable def f233 (a : i233.Y) : Option o233.Y :=
(g233_56 ((a.1.1, (a.1.2.1, ((a.1.2.1.length : Int), ()))), ())).bind fun r2222 =>
  bif r2222.1.2.2.2.1 then
  some (((0 : Int), ()), ())
else
  bif (r2222.1.2.2.1 == (1 : Int)) then
(ix r2222.1.2.1 (0 : Int)).bind fun x2223 =>
(f237 ((r2222.1.1, ((x2223.toNat : Int), ())), ())).bind fun r2224 =>
  some ((r2224.1.1, ()), ())
else
  bif (decide (r2222.1.2.2.1 ≥ (r2222.1.1.length : Int))) then
  some ((((-1) : Int), ()), ())
else
  none
theorem e233 : ∀ a, f233 a = bodyF (ctxWith c233 [(56, fragOrc s233_56 t233_56 g233_56)]) b233 i233 o233 a := fun a => by kernel_rfl
noncomputable def S233 : Summ := funSumm tt 143 i233 o233 [.tmp 4] [] f233
theorem z233 (h : ∀ T, (tt T).ok Tryz.prog T) (h237 : SummOk Tryz.prog 237 S237) : SummOk Tryz.prog 233 S233 :=
  have H := k233 h h237
  fun_at (fn := Tryz.f233) (fr := [(56, fragOrc s233_56 t233_56 g233_56)]) H (by kernel_rfl) (by kernel_rfl) (by kernel_rfl) (by kernel_rfl) (by kernel_rfl) ⟨q233_56 H, trivial⟩ (by kernel_rfl) (fun y => ⟨_, _, rfl, rfl, rfl⟩) e233
noncomputable def c221 : Ctx := { tt := tt, fs := fun n => match n with | 233 => some S233 | _ => none }
theorem k221 (h : ∀ T, (tt T).ok Tryz.prog T) (h233 : SummOk Tryz.prog 233 S233) : CtxGood Tryz.prog c221 := ⟨⟨h⟩, fun g S hg => (by
  simp only [c221] at hg
  split at hg
  · cases hg; exact h233
  · cases hg), tt_mo, fun _ _ h => (by cases h), fun _ h => (by cases h)⟩
noncomputable def b221 : Code := codeOf Tryz.f221
@[reducible] noncomputable def i221 : Shape := ⟨[(0, .lf (.d (.str))), (1, .lf (.d (.str)))], [], 8⟩
@[reducible] noncomputable def o221 : Shape := ⟨[(4, .lf (.d (.int .i64)))], [], 8⟩
noncomputable def f221 (a : i221.Y) : Option o221.Y :=
(f233 ((a.1.1, (a.1.2.1, ())), ())).bind fun r2226 =>
  some ((r2226.1.1, ()), ())
theorem e221 : ∀ a, f221 a = bodyF (ctxWith c221 []) b221 i221 o221 a := fun a => by kernel_rfl
noncomputable def S221 : Summ := funSumm tt 8 i221 o221 [.tmp 4] [] f221
theorem z221 (h : ∀ T, (tt T).ok Tryz.prog T) (h233 : SummOk Tryz.prog 233 S233) : SummOk Tryz.prog 221 S221 :=
  have H := k221 h h233
  fun_at (fn := Tryz.f221) (fr := []) H (by kernel_rfl) (by kernel_rfl) (by kernel_rfl) (by kernel_rfl) (by kernel_rfl) frags_nil (by kernel_rfl) (fun y => ⟨_, _, rfl, rfl, rfl⟩) e221
theorem sp195 (s p : ByteArray) (k : Int) (w : World) : Calls Tryz.prog 195 #[.string s, .string p, .int .i64 k] w fun e w' =>
    e = .returned (.func (.func 219) #[] #[.pointer (some ⟨w.heap.size + 1, 0, none⟩), .pointer (some ⟨w.heap.size, 0, none⟩), .pointer (some ⟨w.heap.size + 2, 0, none⟩)]) ∧
    w' = ((w.alloc (.cells #[.string s] 9)).alloc (.cells #[.string p] 9)).alloc (.cells #[.int .i64 k] 3) := by
  go_enter Tryz.func195, Tryz.ntmps195
  go_wp2
  go_ret
  exact ⟨rfl, rfl⟩
theorem sp155 (s p : ByteArray) (w : World) : Calls Tryz.prog 155 #[.string s, .string p] w fun e w' =>
    e = .returned (.func (.func 219) #[] #[.pointer (some ⟨w.heap.size + 1, 0, none⟩), .pointer (some ⟨w.heap.size, 0, none⟩), .pointer (some ⟨w.heap.size + 2, 0, none⟩)]) ∧
    w' = ((w.alloc (.cells #[.string s] 9)).alloc (.cells #[.string p] 9)).alloc (.cells #[.int .i64 0] 3) := by
  go_enter Tryz.func155, Tryz.ntmps155
  go_wp2_with (go_at_call 195; refine (sp195 _ _ _ _).mono ?_; rintro e w' ⟨rfl, rfl⟩)
  go_ret
  exact ⟨rfl, rfl⟩
theorem y155 : SplitOk Tryz.prog 155 219 := fun a b w => .inl ⟨enters_of Tryz.func155 (by kernel_rfl) rfl _ _, (sp155 a b w).mono fun e w' h => by obtain ⟨rfl, rfl⟩ := h; exact ⟨9, 3, rfl, rfl⟩⟩
noncomputable def c219 : Ctx := { tt := tt, fs := fun n => match n with | 221 => some S221 | _ => none }
theorem k219 (h : ∀ T, (tt T).ok Tryz.prog T) (h221 : SummOk Tryz.prog 221 S221) : CtxGood Tryz.prog c219 := ⟨⟨h⟩, fun g S hg => (by
  simp only [c219] at hg
  split at hg
  · cases hg; exact h221
  · cases hg), tt_mo, fun _ _ h => (by cases h), fun _ h => (by cases h)⟩
noncomputable def b219 : Code := codeOf Tryz.f219
noncomputable def l219 : Code := unloop (codeAt b219 1 12)
noncomputable def op219 (p j : Nat) : Oper := (opsOf (codeAt l219 24 p)).getD j default
def ridOf : Code → Nat
  | .region i _ _ => i
  | _ => 0
noncomputable def oq219 (j : Nat) : Oper := (opsOf (codeAt b219 1 7)).getD j default
theorem idx221 (c : UInt8) (r : Str) : f221 ((r, ([c], ())), ()) = some ((Lib.indexByte r c, ()), ()) := by
  have h0 : ix ([c] : Str) (0 : Int) = some c := rfl
  have h1 : ((([c] : Str).length : Int) == 0) = false := rfl
  have h2 : ((([c] : Str).length : Int) == 1) = true := rfl
  have h3 : ((c.toNat : Int)).toNat.toUInt8 = c := by simp
  simp only [f221, f233, g233_56, f237, h0, h1, h2, h3, Bool.not_false, cond_true, cond_false, Option.bind_some, Option.bind]
  by_cases h : (([c] : Str) == r) = true
  · have : r = [c] := (by simpa using h : [c] = r).symm
    subst this
    simp [Lib.indexByte] <;> rfl
  · simp [h] <;> rfl
theorem e219B (c : UInt8) (r : Str) : exec (ctxWith c219 []) (codeAt l219 24 96) 96 (ist 52 c r) (kIdx (ctxWith c219 []) 52 7 8 (codeAt l219 24 194) (codeAt l219 24 390) 194 390) =
  (f221 ((r, ([c], ())), ())).bind fun q => bif decide (q.1.1 < 0) then some (.inl (iy 52 c r)) else (subl r 0 (IntKind.i64.wrap (q.1.1 + 0))).bind fun x => some (.inr ((q.1.1, x), iy 52 c r)) := by kernel_rfl
theorem x219 (h : ∀ T, (tt T).ok Tryz.prog T) (h221 : SummOk Tryz.prog 221 S221) : IterOk Tryz.prog 219 :=
  iter_ok (C := ctxWith c219 []) (k219 h h221) (fn := Tryz.f219) (k := 52) (A := codeAt b219 1 2) (r5 := codeAt l219 24 96) (c6 := codeAt l219 24 194) (r7 := codeAt l219 24 390) (r9 := codeAt l219 24 783)
    (o0 := op219 1564 0) (o1 := op219 1564 1) (o2 := op219 1564 2) (o3 := op219 1564 3) (q0 := oq219 0) (q1 := oq219 1) (q2 := oq219 2) (pA := 2) (p5 := 96) (p6 := 194) (p7 := 390) (p9 := 783) (t7 := 7) (t8 := 8) (a1 := 39) (a2 := 40)
    (t41 := 41) (t42 := 42) (u1 := 49) (u2 := 50) (ty := #[9]) (ty' := #[9])
    { isFn := (by kernel_rfl), nt := (by kernel_rfl), k4 := (by decide), res := (by kernel_rfl), ent := enters_of Tryz.func219 (by kernel_rfl) rfl, body := ⟨ridOf (codeAt l219 24 1564), ridOf (codeAt b219 1 7), (by kernel_rfl)⟩, nr := (by kernel_rfl), wr := (by kernel_rfl),
      gd := ⟨(by kernel_rfl), (by kernel_rfl), (by kernel_rfl), (by kernel_rfl), (by kernel_rfl), (by kernel_rfl), (by kernel_rfl)⟩, wo := (by kernel_rfl), wq := (by kernel_rfl), d2 := (by kernel_rfl), lt41 := (by decide), c2 := (by kernel_rfl), d5 := (by kernel_rfl),
      orcs := ⟨orcs_frags (by kernel_rfl) frags_nil, orcs_frags (by kernel_rfl) frags_nil, orcs_frags (by kernel_rfl) frags_nil, orcs_frags (by kernel_rfl) frags_nil, orcs_frags (by kernel_rfl) frags_nil⟩,
      hA := fun c r => (by kernel_rfl), hB := fun c r => (e219B c r).trans (by rw [idx221]; rfl), hT := fun c r i x v => (by kernel_rfl), h3 := fun c r b => (by kernel_rfl), h30 := (by kernel_rfl), hC := fun c r i => (by kernel_rfl), hQ := fun c r v => (by kernel_rfl) }
    (by kernel_rfl) (by decide)
theorem oqn (w : World) : Calls Tryz.prog 48 #[.slice none 0 0] w fun e w' => e = .returned (.pointer (some ⟨w.heap.size, 0, none⟩)) ∧ w' = w.alloc (.cells #[.slice none 0 0, .int .i64 0] 115) := by
  go_enter Tryz.func48, Tryz.ntmps48
  go_wp2
  go_ret
  exact ⟨rfl, rfl⟩
theorem oqs (w : World) (a : Addr) (n c : Nat) (h : n ≤ 2000) : Calls Tryz.prog 48 #[.slice (some a) n c] w fun e w' => e = .returned (.pointer (some ⟨w.heap.size, 0, none⟩)) ∧ w' = w.alloc (.cells #[.slice (some a) n c, .int .i64 0] 115) := by
  have h1 : ¬ ((n : Int) > 2000) := by omega
  go_enter Tryz.func48, Tryz.ntmps48
  go_wp2
  go_ret
  exact ⟨rfl, rfl⟩
theorem oqb (w : World) (a : Addr) (n c : Nat) (h : 2000 < n) (hc : n ≤ c) : Calls Tryz.prog 48 #[.slice (some a) n c] w fun e w' => e = .returned (.pointer (some ⟨w.heap.size, 0, none⟩)) ∧ w' = w.alloc (.cells #[.slice (some a) 2000 c, .int .i64 0] 115) := by
  have h1 : ((n : Int) > 2000) := by omega
  go_enter Tryz.func48, Tryz.ntmps48
  go_wp2
  go_ret
  exact ⟨rfl, rfl⟩
theorem op48 : OpenOk Tryz.prog 48 := fun xs v w av hr => .inl ⟨enters_of Tryz.func48 (by kernel_rfl) rfl _ _, by
  have fin : ∀ {v : Value} {u : Value}, Rd w av (.sl .u8 (xs.take 2000)) u → Calls Tryz.prog 48 #[v] w (fun e w' => e = .returned (.pointer (some ⟨w.heap.size, 0, none⟩)) ∧ w' = w.alloc (.cells #[u, .int .i64 0] 115)) →
      Calls Tryz.prog 48 #[v] w fun e w' => match e, w' with
        | .returned v', w' => ∃ u T, Rd w av (.sl .u8 (xs.take 2000)) u ∧ v' = .pointer (some ⟨w.heap.size, 0, none⟩) ∧ w' = w.alloc (.cells #[u, .int .i64 0] T)
        | _, _ => False := fun hu hc => hc.mono fun e w' h => by obtain ⟨rfl, rfl⟩ := h; exact ⟨_, _, hu, rfl, rfl⟩
  cases hr with
  | nil => exact fin (.nil .u8) (oqn w)
  | sl t xs a cap cs n hn hcap hb hl hc hr =>
    by_cases h : 2000 < n
    · refine fin (u := .slice (some a) 2000 cap) ?_ (oqb w a n cap h hcap)
      have hlen : (xs.take 2000).length = 2000 := by simp only [List.length_take]; omega
      have hf : flat .u8 (xs.take 2000) = (flat .u8 xs).take 2000 := by rw [flat_take]; rfl
      refine .sl .u8 (xs.take 2000) a cap (cs.take 2000) 2000 hlen.symm (by omega) (fun hx => hb (fun e => hx (by rw [e]; rfl))) (by rw [hf, List.length_take, List.length_take, hl]) (fun j u hu => ?_) (fun j h1 h2 => ?_)
      · rw [List.getElem?_take] at hu
        split at hu
        · exact hc j u hu
        · cases hu
      · have h1' : j < (flat .u8 xs).length := by rw [hf, List.length_take] at h1; omega
        have h2' : j < cs.length := by rw [List.length_take] at h2; omega
        have e1 : (flat .u8 (xs.take 2000))[j] = (flat .u8 xs)[j] := by simp only [hf, List.getElem_take]
        have e2 : (cs.take 2000)[j] = cs[j] := List.getElem_take
        rw [e1, e2]
        exact hr j h1' h2'
    · refine fin (u := .slice (some a) n cap) ?_ (oqs w a n cap (by omega))
      rw [List.take_of_length_le (by omega)]
      exact .sl .u8 xs a cap cs n hn hcap hb hl hc hr⟩
theorem xH243 : SummOk Tryz.prog 243 SH243 := zH243 tt_ok
theorem x237 : SummOk Tryz.prog 237 S237 := z237 tt_ok xH243
theorem x233 : SummOk Tryz.prog 233 S233 := z233 tt_ok x237
theorem x221 : SummOk Tryz.prog 221 S221 := z221 tt_ok x233
theorem it219 : IterOk Tryz.prog 219 := x219 tt_ok x221
theorem x108 : SummOk Tryz.prog 108 S108 := z108 tt_ok
theorem x171 : SummOk Tryz.prog 171 S171 := z171 tt_ok
theorem x129 : SummOk Tryz.prog 129 S129 := z129 tt_ok x171 y155 it219
theorem x109 : SummOk Tryz.prog 109 S109 := z109 tt_ok x129
theorem x111 : SummOk Tryz.prog 111 S111 := z111 tt_ok x108 x109
theorem x110v0 : SummOk Tryz.prog 110 S110v0 := z110v0 tt_ok x111
theorem x113 : SummOk Tryz.prog 113 S113 := z113 tt_ok
theorem x160 : SummOk Tryz.prog 160 S160 := z160 tt_ok
theorem x198 : SummOk Tryz.prog 198 S198 := z198 tt_ok
theorem x161 : SummOk Tryz.prog 161 S161 := z161 tt_ok x198
theorem x112v0 : SummOk Tryz.prog 112 S112v0 := z112v0 tt_ok x113 x160 x161
theorem x222 : SummOk Tryz.prog 222 S222 := z222 tt_ok
theorem x196 : SummOk Tryz.prog 196 S196 := z196 tt_ok x222
theorem x156 : SummOk Tryz.prog 156 S156 := z156 tt_ok x196
theorem x104 : SummOk Tryz.prog 104 S104 := z104 tt_ok x156 y155 it219
theorem x157 : SummOk Tryz.prog 157 S157 := z157 tt_ok
theorem x105 : SummOk Tryz.prog 105 S105 := z105 tt_ok x157
theorem x54 : SummOk Tryz.prog 54 S54 := z54 tt_ok x104 x105
theorem x197 : SummOk Tryz.prog 197 S197 := z197 tt_ok
theorem x158 : SummOk Tryz.prog 158 S158 := z158 tt_ok x197
theorem x106 : SummOk Tryz.prog 106 S106 := z106 tt_ok x104 x158
theorem x162 : SummOk Tryz.prog 162 S162 := z162 tt_ok
theorem x116 : SummOk Tryz.prog 116 S116 := z116 tt_ok x162
theorem x103 : SummOk Tryz.prog 103 S103 := z103 tt_ok x116
theorem x102v0 : SummOk Tryz.prog 102 S102v0 := z102v0 tt_ok x103
theorem x53 : SummOk Tryz.prog 53 S53 := z53 tt_ok x102v0
theorem x55 : SummOk Tryz.prog 55 S55 := z55 tt_ok x53 x106
theorem x22 : SummOk Tryz.prog 22 S22 := z22 tt_ok x54 x55
theorem x58 : SummOk Tryz.prog 58 S58 := z58 tt_ok x22 x108 x109 x110v0 x112v0
theorem x94v0 : SummOk Tryz.prog 94 S94v0 := z94v0 tt_ok x58
theorem x95 : SummOk Tryz.prog 95 S95 := z95 tt_ok
theorem x93v0 : SummOk Tryz.prog 93 S93v0 := z93v0 tt_ok x94v0 x95
theorem x96v0 : SummOk Tryz.prog 96 S96v0 := z96v0 tt_ok
theorem x228 : SummOk Tryz.prog 228 S228 := z228 tt_ok
theorem x207 : SummOk Tryz.prog 207 S207 := z207 tt_ok x228
theorem x172 : SummOk Tryz.prog 172 S172 := z172 tt_ok x207
theorem x130 : SummOk Tryz.prog 130 S130 := z130 tt_ok x172
theorem x71 : SummOk Tryz.prog 71 S71 := z71 tt_ok x129 x130
theorem x142 : SummOk Tryz.prog 142 S142 := z142 tt_ok x71 x109 x111
theorem x149v0 : SummOk Tryz.prog 149 S149v0 := z149v0 tt_ok x142
theorem x191v0 : SummOk Tryz.prog 191 S191v0 := z191v0 tt_ok x149v0
theorem x150v0 : SummOk Tryz.prog 150 S150v0 := z150v0 tt_ok x191v0
theorem x98 : SummOk Tryz.prog 98 S98 := z98 tt_ok x150v0
theorem x97v0 : SummOk Tryz.prog 97 S97v0 := z97v0 tt_ok x98
theorem x145 : SummOk Tryz.prog 145 S145 := z145 tt_ok
theorem xH146 : SummOk Tryz.prog 146 SH146 := zH146 tt_ok
theorem x91 : SummOk Tryz.prog 91 S91 := z91 tt_ok x22 x53 x145 xH146
theorem x49 : SummOk Tryz.prog 49 S49 := z49 tt_ok x91
theorem x99v0 : SummOk Tryz.prog 99 S99v0 := z99v0 tt_ok x49
theorem x51 : SummOk Tryz.prog 51 S51 := z51 tt_ok x93v0 x96v0 x97v0 x99v0
theorem x19 : SummOk Tryz.prog 19 S19 := z19 tt_ok x51
theorem x16 : SummOk Tryz.prog 16 S16 := z16 tt_ok x19 x49
theorem x192 : SummOk Tryz.prog 192 S192 := z192 tt_ok
theorem x208 : SummOk Tryz.prog 208 S208 := z208 tt_ok
theorem x236 : SummOk Tryz.prog 236 S236 := z236 tt_ok
theorem x231 : SummOk Tryz.prog 231 S231 := z231 tt_ok x192 x236
theorem x216 : SummOk Tryz.prog 216 S216 := z216 tt_ok x208 x231
theorem x217 : SummOk Tryz.prog 217 S217 := z217 tt_ok x192
theorem x188 : SummOk Tryz.prog 188 S188 := z188 tt_ok x192 x216 x217
theorem x57 : SummOk Tryz.prog 57 S57 := z57 tt_ok
theorem x189 : SummOk Tryz.prog 189 S189 := z189 tt_ok x57
theorem x190 : SummOk Tryz.prog 190 S190 := z190 tt_ok
theorem x148 : SummOk Tryz.prog 148 S148 := z148 tt_ok x188 x189 x190
theorem x151 : SummOk Tryz.prog 151 S151 := z151 tt_ok x192
theorem x209 : SummOk Tryz.prog 209 S209 := z209 tt_ok
theorem x173 : SummOk Tryz.prog 173 S173 := z173 tt_ok x192 x208 x209
theorem x152 : SummOk Tryz.prog 152 S152 := z152 tt_ok x173
theorem x218 : SummOk Tryz.prog 218 S218 := z218 tt_ok x151 x152 x192
theorem x193 : SummOk Tryz.prog 193 S193 := z193 tt_ok x218
theorem x194 : SummOk Tryz.prog 194 S194 := z194 tt_ok
theorem x153 : SummOk Tryz.prog 153 S153 := z153 tt_ok x193 x194
theorem x100 : SummOk Tryz.prog 100 S100 := z100 tt_ok x148 x151 x152 x153
theorem x125 : SummOk Tryz.prog 125 S125 := z125 tt_ok
theorem x174 : SummOk Tryz.prog 174 S174 := z174 tt_ok
theorem x131 : SummOk Tryz.prog 131 S131 := z131 tt_ok x173 x174
theorem x154 : SummOk Tryz.prog 154 S154 := z154 tt_ok x131
theorem x101 : SummOk Tryz.prog 101 S101 := z101 tt_ok x125 x154
theorem x147 : SummOk Tryz.prog 147 S147 := z147 tt_ok
theorem x92 : SummOk Tryz.prog 92 S92 := z92 tt_ok x57 x147 x148
theorem x50 : SummOk Tryz.prog 50 S50 := z50 tt_ok x92
theorem x52 : SummOk Tryz.prog 52 S52 := z52 tt_ok x50 x100 x101
theorem x20 : SummOk Tryz.prog 20 S20 := z20 tt_ok x52
theorem x21 : SummOk Tryz.prog 21 S21 := z21 tt_ok x22 x53
theorem x18 : SummOk Tryz.prog 18 S18 := z18 tt_ok x20 x50
theorem x69v0 : SummOk Tryz.prog 69 S69v0 := z69v0 tt_ok
theorem x70v0 : SummOk Tryz.prog 70 S70v0 := z70v0 tt_ok x69v0
theorem x167v0 : SummOk Tryz.prog 167 S167v0 := z167v0 tt_ok x70v0
theorem x123v0 : SummOk Tryz.prog 123 S123v0 := z123v0 tt_ok x69v0 x70v0 x167v0
theorem x241 : SummOk Tryz.prog 241 S241 := z241 tt_ok x236
theorem x234 : SummOk Tryz.prog 234 S234 := z234 tt_ok x236 x241
theorem x224 : SummOk Tryz.prog 224 S224 := z224 tt_ok x208 x234
theorem x242 : SummOk Tryz.prog 242 S242 := z242 tt_ok
theorem x235 : SummOk Tryz.prog 235 S235 := z235 tt_ok x241 x242
theorem x225 : SummOk Tryz.prog 225 S225 := z225 tt_ok x235
theorem x200 : SummOk Tryz.prog 200 S200 := z200 tt_ok x208 x216 x224 x225
theorem x226 : SummOk Tryz.prog 226 S226 := z226 tt_ok
theorem x201 : SummOk Tryz.prog 201 S201 := z201 tt_ok x200 x226
theorem x168 : SummOk Tryz.prog 168 S168 := z168 tt_ok x148 x200 x201
theorem x202 : SummOk Tryz.prog 202 S202 := z202 tt_ok x57 x147 x188 x189 x190
theorem x159v0 : SummOk Tryz.prog 159 S159v0 := z159v0 tt_ok x70v0
theorem x205v0 : SummOk Tryz.prog 205 S205v0 := z205v0 tt_ok x69v0
theorem x206 : SummOk Tryz.prog 206 S206 := z206 tt_ok
theorem x227v0 : SummOk Tryz.prog 227 S227v0 := z227v0 tt_ok x70v0 x206
theorem x203v0 : SummOk Tryz.prog 203 S203v0 := z203v0 tt_ok x69v0 x159v0 x205v0 x227v0
theorem x204 : SummOk Tryz.prog 204 S204 := z204 tt_ok
theorem x169v0 : SummOk Tryz.prog 169 S169v0 := z169v0 tt_ok x69v0 x202 x203v0 x204
theorem x120v0 : SummOk Tryz.prog 120 S120v0 := z120v0 tt_ok x69v0 x70v0 x123v0 x167v0 x168 x169v0
theorem x121v0 : SummOk Tryz.prog 121 S121v0 := z121v0 tt_ok x69v0 x70v0 x167v0
theorem x122v0 : SummOk Tryz.prog 122 S122v0 := z122v0 tt_ok x69v0 x70v0 x121v0 x123v0
theorem x107v0 : SummOk Tryz.prog 107 S107v0 := z107v0 tt_ok x69v0 x70v0 x159v0
theorem x170v0 : SummOk Tryz.prog 170 S170v0 := z170v0 tt_ok x69v0 x70v0 x107v0 x203v0 x205v0 x206
theorem x124v0 : SummOk Tryz.prog 124 S124v0 := z124v0 tt_ok x69v0 x147 x169v0 x170v0
theorem x64v0 : SummOk Tryz.prog 64 S64v0 := z64v0 tt_ok x69v0 x70v0 x120v0 x121v0 x122v0 x123v0 x124v0
theorem x128 : SummOk Tryz.prog 128 S128 := z128 tt_ok x147
theorem x66 : SummOk Tryz.prog 66 S66 := z66 tt_ok x128
theorem x126 : SummOk Tryz.prog 126 S126 := z126 tt_ok x52
theorem x127 : SummOk Tryz.prog 127 S127 := z127 tt_ok x128
theorem x65 : SummOk Tryz.prog 65 S65 := z65 tt_ok x100 x125 x126 x127
theorem x90v0 : SummOk Tryz.prog 90 S90v0 := z90v0 tt_ok x65 x69v0 x70v0 x120v0
theorem x47v0 : SummOk Tryz.prog 47 S47v0 := z47v0 tt_ok x64v0 x66 x69v0 x90v0
theorem x56v0 : SummOk Tryz.prog 56 S56v0 := z56v0 tt_ok x69v0 x107v0
theorem x23 : SummOk Tryz.prog 23 S23 := z23 tt_ok x18 x47v0 x56v0 op48
theorem x24 : SummOk Tryz.prog 24 S24 := z24 tt_ok x19 x21
theorem x25 : SummOk Tryz.prog 25 S25 := z25 tt_ok x20 x57
theorem x4 : SummOk Tryz.prog 4 S4 := z4 tt_ok x16 x20 x21 x23 x24 x25
end Go.Proofs
