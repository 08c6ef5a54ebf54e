/- FnExactDiskNew: the program's DiskNew returns what the reference's returns, for all arguments. (part 2 of 6: JkOps18, JkCall1, JkCall2, JkCall3, JkCall4, JkCall5, JkBld, JkCall6, JkDraw1, JkLogic, JkWalk0, JkDraw2, JkDraw3, JkWalk1, JkShape, JkShape2, JkWalk2) Conditions: none beyond the statement. -/
import Derived.Test.YtemnnicnbdmhkaaGreatDoorZFnExactDiskNew0
import Derived.RangeFuncRecord
import Derived.Below
import Derived.RangeFuncSeq
import Derived.Orders
import Derived.OrdersIn
import Derived.ControlIn
import Derived.LoopIn
import Derived.RangeFuncCalls
set_option linter.unusedVariables false
set_option linter.unusedSimpArgs false
namespace Go.Jk
theorem jqa {P : Program} {e : TypeId} {t : Ty} (h : arrElem P e t) : esz t = 1 ∧ (∃ d z, Scal P e d z) ∧ ∃ l z', zlf t = some l ∧ zt t = some z' ∧ asD (enc t z') = [l] := by
 cases t <;> first | exact h.elim | exact ⟨rfl, ⟨_, _, h⟩, _, _, rfl, rfl, rfl⟩
theorem arrElem_u8 {P : Program} {e : TypeId} {t : Ty} {T : TypeId} (h : arrElem P e t) : t.isB = true → T = gU8 := by intro h'; cases t <;> first | exact h.elim | cases h'
theorem flat_cons (t : Ty) (x : den t) (xs : List (den t)) : jjM t (x :: xs) = enc t x ++ jjM t xs := by simp [jjM]
theorem asD_app (a b : List D) : asD (a ++ b) = asD a ++ asD b := by simp [asD]
theorem arrL_eq {t : Ty} {z : den t} (hz : zt t = some z) (xs : List (den t)) : arrL t xs xs.length = asD (jjM t xs) := by
 unfold arrL
 rw [hz]
 suffices h : ∀ (ys zs : List (den t)), xs = zs ++ ys → ((List.range' zs.length ys.length).flatMap fun j => asD (enc t (xs.getD j z))) = asD (jjM t ys) by
  have := h xs [] rfl
  rw [List.length_nil, ← List.range_eq_range'] at this
  exact this
 intro ys
 induction ys with
 | nil => intro zs _; rfl
 | cons y ys ih =>
  intro zs hx
  rw [List.length_cons, List.range'_succ, List.flatMap_cons, flat_cons, asD_app]
  have e1 : xs.getD zs.length z = y := by rw [hx]; simp [List.getD]
  have e2 := ih (zs ++ [y]) (by rw [hx]; simp)
  rw [List.length_append, List.length_singleton] at e2
  rw [e1, e2]
theorem decA_eq {t : Ty} : ∀ {ls : List Lf} {xs : List (den t)}, decA t ls = some xs → ls = asD (jjM t xs) := by
 intro ls
 induction ls with
 | nil => intro xs h; cases h; rfl
 | cons l ls ih =>
  intro xs h
  cases l <;> try (cases h; done)
  rename_i d
  simp only [decA] at h
  split at h
  ·rename_i x ys h1 h2
   cases h
   rw [flat_cons, asD_app, ← ih h2, dec_enc _ _ _ h1]
   rfl
  ·cases h
theorem jzy {α : Type} {n : Nat} {xs ys : List α} (h : jq9 n xs = some ys) : ys = xs ∧ xs.length = n := by
 unfold jq9 at h
 split at h
 ·cases h; exact ⟨rfl, by assumption⟩
 ·cases h
section
variable {P : Program} {w0 : World} {fb : List Nat} {X : Nat → Prop} {ι : Nat → Value} {st : St} {tm : Array Value} {w : World} {o : Oper}
theorem Sim.gl (S : Sim w0 fb X ι st tm w) : gOk w ∧ ∀ b, b ∈ gBs → ¬ jjh X ι st.sites b ∧ b < w.heap.size := by
 have G := S.glob
 refine ⟨gKeep (fun b hb => S.frame.block b (G.lt b hb) (G.fb b hb)) G.ok, fun b hb => ⟨?_, Nat.lt_of_lt_of_le (G.lt b hb) S.frame.size⟩⟩
 rintro (h | ⟨σ, h1, h2⟩)
 ·exact G.X b hb h
 ·rcases (S.mine σ b h1 h2).2 with h | h
  ·exact G.fb b hb h
  ·have := G.lt b hb; omega
theorem one_of {ds : List D} {vs : List Value} {av : Nat → Prop} (h : RdsOk w av ds vs) : ∀ u ∈ vs, u.oneCell' = true := by
 intro u hu
 obtain ⟨j, hj, rfl⟩ := List.getElem_of_mem hu
 exact (h.2 j (by rw [← h.1]; exact hj) hj).oneCell
theorem newA_ok (S : Sim w0 fb X ι st tm w) {T : TypeId} {σ n : Nat} {t : Ty} {xs : List (den t)} {vs : List Value} (he : esz t = 1) (hU : t.isB = true → T = gU8) (hv : RdsOk w (jjh X ι st.sites) (jjM t xs) vs) (hd : jjJ st o.dst = true)
  (hrun : (execOp (Act.eval ⟨tm, []⟩) o).run P w = .ok (.value (.pointer (some ⟨w.heap.size, 0, none⟩))) (w.alloc (.cells vs.toArray T (0, 0)))) : Holds (newA σ st t n xs) (jjA P w0 fb X st tm w o) := by
 unfold newA
 cases hc : (xs.length.beq n && Nat.ble n 1000) with
 | false => exact .fail
 | true =>
  simp only [Bool.and_eq_true] at hc
  have h1 := Nat.eq_of_beq_eq_true hc.1
  have h2 := Nat.le_of_ble_eq_true hc.2
  simp only [cond_true]
  have hl : vs.length = xs.length := by rw [hv.1, jjp, he, Nat.mul_one]
  have S' := S.makeRow (σ := σ) (T := T) (rest := []) (cap := n) hv (by rw [he, hl, h1]; simp) (by unfold maxLen; omega) hU
  rw [List.append_nil] at S'
  refine Holds.okU (jj1 (us := [(σ, .row (jjd st σ) t xs)]) S' hd hrun ?_)
  refine ⟨w.heap.size, by simp, Ref.mk (site := .row (jjd st σ) t xs) ?_ rfl ⟨xs.length, n, by simp⟩⟩
  simp only [jjN, jjl]; simp
theorem allocA_ok (S : Sim w0 fb X ι st tm w) {C : Ctx} (H : CtxOk P C) {elem e : TypeId} {t : Ty} {n σ : Nat} (hT : C.tt elem = .arr e t n) (ho : o.op = .alloc elem) (hd : jjJ st o.dst = true) : Holds (allocA σ st t n) (jjA P w0 fb X st tm w o) := by
 have hTo := H.tt elem
 rw [hT] at hTo
 obtain ⟨_, _, hel⟩ := id hTo
 obtain ⟨he, _, l, z', hzl, hz', hzz⟩ := jqa hel
 unfold allocA
 rw [hz']
 obtain ⟨v, hv, hzv⟩ := TI.run_zero (w := w) hTo (z := List.replicate n l) (by simp only [TI.zero, hzl, Option.map_some])
 obtain ⟨h1, h2, h3⟩ := jxj hzv
 have hr : RdsOk w (jjh X ι st.sites) (jjM t (List.replicate n z')) v.cells.toList := by
  have := h3 ι st.sites w (jjh X ι st.sites)
  have e1 : ∀ n, asD (jjM t (List.replicate n z')) = List.replicate n l := by
   intro n
   induction n with
   | zero => rfl
   | succ n ih => rw [List.replicate_succ, flat_cons, asD_app, hzz, List.replicate_succ, ih]; rfl
  refine jqy (ι := ι) (sites := st.sites) ?_
  rw [e1]
  exact ⟨h1, this⟩
 refine newA_ok (T := elem) S he (arrElem_u8 hel) hr hd ?_
 unfold execOp
 simp [ho, Instr.alloc, hv, newVar, newRow]
theorem boxA_ok (S : Sim w0 fb X ι st tm w) {C : Ctx} (H : CtxOk P C) {elem e : TypeId} {t : Ty} {n σ : Nat} {x : Operand} (hT : C.tt elem = .arr e t n) (ho : o.op = .box elem x) (hd : jjJ st o.dst = true) : Holds (boxA σ st t n (ev C st elem x)) (jjA P w0 fb X st tm w o) := by
 have hTo := H.tt elem
 rw [hT] at hTo
 have he := (jqa hTo.2.2).1
 have hev := jqe S C elem x
 unfold boxA
 split
 ·rename_i ls hx
  rw [hx] at hev
  split
  ·rename_i xs hxs
   obtain ⟨vs, hv, hl, hr⟩ : ∃ vs : List Value, Act.eval ⟨tm, []⟩ x = .agg vs.toArray ∧ vs.length = ls.length ∧ ∀ j (h : j < ls.length) (h' : j < vs.length), LfOk ι st.sites w (jjh X ι st.sites) (ls[j]) (vs[j]) := hev
   have hls : LfsOk ι st.sites w (jjh X ι st.sites) ls vs := ⟨hl, hr⟩
   rw [decA_eq hxs] at hls
   refine newA_ok (T := elem) S he (arrElem_u8 hTo.2.2) (jqy hls) hd ?_
   unfold execOp
   simp [ho, Instr.box, newVar, newRow, hv, Value.cells]
  ·exact .fail
 ·exact .fail
theorem Sim.arr (S : Sim w0 fb X ι st tm w) {σ s : Nat} {t : Ty} {xs : List (den t)} {v : Value} (hr : jxC st σ s = some ⟨t, xs⟩) (hv : LfOk ι st.sites w (jjh X ι st.sites) (.optr σ s t 0 0) v) :
  ∃ b c, ∃ cs : List Value, v = .pointer (some ⟨b, 0, none⟩) ∧ ι σ = .slice (some ⟨b, 0, none⟩) xs.length c ∧ CellsAt w b 0 cs ∧ RdsOk w (jjh X ι st.sites) (jjM t xs) cs := by
 obtain ⟨cs, hl, hcell⟩ := S.row hr
 obtain ⟨site, hsl, hss⟩ : ∃ site, jjB st.sites σ = some site ∧ site.stamp = s := by
  rcases jjY hr with h | h <;> exact ⟨_, h, rfl⟩
 obtain ⟨b, hv, hev2⟩ := hv
 obtain ⟨n, c, hι⟩ := Ref.at hev2 hsl hss
 rcases hcell with ⟨hnil, _⟩ | ⟨b', c', hι', hcs, _⟩
 ·rw [hι] at hnil; cases hnil
 ·rw [hι] at hι'
  cases hι'
  exact ⟨b, c, cs, by simpa using hv, hι, hcs, jqy hl⟩
theorem loadA_ok (S : Sim w0 fb X ι st tm w) {C : Ctx} (H : CtxOk P C) {T e : TypeId} {t : Ty} {n : Nat} {x : Operand} (hT : C.tt T = .arr e t n) (ho : o.op = .load T x) (hd : jjJ st o.dst = true) : Holds (loadA st t n (ev C st T x)) (jjA P w0 fb X st tm w o) := by
 have hTo := H.tt T
 rw [hT] at hTo
 obtain ⟨he, _, _, z', _, hz', _⟩ := jqa hTo.2.2
 have hev := jqe S C T x
 unfold loadA
 split
 ·rename_i σ s u hx
  rw [hx] at hev
  split
  ·rename_i t' xs hrow
   split
   ·rename_i htt
    obtain ⟨rfl, rfl⟩ := htt
    refine Holds.opt fun y hy => ?_
    obtain ⟨rfl, hlen⟩ := jzy (hy : jq9 n xs = some y)
    obtain ⟨b, c, cs, hv, _, hc, hr⟩ := S.arr hrow hev
    have hcl : cs.length = n := by rw [hr.1, jjp, he, hlen, Nat.mul_one]
    refine jjm S hd (vv := .agg cs.toArray) ?_ ?_
    ·have hrun := jqf (P := P) (w := w) hTo (by rintro h; cases h) ⟨b, 0, none⟩ cs hcl (fun j u hu => by rw [jqD]; exact hc j u hu)
     unfold execOp
     simp only [ho, Instr.loadAt, Instr.sureAddr, hv, Sem.run_bind, Sem.run_pure, Result.andThen_ok, hrun]
     rfl
    ·subst hlen
     have := jqM (ι := ι) (sites := st.sites) hr.1 hr.2
     rw [← arrL_eq hz'] at this
     exact ⟨cs, rfl, this.1, this.2⟩
   ·exact .fail
  ·exact .fail
 ·exact .fail
theorem storeA_ok (S : Sim w0 fb X ι st tm w) {C : Ctx} (H : CtxOk P C) {T e : TypeId} {t : Ty} {n : Nat} {a x : Operand} {v : AV} (hT : C.tt T = .arr e t n) (ho : o.op = .store T a x) (hd : jjJ st o.dst = true) (hv : avOf (ev C st T x) = some v) :
  Holds (storeA st t n (ev C st T a) v) (jjA P w0 fb X st tm w o) := by
 have hTo := H.tt T
 rw [hT] at hTo
 have he := (jqa hTo.2.2).1
 have hea := jqe S C T a
 have hex := jqe S C T x
 rw [jxt hv] at hex
 unfold storeA
 split
 ·rename_i σ s u ls hx
  rw [hx] at hea
  split
  ·rename_i s' t' xs hsite
   have hsite : jjB st.sites σ = some (.row s' t' xs) := hsite
   split
   ·rename_i htt
    obtain ⟨rfl, rfl, rfl⟩ := htt
    split
    ·rename_i ys hys
     cases hc : ys.length.beq n with
     | false => exact .fail
     | true =>
      have hyl := Nat.eq_of_beq_eq_true hc
      refine Holds.optU fun r hr => ?_
      obtain ⟨_, hlen⟩ := jzy (hr : jq9 n xs = some r)
      obtain ⟨vs, hvv, hl, hrd⟩ : ∃ vs : List Value, Act.eval ⟨tm, []⟩ x = .agg vs.toArray ∧ vs.length = ls.length ∧ ∀ j (h : j < ls.length) (h' : j < vs.length), LfOk ι st.sites w (jjh X ι st.sites) (ls[j]) (vs[j]) := hex
      have hls : LfsOk ι st.sites w (jjh X ι st.sites) ls vs := ⟨hl, hrd⟩
      rw [decA_eq hys] at hls
      have hrv := jqy hls
      have hvl : vs.length = n := by rw [hrv.1, jjp, he, hyl, Nat.mul_one]
      obtain ⟨b, hpv, hev2⟩ := hea
      obtain ⟨m, c, hι⟩ := Ref.at hev2 hsite rfl
      obtain ⟨e', cs, hown, hcs⟩ := S.sites σ _ hsite
      rcases hown.2 with ⟨hn, _⟩ | ⟨g, cap, cur, fz, hg1, hz, hg, hnc, hcm, hcur, htk⟩
      ·rw [hι] at hn; cases hn
      ·rw [hι] at hg1
       cases hg1
       have hcz : cur.size = c := by rw [hcur, he, Nat.mul_one]
       have hfit : 0 + vs.length ≤ cur.toList.length := by
        have : cur.toList.length = cur.size := Array.length_toList
        omega
       have S' : Sim w0 fb X ι { st with sites := upd st.sites σ (.row s' t' ys) } tm (w.setRow b (splice cur.toList 0 vs).toArray) := by
        refine S.write hsite rfl rfl rfl (by rw [hι]; rfl) hg (fun hs hw hg' go => ?_)
        refine ⟨e', vs, ⟨by rw [he, hyl, Nat.mul_one]; exact hvl, .inr ⟨b, c, _, fz, by rw [hι, hlen, hyl], ?_, hg', by omega, hcm, ?_, ?_⟩⟩, fun j g1 g2 => rd_sv go (hrv.2 j g1 g2)⟩
        ·refine ⟨hz.1, hz.2.imp id fun h => ⟨h.1, ?_⟩⟩
         rw [List.size_toArray, jqv _ _ _ hfit]
         simpa using h.2
        ·rw [List.size_toArray, jqv _ _ _ hfit, Array.length_toList, hcz, he, Nat.mul_one]
        ·rw [he, Nat.mul_one, hyl, ← hvl]
         simp [splice]
       refine jzP (us := [(σ, .row s' t' ys)]) S' hd ?_
       have hrun := jzs (P := P) (w := w) hTo (by rintro h; cases h) (vv := .agg vs.toArray) (cur := cur.toList) (off := 0) (by simpa using hg) (by simpa using hz) (by simpa [Value.cells, TI.size] using hvl) (by simpa [Value.cells] using hfit) (by simpa [Value.cells] using one_of hrv)
       unfold execOp
       simp only [ho, hpv, hvv, Instr.storeAt, Instr.sureAddr, Sem.run_bind, Sem.run_pure, Result.andThen_ok, Nat.zero_mul, Nat.zero_add, hrun]
       simp [Value.cells]
    ·exact .fail
   ·exact .fail
  ·exact .fail
 ·exact .fail
theorem indexAddrA_ok (S : Sim w0 fb X ι st tm w) {C : Ctx} (H : CtxOk P C) {T e : TypeId} {t : Ty} {m : Nat} {x i : Operand} {k : IntKind} {n : Int} (hT : C.tt T = .arr e t m) (hi : ev C st 0 i = .av (.lf (.d (.int k n)))) (ho : o.op = .indexAddr T x i) (hd : jjJ st o.dst = true) :
  Holds (jxg C st t m (ev C st T x) n) (jjA P w0 fb X st tm w o) := by
 have hTo := H.tt T
 rw [hT] at hTo
 obtain ⟨hund, _, hel⟩ := hTo
 obtain ⟨he, ⟨d, z0, hsc⟩, _⟩ := jqa hel
 have hevi := ev_int S hi
 have hev := jqe S C T x
 obtain ⟨inf, hinf, hisz⟩ : ∃ inf, P.info? e = some inf ∧ inf.size = 1 := by
  have := hsc.2.2.2
  cases hq : P.info? e with
  | none => simp [hq] at this
  | some i => simp only [hq, Option.map_some, Option.some.injEq, Prod.mk.injEq] at this; exact ⟨i, rfl, this.1⟩
 have run : ∀ {b : Nat}, Act.eval ⟨tm, []⟩ x = .pointer (some ⟨b, 0, none⟩) → 0 ≤ n → n < m → (execOp (Act.eval ⟨tm, []⟩) o).run P w = .ok (.value (.pointer (some ⟨b, n.toNat, none⟩))) w := by
  intro b hx h0 h1
  unfold execOp
  simp [ho, hx, hevi, Instr.indexAt, Instr.sureAddr, asIntOf, run_underlying hund, h0, h1, sizeOf, jjy hinf, hisz, jqD]
 unfold jxg
 split
 ·rename_i σ s u hx
  rw [hx] at hev
  split
  ·rename_i t' xs hrow
   split
   ·rename_i htt
    obtain ⟨rfl, rfl⟩ := htt
    refine Holds.opt fun y hy => ?_
    obtain ⟨zs, hz1, hz2⟩ := Option.bind_eq_some_iff.1 (hy : (jq9 m xs).bind (fun xs => inb xs.length n) = some y)
    obtain ⟨rfl, hlen⟩ := jzy hz1
    unfold inb at hz2
    split at hz2
    ·rename_i hb
     cases hz2
     obtain ⟨b, c, cs, hv, hι, _⟩ := S.arr hrow hev
     refine jjm S hd (run hv hb.1 (by rw [← hlen]; exact hb.2)) ⟨b, ?_, ?_⟩
     ·rw [he, Nat.mul_one, Nat.add_zero]
     ·rcases jjY hrow with h | h <;> exact Ref.mk h rfl ⟨_, _, hι⟩
    ·cases hz2
   ·exact .fail
  ·exact .fail
 ·rename_i g hx
  rw [hx] at hev
  split
  ·rename_i t' xs hgt
   cases hc : (decide (t' = t) && xs.length.beq m) with
   | false => exact .fail
   | true =>
    simp only [Bool.and_eq_true, decide_eq_true_eq] at hc
    obtain ⟨rfl, hlen⟩ := hc
    have hlen := Nat.eq_of_beq_eq_true hlen
    refine Holds.opt fun y hy => ?_
    have hy' : ix xs n = some y := hy
    unfold ix at hy'
    split at hy'
    ·rename_i h0
     have hlt : n.toNat < xs.length := by
      rcases Nat.lt_or_ge n.toNat xs.length with h | h
      ·exact h
      ·rw [List.getElem?_eq_none h] at hy'; cases hy'
     obtain ⟨hgb, hgo⟩ := H.gt g _ _ hgt
     obtain ⟨hok, hav⟩ := S.gl
     obtain ⟨T', fz', cs, hg, hrd⟩ := hgo w (jjh X ι st.sites) hok
     have hv : Act.eval ⟨tm, []⟩ x = .pointer (some ⟨g, 0, none⟩) := hev
     refine jjm S hd (run hv h0 (by omega)) ⟨g, n.toNat, rfl, (hav g hgb).1, (hav g hgb).2, (cs.drop n.toNat).take 1, ?_, fun j u hu => ?_, ?_⟩
     ·have : cs.length = xs.length := by rw [hrd.1, jjp, he, Nat.mul_one]
      rw [jjS, he]; simp; omega
     ·exact (((CellsAt.row hg).drop n.toNat).take 1) j u hu |> fun h => by simpa using h
     ·have hs := jxM t' xs n.toNat y hy'
      rw [he, Nat.mul_one] at hs
      have hall : RdsOk w (jjh X ι st.sites) (jjM t' xs) cs := hrd
      have hall' := jqM (ι := ι) (sites := st.sites) hall.1 hall.2
      have h2 := jqy (ds := ((jjM t' xs).drop n.toNat).take 1) (by
       have := (hall'.drop n.toNat).take 1
       simpa [asD, List.map_drop, List.map_take] using this)
      rw [hs] at h2
      exact h2.2
    ·cases hy'
  ·exact .fail
 ·exact .fail
theorem indexA_ok (S : Sim w0 fb X ι st tm w) {C : Ctx} (H : CtxOk P C) {T e : TypeId} {t : Ty} {m : Nat} {x i : Operand} {k : IntKind} {n : Int} (hT : C.tt T = .arr e t m) (hi : ev C st 0 i = .av (.lf (.d (.int k n)))) (ho : o.op = .index T x i) (hd : jjJ st o.dst = true) :
  Holds (indexA t m (ev C st T x) n) (jjA P w0 fb X st tm w o) := by
 have hTo := H.tt T
 rw [hT] at hTo
 obtain ⟨hund, _, hel⟩ := hTo
 obtain ⟨he, ⟨d, z0, hsc⟩, _⟩ := jqa hel
 have hevi := ev_int S hi
 have hev := jqe S C T x
 obtain ⟨inf, hinf, hisz⟩ : ∃ inf, P.info? e = some inf ∧ inf.size = 1 := by
  have := hsc.2.2.2
  cases hq : P.info? e with
  | none => simp [hq] at this
  | some i => simp only [hq, Option.map_some, Option.some.injEq, Prod.mk.injEq] at this; exact ⟨i, rfl, this.1⟩
 unfold indexA
 split
 ·rename_i ls hx
  rw [hx] at hev
  split
  ·rename_i xs hxs
   cases hc : xs.length.beq m with
   | false => exact .fail
   | true =>
    have hlen := Nat.eq_of_beq_eq_true hc
    refine Holds.opt fun y hy => ?_
    have hy' : ix xs n = some y := hy
    unfold ix at hy'
    split at hy'
    ·rename_i h0
     have hlt : n.toNat < xs.length := by
      rcases Nat.lt_or_ge n.toNat xs.length with h | h
      ·exact h
      ·rw [List.getElem?_eq_none h] at hy'; cases hy'
     obtain ⟨vs, hv, hl, hr⟩ : ∃ vs : List Value, Act.eval ⟨tm, []⟩ x = .agg vs.toArray ∧ vs.length = ls.length ∧ ∀ j (h : j < ls.length) (h' : j < vs.length), LfOk ι st.sites w (jjh X ι st.sites) (ls[j]) (vs[j]) := hev
     have hls : LfsOk ι st.sites w (jjh X ι st.sites) ls vs := ⟨hl, hr⟩
     rw [decA_eq hxs] at hls
     have hrv := jqy hls
     have hvl : vs.length = xs.length := by rw [hrv.1, jjp, he, Nat.mul_one]
     obtain ⟨d1, hd1⟩ : ∃ d1, enc t y = [d1] := by
      have := jjS t y
      rw [he] at this
      match h : enc t y, this with
      | [d1], _ => exact ⟨d1, rfl⟩
     simp only [hd1]
     have hlv : n.toNat < vs.length := by omega
     refine jjm S hd (vv := vs[n.toNat]) ?_ ?_
     ·have hagg : (isAgg e).run P w = .ok false w := by
       have h1 := hsc.1
       simp only [isAgg, Sem.run_bind, run_underlying h1, Result.andThen_ok]
       have g1 := hsc.2.1
       have g2 := hsc.2.2.1
       cases d <;> first | rfl | exact absurd rfl (g1 _) | exact absurd rfl (g2 _ _)
      have h1 : n < (m : Int) := by omega
      unfold execOp
      simp [ho, hv, hevi, Instr.index, asIntOf, run_underlying hund, h0, h1, sizeOf, jjy hinf, hisz, part, hagg, hlv]
     ·have hs := jxM t xs n.toNat y hy'
      rw [he, Nat.mul_one, hd1] at hs
      have hfl : n.toNat < (jjM t xs).length := by rw [jjp, he, Nat.mul_one]; exact hlt
      have e1 : (jjM t xs)[n.toNat] = d1 := by
       have := congrArg (fun l => l[0]?) hs
       simp only [List.getElem?_take, List.getElem?_drop] at this
       rw [if_pos (by decide), Nat.add_zero, List.getElem?_eq_getElem hfl] at this
       simpa using this
      have := hrv.2 n.toNat hfl hlv
      rw [e1] at this
      exact this
    ·cases hy'
  ·exact .fail
 ·exact .fail
theorem sliceA_ok (S : Sim w0 fb X ι st tm w) {C : Ctx} (H : CtxOk P C) {T e : TypeId} {t : Ty} {m : Nat} {x : Operand} {lo hi : Option Operand} (hT : C.tt T = .arr e t m) (ho : o.op = .slice T x lo hi none) (hd : jjJ st o.dst = true) :
  Holds (sliceA st t m (ev C st T x) (lo.map (ev C st 0)) (hi.map (ev C st 0))) (jjA P w0 fb X st tm w o) := by
 have hTo := H.tt T
 rw [hT] at hTo
 obtain ⟨hund, _, hel⟩ := hTo
 obtain ⟨he, ⟨d, z0, hsc⟩, _⟩ := jqa hel
 have hev := jqe S C T x
 obtain ⟨inf, hinf, hisz⟩ : ∃ inf, P.info? e = some inf ∧ inf.size = 1 := by
  have := hsc.2.2.2
  cases hq : P.info? e with
  | none => simp [hq] at this
  | some i => simp only [hq, Option.map_some, Option.some.injEq, Prod.mk.injEq] at this; exact ⟨i, rfl, this.1⟩
 have hopt : ∀ {lo : Option Operand} {dflt l : Int}, jzJ dflt (lo.map (ev C st 0)) = some l → (lo.map (Act.eval ⟨tm, []⟩) = none ∧ l = dflt) ∨ ∃ k, lo.map (Act.eval ⟨tm, []⟩) = some (.int k l) := by
  intro lo dflt l h
  rcases bound_ok S h with ⟨rfl, h'⟩ | ⟨x, k, rfl, h'⟩
  ·exact .inl ⟨rfl, h'⟩
  ·exact .inr ⟨k, by simp [h']⟩
 unfold sliceA
 split
 ·rename_i σ s u hx
  rw [hx] at hev
  split
  ·rename_i t' xs l h hrow hlo hhi
   split
   ·rename_i htt
    obtain ⟨rfl, rfl⟩ := htt
    refine Holds.optU fun r hr => ?_
    obtain ⟨zs, hz1, hz2⟩ := Option.bind_eq_some_iff.1 (hr : (jq9 m xs).bind (fun xs => jq5 xs l h) = some r)
    obtain ⟨rfl, hlen⟩ := jzy hz1
    unfold jq5 at hz2
    split at hz2
    ·rename_i hb
     obtain ⟨h0, h1, h2⟩ := hb
     cases hz2
     obtain ⟨b, c, cs, hv, hι, _⟩ := S.arr hrow hev
     refine stepOk_us (us := [(σ, .froz s t' zs)]) (frzU_upd hrow).symm ?_
     have hfz : Freezes st.sites [(σ, .froz s t' zs)] := by
      intro τ site hm
      simp only [List.mem_singleton, Prod.mk.injEq] at hm
      obtain ⟨rfl, rfl⟩ := hm
      exact ⟨s, t', zs, rfl, jjY hrow⟩
     have F : Fz w0 fb X ι st tm w [(σ, .froz s t' zs)] := ⟨S, hfz⟩
     have hlk := jq3 hfz (List.mem_singleton.2 rfl)
     obtain ⟨hrd, hhead⟩ := F.new.sites σ _ hlk
     rw [hι] at hrd
     generalize hyp : Value.slice (some ⟨b, 0, none⟩) zs.length c = v at hrd
     cases hrd with
     | nil => cases hyp
     | sl _ _ a cap cs' k hk hcap hb' hl hc hr =>
      cases hyp
      have hbd := run_bounds (P := P) (w := w) false m m (lo.map (Act.eval ⟨tm, []⟩)) (hi.map (Act.eval ⟨tm, []⟩)) l h (hopt hlo) (hopt hhi) h0 h1 (by omega) (Nat.le_refl _)
      refine jj1 (us := [(σ, .froz s t' zs)]) F.new hd (vv := .slice (if m = l.toNat then some ⟨b, 0, none⟩ else (some (⟨b, 0, none⟩ : Addr)).map (·.add (l.toNat * esz t'))) (h.toNat - l.toNat) (m - l.toNat)) ?_ ?_
      ·unfold execOp
       simp only [ho, Option.map_none, Sem.run_bind, Instr.sliceAt, run_underlying hund, Result.andThen_ok, hv, Instr.sureAddr, Sem.run_pure, hbd, sizeOf, jjy hinf, hisz, he]
       split <;> simp
      ·exact rd_part hb' ⟨hl, hr⟩ hc l.toNat h.toNat m (by omega) (by omega) (by omega)
    ·cases hz2
   ·exact .fail
  ·exact .fail
 ·exact .fail
theorem fill_mono {f g : Nat → Option (Nat × Nat)} (h : ∀ i p, f i = some p → g i = some p) : ∀ (l : List (Nat × Value)) (cs cs' : Array Value), Instr.fill f cs l = some cs' → Instr.fill g cs l = some cs' := by
 intro l
 induction l with
 | nil => intro cs cs' k; exact k
 | cons p l ih =>
  obtain ⟨i, v⟩ := p
  intro cs cs' k
  simp only [Instr.fill] at k ⊢
  cases hf : f i with
  | none => simp [hf] at k
  | some q =>
   obtain ⟨off, size⟩ := q
   rw [h i _ hf]
   rw [hf] at k
   simp only at k ⊢
   split at k
   ·cases k
   ·rename_i hn
    rw [if_neg hn]
    exact ih _ _ k
theorem buildA_ok (S : Sim w0 fb X ι st tm w) {C : Ctx} (H : CtxOk P C) {T e : TypeId} {t : Ty} {n : Nat} {z : Lf} {parts : Array (Nat × Operand)} (hT : C.tt T = .arr e t n) (hz : zlf t = some z) (ho : o.op = .build T parts) (hd : jjJ st o.dst = true) :
  Holds (step.buildV C st ((List.range n).map fun j => (j, 1)) (List.replicate n z) parts.toList) (jjA P w0 fb X st tm w o) := by
 have hTo := H.tt T
 rw [hT] at hTo
 obtain ⟨hund, ⟨zv, z1, hinf, hz1, hzz⟩, hel⟩ := hTo
 rw [hz] at hz1
 cases hz1
 obtain ⟨he, ⟨d, z0, hsc⟩, _⟩ := jqa hel
 obtain ⟨ie, hie, hies⟩ : ∃ inf, P.info? e = some inf ∧ inf.size = 1 := by
  have := hsc.2.2.2
  cases hq : P.info? e with
  | none => simp [hq] at this
  | some i => simp only [hq, Option.map_some, Option.some.injEq, Prod.mk.injEq] at this; exact ⟨i, rfl, this.1⟩
 obtain ⟨k1, k2, k3⟩ := jxj hzz
 intro y hy hc
 obtain ⟨g1, cells', g2, g3⟩ := buildV_ok S parts.toList (List.replicate n z) zv ⟨k1, fun j h h' => k3 _ _ _ _ j h h'⟩ y hy hc
 rw [g1]
 refine jjm S hd (vv := .agg cells') ?_ g3
 cases hi : P.info? T with
 | none => simp [hi] at hinf
 | some it =>
  simp only [hi, Option.map_some, Option.some.injEq, Prod.mk.injEq] at hinf
  have hb : P.built T (parts.toList.map fun p => (p.1, Act.eval ⟨tm, []⟩ p.2)) = some cells' := by
   unfold Program.built
   simp only [hi, hund, hinf.2, hie, hies]
   refine fill_mono (fun i p hp => ?_) _ _ _ g2
   simp only [List.getElem?_toArray, List.getElem?_map, Option.map_eq_some_iff] at hp
   obtain ⟨a, ha, rfl⟩ := hp
   have := List.getElem?_eq_some_iff.1 ha
   obtain ⟨h1, h2⟩ := this
   simp at h2
   subst h2
   simp
  have hb' : P.built T (parts.map fun p => (p.1, Act.eval ⟨tm, []⟩ p.2)).toList = some cells' := by simpa using hb
  unfold execOp
  simp only [ho, Sem.run_bind, run_build w T _ cells' hb', Result.andThen_ok, Sem.run_pure]
theorem unOp_xor_ok (S : Sim w0 fb X ι st tm w) {C : Ctx} {x : Operand} {k : IntKind} {n : Int} {T U : TypeId} (ho : o.op = .unOp .xor U x) (hd : jjJ st o.dst = true) (hc : ev C st T x = .av (.lf (.d (.int k n)))) :
  jjA P w0 fb X st tm w o (one (.int k (jxv k (if k.signed then -1 else k.max) n))) [] := by
 refine jjm S hd (vv := .int k (jxv k (if k.signed then -1 else k.max) n)) ?_ (.int _ _)
 unfold execOp
 simp [ho, ev_int S hc, Op.unary, Op.intBits, jxv]
end
def noι : Nat → Value := fun _ => undef
def Hand1 (w : World) (av : Nat → Prop) (l : Lf) (v : Value) (bs : List Nat) : Prop :=
 match l with
 | .fresh t xs => bs = (blk v).toList ∧ ∃ e, ∃ cs : List Value, rowAt w t.isB e (esz t) v xs.length cs ∧ RdsOk w av (jjM t xs) cs
 | l => bs = [] ∧ LfOk noι [] w av l v
def HandL (w : World) (av : Nat → Prop) : List Lf → List Value → List Nat → Prop
 | [], [], bs => bs = []
 | l :: ls, v :: vs, bs => ∃ b1 b2, bs = b1 ++ b2 ∧ Hand1 w av l v b1 ∧ HandL w av ls vs b2
 | _, _, _ => False
def HandA (w : World) (av : Nat → Prop) : AV → Value → List Nat → Prop
 | .lf l, v, bs => Hand1 w av l v bs
 | .agg ls, v, bs => ∃ vs : List Value, v = .agg vs.toArray ∧ HandL w av ls vs bs
def jzg (w : World) (av : Nat → Prop) : List AV → List Value → List Nat → Prop
 | [], [], bs => bs = []
 | l :: ls, v :: vs, bs => ∃ b1 b2, bs = b1 ++ b2 ∧ HandA w av l v b1 ∧ jzg w av ls vs b2
 | _, _, _ => False
def HandBox (w : World) (av : Nat → Prop) (b : Nat) (cells : List Lf) (bs : List Nat) : Prop :=
 ∃ T, ∃ cur : List Value, ∃ bs', bs = b :: bs' ∧ w.heap[b]? = some (.cells cur.toArray T (0, 0)) ∧ (∀ u ∈ cur, u.oneCell' = true) ∧ SlfOk cells T cur b ∧ HandL w av cells cur bs'
def HandArg (w : World) (av : Nat → Prop) : Arg → Value → List Nat → Prop
 | .av a, v, bs => HandA w av a v bs
 | .bx cells, v, bs => ∃ b, v = .pointer (some ⟨b, 0, none⟩) ∧ HandBox w av b cells bs
def HandArgs (w : World) (av : Nat → Prop) : List Arg → List Value → List Nat → Prop
 | [], [], bs => bs = []
 | l :: ls, v :: vs, bs => ∃ b1 b2, bs = b1 ++ b2 ∧ HandArg w av l v b1 ∧ HandArgs w av ls vs b2
 | _, _, _ => False
def jqi : List Arg → List Value → List Nat
 | .bx _ :: as, .pointer (some a) :: vs => a.block :: jqi as vs
 | _ :: as, _ :: vs => jqi as vs
 | _, _ => []
def jxu (w : World) (av : Nat → Prop) : List Nat → List (List Lf) → List Nat → Prop
 | [], [], bs => bs = []
 | b :: bb, cs :: css, bs => ∃ b1 b2, bs = b1 ++ b2 ∧ HandBox w av b cs b1 ∧ jxu w av bb css b2
 | _, _, _ => False
def retVal : List Value → Value
 | [v] => v
 | vs => .tuple vs.toArray
def Enters (P : Program) (g : FuncId) (vs : Array Value) (w : World) (R : Value → World → Prop) : Prop :=
 ((callFunc g vs).run P w = .ok (.enter g vs) w ∧ Calls P g vs w fun | .returned v, w' => R v w' | _, _ => False) ∨ (∃ v w', (callFunc g vs).run P w = .ok (.value v) w' ∧ R v w')
def jjf (P : Program) (g : FuncId) (S : jjC) : Prop :=
 ∀ as y, (S as).comp = some y → ∀ (w : World) (X : Nat → Prop) (vs : List Value) (BS : List Nat), HandArgs w (fun b => X b ∨ b ∈ BS) as vs BS → BS.Nodup → (∀ b, b ∈ BS → ¬ X b) → (∀ b, X b → b < w.heap.size) → GlobOk w BS X →
  Enters P g vs.toArray w fun v w' => ∃ bs1 bs2 rv, Fr BS w w' ∧ jxu w' (fun b => X b ∨ b ∈ bs1 ++ bs2) (jqi as vs) ((S as).bx y) bs1 ∧ jzg w' (fun b => X b ∨ b ∈ bs1 ++ bs2) ((S as).res y) rv bs2 ∧
   v = retVal rv ∧ (bs1 ++ bs2).Nodup ∧ ∀ b, b ∈ bs1 ++ bs2 → ¬ X b ∧ (b ∈ BS ∨ w.heap.size ≤ b)
section
variable {w0 : World} {fb : List Nat} {X : Nat → Prop} {ι : Nat → Value} {st : St} {tm : Array Value} {w : World}
theorem SVOk.anti {sites : List (Nat × Site)} {av av' : Nat → Prop} (h : ∀ b, av' b → av b) (hlt : ∀ b, av' b → b < w.heap.size) {a : SV} {v : Value} (k : SVOk ι sites w av a v) : SVOk ι sites w av' a v := by
 have G : Goes ι ι sites sites w w av av' := ⟨fun σ site hs => ⟨site, hs, Nat.le_refl _, fun _ => rfl⟩, fun _ _ _ => rfl, fun b hb _ h' => hb (h b h')⟩
 exact k.goes G (Nat.le_refl _) hlt
theorem SiteOk.anti {sites : List (Nat × Site)} {av av' : Nat → Prop} (h : ∀ b, av' b → av b) (hlt : ∀ b, av' b → b < w.heap.size) {σ : Nat} {site : Site} (k : SiteOk ι sites w av σ site) : SiteOk ι sites w av' σ site := by
 have G : Goes ι ι sites sites w w av av' := ⟨fun σ site hs => ⟨site, hs, Nat.le_refl _, fun _ => rfl⟩, fun _ _ _ => rfl, fun b hb _ h' => hb (h b h')⟩
 exact k.goes G (Nat.le_refl _) hlt rfl (fun _ _ _ => rfl)
theorem Sim.lt (S : Sim w0 fb X ι st tm w) {b : Nat} (h : jjh X ι st.sites b) : b < w.heap.size := by
 rcases h with h | ⟨σ, h1, h2⟩
 ·exact S.old b h
 ·exact S.live_lt h1 h2
theorem Sim.shrink (S : Sim w0 fb X ι st tm w) {X' : Nat → Prop} (h : ∀ b, X' b → X b) : Sim w0 fb X' ι st tm w := by
 have hav : ∀ b, jjh X' ι st.sites b → jjh X ι st.sites b := by
  rintro b (hb | hb)
  ·exact .inl (h b hb)
  ·exact .inr hb
 have hlt := fun b hb => S.lt (hav b hb)
 exact ⟨S.nt, fun t => (S.slots t).anti hav hlt, fun σ site hs => (S.sites σ site hs).anti hav hlt, S.excl, fun σ b h1 h2 => ⟨fun hx => (S.mine σ b h1 h2).1 (h b hx), (S.mine σ b h1 h2).2⟩, S.frame, fun b hb => S.old b (h b hb), S.glob.less fun b _ => h b⟩
theorem Sim.kill (S : Sim w0 fb X ι st tm w) {σ : Nat} {site : Site} (hl : jjB st.sites σ = some site) (hlive : site.live = true) :
  Sim w0 fb (fun b => X b ∨ blk (ι σ) = some b) ι { st with sites := upd st.sites σ (.dead site.stamp) } tm w := by
 have hlv : ∀ τ, jjs (upd st.sites σ (.dead site.stamp)) τ → τ ≠ σ ∧ jjs st.sites τ := by
  rintro τ ⟨s, h1, h2⟩
  rw [jjl] at h1
  by_cases e : σ = τ
  ·subst e; simp at h1; subst h1; cases h2
  ·simp only [e, if_false] at h1; exact ⟨fun h => e h.symm, s, h1, h2⟩
 have hav : ∀ b, jjh (fun b => X b ∨ blk (ι σ) = some b) ι (upd st.sites σ (.dead site.stamp)) b → jjh X ι st.sites b := by
  rintro b ((h | h) | ⟨τ, h1, h2⟩)
  ·exact .inl h
  ·exact .inr ⟨σ, ⟨site, hl, hlive⟩, h⟩
  ·exact .inr ⟨τ, (hlv τ h1).2, h2⟩
 have hlt := fun b hb => S.lt (hav b hb)
 have S' : Sim w0 fb X ι { st with sites := upd st.sites σ (.dead site.stamp) } tm w := by
  have hav' : ∀ b, jjh X ι (upd st.sites σ (.dead site.stamp)) b → jjh X ι st.sites b := by
   rintro b (h | ⟨τ, h1, h2⟩)
   ·exact .inl h
   ·exact .inr ⟨τ, (hlv τ h1).2, h2⟩
  refine S.turn (fun τ s hs => ?_) (fun _ _ _ => rfl) (fun b hb _ h' => hb (hav' b h')) (fun go τ s hs => ?_) (fun τ ρ b h1 h2 g1 g2 => S.excl τ ρ b (hlv τ h1).2 (hlv ρ h2).2 g1 g2) (fun τ b h1 h2 => S.mine τ b (hlv τ h1).2 h2)
   (fun τ b h1 h2 => S.live_lt (hlv τ h1).2 h2) S.frame (Nat.le_refl _)
  ·rw [jjl]
   by_cases e : σ = τ
   ·subst e; rw [hl] at hs; cases hs; exact ⟨.dead site.stamp, by simp, Nat.le_refl _, fun _ => rfl⟩
   ·exact ⟨s, by simp [e, hs], Nat.le_refl _, fun _ => rfl⟩
  ·rw [jjl] at hs
   by_cases e : σ = τ
   ·simp only [e, if_true, Option.some.injEq] at hs; subst hs; exact .inr trivial
   ·simp only [e, if_false] at hs; exact .inl ⟨hs, rfl, fun _ _ _ => rfl⟩
 refine ⟨S'.nt, fun t => ?_, fun τ s hs => ?_, S'.excl, fun τ b h1 h2 => ⟨?_, (S'.mine τ b h1 h2).2⟩, S'.frame, ?_, S.glob.less fun b hb hx => hx.elim id fun e => absurd (.inr ⟨σ, ⟨site, hl, hlive⟩, e⟩) (S.gl.2 b hb).1⟩
 ·have G : Goes ι ι st.sites (upd st.sites σ (.dead site.stamp)) w w (jjh X ι st.sites) (jjh (fun b => X b ∨ blk (ι σ) = some b) ι (upd st.sites σ (.dead site.stamp))) :=
   ⟨fun τ s hs => by
    rw [jjl]
    by_cases e : σ = τ
    ·subst e; rw [hl] at hs; cases hs; exact ⟨.dead site.stamp, by simp, Nat.le_refl _, fun _ => rfl⟩
    ·exact ⟨s, by simp [e, hs], Nat.le_refl _, fun _ => rfl⟩, fun _ _ _ => rfl, fun b hb _ h' => hb (hav b h')⟩
  exact (S.slots t).goes G (Nat.le_refl _) hlt
 ·have hs' : jjB (upd st.sites σ (.dead site.stamp)) τ = some s := hs
  rw [jjl] at hs'
  by_cases e : σ = τ
  ·simp only [e, if_true, Option.some.injEq] at hs'; subst hs'; trivial
  ·simp only [e, if_false] at hs'
   have G : Goes ι ι st.sites (upd st.sites σ (.dead site.stamp)) w w (jjh X ι st.sites) (jjh (fun b => X b ∨ blk (ι σ) = some b) ι (upd st.sites σ (.dead site.stamp))) :=
    ⟨fun τ s hs => by
     rw [jjl]
     by_cases e : σ = τ
     ·subst e; rw [hl] at hs; cases hs; exact ⟨.dead site.stamp, by simp, Nat.le_refl _, fun _ => rfl⟩
     ·exact ⟨s, by simp [e, hs], Nat.le_refl _, fun _ => rfl⟩, fun _ _ _ => rfl, fun b hb _ h' => hb (hav b h')⟩
   exact (S.sites τ s hs').goes G (Nat.le_refl _) hlt rfl (fun _ _ _ => rfl)
 ·rintro (hx | hx)
  ·exact (S'.mine τ b h1 h2).1 hx
  ·exact (hlv τ h1).1 (S.excl τ σ b (hlv τ h1).2 ⟨site, hl, hlive⟩ h2 hx)
 ·rintro b (hb | hb)
  ·exact S.old b hb
  ·exact S.live_lt ⟨site, hl, hlive⟩ hb
theorem Sim.jump (S : Sim w0 fb X ι st tm w) {w' : World} (h : ∀ b, ¬ X b → b < w.heap.size → w'.heap[b]? = w.heap[b]?) (hs : w.heap.size ≤ w'.heap.size) (hf : Fr fb w0 w') :
  Sim w0 fb (fun b => X b ∨ (w.heap.size ≤ b ∧ b < w'.heap.size)) ι st tm w' := by
 have hlt : ∀ b, jjh (fun b => X b ∨ (w.heap.size ≤ b ∧ b < w'.heap.size)) ι st.sites b → b < w'.heap.size := by
  rintro b ((hb | hb) | ⟨τ, h1, h2⟩)
  ·exact Nat.lt_of_lt_of_le (S.old b hb) hs
  ·exact hb.2
  ·exact Nat.lt_of_lt_of_le (S.live_lt h1 h2) hs
 have G : Goes ι ι st.sites st.sites w w' (jjh X ι st.sites) (jjh (fun b => X b ∨ (w.heap.size ≤ b ∧ b < w'.heap.size)) ι st.sites) :=
  ⟨fun τ s h => ⟨s, h, Nat.le_refl _, fun _ => rfl⟩, fun b hb hb' => h b (fun hx => hb (.inl hx)) hb', fun b hb hb' h' => by
   rcases h' with (h' | h') | h'
   ·exact hb (.inl h')
   ·omega
   ·exact hb (.inr h')⟩
 refine ⟨S.nt, fun t => (S.slots t).goes G hs hlt, fun σ s h1 => (S.sites σ s h1).goes G hs hlt rfl (fun hl b hb => ?_), S.excl, fun σ b h1 h2 => ⟨?_, (S.mine σ b h1 h2).2⟩, hf, ?_, S.glob.less fun b hb hx => hx.elim id fun e => absurd (S.gl.2 b hb).2 (by omega)⟩
 ·exact h b (S.mine σ b ⟨s, h1, hl⟩ hb).1 (S.live_lt ⟨s, h1, hl⟩ hb)
 ·rintro (hx | hx)
  ·exact (S.mine σ b h1 h2).1 hx
  ·have := S.live_lt h1 h2; omega
 ·rintro b (hb | hb)
  ·exact Nat.lt_of_lt_of_le (S.old b hb) hs
  ·exact hb.2
theorem Sim.adopt (S : Sim w0 fb X ι st tm w) {X' : Nat → Prop} {n : Nat} {site' : Site} {nv : Value} (hX : ∀ b, X' b → X b)
  (hst : (∀ site, jjB st.sites n = some site → site.stamp < site'.stamp) ∨ (ι n = nv ∧ ∀ site, jjB st.sites n = some site → site.stamp = site'.stamp ∧ site.live = false))
  (hb : ∀ b, blk nv = some b → X b ∧ ¬ X' b ∧ (b ∈ fb ∨ w0.heap.size ≤ b))
  (hok : ∀ {sites' : List (Nat × Site)} {ι' : Nat → Value}, sites' = upd st.sites n site' → ι' n = nv → (∀ {a v}, SVOk ι st.sites w (jjh X ι st.sites) a v → SVOk ι' sites' w (jjh X' ι' sites') a v) →
   (∀ b, jjh X' ι' sites' b → jjh X ι st.sites b) → SiteOk ι' sites' w (jjh X' ι' sites') n site') :
  Sim w0 fb X' (fun τ => if τ = n then nv else ι τ) { st with sites := upd st.sites n site' } tm w ∧
   (∀ b, jjh X' (fun τ => if τ = n then nv else ι τ) (upd st.sites n site') b → jjh X ι st.sites b) ∧
   (∀ {a v}, SVOk ι st.sites w (jjh X ι st.sites) a v → SVOk (fun τ => if τ = n then nv else ι τ) (upd st.sites n site') w (jjh X' (fun τ => if τ = n then nv else ι τ) (upd st.sites n site')) a v) := by
 have hlv : ∀ τ, jjs (upd st.sites n site') τ → τ = n ∨ (τ ≠ n ∧ jjs st.sites τ) := by
  rintro τ ⟨s, h1, h2⟩
  rw [jjl] at h1
  by_cases e : n = τ
  ·exact .inl e.symm
  ·simp only [e, if_false] at h1; exact .inr ⟨fun h => e h.symm, s, h1, h2⟩
 have hav : ∀ b, jjh X' (fun τ => if τ = n then nv else ι τ) (upd st.sites n site') b → jjh X ι st.sites b := by
  rintro b (h | ⟨τ, h1, h2⟩)
  ·exact .inl (hX b h)
  ·rcases hlv τ h1 with rfl | ⟨h3, h4⟩
   ·simp at h2; exact .inl (hb b h2).1
   ·simp only [h3, if_false] at h2; exact .inr ⟨τ, h4, h2⟩
 have href : ∀ σ site, jjB st.sites σ = some site → ∃ s', jjB (upd st.sites n site') σ = some s' ∧ site.stamp ≤ s'.stamp ∧ (s'.stamp = site.stamp → (fun τ => if τ = n then nv else ι τ) σ = ι σ) := by
  intro τ s hs
  rw [jjl]
  by_cases e : n = τ
  ·subst e
   refine ⟨site', by simp, ?_, fun h => ?_⟩
   ·rcases hst with h | ⟨_, h⟩
    ·exact Nat.le_of_lt (h s hs)
    ·exact Nat.le_of_eq (h s hs).1
   ·rcases hst with h' | ⟨h', _⟩
    ·have := h' s hs; omega
    ·simp [h']
  ·have e' : ¬ τ = n := fun h => e h.symm
   exact ⟨s, by simp [e, hs], Nat.le_refl _, fun _ => by simp [e']⟩
 have G : Goes ι (fun τ => if τ = n then nv else ι τ) st.sites (upd st.sites n site') w w (jjh X ι st.sites) (jjh X' (fun τ => if τ = n then nv else ι τ) (upd st.sites n site')) :=
  ⟨href, fun _ _ _ => rfl, fun b hb _ h' => hb (hav b h')⟩
 have hlt := fun b hb => S.lt (hav b hb)
 refine ⟨⟨S.nt, fun t => (S.slots t).goes G (Nat.le_refl _) hlt, fun τ s hs => ?_, fun τ ρ b h1 h2 g1 g2 => ?_, fun τ b h1 h2 => ?_, S.frame, fun b h => S.old b (hX b h), S.glob.less fun b _ => hX b⟩, hav, fun h => h.goes G (Nat.le_refl _) hlt⟩
 ·have hs' : jjB (upd st.sites n site') τ = some s := hs
  rw [jjl] at hs'
  by_cases e : n = τ
  ·subst e
   simp only [if_true, Option.some.injEq] at hs'
   subst hs'
   exact hok rfl (by simp) (fun h => h.goes G (Nat.le_refl _) hlt) hav
  ·have e' : ¬ τ = n := fun h => e h.symm
   simp only [e, if_false] at hs'
   exact (S.sites τ s hs').goes G (Nat.le_refl _) hlt (by simp [e']) (fun _ _ _ => rfl)
 ·rcases hlv τ h1 with rfl | ⟨n1, l1⟩ <;> rcases hlv ρ h2 with rfl | ⟨n2, l2⟩
  ·rfl
  ·simp only [if_true] at g1
   simp only [n2, if_false] at g2
   exact absurd (hb b g1).1 (S.mine ρ b l2 g2).1
  ·simp only [if_true] at g2
   simp only [n1, if_false] at g1
   exact absurd (hb b g2).1 (S.mine τ b l1 g1).1
  ·simp only [n1, if_false] at g1
   simp only [n2, if_false] at g2
   exact S.excl τ ρ b l1 l2 g1 g2
 ·rcases hlv τ h1 with rfl | ⟨n1, l1⟩
  ·simp only [if_true] at h2
   exact ⟨(hb b h2).2.1, (hb b h2).2.2⟩
  ·simp only [n1, if_false] at h2
   exact ⟨fun hx => (S.mine τ b l1 h2).1 (hX b hx), (S.mine τ b l1 h2).2⟩
end
def CapsOk (w : World) (av : Nat → Prop) : List (List D) → List Value → Prop
 | [], [] => True
 | ds :: r, v :: vs => (∃ b, ∃ cs : List Value, v = .pointer (some ⟨b, 0, none⟩) ∧ ¬ av b ∧ b < w.heap.size ∧ CellsAt w b 0 cs ∧ RdsOk w av ds cs) ∧ CapsOk w av r vs
 | _, _ => False
theorem CapsOk.fn {w : World} {av : Nat → Prop} {g : FuncId} : ∀ {caps : List (List D)} {vs : List Value}, CapsOk w av caps vs → Rd w av (.fn g caps) (.func (.func g) #[] vs.toArray) := by
 intro caps vs h
 have key : ∀ {caps : List (List D)} {vs : List Value}, CapsOk w av caps vs → ∃ bl : List Nat, ∃ cvs : List (List Value), vs = bl.map (fun b => Value.pointer (some ⟨b, 0, none⟩)) ∧ bl.length = caps.length ∧ cvs.length = caps.length ∧
   (∀ b, b ∈ bl → ¬ av b ∧ b < w.heap.size) ∧ (∀ i (h : i < bl.length) (h' : i < cvs.length), CellsAt w bl[i] 0 cvs[i]) ∧ (∀ i (h : i < caps.length) (h' : i < cvs.length), RdsOk w av caps[i] cvs[i]) := by
  intro caps
  induction caps with
  | nil =>
   intro vs h
   match vs, h with
   | [], _ => exact ⟨[], [], rfl, rfl, rfl, fun b h => by simp at h, fun i h => by simp at h, fun i h => by simp at h⟩
  | cons ds caps ih =>
   intro vs h
   match vs, h with
   | v :: vs, ⟨⟨b, cs, h1, h2, h3, h4, h5⟩, h6⟩ =>
    obtain ⟨bl, cvs, k1, k2, k3, k4, k5, k6⟩ := ih h6
    refine ⟨b :: bl, cs :: cvs, by simp [h1, k1], by simp [k2], by simp [k3], fun c hc => ?_, fun i g1 g2 => ?_, fun i g1 g2 => ?_⟩
    ·rcases List.mem_cons.1 hc with rfl | hc
     ·exact ⟨h2, h3⟩
     ·exact k4 c hc
    ·cases i with
     | zero => exact h4
     | succ i => exact k5 i (by simpa using g1) (by simpa using g2)
    ·cases i with
     | zero => exact h5
     | succ i => exact k6 i (by simpa using g1) (by simpa using g2)
 obtain ⟨bl, cvs, k1, k2, k3, k4, k5, k6⟩ := key h
 refine .fn g caps bl (fun i => cvs.getD i []) _ (by rw [k1]) k2 (fun b hb => (k4 b hb).1) (fun b hb => (k4 b hb).2) (fun i hi => ?_) (fun i hi j u hu => ?_) (fun i hi j h1 h2 => ?_)
 ·have h' : i < cvs.length := by omega
  have := (k6 i hi h').1
  simpa [List.getD, h'] using this
 ·have h' : i < cvs.length := by omega
  have := k5 i hi h' j u (by simpa [List.getD, h'] using hu)
  simpa using this
 ·have h' : i < cvs.length := by omega
  have h2' : j < cvs[i].length := by simpa [List.getD, h'] using h2
  have := (k6 i hi h').2 j h1 h2'
  simpa [List.getD, h'] using this
theorem CapsOk.of_fn {w : World} {av : Nat → Prop} {g : FuncId} {caps : List (List D)} {v : Value} (h : Rd w av (.fn g caps) v) : ∃ vs : List Value, v = .func (.func g) #[] vs.toArray ∧ CapsOk w av caps vs := by
 cases h with
 | fn _ _ bs cv lb hlb hbl hb hlt hl hc hr =>
  refine ⟨bs.map fun b => Value.pointer (some ⟨b, 0, none⟩), by rw [hlb], ?_⟩
  have key : ∀ (caps : List (List D)) (bs : List Nat) (cv : Nat → List Value), bs.length = caps.length → (∀ b, b ∈ bs → ¬ av b ∧ b < w.heap.size) → (∀ i (h : i < caps.length), (cv i).length = (caps[i]).length) →
    (∀ i (h : i < bs.length) j u, (cv i)[j]? = some u → w.cell? ⟨bs[i], j, none⟩ = some u) → (∀ i (h : i < caps.length) j (h1 : j < (caps[i]).length) (h2 : j < (cv i).length), Rd w av ((caps[i])[j]) ((cv i)[j])) →
    CapsOk w av caps (bs.map fun b => Value.pointer (some ⟨b, 0, none⟩)) := by
   intro caps
   induction caps with
   | nil => intro bs cv h _ _ _ _; rw [List.eq_nil_of_length_eq_zero h]; trivial
   | cons ds caps ih =>
    intro bs cv h h1 h2 h3 h4
    match bs, h with
    | b :: bs, h =>
     refine ⟨⟨b, cv 0, rfl, (h1 b List.mem_cons_self).1, (h1 b List.mem_cons_self).2, fun j u hu => ?_, h2 0 (by simp), fun j g1 g2 => h4 0 (by simp) j g1 g2⟩, ?_⟩
     ·have := h3 0 (by simp) j u hu
      simpa using this
     ·exact ih bs (fun i => cv (i + 1)) (by simpa using h) (fun c hc => h1 c (List.mem_cons_of_mem _ hc)) (fun i hi => h2 (i + 1) (by simpa using hi)) (fun i hi j u hu => h3 (i + 1) (by simpa using hi) j u hu)
       (fun i hi j g1 g2 => h4 (i + 1) (by simpa using hi) j g1 g2)
  exact key caps bs cv hbl (fun b h => ⟨hb b h, hlt b h⟩) hl hc hr
section
variable {w0 : World} {fb : List Nat} {X : Nat → Prop} {ι : Nat → Value} {st : St} {tm : Array Value} {w : World}
structure Lends (w0 : World) (fb : List Nat) (X : Nat → Prop) (ι : Nat → Value) (st : St) (tm : Array Value) (w : World) (LF : List (Nat × Site)) (LB : List Nat) (av : Nat → Prop) : Prop where
 fz : Fz w0 fb X ι st tm w LF
 le : ∀ b, av b → jjh X ι (jjN st.sites LF) b
 nb : ∀ σ, σ ∈ LB → ∀ b, blk (ι σ) = some b → ¬ av b
variable {LF : List (Nat × Site)} {LB : List Nat} {av : Nat → Prop}
theorem Lends.lt (L : Lends w0 fb X ι st tm w LF LB av) {b : Nat} (h : av b) : b < w.heap.size := L.fz.new.lt (L.le b h)
theorem Lends.sub (L : Lends w0 fb X ι st tm w LF LB av) {b : Nat} (h : av b) : jjh X ι st.sites b := by
 rcases L.le b h with h | ⟨σ, ⟨site, h1, h2⟩, h3⟩
 ·exact .inl h
 ·refine .inr ⟨σ, ?_, h3⟩
  rcases jjW L.fz.fz σ with h | ⟨s, t, xs, h4, h5⟩
  ·exact ⟨site, h ▸ h1, h2⟩
  ·rw [h5] at h1; cases h1; cases h2
theorem Lends.rd (L : Lends w0 fb X ι st tm w LF LB av) {d : D} {v : Value} (h : Rd w (jjh X ι (jjN st.sites LF)) d v) : Rd w av d v :=
 SVOk.anti (ι := ι) (sites := []) (a := one d) (v := v) L.le (fun b hb => L.lt hb) h
theorem Lends.rd' (L : Lends w0 fb X ι st tm w LF LB av) {d : D} {v : Value} (h : Rd w (jjh X ι st.sites) d v) : Rd w av d v :=
 SVOk.anti (ι := ι) (sites := []) (a := one d) (v := v) (fun b hb => L.sub hb) (fun b hb => L.lt hb) h
theorem capsOf_ok (L : Lends w0 fb X ι st tm w LF LB av) : ∀ {caps : List (Nat × Nat)} {cs : List (List D)} {us : List (Nat × Site)} {bs : List Nat} {vs : List Value}, jzf st caps = some (cs, us, bs) →
  (∀ p, p ∈ us → p ∈ LF) → (∀ σ, σ ∈ bs → σ ∈ LB) → vs.length = caps.length → (∀ i (h : i < caps.length) (h' : i < vs.length), Ref st.sites (caps[i]).1 (caps[i]).2 (vs[i] = ι (caps[i]).1)) → CapsOk w av cs vs := by
 intro caps
 induction caps with
 | nil =>
  intro cs us bs vs h _ _ hl _
  simp only [jzf] at h
  cases h
  rw [List.eq_nil_of_length_eq_zero hl]; trivial
 | cons c caps ih =>
  obtain ⟨σ, s⟩ := c
  intro cs us bs vs h hus hbs hl hr
  simp only [jzf] at h
  split at h
  ·rename_i cells hbox
   split at h
   ·rename_i ds u1 rest u2 b2 hds hrest
    cases h
    match vs, hl with
    | v :: vs, hl =>
     have hlook := jjE hbox
     obtain ⟨b, T, cur, h1, h2, h3, h4, _, h5⟩ := L.fz.old.sites σ _ hlook
     have hv : v = ι σ := Ref.at (hr 0 (by simp) (by simp)) hlook rfl
     have hrd := dats_ok hds ⟨h3, h5⟩ L.fz (fun p hp => hus p (List.mem_append.2 (.inl hp)))
     refine ⟨⟨b, cur, by rw [hv, h1], L.nb σ (hbs σ List.mem_cons_self) b (by rw [h1]; rfl), L.fz.old.live_lt ⟨_, hlook, rfl⟩ (by rw [h1]; rfl), .row h2, hrd.1, fun j g1 g2 => L.rd (hrd.2 j g1 g2)⟩, ?_⟩
     exact ih hrest (fun p hp => hus p (List.mem_append.2 (.inr hp))) (fun τ hτ => hbs τ (List.mem_cons_of_mem _ hτ)) (by simpa using hl) (fun i g1 g2 => hr (i + 1) (by simpa using g1) (by simpa using g2))
   ·cases h
  ·cases h
theorem lend_ok (L : Lends w0 fb X ι st tm w LF LB av) {l l' : Lf} {us : List (Nat × Site)} {bs : List Nat} {v : Value} (h : lend st l = some (l', us, bs)) (hus : ∀ p, p ∈ us → p ∈ LF) (hbs : ∀ σ, σ ∈ bs → σ ∈ LB)
  (hv : LfOk ι st.sites w (jjh X ι st.sites) l v) : Hand1 w av l' v [] := by
 unfold lend at h
 split at h
 ·rename_i cells
  cases h
  obtain ⟨b, o, h1, h2, h3, cs, h4, h5, h6⟩ := hv
  exact ⟨rfl, b, o, h1, fun hx => h2 (L.sub hx), h3, cs, h4, h5, fun j g1 g2 => L.rd' (h6 j g1 g2)⟩
 ·rename_i g c cs
  split at h
  ·rename_i ds u b hc
   cases h
   obtain ⟨vs, h1, h2, h3⟩ := hv
   rw [h1]
   exact ⟨rfl, (capsOf_ok L hc hus hbs h2 h3).fn⟩
  ·cases h
 ·split at h
  ·rename_i d u hd
   cases h
   exact ⟨rfl, L.rd (dat_ok hd hv L.fz hus)⟩
  ·cases h
theorem lends_ok (L : Lends w0 fb X ι st tm w LF LB av) : ∀ {ls ls' : List Lf} {us : List (Nat × Site)} {bs : List Nat} {vs : List Value}, lends st ls = some (ls', us, bs) → (∀ p, p ∈ us → p ∈ LF) → (∀ σ, σ ∈ bs → σ ∈ LB) →
  LfsOk ι st.sites w (jjh X ι st.sites) ls vs → HandL w av ls' vs [] := by
 intro ls
 induction ls with
 | nil => intro ls' us bs vs h _ _ hv; simp only [lends] at h; cases h; rw [hv.inv_nil]; rfl
 | cons l ls ih =>
  intro ls' us bs vs h hus hbs hv
  simp only [lends] at h
  split at h
  ·rename_i a u1 b1 as u2 b2 h1 h2
   cases h
   obtain ⟨v, vs', rfl, hv1, hv2⟩ := hv.inv
   exact ⟨[], [], rfl, lend_ok L h1 (fun p hp => hus p (List.mem_append.2 (.inl hp))) (fun p hp => hbs p (List.mem_append.2 (.inl hp))) hv1,
    ih h2 (fun p hp => hus p (List.mem_append.2 (.inr hp))) (fun p hp => hbs p (List.mem_append.2 (.inr hp))) hv2⟩
  ·cases h
def jjn (ι : Nat → Value) (ks : List Nat) : List Nat := ks.filterMap fun σ => blk (ι σ)
theorem jjR {α : Type} (a b : List (Nat × α)) : jjF (a ++ b) = jjF a ++ jjF b := by
 induction a with
 | nil => rfl
 | cons p a ih => simp [jjF, ih]
theorem jjX (a b : List Nat) : jjn ι (a ++ b) = jjn ι a ++ jjn ι b := by simp [jjn]
def Gives (sites : List (Nat × Site)) (us : List (Nat × Site)) : Prop := ∀ σ s', (σ, s') ∈ us → ∃ site, jjB sites σ = some site ∧ site.live = true ∧ s' = .dead site.stamp
theorem Gives.nil {sites : List (Nat × Site)} : Gives sites [] := fun _ _ h => by simp at h
theorem Gives.append {sites us vs : List (Nat × Site)} (h : Gives sites us) (h' : Gives sites vs) : Gives sites (us ++ vs) := by
 intro σ s hm
 rcases List.mem_append.1 hm with hm | hm
 ·exact h σ s hm
 ·exact h' σ s hm
theorem own_rds (L : Lends w0 fb X ι st tm w LF LB av) {σ s : Nat} {t : Ty} {xs : List (den t)} (hl : jjB st.sites σ = some (.row s t xs)) :
  ∃ e, ∃ cs : List Value, rowAt w t.isB e (esz t) (ι σ) xs.length cs ∧ RdsOk w av (jjM t xs) cs := by
 obtain ⟨e, cs, h1, h2⟩ := L.fz.old.sites σ _ hl
 refine ⟨e, cs, h1, by rw [jjp]; exact h1.1, fun j g1 g2 => L.rd' (h2 j g1 g2)⟩
theorem give1_ok (L : Lends w0 fb X ι st tm w LF LB av) {l l' : Lf} {us : List (Nat × Site)} {v : Value} (h : give1 st l = some (l', us)) (hv : LfOk ι st.sites w (jjh X ι st.sites) l v) :
  Hand1 w av l' v (jjn ι (jjF us)) ∧ Gives st.sites us := by
 unfold give1 at h
 split at h
 ·cases h; exact ⟨⟨rfl, L.rd' hv⟩, .nil⟩
 ·rename_i t
  cases h
  have hv : v = .slice none 0 0 := hv
  subst hv
  exact ⟨⟨rfl, 0, [], ⟨by simp, .inl ⟨rfl, rfl⟩⟩, rfl, fun j g => by simp [jjM] at g⟩, .nil⟩
 ·rename_i σ s
  split at h
  ·rename_i s' t xs hl
   cases hb : s'.beq s with
   | false => simp [hb] at h
   | true =>
    simp only [hb, cond_true, Option.some.injEq, Prod.mk.injEq] at h
    obtain ⟨rfl, rfl⟩ := h
    have hs := Nat.eq_of_beq_eq_true hb
    subst hs
    have hl : jjB st.sites σ = some (.row s' t xs) := hl
    have hv' : v = ι σ := Ref.at hv.2 hl rfl
    obtain ⟨e, cs, h1, h2⟩ := own_rds L hl
    refine ⟨⟨?_, e, cs, by rw [hv']; exact h1, h2⟩, fun τ s'' hm => ?_⟩
    ·simp only [jjF, jjn, List.filterMap_cons, List.filterMap_nil, hv']
     cases blk (ι σ) <;> rfl
    ·simp only [List.mem_singleton, Prod.mk.injEq] at hm
     obtain ⟨rfl, rfl⟩ := hm
     exact ⟨_, hl, rfl, rfl⟩
  ·rename_i s' t xs hl
   cases hb : s'.beq s with
   | false => simp [hb] at h
   | true =>
    simp only [hb, cond_true, Option.some.injEq, Prod.mk.injEq] at h
    obtain ⟨rfl, rfl⟩ := h
    have hs := Nat.eq_of_beq_eq_true hb
    subst hs
    have hl : jjB st.sites σ = some (.froz s' t xs) := hl
    have hv' : v = ι σ := Ref.at hv.2 hl rfl
    refine ⟨⟨rfl, ?_⟩, .nil⟩
    rw [hv']
    exact L.rd' (L.fz.old.sites σ _ hl).1
  ·cases h
 ·cases h; exact ⟨⟨rfl, trivial⟩, .nil⟩
 ·cases h; exact ⟨⟨rfl, hv⟩, .nil⟩
 ·cases h
theorem give_head {ls ls' : List Lf} {us : List (Nat × Site)} (h : give st ls = some (ls', us)) (hh : ls'.head? = some .slf) : ls.head? = some .slf := by
 cases ls with
 | nil => simp only [give] at h; cases h; cases hh
 | cons l ls =>
  simp only [give] at h
  split at h
  ·rename_i a u1 as u2 h1 h2
   cases h
   simp only [List.head?_cons, Option.some.injEq] at hh ⊢
   subst hh
   unfold give1 at h1
   split at h1 <;> try (cases h1; done)
   ·split at h1
    all_goals first | cases h1; done | skip
    all_goals
     rename_i s' t xs _
     revert h1
     generalize s'.beq _ = q
     intro h1
     cases q <;> cases h1
   ·rfl
  ·cases h
theorem give_ok (L : Lends w0 fb X ι st tm w LF LB av) : ∀ {ls ls' : List Lf} {us : List (Nat × Site)} {vs : List Value}, give st ls = some (ls', us) → LfsOk ι st.sites w (jjh X ι st.sites) ls vs →
  HandL w av ls' vs (jjn ι (jjF us)) ∧ Gives st.sites us := by
 intro ls
 induction ls with
 | nil => intro ls' us vs h hv; simp only [give] at h; cases h; rw [hv.inv_nil]; exact ⟨rfl, .nil⟩
 | cons l ls ih =>
  intro ls' us vs h hv
  simp only [give] at h
  split at h
  ·rename_i a u1 as u2 h1 h2
   cases h
   obtain ⟨v, vs', rfl, hv1, hv2⟩ := hv.inv
   obtain ⟨k1, k2⟩ := give1_ok L h1 hv1
   obtain ⟨k3, k4⟩ := ih h2 hv2
   exact ⟨⟨_, _, by rw [jjR, jjX], k1, k3⟩, k2.append k4⟩
  ·cases h
theorem HandArgs.append {as as' : List Arg} {vs vs' : List Value} {bs bs' : List Nat} (h : HandArgs w av as vs bs) (h' : HandArgs w av as' vs' bs') : HandArgs w av (as ++ as') (vs ++ vs') (bs ++ bs') := by
 induction as generalizing vs bs with
 | nil =>
  match vs, h with
  | [], h => have h : bs = [] := h; subst h; exact h'
 | cons a as ih =>
  match vs, h with
  | v :: vs, ⟨b1, b2, h1, h2, h3⟩ => exact ⟨b1, b2 ++ bs', by rw [h1, List.append_assoc], h2, ih h3⟩
theorem capArgs_ok {cs : List (List D)} {vs : List Value} (h : CapsOk w av cs vs) : HandArgs w av (jx8 cs) vs [] := by
 induction cs generalizing vs with
 | nil =>
  match vs, h with
  | [], _ => rfl
 | cons ds cs ih =>
  match vs, h with
  | v :: vs, ⟨⟨b, cur, h1, h2, h3, h4, h5⟩, h6⟩ =>
   refine ⟨[], [], rfl, ⟨rfl, b, 0, by rw [h1], h2, h3, cur, by rw [h5.1], fun j u hu => h4 j u hu, h5.2⟩, ih h6⟩
theorem boxBs_append {as as' : List Arg} {vs vs' : List Value} (hl : as.length = vs.length) : jqi (as ++ as') (vs ++ vs') = jqi as vs ++ jqi as' vs' := by
 induction as generalizing vs with
 | nil => rw [List.eq_nil_of_length_eq_zero hl.symm]; rfl
 | cons a as ih =>
  match vs, hl with
  | v :: vs, hl =>
   have := ih (vs := vs) (by simpa using hl)
   cases a with
   | av a => cases v <;> simp [jqi, this]
   | bx c =>
    cases v <;> try (simp [jqi, this]; done)
    rename_i p
    cases p <;> simp [jqi, this]
theorem boxBs_caps (cs : List (List D)) (vs : List Value) : jqi (jx8 cs) vs = [] := by
 induction cs generalizing vs with
 | nil => cases vs <;> rfl
 | cons c cs ih => cases vs <;> simp [jx8, jqi, ih]
theorem HandArgs.length {as : List Arg} {vs : List Value} {bs : List Nat} (h : HandArgs w av as vs bs) : as.length = vs.length := by
 induction as generalizing vs bs with
 | nil =>
  match vs, h with
  | [], _ => rfl
 | cons a as ih =>
  match vs, h with
  | v :: vs, ⟨_, _, _, _, h⟩ => simp [ih h]
theorem mkArgs_ok (L : Lends w0 fb X ι st tm w LF LB av) : ∀ {svs : List SV} {a : Args} {vs : List Value}, jq8 st svs = some a → svs.length = vs.length →
  (∀ i (h : i < svs.length) (h' : i < vs.length), SVOk ι st.sites w (jjh X ι st.sites) (svs[i]) (vs[i])) → (∀ p, p ∈ a.lent → p ∈ LF) → (∀ σ, σ ∈ a.lentB → σ ∈ LB) →
  HandArgs w av a.as vs (jjn ι (jjF a.gone)) ∧ Gives st.sites a.gone ∧ jqi a.as vs = jjn ι (jjF a.boxes) ∧ (∀ σ s, (σ, s) ∈ a.boxes → (σ, .dead s) ∈ a.gone ∧ ∃ b, ι σ = .pointer (some ⟨b, 0, none⟩)) := by
 intro svs
 induction svs with
 | nil =>
  intro a vs h hl _ _ _
  simp only [jq8] at h
  cases h
  rw [List.eq_nil_of_length_eq_zero hl.symm]
  exact ⟨rfl, .nil, rfl, fun σ s hm => by simp at hm⟩
 | cons sv svs ih =>
  intro a vs h hl hv hus hbs
  match vs, hl with
  | v :: vs, hl =>
   have hv0 := hv 0 (by simp) (by simp)
   have hvs : ∀ i (h : i < svs.length) (h' : i < vs.length), SVOk ι st.sites w (jjh X ι st.sites) (svs[i]) (vs[i]) := fun i g1 g2 => hv (i + 1) (by simpa using g1) (by simpa using g2)
   have hl' : svs.length = vs.length := by simpa using hl
   simp only [List.getElem_cons_zero] at hv0
   unfold jq8 at h
   split at h
   ·cases ‹sv :: svs = []›
   ·rename_i σ s vs' heq
    cases heq
    split at h
    ·rename_i cells r hbox hr
     split at h
     ·rename_i cs gone hg
      cases h
      obtain ⟨k1, k2, k3, k4⟩ := ih hr hl' hvs hus hbs
      have hlook := jjE hbox
      obtain ⟨b, T, cur, e1, e2, e3, e4, e5⟩ := L.fz.old.box hlook hv0
      have hslf : SlfOk cells T cur b := by
       obtain ⟨b2, T2, cur2, q1, q2, _, _, q3, _⟩ := L.fz.old.sites σ _ hlook
       rw [e1] at q1
       cases q1
       rw [e3] at q2
       cases q2
       exact q3
      obtain ⟨g1, g2⟩ := give_ok L hg e5
      subst e2
      refine ⟨⟨b :: jjn ι (jjF gone), _, ?_, ⟨b, rfl, T, cur, _, rfl, e3, e4, fun hh => hslf (give_head hg hh), g1⟩, k1⟩, ?_, ?_, ?_⟩
      ·show jjn ι (jjF (((σ, Site.dead s) :: gone) ++ r.gone)) = _
       rw [jjR, jjX]
       congr 1
       simp [jjF, jjn, e1, blk]
      ·refine Gives.append ?_ k2
       intro τ s' hm
       rcases List.mem_cons.1 hm with hm | hm
       ·cases hm; exact ⟨_, hlook, rfl, rfl⟩
       ·exact g2 τ s' hm
      ·simp [jqi, k3, jjF, jjn, e1, blk]
      ·intro τ s' hm
       rcases List.mem_cons.1 hm with hm | hm
       ·cases hm; exact ⟨by simp, b, e1⟩
       ·obtain ⟨q1, q2⟩ := k4 τ s' hm
        exact ⟨List.mem_append.2 (.inr q1), q2⟩
     ·cases h
    ·cases h
   ·rename_i l vs' _ heq
    cases heq
    split at h
    ·rename_i l' us bs r h1 hr
     cases h
     obtain ⟨k1, k2, k3, k4⟩ := ih hr hl' hvs (fun p hp => hus p (List.mem_append.2 (.inr hp))) (fun p hp => hbs p (List.mem_append.2 (.inr hp)))
     have := lend_ok L h1 (fun p hp => hus p (List.mem_append.2 (.inl hp))) (fun p hp => hbs p (List.mem_append.2 (.inl hp))) hv0
     refine ⟨⟨[], _, rfl, this, k1⟩, k2, ?_, k4⟩
     cases v <;> simp [jqi, k3]
    ·cases h
   ·rename_i ls vs' heq
    cases heq
    split at h
    ·rename_i ls' us bs r h1 hr
     cases h
     obtain ⟨k1, k2, k3, k4⟩ := ih hr hl' hvs (fun p hp => hus p (List.mem_append.2 (.inr hp))) (fun p hp => hbs p (List.mem_append.2 (.inr hp)))
     obtain ⟨us', e1, e2, e3⟩ := hv0
     have := lends_ok L h1 (fun p hp => hus p (List.mem_append.2 (.inl hp))) (fun p hp => hbs p (List.mem_append.2 (.inl hp))) ⟨e2, e3⟩
     refine ⟨⟨[], _, rfl, ⟨us', e1, this⟩, k1⟩, k2, ?_, k4⟩
     cases v <;> simp [jqi, k3]
    ·cases h
   ·cases h
theorem giveOr_ok (L : Lends w0 fb X ι st tm w LF LB av) {l l' : Lf} {gs us : List (Nat × Site)} {bs : List Nat} {v : Value} (h : giveOr st l = some (l', gs, us, bs)) (hus : ∀ p, p ∈ us → p ∈ LF) (hbs : ∀ σ, σ ∈ bs → σ ∈ LB)
  (hv : LfOk ι st.sites w (jjh X ι st.sites) l v) : Hand1 w av l' v (jjn ι (jjF gs)) ∧ Gives st.sites gs := by
 unfold giveOr at h
 split at h
 ·split at h
  ·rename_i hg
   cases h
   exact give1_ok L hg hv
  ·cases h
 ·cases h
  exact give1_ok (l := .nil _) (us := []) L rfl hv
 ·split at h
  ·rename_i hl
   cases h
   exact ⟨lend_ok L hl hus hbs hv, .nil⟩
  ·cases h
theorem mkArgsG_ok (L : Lends w0 fb X ι st tm w LF LB av) : ∀ {svs : List SV} {a : Args} {vs : List Value}, jxp st svs = some a → svs.length = vs.length →
  (∀ i (h : i < svs.length) (h' : i < vs.length), SVOk ι st.sites w (jjh X ι st.sites) (svs[i]) (vs[i])) → (∀ p, p ∈ a.lent → p ∈ LF) → (∀ σ, σ ∈ a.lentB → σ ∈ LB) →
  HandArgs w av a.as vs (jjn ι (jjF a.gone)) ∧ Gives st.sites a.gone ∧ jqi a.as vs = jjn ι (jjF a.boxes) ∧ (∀ σ s, (σ, s) ∈ a.boxes → (σ, .dead s) ∈ a.gone ∧ ∃ b, ι σ = .pointer (some ⟨b, 0, none⟩)) := by
 intro svs
 induction svs with
 | nil =>
  intro a vs h hl _ _ _
  simp only [jxp] at h
  cases h
  rw [List.eq_nil_of_length_eq_zero hl.symm]
  exact ⟨rfl, .nil, rfl, fun σ s hm => by simp at hm⟩
 | cons sv svs ih =>
  intro a vs h hl hv hus hbs
  match vs, hl with
  | v :: vs, hl =>
   have hv0 := hv 0 (by simp) (by simp)
   have hvs : ∀ i (h : i < svs.length) (h' : i < vs.length), SVOk ι st.sites w (jjh X ι st.sites) (svs[i]) (vs[i]) := fun i g1 g2 => hv (i + 1) (by simpa using g1) (by simpa using g2)
   have hl' : svs.length = vs.length := by simpa using hl
   simp only [List.getElem_cons_zero] at hv0
   unfold jxp at h
   split at h
   ·cases ‹sv :: svs = []›
   ·rename_i l vs' heq
    cases heq
    split at h
    ·rename_i l' gs us bs r h1 hr
     cases h
     obtain ⟨k1, k2, k3, k4⟩ := ih hr hl' hvs (fun p hp => hus p (List.mem_append.2 (.inr hp))) (fun p hp => hbs p (List.mem_append.2 (.inr hp)))
     obtain ⟨g1, g2⟩ := giveOr_ok L h1 (fun p hp => hus p (List.mem_append.2 (.inl hp))) (fun p hp => hbs p (List.mem_append.2 (.inl hp))) hv0
     refine ⟨⟨_, _, by rw [jjR, jjX], g1, k1⟩, g2.append k2, ?_, fun τ s' hm => ?_⟩
     ·cases v <;> simp [jqi, k3]
     ·obtain ⟨q1, q2⟩ := k4 τ s' hm
      exact ⟨List.mem_append.2 (.inr q1), q2⟩
    ·cases h
   ·cases h
theorem mkArgsV_ok {b : Bool} (L : Lends w0 fb X ι st tm w LF LB av) {svs : List SV} {a : Args} {vs : List Value} (h : mkArgsV b st svs = some a) (hl : svs.length = vs.length)
  (hv : ∀ i (h : i < svs.length) (h' : i < vs.length), SVOk ι st.sites w (jjh X ι st.sites) (svs[i]) (vs[i])) (h1 : ∀ p, p ∈ a.lent → p ∈ LF) (h2 : ∀ σ, σ ∈ a.lentB → σ ∈ LB) :
  HandArgs w av a.as vs (jjn ι (jjF a.gone)) ∧ Gives st.sites a.gone ∧ jqi a.as vs = jjn ι (jjF a.boxes) ∧ (∀ σ s, (σ, s) ∈ a.boxes → (σ, .dead s) ∈ a.gone ∧ ∃ b, ι σ = .pointer (some ⟨b, 0, none⟩)) := by
 cases b
 ·exact mkArgs_ok L h hl hv h1 h2
 ·exact mkArgsG_ok L h hl hv h1 h2
end
theorem memN_iff (n : Nat) (l : List Nat) : memN n l = true ↔ n ∈ l := by
 induction l with
 | nil => simp [memN]
 | cons m l ih =>
  simp only [memN, Bool.or_eq_true, ih, List.mem_cons]
  constructor
  ·rintro (h | h)
   ·exact .inl (Nat.eq_of_beq_eq_true h)
   ·exact .inr h
  ·rintro (rfl | h)
   ·exact .inl (Nat.beq_refl n)
   ·exact .inr h
theorem jxe (l : List Nat) : jqk l = true ↔ l.Nodup := by
 induction l with
 | nil => simp [jqk]
 | cons n l ih =>
  simp only [jqk, Bool.and_eq_true, ih, List.nodup_cons, Bool.not_eq_true']
  constructor
  ·rintro ⟨h1, h2⟩
   exact ⟨fun h => (by rw [(memN_iff n l).2 h] at h1; cases h1), h2⟩
  ·rintro ⟨h1, h2⟩
   refine ⟨?_, h2⟩
   cases h : memN n l with
   | false => rfl
   | true => exact absurd ((memN_iff n l).1 h) h1
theorem disjN_iff (l m : List Nat) : jqT l m = true ↔ ∀ n, n ∈ l → n ∉ m := by
 induction l with
 | nil => simp [jqT]
 | cons n l ih =>
  simp only [jqT, Bool.and_eq_true, ih, Bool.not_eq_true', List.mem_cons]
  constructor
  ·rintro ⟨h1, h2⟩ k (rfl | hk)
   ·intro h; rw [(memN_iff k m).2 h] at h1; cases h1
   ·exact h2 k hk
  ·intro h
   refine ⟨?_, fun k hk => h k (.inr hk)⟩
   cases h' : memN n m with
   | false => rfl
   | true => exact absurd ((memN_iff n m).1 h') (h n (.inl rfl))
theorem jj4 {sites us : List (Nat × Site)} {σ : Nat} (h : σ ∉ jjF us) : jjB (jjN sites us) σ = jjB sites σ := by
 induction us generalizing sites with
 | nil => rfl
 | cons p us ih =>
  obtain ⟨n, s⟩ := p
  simp only [jjF, List.mem_cons, not_or] at h
  simp only [jjN]
  rw [ih h.2, jjl]
  have : ¬ n = σ := fun e => h.1 e.symm
  simp [this]
theorem mem_keys {α : Type} {us : List (Nat × α)} {σ : Nat} {s : α} (h : (σ, s) ∈ us) : σ ∈ jjF us := by
 induction us with
 | nil => simp at h
 | cons p us ih =>
  rcases List.mem_cons.1 h with rfl | h
  ·exact List.mem_cons_self
  ·exact List.mem_cons_of_mem _ (ih h)
theorem keys_mem {α : Type} {us : List (Nat × α)} {σ : Nat} (h : σ ∈ jjF us) : ∃ s, (σ, s) ∈ us := by
 induction us with
 | nil => simp [jjF] at h
 | cons p us ih =>
  obtain ⟨n, s⟩ := p
  rcases List.mem_cons.1 h with h | h
  ·exact ⟨s, by rw [h]; exact List.mem_cons_self⟩
  ·obtain ⟨s', h'⟩ := ih h; exact ⟨s', List.mem_cons_of_mem _ h'⟩
section
variable {w0 : World} {fb : List Nat} {X : Nat → Prop} {ι : Nat → Value} {st : St} {tm : Array Value} {w : World}
theorem Sim.kills : ∀ {us : List (Nat × Site)} {st : St} {X : Nat → Prop}, Sim w0 fb X ι st tm w → Gives st.sites us → (jjF us).Nodup →
  Sim w0 fb (fun b => X b ∨ b ∈ jjn ι (jjF us)) ι { st with sites := jjN st.sites us } tm w := by
 intro us
 induction us with
 | nil => intro st X S _ _; exact S.shrink fun b h => by rcases h with h | h; exact h; simp [jjF, jjn] at h
 | cons p us ih =>
  obtain ⟨σ, s'⟩ := p
  intro st X S hg hn
  obtain ⟨site, h1, h2, rfl⟩ := hg σ s' List.mem_cons_self
  simp only [jjF, List.nodup_cons] at hn
  have S1 := S.kill h1 h2
  have S2 := ih S1 (fun τ s hm => by
   obtain ⟨t, k1, k2, k3⟩ := hg τ s (List.mem_cons_of_mem _ hm)
   have : ¬ σ = τ := fun e => hn.1 (by rw [e]; exact mem_keys hm)
   exact ⟨t, by simp [jjl, this, k1], k2, k3⟩) hn.2
  refine S2.shrink fun b h => ?_
  rcases h with h | h
  ·exact .inl (.inl h)
  ·simp only [jjF, jjn, List.filterMap_cons] at h
   cases hb : blk (ι σ) with
   | none => simp only [hb] at h; exact .inr h
   | some c =>
    simp only [hb, List.mem_cons] at h
    rcases h with rfl | h
    ·exact .inl (.inr rfl)
    ·exact .inr h
structure Took (w0 : World) (fb : List Nat) (X X' : Nat → Prop) (ι ι' : Nat → Value) (st : St) (tm : Array Value) (w : World) (us : List (Nat × Site)) : Prop where
 sim : Sim w0 fb X' ι' { st with sites := jjN st.sites us } tm w
 le : ∀ c, jjh X' ι' (jjN st.sites us) c → jjh X ι st.sites c
 go : ∀ {a v}, SVOk ι st.sites w (jjh X ι st.sites) a v → SVOk ι' (jjN st.sites us) w (jjh X' ι' (jjN st.sites us)) a v
 same : ∀ σ, σ ∉ jjF us → ι' σ = ι σ
theorem Took.nil {X' : Nat → Prop} (S : Sim w0 fb X ι st tm w) (h : ∀ b, X' b → X b) : Took w0 fb X X' ι ι st tm w [] :=
 ⟨S.shrink h, fun c hc => by
  rcases hc with hc | hc
  ·exact .inl (h c hc)
  ·exact .inr hc, fun k => k.anti (fun c hc => by
   rcases hc with hc | hc
   ·exact .inl (h c hc)
   ·exact .inr hc) (fun c hc => (S.shrink h).lt hc), fun _ _ => rfl⟩
theorem Took.trans {X1 X2 : Nat → Prop} {ι1 ι2 : Nat → Value} {us vs : List (Nat × Site)} (A : Took w0 fb X X1 ι ι1 st tm w us) (B : Took w0 fb X1 X2 ι1 ι2 { st with sites := jjN st.sites us } tm w vs) :
  Took w0 fb X X2 ι ι2 st tm w (us ++ vs) := by
 refine ⟨?_, ?_, ?_, fun σ h => ?_⟩
 ·rw [jj0]; exact B.sim
 ·rw [jj0]; exact fun c hc => A.le c (B.le c hc)
 ·rw [jj0]; exact fun h => B.go (A.go h)
 ·rw [jjR, List.mem_append, not_or] at h
  rw [B.same σ h.2, A.same σ h.1]
theorem Took.one {X' : Nat → Prop} {n : Nat} {site' : Site} {nv : Value} (S : Sim w0 fb X ι st tm w) (hX : ∀ b, X' b → X b)
  (hst : (∀ site, jjB st.sites n = some site → site.stamp < site'.stamp) ∨ (ι n = nv ∧ ∀ site, jjB st.sites n = some site → site.stamp = site'.stamp ∧ site.live = false))
  (hb : ∀ b, blk nv = some b → X b ∧ ¬ X' b ∧ (b ∈ fb ∨ w0.heap.size ≤ b))
  (hok : ∀ {sites' : List (Nat × Site)} {ι' : Nat → Value}, sites' = upd st.sites n site' → ι' n = nv → (∀ {a v}, SVOk ι st.sites w (jjh X ι st.sites) a v → SVOk ι' sites' w (jjh X' ι' sites') a v) →
   (∀ b, jjh X' ι' sites' b → jjh X ι st.sites b) → SiteOk ι' sites' w (jjh X' ι' sites') n site') :
  Took w0 fb X X' ι (fun τ => if τ = n then nv else ι τ) st tm w [(n, site')] := by
 obtain ⟨h1, h2, h3⟩ := S.adopt hX hst hb hok
 exact ⟨h1, h2, h3, fun σ h => by
  simp only [jjF, List.mem_singleton] at h
  simp [h]⟩
theorem hand_plain {av av' : Nat → Prop} {l : Lf} {v : Value} {sites : List (Nat × Site)} (hf : ∀ t xs, l ≠ .fresh t xs) (h : LfOk noι [] w av l v) (hle : ∀ b, av' b → av b) (hlt : ∀ b, av' b → b < w.heap.size) : LfOk ι sites w av' l v := by
 have anti : ∀ {d : D} {v : Value}, Rd w av d v → Rd w av' d v := fun h => SVOk.anti (ι := ι) (sites := []) (a := one _) hle hlt h
 cases l with
 | d x => exact anti h
 | nil t => exact h
 | own σ s => obtain ⟨_, _, h, _⟩ := h; cases h
 | ptr σ s off => obtain ⟨_, _, _, h, _⟩ := h; cases h
 | rptr cells off =>
  obtain ⟨b, o, h1, h2, h3, cs, h4, h5, h6⟩ := h
  exact ⟨b, o, h1, fun hx => h2 (hle b hx), h3, cs, h4, h5, fun j g1 g2 => anti (h6 j g1 g2)⟩
 | optr σ s t k off => obtain ⟨_, _, _, h, _⟩ := h; cases h
 | clo g caps =>
  obtain ⟨vs, h1, h2, h3⟩ := h
  match caps, vs, h2 with
  | [], [], _ => exact ⟨[], h1, rfl, fun i h => by simp at h⟩
  | c :: caps, v :: vs, _ => obtain ⟨_, h, _⟩ := h3 0 (by simp) (by simp); cases h
 | cst u => exact h
 | fresh t xs => exact absurd rfl (hf t xs)
 | slf => trivial
 | any => trivial
theorem LfsOk.go {ι' : Nat → Value} {sites sites' : List (Nat × Site)} {w' : World} {av av' : Nat → Prop} (go : ∀ {a : SV} {v : Value}, SVOk ι sites w av a v → SVOk ι' sites' w' av' a v) {ls : List Lf} {vs : List Value}
  (h : LfsOk ι sites w av ls vs) : LfsOk ι' sites' w' av' ls vs := lfs_sv go h
structure Left (w0 : World) (fb : List Nat) (X : Nat → Prop) (ι : Nat → Value) (st : St) (av : Nat → Prop) (bs : List Nat) : Prop where
 nodup : bs.Nodup
 mine : ∀ b, b ∈ bs → ¬ X b ∧ (b ∈ fb ∨ w0.heap.size ≤ b)
 le : ∀ c, jjh (fun b => X b ∨ b ∈ bs) ι st.sites c → av c
def Newer (st0 : St) (sites : List (Nat × Site)) (ks : List Nat) : Prop := ∀ m, m ∈ ks → ∀ site, jjB sites m = some site → site.stamp < jjd st0 m
theorem Newer.step {st0 : St} {sites us : List (Nat × Site)} {ks : List Nat} (h : Newer st0 sites ks) (hd : ∀ n, n ∈ jjF us → n ∉ ks) : Newer st0 (jjN sites us) ks := by
 intro m hm site hs
 rw [jj4 (fun h' => hd m h' hm)] at hs
 exact h m hm site hs
theorem own_oneCell {u : Bool} {e : TypeId} {s : Nat} {v : Value} {n : Nat} {cs : List Value} (h : rowAt w u e s v n cs) : v.oneCell' = true := by
 rcases h.2 with ⟨h, _⟩ | ⟨g, cap, cur, fz, h, _⟩ <;> rw [h] <;> rfl
theorem take_ok {av : Nat → Prop} (st0 : St) : ∀ (ls : List Lf) (n : Nat) {ι : Nat → Value} {st : St} {vs : List Value} {bs rest : List Nat}, Sim w0 fb (fun b => X b ∨ b ∈ bs ++ rest) ι st tm w → HandL w av ls vs bs →
  Left w0 fb X ι st av (bs ++ rest) → Newer st0 st.sites (jjF (take st0 n ls).2) → (jjF (take st0 n ls).2).Nodup →
  ∃ ι', Took w0 fb (fun b => X b ∨ b ∈ bs ++ rest) (fun b => X b ∨ b ∈ rest) ι ι' st tm w (take st0 n ls).2 ∧ LfsOk ι' (jjN st.sites (take st0 n ls).2) w (jjh (fun b => X b ∨ b ∈ rest) ι' (jjN st.sites (take st0 n ls).2)) (take st0 n ls).1 vs ∧
   Left w0 fb X ι' { st with sites := jjN st.sites (take st0 n ls).2 } av rest := by
 intro ls
 induction ls with
 | nil =>
  intro n ι st vs bs rest S h L hN hd
  match vs, h with
  | [], h =>
   have h : bs = [] := h
   subst h
   exact ⟨ι, .nil S (fun b hb => hb), .nil, L⟩
 | cons l ls ih =>
  intro n ι st vs bs rest S h L hN hd
  match vs, h with
  | v :: vs, ⟨b1, b2, hbs, h1, h2⟩ =>
   subst hbs
   by_cases hf : ∃ t xs, l = .fresh t xs
   ·obtain ⟨t, xs, rfl⟩ := hf
    obtain ⟨hb1, e, cs, ho, hr⟩ := h1
    simp only [take, jjF, List.nodup_cons] at hd hN
    have hnd := L.nodup
    rw [List.append_assoc, hb1] at hnd
    have T1 : Took w0 fb (fun b => X b ∨ b ∈ b1 ++ b2 ++ rest) (fun b => X b ∨ b ∈ b2 ++ rest) ι (fun τ => if τ = n then v else ι τ) st tm w [(n, .row (jjd st0 n) t xs)] := by
     refine .one S (fun b hb => ?_) (.inl fun site hs => hN n List.mem_cons_self site hs) (fun b hb => ?_) (fun hs' hι' go le => ?_)
     ·rcases hb with hb | hb
      ·exact .inl hb
      ·exact .inr (by rw [List.append_assoc]; exact List.mem_append.2 (.inr hb))
     ·have hm : b ∈ b1 := by rw [hb1, hb]; simp
      have hm' : b ∈ b1 ++ b2 ++ rest := by rw [List.append_assoc]; exact List.mem_append.2 (.inl hm)
      refine ⟨.inr hm', ?_, (L.mine b hm').2⟩
      rintro (hx | hx)
      ·exact (L.mine b hm').1 hx
      ·rw [hb] at hnd
       simp only [Option.toList_some, List.singleton_append, List.nodup_cons] at hnd
       exact hnd.1 hx
     ·refine ⟨e, cs, by rw [hι']; exact ho, fun j g1 g2 => ?_⟩
      have k := hr.2 j g1 g2
      have hle : ∀ b, jjh (fun b => X b ∨ b ∈ b2 ++ rest) _ _ b → av b := fun b hb => L.le b (le b hb)
      exact SVOk.anti (ι := ι) (sites := []) (a := one _) hle (fun b hb => S.lt (le b hb)) k
    have L1 : Left w0 fb X (fun τ => if τ = n then v else ι τ) { st with sites := jjN st.sites [(n, .row (jjd st0 n) t xs)] } av (b2 ++ rest) := by
     refine ⟨(List.nodup_append.1 (by rw [List.append_assoc] at L; exact L.nodup)).2.1, fun b hb => L.mine b (by rw [List.append_assoc]; exact List.mem_append.2 (.inr hb)), fun c hc => L.le c (T1.le c hc)⟩
    obtain ⟨ι', T2, h3, h4⟩ := ih (n + 1) (st := { st with sites := jjN st.sites [(n, .row (jjd st0 n) t xs)] }) T1.sim h2 L1
     (Newer.step (us := [(n, .row (jjd st0 n) t xs)]) (fun m hm => hN m (List.mem_cons_of_mem _ hm)) (fun m hm => by simp only [jjF, List.mem_singleton] at hm; subst hm; exact hd.1)) hd.2
    refine ⟨ι', T1.trans T2, ?_, h4⟩
    refine LfsOk.cons ?_ h3
    have : LfOk (fun τ => if τ = n then v else ι τ) (jjN st.sites [(n, .row (jjd st0 n) t xs)]) w (jjh (fun b => X b ∨ b ∈ b2 ++ rest) (fun τ => if τ = n then v else ι τ) (jjN st.sites [(n, .row (jjd st0 n) t xs)])) (.own n (jjd st0 n)) v :=
     ⟨own_oneCell ho, Ref.mk (site := .row (jjd st0 n) t xs) (by simp [jjN, jjl]) rfl (by simp)⟩
    exact T2.go (a := lfv (.own n (jjd st0 n))) (v := v) this
   ·have hnf : ∀ t xs, l ≠ .fresh t xs := fun t xs h => hf ⟨t, xs, h⟩
    have etake : take st0 n (l :: ls) = (l :: (take st0 (n + 1) ls).1, (take st0 (n + 1) ls).2) := by
     cases l <;> first | rfl | exact absurd rfl (hnf _ _)
    have h1' : b1 = [] ∧ LfOk noι [] w av l v := by
     cases l <;> first | exact h1 | exact absurd rfl (hnf _ _)
    obtain ⟨rfl, h1'⟩ := h1'
    rw [etake] at hd hN ⊢
    simp only [List.nil_append] at S L ⊢
    obtain ⟨ι', T2, h3, h4⟩ := ih (n + 1) S h2 L hN hd
    refine ⟨ι', T2, ?_, h4⟩
    refine LfsOk.cons ?_ h3
    exact hand_plain hnf h1' (fun b hb => L.le b (T2.le b hb)) (fun b hb => T2.sim.lt hb)
end
section
variable {w0 : World} {fb : List Nat} {X : Nat → Prop} {ι : Nat → Value} {st : St} {tm : Array Value} {w : World}
def AVsOk (ι : Nat → Value) (sites : List (Nat × Site)) (w : World) (av : Nat → Prop) (as : List AV) (vs : List Value) : Prop :=
 vs.length = as.length ∧ ∀ j (h : j < as.length) (h' : j < vs.length), AVOk ι sites w av (as[j]) (vs[j])
theorem AVsOk.cons {sites : List (Nat × Site)} {av : Nat → Prop} {a : AV} {as : List AV} {v : Value} {vs : List Value} (h : AVOk ι sites w av a v) (hs : AVsOk ι sites w av as vs) : AVsOk ι sites w av (a :: as) (v :: vs) :=
 ⟨by simp [hs.1], fun j h1 h2 => by
  cases j with
  | zero => exact h
  | succ j => exact hs.2 j (by simpa using h1) (by simpa using h2)⟩
theorem Left.rest {av : Nat → Prop} {a b : List Nat} (L : Left w0 fb X ι st av (a ++ b)) {ι' : Nat → Value} {st' : St} (h : ∀ c, jjh (fun c => X c ∨ c ∈ b) ι' st'.sites c → jjh (fun c => X c ∨ c ∈ a ++ b) ι st.sites c) : Left w0 fb X ι' st' av b :=
 ⟨(List.nodup_append.1 L.nodup).2.1, fun c hc => L.mine c (List.mem_append.2 (.inr hc)), fun c hc => L.le c (h c hc)⟩
theorem take_head {st0 : St} {n : Nat} {ls : List Lf} (h : (take st0 n ls).1.head? = some .slf) : ls.head? = some .slf := by
 cases ls with
 | nil => cases h
 | cons l ls => cases l <;> first | exact h | cases h
theorem take_one (st0 : St) (n : Nat) (l : Lf) : ∃ l', (take st0 n [l]).1 = [l'] := by cases l <;> exact ⟨_, rfl⟩
theorem takeA_ok {av : Nat → Prop} (st0 : St) : ∀ (as : List AV) (n : Nat) {ι : Nat → Value} {st : St} {vs : List Value} {bs rest : List Nat}, Sim w0 fb (fun b => X b ∨ b ∈ bs ++ rest) ι st tm w → jzg w av as vs bs →
  Left w0 fb X ι st av (bs ++ rest) → Newer st0 st.sites (jjF (jqj st0 n as).2) → (jjF (jqj st0 n as).2).Nodup →
  ∃ ι', Took w0 fb (fun b => X b ∨ b ∈ bs ++ rest) (fun b => X b ∨ b ∈ rest) ι ι' st tm w (jqj st0 n as).2 ∧ AVsOk ι' (jjN st.sites (jqj st0 n as).2) w (jjh (fun b => X b ∨ b ∈ rest) ι' (jjN st.sites (jqj st0 n as).2)) (jqj st0 n as).1 vs ∧
   Left w0 fb X ι' { st with sites := jjN st.sites (jqj st0 n as).2 } av rest := by
 intro as
 induction as with
 | nil =>
  intro n ι st vs bs rest S h L hN hd
  match vs, h with
  | [], h =>
   have h : bs = [] := h
   subst h
   exact ⟨ι, .nil S (fun b hb => hb), ⟨rfl, fun j h => by simp [jqj] at h⟩, L⟩
 | cons a as ih =>
  intro n ι st vs bs rest S h L hN hd
  match vs, h with
  | v :: vs, ⟨b1, b2, hbs, h1, h2⟩ =>
   subst hbs
   have go : ∀ (ls : List Lf) (us : List Value), HandL w av ls us b1 → (jqj st0 n (a :: as)).2 = (take st0 n ls).2 ++ (jqj st0 (n + 100) as).2 →
     ∃ ι', Took w0 fb (fun b => X b ∨ b ∈ b1 ++ b2 ++ rest) (fun b => X b ∨ b ∈ rest) ι ι' st tm w (jqj st0 n (a :: as)).2 ∧ LfsOk ι' (jjN st.sites (jqj st0 n (a :: as)).2) w (jjh (fun b => X b ∨ b ∈ rest) ι' (jjN st.sites (jqj st0 n (a :: as)).2)) (take st0 n ls).1 us ∧
      AVsOk ι' (jjN st.sites (jqj st0 n (a :: as)).2) w (jjh (fun b => X b ∨ b ∈ rest) ι' (jjN st.sites (jqj st0 n (a :: as)).2)) (jqj st0 (n + 100) as).1 vs ∧ Left w0 fb X ι' { st with sites := jjN st.sites (jqj st0 n (a :: as)).2 } av rest := by
    intro ls us hh e
    rw [e] at hN hd ⊢
    rw [jjR] at hN hd
    obtain ⟨d1, d2, d3⟩ := List.nodup_append.1 hd
    rw [List.append_assoc] at S L ⊢
    obtain ⟨ι1, T1, k1, L1⟩ := take_ok st0 ls n S hh L (fun m hm => hN m (List.mem_append.2 (.inl hm))) d1
    obtain ⟨ι2, T2, k2, L2⟩ := ih (n + 100) (st := { st with sites := jjN st.sites (take st0 n ls).2 }) T1.sim h2 L1
     (Newer.step (fun m hm => hN m (List.mem_append.2 (.inr hm))) (fun m hm hm' => d3 m hm m hm' rfl)) d2
    refine ⟨ι2, T1.trans T2, ?_, ?_, ?_⟩
    ·rw [jj0]; exact k1.go T2.go
    ·rw [jj0]; exact k2
    ·rw [jj0]; exact L2
   cases a with
   | lf l =>
    have h1 : Hand1 w av l v b1 := h1
    obtain ⟨ι', T, k1, k2, k3⟩ := go [l] [v] ⟨b1, [], by simp, h1, rfl⟩ rfl
    refine ⟨ι', T, ?_, k3⟩
    obtain ⟨l', hl'⟩ := take_one st0 n l
    have : (jqj st0 n (AV.lf l :: as)).1 = AV.lf l' :: (jqj st0 (n + 100) as).1 := by simp only [jqj, hl']
    rw [this]
    refine AVsOk.cons ?_ k2
    rw [hl'] at k1
    exact k1.2 0 (by simp) (by simp)
   | agg ls =>
    obtain ⟨us, e, h1⟩ := h1
    obtain ⟨ι', T, k1, k2, k3⟩ := go ls us h1 rfl
    refine ⟨ι', T, ?_, k3⟩
    have : (jqj st0 n (AV.agg ls :: as)).1 = AV.agg (take st0 n ls).1 :: (jqj st0 (n + 100) as).1 := rfl
    rw [this]
    exact AVsOk.cons ⟨us, e, k1.1, k1.2⟩ k2
def BBs (ι : Nat → Value) : List (Nat × Nat) → List Nat → Prop
 | [], [] => True
 | p :: r, b :: bb => ι p.1 = .pointer (some ⟨b, 0, none⟩) ∧ BBs ι r bb
 | _, _ => False
theorem BBs.of : ∀ {boxes : List (Nat × Nat)}, (∀ σ s, (σ, s) ∈ boxes → ∃ b, ι σ = .pointer (some ⟨b, 0, none⟩)) → BBs ι boxes (jjn ι (jjF boxes)) := by
 intro boxes
 induction boxes with
 | nil => intro _; trivial
 | cons q boxes ih =>
  obtain ⟨ρ, r⟩ := q
  intro h
  obtain ⟨c, hc⟩ := h ρ r List.mem_cons_self
  have := ih fun σ s hm => h σ s (List.mem_cons_of_mem _ hm)
  have e : jjn ι (jjF ((ρ, r) :: boxes)) = c :: jjn ι (jjF boxes) := by simp [jjn, jjF, hc, blk]
  rw [e]
  exact ⟨hc, this⟩
theorem BBs.congr {ι' : Nat → Value} : ∀ {boxes : List (Nat × Nat)} {bb : List Nat}, BBs ι boxes bb → (∀ τ, τ ∈ jjF boxes → ι' τ = ι τ) → BBs ι' boxes bb := by
 intro boxes
 induction boxes with
 | nil =>
  intro bb h _
  match bb, h with
  | [], _ => trivial
 | cons q boxes ih =>
  intro bb h h'
  match bb, h with
  | b :: bb, ⟨h1, h2⟩ => exact ⟨by rw [h' q.1 List.mem_cons_self]; exact h1, ih h2 fun τ hτ => h' τ (List.mem_cons_of_mem _ hτ)⟩
theorem takeB_keys {av : Nat → Prop} {st0 : St} {τ : Nat} : ∀ {boxes : List (Nat × Nat)} {css : List (List Lf)} {bb bs : List Nat}, BBs ι boxes bb → jxu w av bb css bs → τ ∈ jjF boxes → τ ∈ jjF (jxA st0 boxes css) := by
 intro boxes
 induction boxes with
 | nil => intro css bb bs _ _ h; simp [jjF] at h
 | cons q boxes ih =>
  obtain ⟨ρ, r⟩ := q
  intro css bb bs hl hh hm
  match bb, css, hl, hh with
  | c :: bb, cs :: css, ⟨_, hl⟩, ⟨_, _, _, _, hh⟩ =>
   simp only [jxA, jjR, jjF, List.mem_append, List.mem_cons]
   rcases List.mem_cons.1 hm with rfl | hm
   ·exact .inr (.inl rfl)
   ·exact .inr (.inr (ih hl hh hm))
theorem takeB_ok {av : Nat → Prop} (st0 : St) : ∀ (boxes : List (Nat × Nat)) {css : List (List Lf)} {ι : Nat → Value} {st : St} {bb bs rest : List Nat}, Sim w0 fb (fun b => X b ∨ b ∈ bs ++ rest) ι st tm w → BBs ι boxes bb → jxu w av bb css bs →
  (∀ σ s, (σ, s) ∈ boxes → jjB st.sites σ = some (.dead s)) →
  Left w0 fb X ι st av (bs ++ rest) → Newer st0 st.sites (jjF (jxA st0 boxes css)) → (jjF (jxA st0 boxes css)).Nodup →
  ∃ ι', Took w0 fb (fun b => X b ∨ b ∈ bs ++ rest) (fun b => X b ∨ b ∈ rest) ι ι' st tm w (jxA st0 boxes css) ∧ Left w0 fb X ι' { st with sites := jjN st.sites (jxA st0 boxes css) } av rest := by
 intro boxes
 induction boxes with
 | nil =>
  intro css ι st bb bs rest S hbb h hB L hN hd
  match bb, css, hbb, h with
  | [], [], _, h =>
   have h : bs = [] := h
   subst h
   exact ⟨ι, .nil S (fun b hb => hb), L⟩
 | cons p boxes ih =>
  obtain ⟨σ, s⟩ := p
  intro css ι st bb bs rest S hbb h hB L hN hd
  have hσ := hB σ s List.mem_cons_self
  match bb, css, hbb, h with
  | b :: bb, cs :: css, ⟨hb, hbb⟩, ⟨b1, b2, hbs, ⟨T, cur, b1', e1, e2, e3, e4⟩, h2⟩ =>
   subst hbs e1
   have hb : ι σ = .pointer (some ⟨b, 0, none⟩) := hb
   have ek : jxA st0 ((σ, s) :: boxes) (cs :: css) = (take st0 (1000000 + σ * 100) cs).2 ++ ([(σ, Site.box s (take st0 (1000000 + σ * 100) cs).1)] ++ jxA st0 boxes css) := rfl
   rw [ek] at hN hd ⊢
   rw [jjR, jjR] at hN hd
   obtain ⟨d1, d2, d3⟩ := List.nodup_append.1 hd
   obtain ⟨d4, d5, d6⟩ := List.nodup_append.1 d2
   have hperm : ∀ c, c ∈ b :: b1' ++ b2 ++ rest ↔ c ∈ b1' ++ (b :: (b2 ++ rest)) := by intro c; simp [or_assoc, or_left_comm]
   have Lnd := L.nodup
   have S1 : Sim w0 fb (fun c => X c ∨ c ∈ b1' ++ (b :: (b2 ++ rest))) ι st tm w := S.shrink fun c hc => hc.imp id (hperm c).2
   have L1 : Left w0 fb X ι st av (b1' ++ (b :: (b2 ++ rest))) := by
    refine ⟨?_, fun c hc => L.mine c ((hperm c).2 hc), fun c hc => L.le c ?_⟩
    ·have : List.Perm (b :: b1' ++ b2 ++ rest) (b1' ++ (b :: (b2 ++ rest))) := by
      simp only [List.cons_append, List.append_assoc]
      exact List.perm_middle.symm
     exact this.nodup_iff.1 Lnd
    ·rcases hc with hc | hc
     ·exact .inl (hc.imp id (hperm c).2)
     ·exact .inr hc
   obtain ⟨ι1, T1, k1, L2⟩ := take_ok st0 cs (1000000 + σ * 100) S1 e4.2 L1 (fun m hm => hN m (List.mem_append.2 (.inl hm))) d1
   have hσk : σ ∉ jjF (take st0 (1000000 + σ * 100) cs).2 := fun h => d3 σ h σ (by simp [jjF]) rfl
   have hι1 : ι1 σ = ι σ := T1.same σ hσk
   have hl1 : jjB (jjN st.sites (take st0 (1000000 + σ * 100) cs).2) σ = some (.dead s) := by rw [jj4 hσk, hσ]
   have hL2 := L2.nodup
   simp only [List.nodup_cons] at hL2
   have T2 : Took w0 fb (fun c => X c ∨ c ∈ b :: (b2 ++ rest)) (fun c => X c ∨ c ∈ b2 ++ rest) ι1 (fun τ => if τ = σ then ι σ else ι1 τ) { st with sites := jjN st.sites (take st0 (1000000 + σ * 100) cs).2 } tm w [(σ, Site.box s (take st0 (1000000 + σ * 100) cs).1)] := by
    refine .one T1.sim (fun c hc => hc.imp id (List.mem_cons_of_mem _)) (.inr ⟨hι1, fun site hs => ?_⟩) (fun c hc => ?_) (fun hs' hι' go le => ?_)
    ·have hs : jjB (jjN st.sites (take st0 (1000000 + σ * 100) cs).2) σ = some site := hs
     rw [hl1] at hs; cases hs; exact ⟨rfl, rfl⟩
    ·rw [hb] at hc
     cases hc
     refine ⟨.inr List.mem_cons_self, ?_, (L2.mine b List.mem_cons_self).2⟩
     rintro (hx | hx)
     ·exact (L2.mine b List.mem_cons_self).1 hx
     ·exact hL2.1 hx
    ·have := lfs_sv go k1
     exact ⟨b, T, cur, by rw [hι', hb], e2, this.1, e3, fun hh => e4.1 (take_head hh), this.2⟩
   have L3 : Left w0 fb X (fun τ => if τ = σ then ι σ else ι1 τ) { st with sites := jjN (jjN st.sites (take st0 (1000000 + σ * 100) cs).2) [(σ, Site.box s (take st0 (1000000 + σ * 100) cs).1)] } av (b2 ++ rest) :=
    Left.rest (a := [b]) (st := { st with sites := jjN st.sites (take st0 (1000000 + σ * 100) cs).2 }) L2 T2.le
   have hbk : ∀ τ, τ ∈ jjF boxes → (fun τ => if τ = σ then ι σ else ι1 τ) τ = ι τ := by
    intro τ hτ
    have hk := takeB_keys (st0 := st0) hbb h2 hτ
    by_cases e : τ = σ
    ·subst e; simp
    ·simp only [e, if_false]
     exact T1.same τ fun hm => d3 τ hm τ (List.mem_append.2 (.inr hk)) rfl
   obtain ⟨ι', T3, L4⟩ := ih (st := { st with sites := jjN (jjN st.sites (take st0 (1000000 + σ * 100) cs).2) [(σ, Site.box s (take st0 (1000000 + σ * 100) cs).1)] }) T2.sim (hbb.congr hbk) h2
    (fun τ r hm => by
     have hk := takeB_keys (st0 := st0) hbb h2 (mem_keys hm)
     show jjB (jjN (jjN st.sites _) _) τ = _
     rw [jj4 (fun h => d6 τ h τ hk rfl), jj4 (fun h => d3 τ h τ (List.mem_append.2 (.inr hk)) rfl)]
     exact hB τ r (List.mem_cons_of_mem _ hm))
    L3
    (Newer.step (Newer.step (fun m hm => hN m (List.mem_append.2 (.inr (List.mem_append.2 (.inr hm))))) (fun m hm hm' => d3 m hm m (List.mem_append.2 (.inr hm')) rfl)) (fun m hm hm' => d6 m hm m hm' rfl)) d5
   refine ⟨ι', ?_, ?_⟩
   ·have T12 := T1.trans T2
    have T0 : Took w0 fb (fun c => X c ∨ c ∈ b :: b1' ++ b2 ++ rest) (fun c => X c ∨ c ∈ b1' ++ (b :: (b2 ++ rest))) ι ι st tm w [] := .nil S fun c hc => hc.imp id (hperm c).2
    have T012 := T0.trans (vs := (take st0 (1000000 + σ * 100) cs).2 ++ [(σ, Site.box s (take st0 (1000000 + σ * 100) cs).1)]) T12
    have := T012.trans (vs := jxA st0 boxes css) (by simpa only [List.nil_append, jj0] using T3)
    simpa only [List.nil_append, List.append_assoc] using this
   ·simpa only [jj0] using L4
end
theorem jx0 {us : List (Nat × Site)} : ∀ {sites : List (Nat × Site)} {σ : Nat} {s : Site}, (jjF us).Nodup → (σ, s) ∈ us → jjB (jjN sites us) σ = some s := by
 induction us with
 | nil => intro sites σ s _ h; simp at h
 | cons p us ih =>
  obtain ⟨n, s'⟩ := p
  intro sites σ s hn hm
  simp only [jjF, List.nodup_cons] at hn
  simp only [jjN]
  rcases List.mem_cons.1 hm with hm | hm
  ·cases hm; rw [jj4 hn.1, jjl]; simp
  ·exact ih hn.2 hm
section plain
variable {w : World} {av av' : Nat → Prop}
theorem rd_plain {d : D} {v : Value} (h : Lf.slicey (.d d) = false) (r : Rd w av d v) : Rd w av' d v := by
 cases r with
 | int k n => exact .int k n
 | bool b => exact .bool b
 | str l s hs => exact .str l s hs
 | nil t => cases h
 | sl => cases h
 | fn => cases h
 | mapn => cases h
 | map => cases h
theorem enc_plain {t : Ty} (h : t.slicey = false) (x : den t) : ∀ d, d ∈ enc t x → Lf.slicey (.d d) = false := by
 cases t <;> first | (cases h; done) | (intro d hd; simp only [enc, List.mem_cons, List.not_mem_nil, or_false] at hd; (rcases hd with rfl | rfl | rfl | rfl | rfl); all_goals rfl) | skip
 all_goals (intro d hd; simp only [enc, List.mem_cons, List.not_mem_nil, or_false] at hd)
 all_goals first | (subst hd; rfl) | (rcases hd with rfl | rfl <;> rfl) | (rcases hd with rfl | rfl | rfl <;> rfl) | (rcases hd with rfl | rfl | rfl | rfl <;> rfl)
theorem rds_plain {t : Ty} {xs : List (den t)} {cs : List Value} (h : t.slicey = false) (r : RdsOk w av (jjM t xs) cs) : RdsOk w av' (jjM t xs) cs := by
 refine ⟨r.1, fun j g1 g2 => rd_plain ?_ (r.2 j g1 g2)⟩
 have hm : (jjM t xs)[j] ∈ jjM t xs := List.getElem_mem g1
 simp only [jjM, List.mem_flatMap] at hm
 obtain ⟨x, _, hx⟩ := hm
 exact enc_plain h x _ hx
theorem hand1_plain {l : Lf} {v : Value} {bs : List Nat} (h : l.slicey = false) (k : Hand1 w av l v bs) : Hand1 w av' l v bs := by
 cases l with
 | d x => exact ⟨k.1, rd_plain h k.2⟩
 | fresh t xs =>
  obtain ⟨h1, e, cs, h2, h3⟩ := k
  exact ⟨h1, e, cs, h2, rds_plain h h3⟩
 | cst v => exact k
 | slf => exact k
 | _ => cases h
theorem handL_plain : ∀ {ls : List Lf} {vs : List Value} {bs : List Nat}, jxQ ls = false → HandL w av ls vs bs → HandL w av' ls vs bs := by
 intro ls
 induction ls with
 | nil =>
  intro vs bs _ k
  match vs, k with
  | [], k => exact k
 | cons l ls ih =>
  intro vs bs h k
  simp only [jxQ, Bool.or_eq_false_iff] at h
  match vs, k with
  | v :: vs, ⟨b1, b2, k1, k2, k3⟩ => exact ⟨b1, b2, k1, hand1_plain h.1 k2, ih h.2 k3⟩
theorem handAs_plain : ∀ {as : List AV} {vs : List Value} {bs : List Nat}, jxi as = false → jzg w av as vs bs → jzg w av' as vs bs := by
 intro as
 induction as with
 | nil =>
  intro vs bs _ k
  match vs, k with
  | [], k => exact k
 | cons a as ih =>
  intro vs bs h k
  simp only [jxi, Bool.or_eq_false_iff] at h
  match vs, k with
  | v :: vs, ⟨b1, b2, k1, k2, k3⟩ =>
   refine ⟨b1, b2, k1, ?_, ih h.2 k3⟩
   cases a with
   | lf l =>
    have h1 := h.1
    simp only [AV.cells, jxQ, Bool.or_false] at h1
    exact hand1_plain h1 k2
   | agg ls =>
    obtain ⟨us, e, k2⟩ := k2
    exact ⟨us, e, handL_plain h.1 k2⟩
theorem handBs_plain : ∀ {css : List (List Lf)} {bb bs : List Nat}, jxh css = false → jxu w av bb css bs → jxu w av' bb css bs := by
 intro css
 induction css with
 | nil =>
  intro bb bs _ k
  match bb, k with
  | [], k => exact k
 | cons a as ih =>
  intro bb bs h k
  simp only [jxh, Bool.or_eq_false_iff] at h
  match bb, k with
  | b :: bb, ⟨b1, b2, k1, ⟨T, cur, bs', e1, e2, e3, e4, e5⟩, k3⟩ =>
   exact ⟨b1, b2, k1, ⟨T, cur, bs', e1, e2, e3, e4, handL_plain h.1 e5⟩, ih h.2 k3⟩
theorem hand1_lt {l : Lf} {v : Value} {bs : List Nat} (k : Hand1 w av l v bs) : ∀ b, b ∈ bs → b < w.heap.size := by
 cases l with
 | fresh t xs =>
  obtain ⟨h1, e, cs, h2, h3⟩ := k
  intro b hb
  rw [h1] at hb
  rcases h2.2 with ⟨h, _⟩ | ⟨g, cap, cur, fz, h, _, hg, _⟩
  ·rw [h] at hb; simp [blk] at hb
  ·rw [h] at hb
   simp [blk] at hb
   subst hb
   exact (Array.getElem?_eq_some_iff.1 hg).1
 | _ => intro b hb; rw [k.1] at hb; simp at hb
theorem handL_lt : ∀ {ls : List Lf} {vs : List Value} {bs : List Nat}, HandL w av ls vs bs → ∀ b, b ∈ bs → b < w.heap.size := by
 intro ls
 induction ls with
 | nil =>
  intro vs bs k
  match vs, k with
  | [], k => have k : bs = [] := k; intro b hb; rw [k] at hb; simp at hb
 | cons l ls ih =>
  intro vs bs k
  match vs, k with
  | v :: vs, ⟨b1, b2, k1, k2, k3⟩ =>
   intro b hb
   rw [k1] at hb
   rcases List.mem_append.1 hb with hb | hb
   ·exact hand1_lt k2 b hb
   ·exact ih k3 b hb
theorem handAs_lt : ∀ {as : List AV} {vs : List Value} {bs : List Nat}, jzg w av as vs bs → ∀ b, b ∈ bs → b < w.heap.size := by
 intro as
 induction as with
 | nil =>
  intro vs bs k
  match vs, k with
  | [], k => have k : bs = [] := k; intro b hb; rw [k] at hb; simp at hb
 | cons a as ih =>
  intro vs bs k
  match vs, k with
  | v :: vs, ⟨b1, b2, k1, k2, k3⟩ =>
   intro b hb
   rw [k1] at hb
   rcases List.mem_append.1 hb with hb | hb
   ·cases a with
    | lf l => exact hand1_lt (show Hand1 w av l v b1 from k2) b hb
    | agg ls => obtain ⟨us, e, k2⟩ := k2; exact handL_lt k2 b hb
   ·exact ih k3 b hb
theorem handBs_lt : ∀ {css : List (List Lf)} {bb bs : List Nat}, jxu w av bb css bs → ∀ b, b ∈ bs → b < w.heap.size := by
 intro css
 induction css with
 | nil =>
  intro bb bs k
  match bb, k with
  | [], k => have k : bs = [] := k; intro b hb; rw [k] at hb; simp at hb
 | cons a as ih =>
  intro bb bs k
  match bb, k with
  | c :: bb, ⟨b1, b2, k1, ⟨T, cur, bs', e1, e2, e3, _, e4⟩, k3⟩ =>
   intro b hb
   rw [k1] at hb
   rcases List.mem_append.1 hb with hb | hb
   ·rw [e1] at hb
    rcases List.mem_cons.1 hb with rfl | hb
    ·exact (Array.getElem?_eq_some_iff.1 e2).1
    ·exact handL_lt e4 b hb
   ·exact ih k3 b hb
end plain
section
variable {P : Program} {w0 : World} {fb : List Nat} {X : Nat → Prop} {ι : Nat → Value} {st : St} {tm : Array Value} {w : World} {o : Oper}
theorem jj9 {ks : List Nat} {b : Nat} : b ∈ jjn ι ks ↔ ∃ σ, σ ∈ ks ∧ blk (ι σ) = some b := by simp [jjn]
theorem blocks_nodup (S : Sim w0 fb X ι st tm w) : ∀ {ks : List Nat}, ks.Nodup → (∀ σ, σ ∈ ks → jjs st.sites σ) → (jjn ι ks).Nodup := by
 intro ks
 induction ks with
 | nil => intro _ _; exact List.nodup_nil
 | cons σ ks ih =>
  intro hn hl
  rw [List.nodup_cons] at hn
  have := ih hn.2 fun τ hτ => hl τ (List.mem_cons_of_mem _ hτ)
  simp only [jjn, List.filterMap_cons] at this ⊢
  cases hb : blk (ι σ) with
  | none => simpa using this
  | some b =>
   simp only [List.nodup_cons]
   refine ⟨fun hm => ?_, this⟩
   obtain ⟨τ, h1, h2⟩ := jj9.1 hm
   have := S.excl σ τ b (hl σ List.mem_cons_self) (hl τ (List.mem_cons_of_mem _ h1)) hb h2
   subst this
   exact hn.1 h1
structure Prep (w0 : World) (fb : List Nat) (X : Nat → Prop) (ι : Nat → Value) (st : St) (tm : Array Value) (w : World) (a : Args) (vs : List Value) : Prop where
 fz : Freezes st.sites a.lent
 lb : ∀ σ, σ ∈ a.lentB → jjs st.sites σ
 gv : Gives st.sites a.gone
 arg : ∀ av, Lends w0 fb X ι st tm w a.lent a.lentB av → HandArgs w av a.as vs (jjn ι (jjF a.gone))
 bb : jqi a.as vs = jjn ι (jjF a.boxes)
 bx : ∀ σ s, (σ, s) ∈ a.boxes → (σ, .dead s) ∈ a.gone ∧ ∃ b, ι σ = .pointer (some ⟨b, 0, none⟩)
theorem freezes_sub {us : List (Nat × Site)} {sites : List (Nat × Site)} (F : Freezes sites us) {σ : Nat} (h : jjs (jjN sites us) σ) : jjs sites σ := by
 obtain ⟨site, h1, h2⟩ := h
 rcases jjW F σ with h | ⟨s, t, xs, h4, h5⟩
 ·exact ⟨site, h ▸ h1, h2⟩
 ·rw [h5] at h1; cases h1; cases h2
theorem callV_ok (S : Sim w0 fb X ι st tm w) {g : FuncId} {Sm : jjC} (hS : jjf P g Sm) {a : Args} {vs : List Value} (A : Prep w0 fb X ι st tm w a vs) {d : Nat} (hd : jjJ st o.dst = true)
  (hrun : (execOp (Act.eval ⟨tm, []⟩) o).run P w = (callFunc g vs.toArray).run P w) : Holds (callV d st Sm a) (jjA P w0 fb X st tm w o) := by
 intro y hy hc
 simp only [callV] at y hy hc ⊢
 simp only [Bool.and_eq_true] at hc
 obtain ⟨⟨⟨⟨c1, c2⟩, c3⟩, c4⟩, c5⟩ := hc
 rw [jxe] at c1 c3
 rw [disjN_iff] at c2 c4
 have live_gone : ∀ σ, σ ∈ jjF a.gone → jjs st.sites σ := fun σ hσ => by
  obtain ⟨s, hs⟩ := keys_mem hσ
  obtain ⟨site, h1, h2, _⟩ := A.gv σ s hs
  exact ⟨site, h1, h2⟩
 have lent_gone : ∀ σ, σ ∈ jjF a.gone → σ ∉ jjF a.lent := fun σ h1 h2 => c2 σ (List.mem_append.2 (.inl h2)) h1
 have eX : ∃ X' : Nat → Prop, ∀ b, X' b ↔ (jjh X ι (jjN st.sites a.lent) b ∧ b ∉ jjn ι (jjF a.gone) ∧ ∀ σ, σ ∈ a.lentB → blk (ι σ) ≠ some b) := ⟨_, fun b => Iff.rfl⟩
 obtain ⟨X', hX'⟩ := eX
 have hL : Lends w0 fb X ι st tm w a.lent a.lentB (fun b => X' b ∨ b ∈ jjn ι (jjF a.gone)) := by
  refine ⟨⟨S, A.fz⟩, fun b hb => ?_, fun σ hσ b hb hx => ?_⟩
  ·rcases hb with hb | hb
   ·exact ((hX' b).1 hb).1
   ·obtain ⟨σ, h1, h2⟩ := jj9.1 hb
    obtain ⟨site, h3, h4⟩ := live_gone σ h1
    exact .inr ⟨σ, ⟨site, by rw [jj4 (lent_gone σ h1)]; exact h3, h4⟩, h2⟩
  ·rcases hx with hx | hx
   ·exact ((hX' b).1 hx).2.2 σ hσ hb
   ·obtain ⟨τ, h1, h2⟩ := jj9.1 hx
    have := S.excl σ τ b (A.lb σ hσ) (live_gone τ h1) hb h2
    subst this
    exact c2 σ (List.mem_append.2 (.inr hσ)) h1
 have hBS : (jjn ι (jjF a.gone)).Nodup := blocks_nodup S c1 live_gone
 have gone_not : ∀ b, b ∈ jjn ι (jjF a.gone) → ¬ X b ∧ (b ∈ fb ∨ w0.heap.size ≤ b) := fun b hb => by
  obtain ⟨σ, h1, h2⟩ := jj9.1 hb
  exact S.mine σ b (live_gone σ h1) h2
 have XX' : ∀ b, X b → X' b := fun b hb => (hX' b).2 ⟨.inl hb, fun h => (gone_not b h).1 hb, fun σ hσ h => (S.mine σ b (A.lb σ hσ) h).1 hb⟩
 have hG : GlobOk w (jjn ι (jjF a.gone)) X' := by
  obtain ⟨g1, g2⟩ := S.gl
  refine ⟨g1, fun b hb h => ?_, fun b hb h => ?_, fun b hb => (g2 b hb).2⟩
  ·obtain ⟨σ, h1, h2⟩ := jj9.1 h
   exact (g2 b hb).1 (.inr ⟨σ, live_gone σ h1, h2⟩)
  ·rcases ((hX' b).1 h).1 with h | ⟨σ, h1, h2⟩
   ·exact (g2 b hb).1 (.inl h)
   ·exact (g2 b hb).1 (.inr ⟨σ, freezes_sub A.fz h1, h2⟩)
 have E := hS a.as y hy w X' vs (jjn ι (jjF a.gone)) (A.arg _ hL) hBS (fun b hb hx => ((hX' b).1 hx).2.1 hb) (fun b hb => hL.lt (.inl hb)) hG
 intro K Q hK
 have core : ∀ v w', (∃ bs1 bs2 rv, Fr (jjn ι (jjF a.gone)) w w' ∧ jxu w' (fun b => X' b ∨ b ∈ bs1 ++ bs2) (jqi a.as vs) ((Sm a.as).bx y) bs1 ∧ jzg w' (fun b => X' b ∨ b ∈ bs1 ++ bs2) ((Sm a.as).res y) rv bs2 ∧
   v = retVal rv ∧ (bs1 ++ bs2).Nodup ∧ ∀ b, b ∈ bs1 ++ bs2 → ¬ X' b ∧ (b ∈ jjn ι (jjF a.gone) ∨ w.heap.size ≤ b)) → K ⟨jqK tm o.dst v, []⟩ w' := by
  rintro v w' ⟨bs1, bs2, rv, F, hB, hA, rfl, hnd, hm⟩
  obtain ⟨sl, hsl⟩ : ∃ sl, (jxi ((Sm a.as).res y) || jxh ((Sm a.as).bx y)) = sl := ⟨_, rfl⟩
  rw [hsl] at c5 hK
  obtain ⟨LF, hLF⟩ : ∃ LF, (bif sl then a.lent else []) = LF := ⟨_, rfl⟩
  rw [hLF] at hK
  have fzLF : Freezes st.sites LF := by rw [← hLF]; cases sl; exact .nil; exact A.fz
  have keyLF : ∀ σ, σ ∈ jjF LF → σ ∈ jjF a.lent := by rw [← hLF]; cases sl; intro σ h; simp [jjF] at h; exact fun σ h => h
  have S1 : Sim w0 fb X ι { st with sites := jjN st.sites LF } tm w := S.freezes fzLF
  have gv1 : Gives (jjN st.sites LF) a.gone := fun σ s hs => by
   obtain ⟨site, h1, h2, h3⟩ := A.gv σ s hs
   exact ⟨site, by rw [jj4 (fun h => lent_gone σ (mem_keys hs) (keyLF σ h))]; exact h1, h2, h3⟩
  have S2 := S1.kills gv1 c1
  have S3 := S2.jump (w' := w') (fun b hb hlt => F.block b hlt (fun h => hb (.inr h))) F.size
   ⟨F.os.trans S.frame.os, F.tape.trans S.frame.tape, F.output.trans S.frame.output, Nat.le_trans S.frame.size F.size, fun b hlt hb => by
    rw [F.block b (Nat.lt_of_lt_of_le hlt S.frame.size) (fun h => by rcases (gone_not b h).2 with h' | h'; exact hb h'; omega)]
    exact S.frame.block b hlt hb⟩
  have lt' : ∀ b, b ∈ bs1 ++ bs2 → b < w'.heap.size := fun b hb => by
   rcases List.mem_append.1 hb with hb | hb
   ·exact handBs_lt hB b hb
   ·exact handAs_lt hA b hb
  have S4 : Sim w0 fb (fun b => X b ∨ b ∈ bs1 ++ (bs2 ++ [])) ι { st with sites := jjN (jjN st.sites LF) a.gone } tm w' := S3.shrink fun b hb => by
   rcases hb with hb | hb
   ·exact .inl (.inl hb)
   ·rw [List.append_nil] at hb
    rcases (hm b hb).2 with h | h
    ·exact .inl (.inr h)
    ·exact .inr ⟨h, lt' b hb⟩
  obtain ⟨av, hav1, hav2, hav3⟩ : ∃ av : Nat → Prop, jxu w' av (jqi a.as vs) ((Sm a.as).bx y) bs1 ∧ jzg w' av ((Sm a.as).res y) rv bs2 ∧
    ∀ c, jjh (fun b => X b ∨ b ∈ bs1 ++ (bs2 ++ [])) ι (jjN (jjN st.sites LF) a.gone) c → av c := by
   cases sl with
   | false =>
    rw [Bool.or_eq_false_iff] at hsl
    exact ⟨_, handBs_plain hsl.2 hB, handAs_plain hsl.1 hA, fun c hc => hc⟩
   | true =>
    refine ⟨_, hB, hA, fun c hc => ?_⟩
    rcases hc with (hc | hc) | ⟨σ, ⟨site, h1, h2⟩, h3⟩
    ·exact .inl (XX' c hc)
    ·rw [List.append_nil] at hc; exact .inr hc
    ·refine .inl ((hX' c).2 ?_)
     have hσ : σ ∉ jjF a.gone := fun h => by
      obtain ⟨s, hs⟩ := keys_mem h
      rw [jx0 c1 hs] at h1
      obtain ⟨_, _, _, e⟩ := A.gv σ s hs
      cases h1; rw [e] at h2; cases h2
     rw [jj4 hσ] at h1
     have hLF' : a.lent = LF := hLF
     rw [← hLF'] at h1
     have live : jjs st.sites σ := freezes_sub A.fz ⟨site, h1, h2⟩
     refine ⟨.inr ⟨σ, ⟨site, h1, h2⟩, h3⟩, fun h => ?_, fun τ hτ h => ?_⟩
     ·obtain ⟨τ, k1, k2⟩ := jj9.1 h
      have := S.excl σ τ c live (live_gone τ k1) h3 k2
      subst this
      exact hσ k1
     ·simp only [Bool.not_true, Bool.false_or, List.isEmpty_iff] at c5
      rw [c5] at hτ; simp at hτ
  have L : Left w0 fb X ι { st with sites := jjN (jjN st.sites LF) a.gone } av (bs1 ++ (bs2 ++ [])) := by
   refine ⟨by simpa using hnd, fun b hb => ?_, hav3⟩
   rw [List.append_nil] at hb
   obtain ⟨h1, h2⟩ := hm b hb
   refine ⟨fun hx => h1 (XX' b hx), ?_⟩
   rcases h2 with h2 | h2
   ·exact (gone_not b h2).2
   ·exact .inr (Nat.le_trans S.frame.size h2)
  have newer : ∀ ks, Newer st (jjN (jjN st.sites LF) a.gone) ks := fun ks m _ site hs => by
   have h1 : ∀ site, jjB (jjN st.sites LF) m = some site → site.stamp < jjd st m := fun site hs => by
    rcases jjW fzLF m with h | ⟨s, t, xs, h4, h5⟩
    ·rw [h] at hs; exact jj6 hs
    ·rw [h5] at hs; cases hs; rcases h4 with h4 | h4 <;> (have q := jj6 h4; exact q)
   by_cases hk : m ∈ jjF a.gone
   ·obtain ⟨s, hs'⟩ := keys_mem hk
    rw [jx0 c1 hs'] at hs
    obtain ⟨site', e1, _, e3⟩ := gv1 m s hs'
    rw [e3] at hs
    cases hs
    exact h1 site' e1
   ·rw [jj4 hk] at hs
    exact h1 site hs
  rw [jjR] at c3
  obtain ⟨d1, d2, d3⟩ := List.nodup_append.1 c3
  rw [A.bb] at hav1
  obtain ⟨ι1, T1, L1⟩ := takeB_ok st a.boxes (st := { st with sites := jjN (jjN st.sites LF) a.gone }) S4 (BBs.of fun σ s hs => (A.bx σ s hs).2) hav1
   (fun σ s hs => jx0 c1 (A.bx σ s hs).1) L (newer _) d1
  obtain ⟨ι2, T2, hres, _⟩ := takeA_ok st ((Sm a.as).res y) (2000000 + d * 10000) (st := { st with sites := jjN (jjN (jjN st.sites LF) a.gone) (jxA st a.boxes ((Sm a.as).bx y)) }) T1.sim hav2 L1
   (Newer.step (newer _) (fun n h1 h2 => d3 n h1 n h2 rfl)) d2
  have S5 : Sim w0 fb X ι2 { st with sites := jjN st.sites (LF ++ a.gone ++ jxA st a.boxes ((Sm a.as).bx y) ++ (jqj st (2000000 + d * 10000) ((Sm a.as).res y)).2) } tm w' := by
   have := T2.sim.shrink (X' := X) fun b hb => .inl hb
   simpa only [jj0] using this
  refine hK ι2 _ w' (Sim.app S5 hd (v := resSV (jqj st (2000000 + d * 10000) ((Sm a.as).res y)).1) ?_)
  have hres' : AVsOk ι2 (jjN st.sites (LF ++ a.gone ++ jxA st a.boxes ((Sm a.as).bx y) ++ (jqj st (2000000 + d * 10000) ((Sm a.as).res y)).2)) w'
    (jjh X ι2 (jjN st.sites (LF ++ a.gone ++ jxA st a.boxes ((Sm a.as).bx y) ++ (jqj st (2000000 + d * 10000) ((Sm a.as).res y)).2))) (jqj st (2000000 + d * 10000) ((Sm a.as).res y)).1 rv := by
   have e : (fun b => X b ∨ b ∈ ([] : List Nat)) = X := by funext b; simp
   rw [e] at hres
   simpa only [jj0] using hres
  generalize (jqj st (2000000 + d * 10000) ((Sm a.as).res y)).1 = las at hres'
  match las, rv, hres' with
  | [], [], h => exact ⟨[], rfl, rfl, fun j h => by simp at h⟩
  | [l], [v], h => exact h.2 0 (by simp) (by simp)
  | l :: l2 :: ls, v :: v2 :: vs', h => exact ⟨v :: v2 :: vs', rfl, h.1, h.2⟩
 rcases E with ⟨h1, h2⟩ | ⟨v, w', h1, h2⟩
 ·unfold Oper.wp
  rw [hrun, h1, Oper.upon_enter]
  refine h2.mono fun e w' he => ?_
  cases e with
  | returned v =>
   have := core v w' he
   cases hdst : o.dst with
   | none => rw [hdst] at this; simpa [Act.put, jqK] using this
   | some t => rw [hdst] at this; simpa [Act.put, jqK] using this
  | panicked c => exact he.elim
  | outgrown => exact he.elim
 ·exact wp_val (hrun.trans h1) (core v w' h2)
end
def CopyOk (P : Program) (g : FuncId) : Prop :=
 ∀ (b : Nat) (p v : Value) (w : World), w.heap[b]? = some (.cells #[p, v] gBT (0, 0)) → (p = .pointer none ∨ p = .pointer (some ⟨b, 0, none⟩)) →
  Enters P g #[.pointer (some ⟨b, 0, none⟩)] w fun r w' => r = .tuple #[] ∧ w' = w.setRow b #[.pointer (some ⟨b, 0, none⟩), v]
def StrOk (P : Program) (g : FuncId) : Prop :=
 ∀ (b : Nat) (p v : Value) (T : TypeId) (xs : List Int) (w : World), w.heap[b]? = some (.cells #[p, v] T (0, 0)) → rowAt w true gU8 1 v xs.length (xs.map (Value.int .u8)) →
  Enters P g #[.pointer (some ⟨b, 0, none⟩)] w fun r w' => r = .string ⟨(jqF xs).toArray⟩ ∧ w'.os = w.os ∧ w'.tape = w.tape ∧ w'.output = w.output ∧ w.heap.size ≤ w'.heap.size ∧
   (∀ c, c < w.heap.size → blk v ≠ some c → w'.heap[c]? = w.heap[c]?) ∧ ∀ c cur e fz, blk v = some c → w.heap[c]? = some (.cells cur e fz) → ∃ fz', w'.heap[c]? = some (.cells cur e fz')
section
variable {P : Program} {w0 : World} {fb : List Nat} {X : Nat → Prop} {ι : Nat → Value} {st : St} {tm : Array Value} {w : World} {o : Oper}
theorem Sim.freezeAt (S : Sim w0 fb X ι st tm w) {σ s : Nat} {t : Ty} {xs : List (den t)} (hl : jjB st.sites σ = some (.row s t xs)) {w' : World} (h1 : w'.os = w.os) (h2 : w'.tape = w.tape) (h3 : w'.output = w.output) (h4 : w.heap.size ≤ w'.heap.size)
  (h5 : ∀ c, c < w.heap.size → blk (ι σ) ≠ some c → w'.heap[c]? = w.heap[c]?) (h6 : ∀ c cur e fz, blk (ι σ) = some c → w.heap[c]? = some (.cells cur e fz) → ∃ fz', w'.heap[c]? = some (.cells cur e fz')) :
  Sim w0 fb X ι { st with sites := upd st.sites σ (.froz s t xs) } tm w' := by
 have hlv : jjs st.sites σ := ⟨_, hl, rfl⟩
 have hsub : ∀ τ, jjs (upd st.sites σ (.froz s t xs)) τ → jjs st.sites τ ∧ τ ≠ σ := by
  rintro τ ⟨site, h1, h2⟩
  rw [jjl] at h1
  by_cases e : σ = τ
  ·subst e; simp at h1; subst h1; cases h2
  ·simp only [e, if_false] at h1
   exact ⟨⟨site, h1, h2⟩, fun h => e h.symm⟩
 have hav : ∀ b', jjh X ι (upd st.sites σ (.froz s t xs)) b' → jjh X ι st.sites b' := by
  rintro b' (h | ⟨τ, h1, h2⟩)
  ·exact .inl h
  ·exact .inr ⟨τ, (hsub τ h1).1, h2⟩
 have F := S.frame
 refine S.turn (fun τ site hτ => ?_) (fun b' h hb => h5 b' hb (fun h' => h (.inr ⟨σ, hlv, h'⟩))) (fun b' h _ h' => h (hav b' h')) (fun go τ site hτ => ?_) (fun τ ρ b' h1 h2 => S.excl τ ρ b' (hsub τ h1).1 (hsub ρ h2).1)
  (fun τ b' h => S.mine τ b' (hsub τ h).1) (fun τ b' h hb => Nat.lt_of_lt_of_le (S.live_lt (hsub τ h).1 hb) h4)
  ⟨h1.trans F.os, h2.trans F.tape, h3.trans F.output, Nat.le_trans F.size h4, fun b hb hn => by
   have hs := F.size
   rw [h5 b (by omega) (fun h' => by
    rcases (S.mine σ b hlv h').2 with h' | h'
    ·exact hn h'
    ·omega)]
   exact F.block b hb hn⟩ h4
 ·rw [jjl]
  by_cases e : σ = τ
  ·subst e
   rw [hl] at hτ; cases hτ
   exact ⟨.froz s t xs, by simp, Nat.le_refl _, fun _ => rfl⟩
  ·exact ⟨site, by simp [e, hτ], Nat.le_refl _, fun _ => rfl⟩
 ·rw [jjl] at hτ
  by_cases e : σ = τ
  ·subst e
   simp only [if_true, Option.some.injEq] at hτ
   subst hτ
   refine .inr ?_
   show Rd _ _ (.sl t xs) (ι σ) ∧ Head (ι σ)
   obtain ⟨e', cs, k1, k2⟩ := S.sites σ _ hl
   rcases k1.2 with ⟨hn, h0⟩ | ⟨g, cap, cur, fz, hv, _, hg, hnc, _, _, htk⟩
   ·have : xs = [] := List.eq_nil_of_length_eq_zero h0
    subst this
    rw [hn]; exact ⟨.nil t, .inl rfl⟩
   ·obtain ⟨fz', hg'⟩ := h6 g cur e' fz (by rw [hv]; rfl) hg
    rw [hv]
    refine ⟨?_, .inr ⟨_, _, _, rfl⟩⟩
    have hlen : cs.length = (jjM t xs).length := by rw [jjp]; exact k1.1
    refine .sl t xs _ cap cs xs.length rfl hnc (fun _ => ?_) hlen (fun j u hu => ?_) (fun j g1 g2 => rd_sv go (k2 j g1 g2))
    ·rintro (hx | ⟨τ, g1, g2⟩)
     ·exact (S.mine σ g hlv (by rw [hv]; rfl)).1 hx
     ·obtain ⟨g3, g4⟩ := hsub τ g1
      exact g4 (S.excl τ σ g g3 hlv g2 (by rw [hv]; rfl))
    ·rw [jqD, Nat.zero_add, cell_of_row w' g j cur e' fz' hg']
     rw [← htk, List.getElem?_take] at hu
     split at hu
     ·simpa using hu
     ·cases hu
  ·simp only [e, if_false] at hτ
   refine .inl ⟨hτ, rfl, fun hlv' b hb => h5 b (S.live_lt ⟨_, hτ, hlv'⟩ hb) fun h => e (S.excl σ τ b hlv ⟨_, hτ, hlv'⟩ h hb)⟩
theorem enters_go {g : FuncId} {vs : List Value} {post : Value → World → Prop} (hrun : (execOp (Act.eval ⟨tm, []⟩) o).run P w = (callFunc g vs.toArray).run P w) (hS : Enters P g vs.toArray w post) {K : Act → World → Prop} {Q : Exit → Act → World → Prop}
  (core : ∀ v w', post v w' → K ⟨jqK tm o.dst v, []⟩ w') : o.wp P ⟨tm, []⟩ w K Q := by
 rcases hS with ⟨h1, h2⟩ | ⟨v, w', h1, h2⟩
 ·unfold Oper.wp
  rw [hrun, h1, Oper.upon_enter]
  refine h2.mono fun e w' he => ?_
  cases e with
  | returned v =>
   have := core v w' he
   cases hdst : o.dst with
   | none => rw [hdst] at this; simpa [Act.put, jqK] using this
   | some t => rw [hdst] at this; simpa [Act.put, jqK] using this
  | panicked c => exact he.elim
  | outgrown => exact he.elim
 ·exact wp_val (hrun.trans h1) (core v w' h2)
theorem copyV_ok (S : Sim w0 fb X ι st tm w) {g : FuncId} (hS : CopyOk P g) {svs : List SV} {vs : List Value} (hl : svs.length = vs.length)
  (hv : ∀ i (h : i < svs.length) (h' : i < vs.length), SVOk ι st.sites w (jjh X ι st.sites) (svs[i]) (vs[i])) (hd : jjJ st o.dst = true) (hrun : (execOp (Act.eval ⟨tm, []⟩) o).run P w = (callFunc g vs.toArray).run P w) :
  Holds (copyV st svs) (jjA P w0 fb X st tm w o) := by
 unfold copyV
 split
 ·rename_i σ s
  split
  ·rename_i s' l hsite
   have hsite : jjB st.sites σ = some (.box s' [.slf, l]) := hsite
   cases hss : s'.beq s with
   | false => exact .fail
   | true =>
    have := Nat.eq_of_beq_eq_true hss
    subst this
    refine Holds.okU ?_
    intro K Q hK
    match vs, hl, hv, hrun with
    | [va], _, hv, hrun =>
    obtain ⟨b0, hb0, hr0⟩ : LfOk ι st.sites w (jjh X ι st.sites) (.ptr σ s' 0) va := hv 0 (by simp) (by simp)
    have hr0 := Ref.at hr0 hsite rfl
    obtain ⟨b, T, cur, e1, e2, e3, e4, e5, e6⟩ := S.sites σ _ hsite
    rw [e1] at hr0
    have hr0 : b = b0 := by cases hr0; rfl
    subst hr0
    subst hb0
    match cur, e2, e3, e4, e5, e6 with
    | [p, v], e2, _, e4, e5, e6 =>
     obtain ⟨rfl, hp⟩ := e5 rfl
     have hp : p = .pointer none ∨ p = .pointer (some ⟨b, 0, none⟩) := by simpa using hp
     refine enters_go hrun (hS b p v w e2 hp) ?_
     rintro r w' ⟨rfl, rfl⟩
     have S' : Sim w0 fb X ι { st with sites := upd st.sites σ (.box s' [.slf, l]) } tm (w.setRow b #[.pointer (some ⟨b, 0, none⟩), v]) := by
      refine S.write hsite rfl rfl rfl (by rw [e1]; rfl) e2 (fun hs hw hg' go => ⟨b, gBT, [.pointer (some ⟨b, 0, none⟩), v], e1, hg', rfl, fun u hu => ?_, fun _ => ⟨rfl, .inr rfl⟩, fun j h h' => ?_⟩)
      ·rcases List.mem_cons.1 hu with rfl | hu
       ·rfl
       ·exact e4 u (List.mem_cons_of_mem _ hu)
      ·match j, h, h' with
       | 0, _, _ => trivial
       | 1, _, _ => exact go (a := lfv l) (e6 1 (by simp) (by simp))
     exact hK _ _ _ (Sim.app (us := [(σ, .box s' [.slf, l])]) S' hd (v := .tup []) ⟨[], rfl, rfl, fun j h => by simp at h⟩)
  ·exact .fail
 ·exact .fail
theorem u8_cells {av : Nat → Prop} {xs : List Int} {cs : List Value} (h0 : cs.length = xs.length) (h : ∀ j (h : j < (jjM .u8 (xs : List (den .u8))).length) (h' : j < cs.length), Rd w av ((jjM .u8 (xs : List (den .u8)))[j]) (cs[j])) : cs = xs.map (Value.int .u8) := by
 refine List.ext_getElem (by rw [List.length_map]; exact h0) fun j g1 g2 => ?_
 have g2' : j < xs.length := by simpa using g2
 have := h j (by rw [jjp]; simpa [esz] using g2') g1
 rw [List.getElem_map]
 generalize hd : (jjM .u8 (xs : List (den .u8)))[j]'(by rw [jjp]; simpa [esz] using g2') = d at this
 have hd2 : d = .int .u8 xs[j] := by
  rw [← hd]
  simp only [flat_u8, List.getElem_map]
 subst hd2
 generalize cs[j] = v at this
 cases this
 rfl
theorem stringV_ok (S : Sim w0 fb X ι st tm w) {g : FuncId} (hS : StrOk P g) {svs : List SV} {vs : List Value} (hl : svs.length = vs.length)
  (hv : ∀ i (h : i < svs.length) (h' : i < vs.length), SVOk ι st.sites w (jjh X ι st.sites) (svs[i]) (vs[i])) (hd : jjJ st o.dst = true) (hrun : (execOp (Act.eval ⟨tm, []⟩) o).run P w = (callFunc g vs.toArray).run P w) :
  Holds (stringV st svs) (jjA P w0 fb X st tm w o) := by
 unfold stringV
 split
 ·rename_i σ s
  match vs, hl, hv, hrun with
  | [va], _, hv, hrun =>
  have hv0 : LfOk ι st.sites w (jjh X ι st.sites) (.ptr σ s 0) va := hv 0 (by simp) (by simp)
  split
  ·rename_i l0 hbox
   have hsite := jjE hbox
   obtain ⟨b, T, cur, hι, rfl, hg, _, hc⟩ := S.box hsite hv0
   refine Holds.ok ?_
   intro K Q hK
   obtain ⟨p, r1, rfl, _, hc⟩ := hc.inv
   obtain ⟨v, r2, rfl, hvn, hc⟩ := hc.inv
   have : r2 = [] := List.eq_nil_of_length_eq_zero hc.1
   subst this
   have hvn : v = .slice none 0 0 := hvn
   subst hvn
   refine enters_go hrun (hS b p _ T [] w hg (rowAt_nil w true gU8 1)) ?_
   rintro r w' ⟨rfl, k1, k2, k3, k4, k5, k6⟩
   have S1 := S.jump (w' := w') (fun c _ hc => k5 c hc (by simp [blk])) k4 ⟨k1.trans S.frame.os, k2.trans S.frame.tape, k3.trans S.frame.output, Nat.le_trans S.frame.size k4, fun c hc hn => by
    rw [k5 c (Nat.lt_of_lt_of_le hc S.frame.size) (by simp [blk])]
    exact S.frame.block c hc hn⟩
   have S2 : Sim w0 fb X ι { st with sites := jjN st.sites [] } tm w' := S1.shrink fun b hb => .inl hb
   exact hK _ _ _ (Sim.app (us := []) S2 hd (v := one (.str [])) (Rd.str _ _ rfl))
  ·rename_i l0 τ u hbox
   have hsite := jjE hbox
   obtain ⟨b, T, cur, hι, rfl, hg, _, hc⟩ := S.box hsite hv0
   split
   ·rename_i u' xs hrow
    have hrow : jjB st.sites τ = some (.row u' .u8 xs) := hrow
    cases huu : u'.beq u with
    | false => exact .fail
    | true =>
     have := Nat.eq_of_beq_eq_true huu
     subst this
     refine Holds.okU ?_
     intro K Q hK
     obtain ⟨p, r1, rfl, _, hc⟩ := hc.inv
     obtain ⟨v, r2, rfl, hvn, hc⟩ := hc.inv
     have : r2 = [] := List.eq_nil_of_length_eq_zero hc.1
     subst this
     have hvι : v = ι τ := Ref.at hvn.2 hrow rfl
     obtain ⟨e, cs, h1, h2⟩ := S.sites τ _ hrow
     have hlen : cs.length = xs.length := by have := h1.1; simpa [esz] using this
     have hcs : cs = List.map (Value.int .u8) xs := u8_cells hlen h2
     have hown : rowAt w true gU8 1 v xs.length (List.map (Value.int .u8) xs) := by
      rw [← hcs, hvι]
      refine ⟨h1.1, ?_⟩
      rcases h1.2 with h | ⟨g', cap, cur', fz, q1, q2, q3⟩
      ·exact .inl h
      ·have := q2.1 rfl
       subst this
       exact .inr ⟨g', cap, cur', fz, q1, q2, q3⟩
     refine enters_go hrun (hS b p v T xs w hg hown) ?_
     rintro r w' ⟨rfl, k1, k2, k3, k4, k5, k6⟩
     rw [hvι] at k5 k6
     have S2 := S.freezeAt hrow k1 k2 k3 k4 k5 k6
     exact hK _ _ _ (Sim.app (us := [(τ, .froz u' .u8 xs)]) S2 hd (v := one (.str (jqF xs))) (Rd.str _ _ (by simp)))
   ·exact .fail
  ·exact .fail
 ·exact .fail
end
def SplitOk (P : Program) (g g' : FuncId) : Prop :=
 ∀ (a b : ByteArray) (w : World), Enters P g #[.string a, .string b] w fun v w' => ∃ T1 T2, v = .func (.func g') #[] #[.pointer (some ⟨w.heap.size + 1, 0, none⟩), .pointer (some ⟨w.heap.size, 0, none⟩), .pointer (some ⟨w.heap.size + 2, 0, none⟩)] ∧
  w' = ((w.alloc (.cells #[.string a] T1)).alloc (.cells #[.string b] T1)).alloc (.cells #[.int .i64 0] T2)
def OpenOk (P : Program) (g : FuncId) : Prop :=
 ∀ (xs : List Int) (v : Value) (w : World) (av : Nat → Prop), Rd w av (.sl .u8 xs) v → Enters P g #[v] w fun v' w' => ∃ u T, Rd w av (.sl .u8 (xs.take 2000)) u ∧ v' = .pointer (some ⟨w.heap.size, 0, none⟩) ∧ w' = w.alloc (.cells #[u, .int .i64 0] T)
structure CtxGood (P : Program) (C : Ctx) : Prop extends CtxOk P C where
 fs : ∀ g S, C.fs g = some S → jjf P g S
 mo : P.follows .mixedOrders = true
 sp : ∀ g g', C.sp g = some g' → SplitOk P g g'
 op : ∀ g, C.op g = true → OpenOk P g
 cc : ∀ g, C.cc g = true → CopyOk P g
 bs : ∀ g, C.bs g = true → StrOk P g
section
variable {P : Program} {w0 : World} {fb : List Nat} {X : Nat → Prop} {ι : Nat → Value} {st : St} {tm : Array Value} {w : World} {o : Oper}
theorem capsOf_fz : ∀ {caps : List (Nat × Nat)} {cs : List (List D)} {us : List (Nat × Site)} {bs : List Nat}, jzf st caps = some (cs, us, bs) → Freezes st.sites us ∧ ∀ σ, σ ∈ bs → jjs st.sites σ := by
 intro caps
 induction caps with
 | nil => intro cs us bs h; simp only [jzf] at h; cases h; exact ⟨.nil, fun σ h => by simp at h⟩
 | cons c caps ih =>
  obtain ⟨σ, s⟩ := c
  intro cs us bs h
  simp only [jzf] at h
  split at h
  ·rename_i cells hbox
   split at h
   ·rename_i ds u1 rest u2 b2 hds hrest
    cases h
    obtain ⟨k1, k2⟩ := ih hrest
    refine ⟨(dats_fz hds).append k1, fun τ hτ => ?_⟩
    rcases List.mem_cons.1 hτ with rfl | hτ
    ·exact ⟨_, jjE hbox, rfl⟩
    ·exact k2 τ hτ
   ·cases h
  ·cases h
theorem lend_fz {l l' : Lf} {us : List (Nat × Site)} {bs : List Nat} (h : lend st l = some (l', us, bs)) : Freezes st.sites us ∧ ∀ σ, σ ∈ bs → jjs st.sites σ := by
 unfold lend at h
 split at h
 ·cases h; exact ⟨.nil, fun σ h => by simp at h⟩
 ·split at h
  ·rename_i hc; cases h; exact capsOf_fz hc
  ·cases h
 ·split at h
  ·rename_i hd; cases h; exact ⟨dat_fz hd, fun σ h => by simp at h⟩
  ·cases h
theorem lends_fz : ∀ {ls ls' : List Lf} {us : List (Nat × Site)} {bs : List Nat}, lends st ls = some (ls', us, bs) → Freezes st.sites us ∧ ∀ σ, σ ∈ bs → jjs st.sites σ := by
 intro ls
 induction ls with
 | nil => intro ls' us bs h; simp only [lends] at h; cases h; exact ⟨.nil, fun σ h => by simp at h⟩
 | cons l ls ih =>
  intro ls' us bs h
  simp only [lends] at h
  split at h
  ·rename_i a u1 b1 as u2 b2 h1 h2
   cases h
   obtain ⟨k1, k2⟩ := lend_fz h1
   obtain ⟨k3, k4⟩ := ih h2
   refine ⟨k1.append k3, fun σ hσ => ?_⟩
   rcases List.mem_append.1 hσ with h | h
   ·exact k2 σ h
   ·exact k4 σ h
  ·cases h
theorem mkArgs_fz : ∀ {svs : List SV} {a : Args}, jq8 st svs = some a → Freezes st.sites a.lent ∧ ∀ σ, σ ∈ a.lentB → jjs st.sites σ := by
 intro svs
 induction svs with
 | nil => intro a h; simp only [jq8] at h; cases h; exact ⟨.nil, fun σ h => by simp at h⟩
 | cons sv svs ih =>
  intro a h
  unfold jq8 at h
  split at h
  ·cases ‹sv :: svs = []›
  ·rename_i heq
   cases heq
   split at h
   ·rename_i hr
    split at h
    ·cases h; have q := ih hr; exact q
    ·cases h
   ·cases h
  ·rename_i heq
   cases heq
   split at h
   ·rename_i h1 hr
    cases h
    obtain ⟨k1, k2⟩ := lend_fz h1
    obtain ⟨k3, k4⟩ := ih hr
    refine ⟨k1.append k3, fun σ hσ => ?_⟩
    rcases List.mem_append.1 hσ with h | h
    ·exact k2 σ h
    ·exact k4 σ h
   ·cases h
  ·rename_i heq
   cases heq
   split at h
   ·rename_i h1 hr
    cases h
    obtain ⟨k1, k2⟩ := lends_fz h1
    obtain ⟨k3, k4⟩ := ih hr
    refine ⟨k1.append k3, fun σ hσ => ?_⟩
    rcases List.mem_append.1 hσ with h | h
    ·exact k2 σ h
    ·exact k4 σ h
   ·cases h
  ·cases h
theorem giveOr_fz {l l' : Lf} {gs us : List (Nat × Site)} {bs : List Nat} (h : giveOr st l = some (l', gs, us, bs)) : Freezes st.sites us ∧ ∀ σ, σ ∈ bs → jjs st.sites σ := by
 unfold giveOr at h
 split at h
 ·split at h
  ·cases h; exact ⟨.nil, fun σ h => by simp at h⟩
  ·cases h
 ·cases h; exact ⟨.nil, fun σ h => by simp at h⟩
 ·split at h
  ·rename_i hl
   cases h
   exact lend_fz hl
  ·cases h
theorem mkArgsG_fz : ∀ {svs : List SV} {a : Args}, jxp st svs = some a → Freezes st.sites a.lent ∧ ∀ σ, σ ∈ a.lentB → jjs st.sites σ := by
 intro svs
 induction svs with
 | nil => intro a h; simp only [jxp] at h; cases h; exact ⟨.nil, fun σ h => by simp at h⟩
 | cons sv svs ih =>
  intro a h
  unfold jxp at h
  split at h
  ·cases ‹sv :: svs = []›
  ·rename_i heq
   cases heq
   split at h
   ·rename_i h1 hr
    cases h
    obtain ⟨k1, k2⟩ := giveOr_fz h1
    obtain ⟨k3, k4⟩ := ih hr
    refine ⟨k1.append k3, fun σ hσ => ?_⟩
    rcases List.mem_append.1 hσ with h | h
    ·exact k2 σ h
    ·exact k4 σ h
   ·cases h
  ·cases h
theorem mkArgsV_fz {b : Bool} {svs : List SV} {a : Args} (h : mkArgsV b st svs = some a) : Freezes st.sites a.lent ∧ ∀ σ, σ ∈ a.lentB → jjs st.sites σ := by
 cases b
 ·exact mkArgs_fz h
 ·exact mkArgsG_fz h
theorem evs_ok (S : Sim w0 fb X ι st tm w) (C : Ctx) : ∀ (xs : List Operand) (Ts : List TypeId), (evs C st xs Ts).length = (xs.map (Act.eval ⟨tm, []⟩)).length ∧
  ∀ i (h : i < (evs C st xs Ts).length) (h' : i < (xs.map (Act.eval ⟨tm, []⟩)).length), SVOk ι st.sites w (jjh X ι st.sites) ((evs C st xs Ts)[i]) ((xs.map (Act.eval ⟨tm, []⟩))[i]) := by
 intro xs
 induction xs with
 | nil => intro Ts; cases Ts <;> exact ⟨rfl, fun i h => by simp [evs] at h⟩
 | cons x xs ih =>
  intro Ts
  have key : ∀ (T : TypeId) (Ts' : List TypeId), evs C st (x :: xs) Ts = ev C st T x :: evs C st xs Ts' → (evs C st (x :: xs) Ts).length = ((x :: xs).map (Act.eval ⟨tm, []⟩)).length ∧
    ∀ i (h : i < (evs C st (x :: xs) Ts).length) (h' : i < ((x :: xs).map (Act.eval ⟨tm, []⟩)).length), SVOk ι st.sites w (jjh X ι st.sites) ((evs C st (x :: xs) Ts)[i]) (((x :: xs).map (Act.eval ⟨tm, []⟩))[i]) := by
   intro T Ts' e
   obtain ⟨k1, k2⟩ := ih Ts'
   refine ⟨by rw [e]; simp [k1], fun i h h' => ?_⟩
   simp only [e]
   cases i with
   | zero => exact jqe S C T x
   | succ i =>
    simp only [List.getElem_cons_succ, List.map_cons]
    exact k2 i (by simpa [e] using h) (by simpa using h')
  cases Ts with
  | nil => exact key 0 [] rfl
  | cons T Ts => exact key T Ts rfl
theorem splitV_ok (S : Sim w0 fb X ι st tm w) {g g' : FuncId} (hS : SplitOk P g g') {n : Nat} {svs : List SV} {vs : List Value} (hl : svs.length = vs.length)
  (hv : ∀ i (h : i < svs.length) (h' : i < vs.length), SVOk ι st.sites w (jjh X ι st.sites) (svs[i]) (vs[i])) (hd : jjJ st o.dst = true) (hrun : (execOp (Act.eval ⟨tm, []⟩) o).run P w = (callFunc g vs.toArray).run P w) :
  Holds (splitV g' n st svs) (jjA P w0 fb X st tm w o) := by
 unfold splitV
 split
 ·rename_i s p
  refine Holds.okU ?_
  intro K Q hK
  match vs, hl, hv, hrun with
  | [va, vb], _, hv, hrun =>
  obtain ⟨a, ha, ha'⟩ := jqO (hv 0 (by simp) (by simp))
  obtain ⟨b, hb, hb'⟩ := jqO (hv 1 (by simp) (by simp))
  simp only [List.getElem_cons_zero, List.getElem_cons_succ] at ha hb
  subst ha hb
  have core : ∀ v w', (∃ T1 T2, v = .func (.func g') #[] #[.pointer (some ⟨w.heap.size + 1, 0, none⟩), .pointer (some ⟨w.heap.size, 0, none⟩), .pointer (some ⟨w.heap.size + 2, 0, none⟩)] ∧
    w' = ((w.alloc (.cells #[.string a] T1)).alloc (.cells #[.string b] T1)).alloc (.cells #[.int .i64 0] T2)) → K ⟨jqK tm o.dst v, []⟩ w' := by
   rintro v w' ⟨T1, T2, rfl, hw⟩
   have hsz : w'.heap.size = w.heap.size + 3 := by rw [hw]; simp
   have hold : ∀ b, b < w.heap.size → w'.heap[b]? = w.heap[b]? := fun b hb => by
    rw [hw]
    rw [RowKit.Below.heap_alloc _ _ _ (by simp; omega), RowKit.Below.heap_alloc _ _ _ (by simp; omega), RowKit.Below.heap_alloc _ _ _ hb]
   have h0 : w'.heap[w.heap.size]? = some (.cells #[.string a] T1) := by
    rw [hw, RowKit.Below.heap_alloc _ _ _ (by simp only [World.size_alloc]; omega), RowKit.Below.heap_alloc _ _ _ (by simp only [World.size_alloc]; omega)]; exact World.alloc_heap_new w _
   have h1 : w'.heap[w.heap.size + 1]? = some (.cells #[.string b] T1) := by
    rw [hw, RowKit.Below.heap_alloc _ _ _ (by simp only [World.size_alloc]; omega)]
    have := World.alloc_heap_new (w.alloc (.cells #[.string a] T1)) (.cells #[.string b] T1)
    rwa [World.size_alloc] at this
   have h2 : w'.heap[w.heap.size + 2]? = some (.cells #[.int .i64 0] T2) := by
    rw [hw]
    have := World.alloc_heap_new ((w.alloc (.cells #[.string a] T1)).alloc (.cells #[.string b] T1)) (.cells #[.int .i64 0] T2)
    rwa [World.size_alloc, World.size_alloc] at this
   have hfr : Fr fb w0 w' := ⟨by rw [hw]; exact S.frame.os, by rw [hw]; exact S.frame.tape, by rw [hw]; exact S.frame.output, by have := S.frame.size; omega, fun b hb hn => by
    have := S.frame.size
    rw [hold b (by omega)]; exact S.frame.block b hb hn⟩
   have hsize := S.frame.size
   have S1 := S.jump (w' := w') (fun b _ hb => hold b hb) (by omega) hfr
   have mk : ∀ {ι : Nat → Value} {sites : List (Nat × Site)} {av : Nat → Prop} {m k : Nat} {T : TypeId} {x : Value} {d : D}, ι m = .pointer (some ⟨k, 0, none⟩) → w'.heap[k]? = some (.cells #[x] T) → Rd w' av d x →
     SiteOk ι sites w' av m (.box (jjd st m) [.d d]) := by
    intro ι sites av m k T x d e1 e2 e3
    refine ⟨k, T, [x], e1, e2, rfl, fun u hu => ?_, (fun h => by cases h), fun j h h' => ?_⟩
    ·rw [List.mem_singleton.1 hu]; exact e3.oneCell
    ·match j, h, h' with
     | 0, _, _ => exact e3
   obtain ⟨A1, _, _⟩ := S1.adopt (X' := fun b => (X b ∨ (w.heap.size ≤ b ∧ b < w'.heap.size)) ∧ b ≠ w.heap.size + 1) (n := n) (site' := .box (jjd st n) [.d (.str p)]) (nv := .pointer (some ⟨w.heap.size + 1, 0, none⟩)) (fun b h => h.1)
    (.inl fun site h => jj6 h) (fun b h => by simp only [blk, Option.some.injEq] at h; subst h; exact ⟨.inr ⟨by omega, by omega⟩, fun h => h.2 rfl, .inr (by omega)⟩) (fun _ e _ _ => mk e h1 (.str _ _ hb'))
   obtain ⟨A2, _, _⟩ := A1.adopt (X' := fun b => ((X b ∨ (w.heap.size ≤ b ∧ b < w'.heap.size)) ∧ b ≠ w.heap.size + 1) ∧ b ≠ w.heap.size) (n := n + 1) (site' := .box (jjd st (n + 1)) [.d (.str s)]) (nv := .pointer (some ⟨w.heap.size, 0, none⟩)) (fun b h => h.1)
    (.inl fun site h => by
     have h : jjB (upd st.sites n _) (n + 1) = some site := h
     rw [jjl, if_neg (by omega)] at h
     exact jj6 h) (fun b h => by simp only [blk, Option.some.injEq] at h; subst h; exact ⟨⟨.inr ⟨by omega, by omega⟩, by omega⟩, fun h => h.2 rfl, .inr (by omega)⟩) (fun _ e _ _ => mk e h0 (.str _ _ ha'))
   obtain ⟨A3, _, _⟩ := A2.adopt (X' := X) (n := n + 2) (site' := .box (jjd st (n + 2)) [.d (.int .i64 0)]) (nv := .pointer (some ⟨w.heap.size + 2, 0, none⟩)) (fun b h => by have := S.old b h; exact ⟨⟨.inl h, by omega⟩, by omega⟩)
    (.inl fun site h => by
     have h : jjB (upd (upd st.sites n _) (n + 1) _) (n + 2) = some site := h
     rw [jjl, if_neg (by omega), jjl, if_neg (by omega)] at h
     exact jj6 h) (fun b h => by simp only [blk, Option.some.injEq] at h; subst h; exact ⟨⟨⟨.inr ⟨by omega, by omega⟩, by omega⟩, by omega⟩, fun h => by have := S.old _ h; omega, .inr (by omega)⟩) (fun _ e _ _ => mk e h2 (.int _ _))
   refine hK _ _ w' (Sim.app (us := [(n, .box (jjd st n) [.d (.str p)]), (n + 1, .box (jjd st (n + 1)) [.d (.str s)]), (n + 2, .box (jjd st (n + 2)) [.d (.int .i64 0)])]) A3 hd (v := lfv (.clo g' _)) ?_)
   refine ⟨[.pointer (some ⟨w.heap.size + 1, 0, none⟩), .pointer (some ⟨w.heap.size, 0, none⟩), .pointer (some ⟨w.heap.size + 2, 0, none⟩)], rfl, rfl, fun i hi hi' => ?_⟩
   match i, hi, hi' with
   | 0, _, _ => exact ⟨.box (jjd st n) [.d (.str p)], by simp [jjN, jjl], Nat.le_refl _, fun _ => by simp⟩
   | 1, _, _ => exact ⟨.box (jjd st (n + 1)) [.d (.str s)], by simp [jjN, jjl], Nat.le_refl _, fun _ => by simp⟩
   | 2, _, _ => exact ⟨.box (jjd st (n + 2)) [.d (.int .i64 0)], by simp [jjN, jjl], Nat.le_refl _, fun _ => by simp⟩
  rcases hS a b w with ⟨h1, h2⟩ | ⟨v, w', h1, h2⟩
  ·unfold Oper.wp
   rw [hrun, h1, Oper.upon_enter]
   refine h2.mono fun e w' he => ?_
   cases e with
   | returned v =>
    have := core v w' he
    cases hdst : o.dst with
    | none => rw [hdst] at this; simpa [Act.put, jqK] using this
    | some t => rw [hdst] at this; simpa [Act.put, jqK] using this
   | panicked c => exact he.elim
   | outgrown => exact he.elim
  ·exact wp_val (hrun.trans h1) (core v w' h2)
 ·exact .fail
theorem openV_ok (S : Sim w0 fb X ι st tm w) {g : FuncId} (hS : OpenOk P g) {n : Nat} {svs : List SV} {vs : List Value} (hl : svs.length = vs.length)
  (hv : ∀ i (h : i < svs.length) (h' : i < vs.length), SVOk ι st.sites w (jjh X ι st.sites) (svs[i]) (vs[i])) (hd : jjJ st o.dst = true) (hrun : (execOp (Act.eval ⟨tm, []⟩) o).run P w = (callFunc g vs.toArray).run P w) :
  Holds (openV n st svs) (jjA P w0 fb X st tm w o) := by
 unfold openV
 split
 ·rename_i xs
  refine Holds.okU ?_
  intro K Q hK
  match vs, hl, hv, hrun with
  | [va], _, hv, hrun =>
  have hrd : Rd w (jjh X ι st.sites) (.sl .u8 xs) va := hv 0 (by simp) (by simp)
  have core : ∀ v w', (∃ u T, Rd w (jjh X ι st.sites) (.sl .u8 (xs.take 2000)) u ∧ v = .pointer (some ⟨w.heap.size, 0, none⟩) ∧ w' = w.alloc (.cells #[u, .int .i64 0] T)) → K ⟨jqK tm o.dst v, []⟩ w' := by
   rintro v w' ⟨u, T, hu, rfl, hw⟩
   have hsz : w'.heap.size = w.heap.size + 1 := by rw [hw]; simp
   have hold : ∀ b, b < w.heap.size → w'.heap[b]? = w.heap[b]? := fun b hb => by
    rw [hw, RowKit.Below.heap_alloc _ _ _ hb]
   have h0 : w'.heap[w.heap.size]? = some (.cells #[u, .int .i64 0] T) := by rw [hw]; exact World.alloc_heap_new w _
   have hfr : Fr fb w0 w' := ⟨by rw [hw]; exact S.frame.os, by rw [hw]; exact S.frame.tape, by rw [hw]; exact S.frame.output, by have := S.frame.size; omega, fun b hb hn => by
    have := S.frame.size
    rw [hold b (by omega)]; exact S.frame.block b hb hn⟩
   have hsize := S.frame.size
   have S1 := S.jump (w' := w') (fun b _ hb => hold b hb) (by omega) hfr
   have hX : ∀ b, X b → b < w.heap.size := S.old
   have hlt1 : ∀ b, jjh (fun b => X b ∨ (w.heap.size ≤ b ∧ b < w'.heap.size)) ι st.sites b → b < w'.heap.size := fun b hb => S1.lt hb
   have hu1 : SVOk ι st.sites w' (jjh (fun b => X b ∨ (w.heap.size ≤ b ∧ b < w'.heap.size)) ι st.sites) (one (.sl .u8 (xs.take 2000))) u := by
    have G : Goes ι ι st.sites st.sites w w' (jjh X ι st.sites) (jjh (fun b => X b ∨ (w.heap.size ≤ b ∧ b < w'.heap.size)) ι st.sites) :=
     ⟨fun τ s h => ⟨s, h, Nat.le_refl _, fun _ => rfl⟩, fun b _ hb' => hold b hb', fun b hb hb' h' => by
      rcases h' with (h' | h') | h'
      ·exact hb (.inl h')
      ·omega
      ·exact hb (.inr h')⟩
    exact SVOk.goes (a := one (.sl .u8 (xs.take 2000))) G (by omega) hlt1 hu
   obtain ⟨A1, le1, go1⟩ := S1.adopt (X' := X) (n := n) (site' := .box (jjd st n) [.d (.sl .u8 (xs.take 2000)), .d (.int .i64 0)]) (nv := .pointer (some ⟨w.heap.size, 0, none⟩)) (fun b h => .inl h)
    (.inl fun site h => jj6 h) (fun b h => by simp only [blk, Option.some.injEq] at h; subst h; exact ⟨.inr ⟨by omega, by omega⟩, fun h => by have := hX _ h; omega, .inr (by omega)⟩) (fun hs e go _ => by
     have hu2 := go hu1
     refine ⟨w.heap.size, T, [u, .int .i64 0], e, h0, rfl, fun x hx => ?_, (fun h => by cases h), fun j h h' => ?_⟩
     ·rcases List.mem_cons.1 hx with rfl | hx
      ·exact Rd.oneCell hu
      ·rw [List.mem_singleton.1 hx]; rfl
     ·match j, h, h' with
      | 0, _, _ => exact hu2
      | 1, _, _ => exact Rd.int .i64 0)
   refine hK _ _ w' (Sim.app (us := [(n, .box (jjd st n) [.d (.sl .u8 (xs.take 2000)), .d (.int .i64 0)])]) A1 hd (v := lfv (.ptr n (jjd st n) 0)) ?_)
   exact ⟨w.heap.size, rfl, .box (jjd st n) [.d (.sl .u8 (xs.take 2000)), .d (.int .i64 0)], by simp [jjN, jjl], Nat.le_refl _, fun _ => by simp⟩
  rcases hS xs va w _ hrd with ⟨h1, h2⟩ | ⟨v, w', h1, h2⟩
  ·unfold Oper.wp
   rw [hrun, h1, Oper.upon_enter]
   refine h2.mono fun e w' he => ?_
   cases e with
   | returned v =>
    have := core v w' he
    cases hdst : o.dst with
    | none => rw [hdst] at this; simpa [Act.put, jqK] using this
    | some t => rw [hdst] at this; simpa [Act.put, jqK] using this
   | panicked c => exact he.elim
   | outgrown => exact he.elim
  ·exact wp_val (hrun.trans h1) (core v w' h2)
 ·exact .fail
theorem callStep_ok (S : Sim w0 fb X ι st tm w) {C : Ctx} (H : CtxGood P C) {c : Go.Call} {f : Operand} (ho : o.op = .call c) (hf : c.callee = .value f) (hd : jjJ st o.dst = true) (d : Nat) (T : TypeId) :
  Holds (jqU C d st (ev C st T f) (evs C st c.args.toList c.argTypes.toList)) (jjA P w0 fb X st tm w o) := by
 have hev := jqe S C T f
 obtain ⟨e1, e2⟩ := evs_ok S C c.args.toList c.argTypes.toList
 have run : ∀ {g : FuncId} {cvs : List Value}, Act.eval ⟨tm, []⟩ f = .func (.func g) #[] cvs.toArray →
   (execOp (Act.eval ⟨tm, []⟩) o).run P w = (callFunc g (c.args.toList.map (Act.eval ⟨tm, []⟩) ++ cvs).toArray).run P w := by
  intro g cvs hv
  have ea : (#[] ++ c.args.map (Act.eval ⟨tm, []⟩)) ++ cvs.toArray = (c.args.toList.map (Act.eval ⟨tm, []⟩) ++ cvs).toArray := by apply Array.ext'; simp
  unfold execOp
  simp only [ho, resolve, hf, hv, Deferred.ofValue, Sem.run_bind, Sem.run_pure, Result.andThen_ok, invoke, ea]
 have go : ∀ {g : FuncId} {Sm : jjC} {a : Args} {cs : List (List D)} {us : List (Nat × Site)} {bs : List Nat} {cvs : List Value} {gb : Bool}, C.fs g = some Sm → mkArgsV gb st (evs C st c.args.toList c.argTypes.toList) = some a →
   Act.eval ⟨tm, []⟩ f = .func (.func g) #[] cvs.toArray → (Freezes st.sites us ∧ ∀ σ, σ ∈ bs → jjs st.sites σ) →
   (∀ {LF LB av}, Lends w0 fb X ι st tm w LF LB av → (∀ p, p ∈ us → p ∈ LF) → (∀ σ, σ ∈ bs → σ ∈ LB) → CapsOk w av cs cvs) →
   Holds (callV d st Sm { a with as := a.as ++ jx8 cs, lent := a.lent ++ us, lentB := a.lentB ++ bs }) (jjA P w0 fb X st tm w o) := by
  intro g Sm a cs us bs cvs gb hg ha hv hz hcap
  obtain ⟨z1, z2⟩ := mkArgsV_fz ha
  have hfz : Freezes st.sites (a.lent ++ us) := z1.append hz.1
  have hL0 : Lends w0 fb X ι st tm w (a.lent ++ us) (a.lentB ++ bs) (fun _ => False) := ⟨⟨S, hfz⟩, fun b h => h.elim, fun _ _ _ _ h => h⟩
  obtain ⟨m1, m2, m3, m4⟩ := mkArgsV_ok hL0 ha e1 e2 (fun p hp => List.mem_append.2 (.inl hp)) (fun p hp => List.mem_append.2 (.inl hp))
  refine callV_ok (a := { a with as := a.as ++ jx8 cs, lent := a.lent ++ us, lentB := a.lentB ++ bs }) S (H.fs g Sm hg) (vs := c.args.toList.map (Act.eval ⟨tm, []⟩) ++ cvs) ⟨hfz, fun σ hσ => ?_, m2, fun av hL => ?_, ?_, m4⟩ hd (run hv)
  ·rcases List.mem_append.1 hσ with h | h
   ·exact z2 σ h
   ·exact hz.2 σ h
  ·obtain ⟨n1, _, _, _⟩ := mkArgsV_ok hL ha e1 e2 (fun p hp => List.mem_append.2 (.inl hp)) (fun p hp => List.mem_append.2 (.inl hp))
   have n2 := capArgs_ok (hcap hL (fun p hp => List.mem_append.2 (.inr hp)) (fun p hp => List.mem_append.2 (.inr hp)))
   have := n1.append n2
   rwa [List.append_nil] at this
  ·show jqi (a.as ++ jx8 cs) _ = _
   rw [boxBs_append m1.length, m3, boxBs_caps, List.append_nil]
 unfold jqU
 split
 ·rename_i g caps hfe
  rw [hfe] at hev
  obtain ⟨cvs, h1, h2, h3⟩ := hev
  split
  ·rename_i g' hsp
   split
   ·have hcv : cvs = [] := List.eq_nil_of_length_eq_zero (by simpa using h2)
    subst hcv
    have r := run h1
    rw [List.append_nil] at r
    exact splitV_ok S (H.sp g g' hsp) e1 e2 hd r
   ·exact .fail
  ·cases hop : C.op g with
   | true =>
    simp only [cond_true]
    split
    ·have hcv : cvs = [] := List.eq_nil_of_length_eq_zero (by simpa using h2)
     subst hcv
     have r := run h1
     rw [List.append_nil] at r
     exact openV_ok S (H.op g hop) e1 e2 hd r
    ·exact .fail
   | false =>
    simp only [cond_false]
    have nocap : caps = [] → (execOp (Act.eval ⟨tm, []⟩) o).run P w = (callFunc g (c.args.toList.map (Act.eval ⟨tm, []⟩)).toArray).run P w := by
     rintro rfl
     have hcv : cvs = [] := List.eq_nil_of_length_eq_zero (by simpa using h2)
     subst hcv
     have r := run h1
     rwa [List.append_nil] at r
    cases hcc : C.cc g with
    | true =>
     simp only [cond_true]
     split
     ·exact copyV_ok S (H.cc g hcc) e1 e2 hd (nocap rfl)
     ·exact .fail
    | false =>
     simp only [cond_false]
     cases hbs : C.bs g with
     | true =>
      simp only [cond_true]
      split
      ·exact stringV_ok S (H.bs g hbs) e1 e2 hd (nocap rfl)
      ·exact .fail
     | false =>
      simp only [cond_false]
      split
      ·rename_i Sm a cs us bs hg ha hc
       exact go hg ha h1 (capsOf_fz hc) (fun hL hu hb => capsOf_ok hL hc hu hb h2 h3)
      ·exact .fail
 ·rename_i g caps hfe
  rw [hfe] at hev
  obtain ⟨cvs, h1, _⟩ := CapsOk.of_fn hev
  split
  ·rename_i Sm a hg ha
   have := go (us := []) (bs := []) (cs := caps) (gb := false) hg ha h1 ⟨.nil, fun σ h => by simp at h⟩ (fun {LF LB av} hL _ _ => by
    obtain ⟨cvs', k1, k2⟩ := CapsOk.of_fn (hL.rd' (hev : Rd w (jjh X ι st.sites) (.fn g caps) _))
    rw [h1] at k1
    simp only [Value.func.injEq, Fn.func.injEq, true_and] at k1
    have e := congrArg Array.toList k1
    simp only at e
    rw [e]; exact k2)
   simpa only [List.append_nil] using this
  ·exact .fail
 ·exact .fail
theorem step_ok (S : Sim w0 fb X ι st tm w) {C : Ctx} (H : CtxGood P C) (hd : jjJ st o.dst = true) : Holds (step C st o) (jjA P w0 fb X st tm w o) := by
 unfold step
 split
 ·rename_i x ho
  exact Holds.ok (move_ok S (.inl ho) hd _)
 ·rename_i x ho
  exact Holds.ok (move_ok S (.inr ho) hd _)
 ·rename_i c a b ho
  split
  ·rename_i hc; exact Holds.ok (pick_ok S ho hd hc)
  ·rename_i hc; exact Holds.ok (pick_ok S ho hd hc)
  ·exact .fail
 ·rename_i elem ho
  split
  ·rename_i σ e t n hdst hT
   exact allocA_ok S H.toCtxOk hT ho hd
  ·rename_i σ hdst _
   split
   ·rename_i z hz
    exact Holds.okU (alloc_ok S H.toCtxOk ho hdst hz hd)
   ·exact .fail
  ·exact .fail
 ·rename_i elem x ho
  split
  ·rename_i σ e t n hdst hT
   exact boxA_ok S H.toCtxOk hT ho hd
  ·rename_i σ hdst _
   split
   ·rename_i a ha
    cases hst : jjz a.cells with
    | false => exact .fail
    | true =>
     have hev := jqe S C elem x
     rw [jxt ha] at hev
     exact Holds.okU (box_ok S ho hdst hev hst hd)
   ·exact .fail
  ·exact .fail
 ·rename_i t parts ho
  split
  ·rename_i fs n z eq hT
   exact build_ok S H.toCtxOk hT ho hd
  ·rename_i e ty n hT
   split
   ·rename_i z hz
    exact buildA_ok S H.toCtxOk hT hz ho hd
   ·exact .fail
  ·exact .fail
 ·rename_i t len parts ho
  split
  ·rename_i σ e ty bytes hdst hT
   cases hb : (parts.toList.length.beq len && inOrder 0 parts.toList && Nat.ble (len * esz ty) 1000) with
   | false => exact .fail
   | true =>
    simp only [Bool.and_eq_true] at hb
    obtain ⟨⟨b1, b2⟩, b3⟩ := hb
    simp only [cond_true]
    split
    ·rename_i as has
     split
     ·rename_i xs us hdec
      exact Holds.okU (buildSlice_ok S H.toCtxOk hT ho hdst hd (Nat.eq_of_beq_eq_true b1) b2 (Nat.le_of_ble_eq_true b3) has hdec)
     ·exact .fail
    ·exact .fail
  ·exact .fail
 ·rename_i t a ho
  split
  ·rename_i e ty n hT
   exact loadA_ok S H.toCtxOk hT ho hd
  ·cases hk : (C.tt t).known with
   | false => exact .fail
   | true => exact load_ok S H.toCtxOk ho hd hk
 ·rename_i t a x ho
  split
  ·rename_i v hv
   split
   ·rename_i e ty n hT
    exact storeA_ok S H.toCtxOk hT ho hd hv
   ·cases hk : (C.tt t).known with
    | false => exact .fail
    | true => exact store_ok S H.toCtxOk ho hd hk hv
  ·exact .fail
 ·rename_i x ho
  split
  ·rename_i hx
   exact Holds.ok (jJh S ho hd hx fun vv h => by obtain ⟨b, h, _⟩ := h; exact ⟨_, h⟩)
  ·rename_i hx
   exact Holds.ok (jJh S ho hd hx fun vv h => by obtain ⟨b, o, h, _⟩ := h; exact ⟨_, h⟩)
  ·rename_i hx
   exact Holds.ok (jJh S ho hd hx fun vv h => by obtain ⟨b, h, _⟩ := h; exact ⟨_, h⟩)
  ·exact .fail
 ·rename_i op t x y yT ho
  exact binV_ok S H.toCtxOk ho hd
 ·rename_i op t x ho
  split
  ·rename_i b hx; exact Holds.ok (unOp_not_ok S ho hd hx)
  ·rename_i k n hx; exact Holds.ok (unOp_neg_ok S ho hd hx)
  ·rename_i k n hx; exact Holds.ok (unOp_xor_ok (T := o.type) S ho hd hx)
  ·exact .fail
 ·rename_i src dst x ho
  split
  ·rename_i σ hdst; exact convV_ok S H.toCtxOk ho hdst hd
  ·exact .fail
 ·rename_i fn first captured ho
  split
  ·rename_i g
   cases hf : first.toList.isEmpty with
   | false => exact .fail
   | true =>
    simp only [cond_true]
    split
    ·rename_i caps hc; exact Holds.ok (makeFunc_ok S ho hd hf hc)
    ·exact .fail
  ·exact .fail
 ·rename_i t l c ho
  split
  ·rename_i σ e ty bytes kn n km m hdst hT hl hc
   split
   ·rename_i z hz
    split
    ·rename_i ds us hds
     split
     ·rename_i z' hz'
      exact Holds.optU fun r hr => makeSlice_ok S H.toCtxOk hT ho hdst hd hl hc hz hds hz' r hr
     ·exact .fail
    ·exact .fail
   ·exact .fail
  ·exact .fail
 ·rename_i t x lo hi mx ho
  split
  ·split
   ·rename_i e ty n hT
    exact sliceA_ok S H.toCtxOk hT ho hd
   ·exact slice_ok S H.toCtxOk ho hd
  ·exact .fail
 ·rename_i s x f ho
  split
  ·rename_i fs n z eq hT
   split
   ·rename_i off sz hf; exact fieldAddr_ok S H.toCtxOk hT ho hd hf
   ·exact .fail
  ·exact .fail
 ·rename_i t x i ho
  split
  ·rename_i e ty bytes k n hT hi
   exact indexAddr_ok S H.toCtxOk hT hi ho hd
  ·rename_i e ty m k n hT hi
   exact indexAddrA_ok S H.toCtxOk hT hi ho hd
  ·exact .fail
 ·rename_i t x i ho
  split
  ·rename_i s k n hT hx hi
   exact index_ok S H.toCtxOk ho hd hT hx hi
  ·rename_i e ty m k n hT hi
   exact indexA_ok S H.toCtxOk hT hi ho hd
  ·exact .fail
 ·rename_i t i ho
  split
  ·rename_i as hx
   split
   ·rename_i a ha; exact Holds.ok (extract_ok S ho hd hx ha)
   ·exact .fail
  ·exact .fail
 ·rename_i c ho
  split
  ·rename_i f hf
   split
   ·exact callStep_ok S H ho hf hd _ _
   ·exact callStep_ok S H ho hf hd _ _
  ·rename_i b hb
   obtain ⟨callee, args, argTypes⟩ := c
   simp only at hb ho ⊢
   subst hb
   split
   ·rename_i x t hargs htys
    have e1 : args = #[x] := Array.ext' hargs
    have e2 : argTypes = #[t] := Array.ext' htys
    subst e1 e2
    exact len_ok S H.toCtxOk ho hd
   ·rename_i σ s x t u hdst hargs htys
    have e1 : args = #[s, x] := Array.ext' hargs
    have e2 : argTypes = #[t, u] := Array.ext' htys
    subst e1 e2
    split
    ·rename_i hT hU
     exact append_ok S H.toCtxOk hT hU ho hdst hd
    ·rename_i hT hU
     exact appendS_ok S H.toCtxOk hT hU ho hdst hd
    ·exact .fail
   ·rename_i x y hargs
    have e1 : args = #[x, y] := Array.ext' hargs
    subst e1
    split
    ·rename_i hx hy
     exact Holds.ok (maxmin_ok (isMax := true) S ho hd hx hy)
    ·exact .fail
   ·rename_i x y hargs
    have e1 : args = #[x, y] := Array.ext' hargs
    subst e1
    split
    ·rename_i hx hy
     exact Holds.ok (maxmin_ok (isMax := false) S ho hd hx hy)
    ·exact .fail
   ·exact .fail
  ·exact .fail
 ·exact mapStep_ok S H.toCtxOk hd
end
section
variable {st st' : St}
theorem jqb {σ : Nat} (h : st.site σ = st'.site σ) (s : Nat) : jxC st σ s = jxC st' σ s := by unfold jxC; rw [h]
theorem jxs {σ : Nat} (h : st.site σ = st'.site σ) (s : Nat) : jq4 st σ s = jq4 st' σ s := by unfold jq4; rw [h]
theorem jjO {σ : Nat} (h : st.site σ = st'.site σ) : jjd st σ = jjd st' σ := by unfold jjd; rw [h]
abbrev On (st st' : St) (N : List Nat) : Prop := ∀ σ, σ ∈ N → st.site σ = st'.site σ
theorem On.left {N M : List Nat} (h : On st st' (N ++ M)) : On st st' N := fun σ hσ => h σ (List.mem_append.2 (.inl hσ))
theorem On.right {N M : List Nat} (h : On st st' (N ++ M)) : On st st' M := fun σ hσ => h σ (List.mem_append.2 (.inr hσ))
theorem On.head {n : Nat} {M : List Nat} (h : On st st' (n :: M)) : st.site n = st'.site n := h n List.mem_cons_self
theorem On.tail {n : Nat} {M : List Nat} (h : On st st' (n :: M)) : On st st' M := fun σ hσ => h σ (List.mem_cons_of_mem _ hσ)
theorem jxO {N : List Nat} (h : On st st' (jqN st N)) : On st st' N := by
 induction N with
 | nil => intro σ hσ; cases hσ
 | cons n N ih =>
  intro σ hσ
  rcases List.mem_cons.1 hσ with rfl | hσ
  ·exact h.head
  ·exact ih h.tail.right σ hσ
theorem deepN_in {N : List Nat} (h : On st st' (jqN st N)) {σ : Nat} (hσ : σ ∈ N) : On st st' (siteNames st σ) := by
 induction N with
 | nil => cases hσ
 | cons n N ih =>
  rcases List.mem_cons.1 hσ with rfl | hσ
  ·exact h.tail.left
  ·exact ih h.tail.right hσ
theorem deepN_app {N M : List Nat} : jqN st (N ++ M) = jqN st N ++ jqN st M := by
 induction N with
 | nil => rfl
 | cons n N ih => simp [jqN, ih]
theorem dat_congr {l : Lf} (h : On st st' l.names) : dat st l = dat st' l := by
 cases l <;> try rfl
 case own σ s => simp only [dat, frzU]; rw [jqb (h.head) s, h.head]
 case clo g caps => cases caps <;> rfl
theorem jz1 {ls : List Lf} (h : On st st' (jjr ls)) : dats st ls = dats st' ls := by
 induction ls with
 | nil => rfl
 | cons l ls ih =>
  simp only [jjr] at h
  simp only [dats, dat_congr h.left, ih h.right]
theorem jJn {σ s : Nat} {cells : List Lf} (h : jq4 st σ s = some cells) : siteNames st σ = jjr cells := by
 unfold jq4 at h
 cases hs : st.site σ with
 | none => rw [hs] at h; cases h
 | some x =>
  rw [hs] at h
  cases x with
  | box s' cs =>
   have h : (bif s'.beq s then some cs else none) = some cells := h
   unfold siteNames
   rw [hs]
   cases hb : s'.beq s with
   | true => simp only [hb, cond_true, Option.some.injEq] at h; subst h; rfl
   | false => simp [hb] at h
  | row _ _ _ => cases h
  | froz _ _ _ => cases h
  | map _ _ _ => cases h
  | dead _ => cases h
theorem loadV_congr {agg : Bool} {n : Nat} {a : SV} (h : On st st' a.names) : loadV agg n st a = loadV agg n st' a := by
 unfold loadV
 split
 ·rename_i σ s off; rw [jxs (show st.site σ = st'.site σ from h σ (by simp [SV.names, AV.cells, jjr, Lf.names]))]
 ·rfl
 ·rename_i σ s u k off; rw [jqb (show st.site σ = st'.site σ from h σ (by simp [SV.names, AV.cells, jjr, Lf.names]))]
 ·rfl
theorem storeV_congr {n : Nat} {a : SV} {v : AV} (h : On st st' a.names) (hv : On st st' (jjr v.cells)) : storeV n st a v = storeV n st' a v := by
 unfold storeV
 congr 1
 split
 ·rename_i σ s off; rw [jxs (show st.site σ = st'.site σ from h σ (by simp [SV.names, AV.cells, jjr, Lf.names]))]
 ·rename_i σ s u k off; rw [show st.site σ = st'.site σ from h σ (by simp [SV.names, AV.cells, jjr, Lf.names]), jz1 hv]
 ·rfl
theorem indexAddrV_congr {u : Ty} {x : SV} {i : Int} (h : On st st' x.names) : jxf u st x i = jxf u st' x i := by
 unfold jxf
 split
 ·rfl
 ·rename_i σ s; rw [jqb (show st.site σ = st'.site σ from h σ (by simp [SV.names, AV.cells, jjr, Lf.names]))]
 ·rfl
theorem sliceV_congr {ti : TI} {x : SV} {lo hi : Option SV} (h : On st st' x.names) : sliceV ti st x lo hi = sliceV ti st' x lo hi := by
 unfold sliceV
 split
 ·rfl
 ·rfl
 ·rfl
 ·rename_i σ s; simp only [frzU]; rw [jqb (show st.site σ = st'.site σ from h σ (by simp [SV.names, AV.cells, jjr, Lf.names])), show st.site σ = st'.site σ from h σ (by simp [SV.names, AV.cells, jjr, Lf.names])]
 ·rfl
theorem mapOf_congr {l : Lf} (h : On st st' l.names) : mapOf st l = mapOf st' l := by
 cases l <;> try rfl
 case own σ s => simp only [mapOf]; rw [h.head]
 case d v => cases v <;> rfl
theorem lenV_congr {ti : TI} {x : SV} (h : On st st' x.names) : lenV ti st x = lenV ti st' x := by
 unfold lenV
 split <;> try rfl
 rotate_left
 ·rename_i l; rw [mapOf_congr (l := l) (fun σ hσ => h σ (by simp [SV.names, AV.cells, jjr, hσ]))]
 rename_i σ s; rw [jqb (show st.site σ = st'.site σ from h σ (by simp [SV.names, AV.cells, jjr, Lf.names]))]
theorem srcOf_congr {x : SV} (h : On st st' x.names) : srcOf st x = srcOf st' x := by
 unfold srcOf
 split <;> try rfl
 rename_i σ s; rw [jqb (show st.site σ = st'.site σ from h σ (by simp [SV.names, AV.cells, jjr, Lf.names]))]
theorem newStamp_set_congr {σ dst s : Nat} (hd : st.site dst = st'.site dst) : jjd (st.setSite σ (.dead s)) dst = jjd (st'.setSite σ (.dead s)) dst := by
 apply jjO
 rw [St.site_setSite, St.site_setSite, hd]
theorem appendW_congr {bytes : Nat} {t : Ty} {dst : Nat} {s : SV} {ys : List (den t)} (h : On st st' s.names) (hd : st.site dst = st'.site dst) : jJo bytes t dst st s ys = jJo bytes t dst st' s ys := by
 unfold jJo
 split
 ·simp only [jjO hd]
 ·rename_i σ s; simp only [show st.site σ = st'.site σ from h σ (by simp [SV.names, AV.cells, jjr, Lf.names]), newStamp_set_congr hd]
 ·rfl
theorem appendV_congr {bytes : Nat} {t : Ty} {dst : Nat} {s x : SV} (h : On st st' s.names) (hx : On st st' x.names) (hd : st.site dst = st'.site dst) : appendV bytes t dst st s x = appendV bytes t dst st' s x := by
 unfold appendV
 rw [srcOf_congr hx]
 split
 ·rfl
 ·split
  ·split
   ·exact appendW_congr h hd
   ·rfl
  ·rfl
theorem appendS_congr {bytes : Nat} {t : Ty} {dst : Nat} {s x : SV} (h : On st st' s.names) (hd : st.site dst = st'.site dst) : appendS bytes t dst st s x = appendS bytes t dst st' s x := by
 unfold appendS
 split
 ·split
  ·exact appendW_congr h hd
  ·rfl
 ·rfl
theorem newA_congr {σ : Nat} {t : Ty} {n : Nat} {xs : List (den t)} (hd : st.site σ = st'.site σ) : newA σ st t n xs = newA σ st' t n xs := by
 unfold newA; rw [jjO hd]
theorem allocA_congr {σ : Nat} {t : Ty} {n : Nat} (hd : st.site σ = st'.site σ) : allocA σ st t n = allocA σ st' t n := by
 unfold allocA; split <;> first | exact newA_congr hd | rfl
theorem boxA_congr {σ : Nat} {t : Ty} {n : Nat} {v : SV} (hd : st.site σ = st'.site σ) : boxA σ st t n v = boxA σ st' t n v := by
 unfold boxA
 split
 ·split <;> first | exact newA_congr hd | rfl
 ·rfl
theorem loadA_congr {t : Ty} {n : Nat} {a : SV} (h : On st st' a.names) : loadA st t n a = loadA st' t n a := by
 unfold loadA
 split
 ·rename_i σ s u; rw [jqb (show st.site σ = st'.site σ from h σ (by simp [SV.names, AV.cells, jjr, Lf.names]))]
 ·rfl
theorem storeA_congr {t : Ty} {n : Nat} {a : SV} {v : AV} (h : On st st' a.names) : storeA st t n a v = storeA st' t n a v := by
 unfold storeA
 split
 ·rename_i σ s u ls; rw [show st.site σ = st'.site σ from h σ (by simp [SV.names, AV.cells, jjr, Lf.names])]
 ·rfl
theorem indexAddrA_congr {C : Ctx} {t : Ty} {n : Nat} {x : SV} {i : Int} (h : On st st' x.names) : jxg C st t n x i = jxg C st' t n x i := by
 unfold jxg
 split
 ·rename_i σ s u; rw [jqb (show st.site σ = st'.site σ from h σ (by simp [SV.names, AV.cells, jjr, Lf.names]))]
 ·rfl
 ·rfl
theorem sliceA_congr {t : Ty} {n : Nat} {x : SV} {lo hi : Option SV} (h : On st st' x.names) : sliceA st t n x lo hi = sliceA st' t n x lo hi := by
 unfold sliceA
 split
 ·rename_i σ s u; simp only [frzU]; rw [jqb (show st.site σ = st'.site σ from h σ (by simp [SV.names, AV.cells, jjr, Lf.names])), show st.site σ = st'.site σ from h σ (by simp [SV.names, AV.cells, jjr, Lf.names])]
 ·rfl
theorem decs_congr {t : Ty} {as : List AV} (h : On st st' (jz2 as)) : decs t st as = decs t st' as := by
 induction as with
 | nil => rfl
 | cons a as ih =>
  simp only [jz2] at h
  simp only [decs, jz1 h.left, ih h.right]
theorem convV_congr {C : Ctx} {src dst : TypeId} {σ : Nat} {x : SV} (h : On st st' x.names) (hd : st.site σ = st'.site σ) : convV C src dst σ st x = convV C src dst σ st' x := by
 unfold convV
 split <;> try rfl
 ·rename_i τ s _ _; rw [jqb (show st.site τ = st'.site τ from h τ (by simp [SV.names, AV.cells, jjr, Lf.names]))]
 ·rw [jjO hd]
theorem capsOf_congr {caps : List (Nat × Nat)} (h : On st st' (jqN st (jjF caps))) : jzf st caps = jzf st' caps := by
 induction caps with
 | nil => rfl
 | cons p caps ih =>
  obtain ⟨σ, s⟩ := p
  simp only [jjF, jqN] at h
  simp only [jzf]
  rw [← jxs h.head, ← ih h.tail.right]
  cases hb : jq4 st σ s with
  | none => rfl
  | some cells =>
   have := h.tail.left
   rw [jJn hb] at this
   simp only [jz1 this]
theorem lend_congr {l : Lf} (h : On st st' (jqN st l.names)) : lend st l = lend st' l := by
 have hd := dat_congr (jxO h)
 unfold lend
 split
 ·rfl
 ·rename_i g c cs
  simp only [Lf.names] at h
  rw [capsOf_congr h]
 ·rw [hd]
theorem lends_congr {ls : List Lf} (h : On st st' (jqN st (jjr ls))) : lends st ls = lends st' ls := by
 induction ls with
 | nil => rfl
 | cons l ls ih =>
  simp only [jjr, deepN_app] at h
  simp only [lends, lend_congr h.left, ih h.right]
theorem give1_congr {l : Lf} (h : On st st' l.names) : give1 st l = give1 st' l := by
 unfold give1
 split <;> try rfl
 rename_i σ s; rw [show st.site σ = st'.site σ from h.head]
theorem give_congr {ls : List Lf} (h : On st st' (jjr ls)) : give st ls = give st' ls := by
 induction ls with
 | nil => rfl
 | cons l ls ih =>
  simp only [jjr] at h
  simp only [give, give1_congr h.left, ih h.right]
def jjU : List SV → List Nat
 | [] => []
 | v :: vs => v.names ++ jjU vs
theorem mkArgs_congr {vs : List SV} (h : On st st' (jqN st (jjU vs))) : jq8 st vs = jq8 st' vs := by
 induction vs with
 | nil => rfl
 | cons v vs ih =>
  simp only [jjU, deepN_app] at h
  have ih := ih h.right
  have h := h.left
  cases v with
  | tup as => rfl
  | av a =>
   cases a with
   | agg ls =>
    simp only [jq8]
    rw [lends_congr (by simpa [SV.names, AV.cells] using h), ih]
   | lf l =>
    have hl : On st st' (jqN st l.names) := by simpa [SV.names, AV.cells, jjr] using h
    unfold jq8
    split
    ·rfl
    ·rename_i σ s vs0 heq
     cases heq
     have hl : On st st' (jqN st [σ]) := by simpa [SV.names, AV.cells, jjr, Lf.names] using h
     simp only [jqN] at hl
     rw [← jxs hl.head, ← ih]
     cases hb : jq4 st σ s with
     | none => rfl
     | some cells =>
      have := hl.tail.left
      rw [jJn hb] at this
      cases jq8 st vs with
      | none => rfl
      | some r => simp only [give_congr this]
    ·rename_i l' vs0 _ heq
     cases heq
     rw [lend_congr hl, ih]
    ·rename_i heq; cases heq
    ·rfl
theorem giveOr_congr {l : Lf} (h : On st st' (jqN st l.names)) : giveOr st l = giveOr st' l := by
 unfold giveOr
 split
 ·rw [give1_congr (jxO h)]
 ·rfl
 ·rw [lend_congr h]
theorem mkArgsG_congr {vs : List SV} (h : On st st' (jqN st (jjU vs))) : jxp st vs = jxp st' vs := by
 induction vs with
 | nil => rfl
 | cons v vs ih =>
  simp only [jjU, deepN_app] at h
  have ih := ih h.right
  have h := h.left
  cases v with
  | tup as => rfl
  | av a =>
   cases a with
   | agg ls => rfl
   | lf l =>
    have hl : On st st' (jqN st l.names) := by simpa [SV.names, AV.cells, jjr] using h
    simp only [jxp, giveOr_congr hl, ih]
theorem mkArgsV_congr {b : Bool} {vs : List SV} (h : On st st' (jqN st (jjU vs))) : mkArgsV b st vs = mkArgsV b st' vs := by
 cases b
 ·exact mkArgs_congr h
 ·exact mkArgsG_congr h
theorem jxo (hb : ∀ σ, 1000000 ≤ σ → st.site σ = st'.site σ) {σ : Nat} (h : 1000000 ≤ σ) : jjd st σ = jjd st' σ := jjO (hb σ h)
theorem take_congr (hb : ∀ σ, 1000000 ≤ σ → st.site σ = st'.site σ) : ∀ {ls : List Lf} {n : Nat}, 1000000 ≤ n → take st n ls = take st' n ls := by
 intro ls
 induction ls with
 | nil => intro n _; rfl
 | cons l ls ih =>
  intro n hn
  cases l <;> simp only [take, ih (show 1000000 ≤ n + 1 by omega), jxo hb hn]
theorem takeA_congr (hb : ∀ σ, 1000000 ≤ σ → st.site σ = st'.site σ) : ∀ {as : List AV} {n : Nat}, 1000000 ≤ n → jqj st n as = jqj st' n as := by
 intro as
 induction as with
 | nil => intro n _; rfl
 | cons a as ih =>
  intro n hn
  cases a with
  | lf l => simp only [jqj]; rw [take_congr hb hn, ih (show 1000000 ≤ n + 100 by omega)]
  | agg ls => simp only [jqj]; rw [take_congr hb hn, ih (show 1000000 ≤ n + 100 by omega)]
theorem takeB_congr (hb : ∀ σ, 1000000 ≤ σ → st.site σ = st'.site σ) : ∀ {bs : List (Nat × Nat)} {css : List (List Lf)}, jxA st bs css = jxA st' bs css := by
 intro bs
 induction bs with
 | nil => intro css; cases css <;> rfl
 | cons p bs ih =>
  obtain ⟨σ, s⟩ := p
  intro css
  cases css with
  | nil => rfl
  | cons cs css => simp only [jxA]; rw [take_congr hb (by omega), ih]
theorem callV_congr (hb : ∀ σ, 1000000 ≤ σ → st.site σ = st'.site σ) {dst : Nat} {S : jjC} {a : Args} : callV dst st S a = callV dst st' S a := by
 unfold callV
 simp only [takeB_congr hb, takeA_congr hb (show 1000000 ≤ 2000000 + dst * 10000 by omega)]
theorem splitV_congr {g : FuncId} {n : Nat} {vs : List SV} (hb : ∀ σ, 1000000 ≤ σ → st.site σ = st'.site σ) (hn : 1000000 ≤ n) : splitV g n st vs = splitV g n st' vs := by
 unfold splitV
 rw [jxo hb hn, jxo hb (show 1000000 ≤ n + 1 by omega), jxo hb (show 1000000 ≤ n + 2 by omega)]
theorem openV_congr {n : Nat} {vs : List SV} (hb : ∀ σ, 1000000 ≤ σ → st.site σ = st'.site σ) (hn : 1000000 ≤ n) : openV n st vs = openV n st' vs := by
 unfold openV
 rw [jxo hb hn]
theorem copyV_congr {vs : List SV} (h : On st st' (jqN st (jjU vs))) : copyV st vs = copyV st' vs := by
 unfold copyV
 split
 ·rename_i σ s
  rw [show st.site σ = st'.site σ from jxO h σ (by simp [jjU, SV.names, AV.cells, jjr, Lf.names])]
 ·rfl
theorem stringV_congr {vs : List SV} (h : On st st' (jqN st (jjU vs))) : stringV st vs = stringV st' vs := by
 unfold stringV
 split
 ·rename_i σ s
  have h0 : σ ∈ jjU [SV.av (.lf (.ptr σ s 0))] := by simp [jjU, SV.names, AV.cells, jjr, Lf.names]
  rw [← jxs (jxO h σ h0)]
  split
  ·rfl
  ·rename_i l0 τ u hb
   have := deepN_in h h0
   rw [jJn hb] at this
   rw [show st.site τ = st'.site τ from this τ (by simp [jjr, Lf.names])]
  ·rfl
 ·rfl
theorem jJb {C : Ctx} (hb : ∀ σ, 1000000 ≤ σ → st.site σ = st'.site σ) {dst : Nat} {f : SV} {vs : List SV} (hf : On st st' (jqN st f.names)) (h : On st st' (jqN st (jjU vs))) : jqU C dst st f vs = jqU C dst st' f vs := by
 unfold jqU
 split
 ·rename_i g caps
  have : On st st' (jqN st (jjF caps)) := by simpa [SV.names, AV.cells, jjr, Lf.names] using hf
  simp only [mkArgsV_congr h, capsOf_congr this, callV_congr hb, splitV_congr hb (show 1000000 ≤ 3000000 + dst * 10 by omega), openV_congr hb (show 1000000 ≤ 4000000 + dst by omega), copyV_congr h, stringV_congr h]
 ·simp only [mkArgs_congr h, callV_congr hb]
 ·rfl
theorem ev_congr {C : Ctx} {x : Operand} {T : TypeId} (h : ∀ t, x = .tmp t → st.get t = st'.get t) : ev C st T x = ev C st' T x := by
 cases x with
 | tmp t => exact h t rfl
 | _ => rfl
theorem constSV_names {ti : TI} {v : Value} : (constSV ti v).names = [] := by
 unfold constSV
 split <;> try rfl
 all_goals (split <;> rfl)
theorem ev_names {C : Ctx} {x : Operand} {T : TypeId} : ∀ {xs : List Operand}, x ∈ xs → ∀ σ, σ ∈ (ev C st T x).names → σ ∈ jxY st xs := by
 intro xs
 induction xs with
 | nil => intro h; cases h
 | cons y xs ih =>
  intro h σ hσ
  rcases List.mem_cons.1 h with rfl | h
  ·cases x with
   | tmp t => simp only [jxY]; exact List.mem_append.2 (.inl hσ)
   | const v => simp only [ev, constSV_names] at hσ; cases hσ
   | global g => simp [ev, SV.names, AV.cells, jjr, Lf.names, lfv] at hσ
   | func g => simp [ev, SV.names, AV.cells, jjr, Lf.names, lfv, jjF] at hσ
  ·have := ih h σ hσ
   cases y <;> simp only [jxY] <;> first | exact List.mem_append.2 (.inr this) | exact this
theorem opSlots_mem {t : Nat} : ∀ {xs : List Operand}, .tmp t ∈ xs → t ∈ jzw xs := by
 intro xs
 induction xs with
 | nil => intro h; cases h
 | cons y xs ih =>
  intro h
  rcases List.mem_cons.1 h with h | h
  ·subst h; simp only [jzw]; exact List.mem_cons_self
  ·have := ih h
   cases y <;> simp only [jzw] <;> first | exact List.mem_cons_of_mem _ this | exact this
theorem avOf_names {v : SV} {a : AV} (h : avOf v = some a) : jjr a.cells = v.names := by
 cases v with
 | av b => simp only [avOf, Option.some.injEq] at h; subst h; rfl
 | tup _ => cases h
theorem avsOf_names {vs : List SV} : ∀ {as : List AV}, avsOf vs = some as → ∀ σ, σ ∈ jz2 as → σ ∈ jjU vs := by
 induction vs with
 | nil => intro as h; simp only [avsOf, Option.some.injEq] at h; subst h; intro σ hσ; cases hσ
 | cons v vs ih =>
  intro as h σ hσ
  simp only [avsOf] at h
  split at h
  ·rename_i a as' h1 h2
   simp only [Option.some.injEq] at h
   subst h
   simp only [jz2, List.mem_append] at hσ
   simp only [jjU, List.mem_append]
   rcases hσ with hσ | hσ
   ·exact .inl (by rw [avOf_names h1] at hσ; exact hσ)
   ·exact .inr (ih h2 σ hσ)
  ·cases h
end
theorem step_congr {C : Ctx} {st st' : St} {o : Oper} (hs : ∀ t, t ∈ jzw (opnds o.op) → st.get t = st'.get t) (hn : On st st' (footN C st o)) (hb : isCall o.op = true → ∀ σ, 1000000 ≤ σ → st.site σ = st'.site σ) :
  step C st o = step C st' o := by
 have he : ∀ x, x ∈ opnds o.op → ∀ T, ev C st T x = ev C st' T x := fun x hx T => ev_congr fun t ht => hs t (opSlots_mem (ht ▸ hx))
 have hdp0 : looks o.op = true → On st st' (jqN st (jxY st (opnds o.op))) := fun h => by have := hn.left.left; rw [h] at this; exact this
 have hon0 : looks o.op = true → ∀ x, x ∈ opnds o.op → ∀ T, On st st' (ev C st T x).names := fun hl x hx T σ hσ => jxO (hdp0 hl) σ (ev_names hx σ hσ)
 have hdeep0 : looks o.op = true → ∀ N : List Nat, (∀ σ, σ ∈ N → σ ∈ jxY st (opnds o.op)) → On st st' (jqN st N) := by
  intro hl N
  have hdp := hdp0 hl
  induction N with
  | nil => intro _ σ hσ; cases hσ
  | cons n N ih =>
   intro h σ hσ
   simp only [jqN, List.mem_cons, List.mem_append] at hσ
   rcases hσ with rfl | hσ | hσ
   ·exact jxO hdp σ (h σ List.mem_cons_self)
   ·exact deepN_in hdp (h n List.mem_cons_self) σ hσ
   ·exact ih (fun τ hτ => h τ (List.mem_cons_of_mem _ hτ)) σ hσ
 have hd : ∀ d, o.dst = some d → st.site d = st'.site d := fun d h => hn.left.right d (by simp [h])
 have hz : On st st' (zeroN C o.op) := hn.right
 obtain ⟨dst, op, type, pos, after, guard⟩ := o
 simp only at he hon0 hdeep0 hd hb hz
 cases op <;> (try have hon := hon0 rfl) <;> (try have hdeep := hdeep0 rfl) <;> (try simp only [opnds, List.mem_cons, List.not_mem_nil, or_false, forall_eq_or_imp, forall_eq] at he) <;>
  (try simp only [opnds, List.mem_cons, List.not_mem_nil, or_false, forall_eq_or_imp, forall_eq] at hon) <;> simp only [step] <;> try rfl
 case move x => rw [he]
 case assign x => rw [he]
 case makeMap t r =>
  simp only [mapStep]
  cases dst with
  | none => rfl
  | some σ =>
   have e := jjO (hd σ rfl)
   cases C.tt t <;> try rfl
   cases r with
   | none => simp only [e]
   | some x => simp only [he x (by simp [opnds]), e]
 case lookup t m k c =>
  simp only [mapStep]
  rw [he.1, he.2]
  have h1 := hon.1 t
  rw [he.1] at h1
  generalize ev C st' t m = vm at h1 ⊢
  split
  ·rename_i l n _ _
   rw [mapOf_congr (l := l) (fun σ hσ => h1 σ (by simp [SV.names, AV.cells, jjr, hσ]))]
  ·rfl
 case mapUpdate t m k x =>
  simp only [mapStep, mapStep.mapSet]
  rw [he.1, he.2.1, he.2.2]
  have h1 := hon.1 t
  rw [he.1] at h1
  generalize ev C st' t m = vm at h1 ⊢
  split
  ·rename_i σ s n d _ _ _
   rw [show st.site σ = st'.site σ from h1 σ (by simp [SV.names, AV.cells, jjr, Lf.names])]
  ·rfl
 case insert t m k x =>
  simp only [mapStep, mapStep.mapSet]
  rw [he.1, he.2.1, he.2.2]
  have h1 := hon.1 t
  rw [he.1] at h1
  generalize ev C st' t m = vm at h1 ⊢
  split
  ·rename_i σ s n d _ _ _
   rw [show st.site σ = st'.site σ from h1 σ (by simp [SV.names, AV.cells, jjr, Lf.names])]
  ·rfl
 case pick c a b => rw [he.1, he.2.1, he.2.2]
 case alloc elem =>
  cases dst with
  | none => rfl
  | some σ =>
   have e := jjO (hd σ rfl)
   cases hT : C.tt elem with
   | arr _ t n => exact allocA_congr (hd σ rfl)
   | _ => simp only [e]
 case box elem x =>
  rw [he]
  cases dst with
  | none => rfl
  | some σ =>
   have e := jjO (hd σ rfl)
   cases hT : C.tt elem with
   | arr _ t n => exact boxA_congr (hd σ rfl)
   | _ => simp only [e]
 case build t ps =>
  have go : ∀ (fs : List (Nat × Nat)) (r : List (Nat × Operand)) (z : List Lf), (∀ x, x ∈ r.map (·.2) → ∀ T, ev C st T x = ev C st' T x) → step.buildV C st fs z r = step.buildV C st' fs z r := by
    intro fs r
    induction r with
    | nil => intro z _; rfl
    | cons p r ih =>
     obtain ⟨i, x⟩ := p
     intro z h
     simp only [step.buildV]
     rw [h x (by simp)]
     split
     ·rw [ih _ fun x hx => h x (by simp only [List.map_cons, List.mem_cons]; exact .inr hx)]
     ·rfl
  split
  ·exact go _ _ _ he
  ·split
   ·exact go _ _ _ he
   ·rfl
  ·rfl
 case buildSlice t len ps =>
  cases dst with
  | none => rfl
  | some σ =>
   cases h2 : C.tt t <;> try rfl
   rename_i e ty bytes
   simp only
   have h1 : some σ = some σ := rfl
   have em : (ps.toList.map fun p => ev C st e p.2) = ps.toList.map fun p => ev C st' e p.2 := by
    apply List.map_congr_left
    intro p hp
    exact he _ (List.mem_map.2 ⟨p, hp, rfl⟩) e
   have hnm : On st st' (jjU (ps.toList.map fun p => ev C st e p.2)) := by
    have : ∀ l : List (Nat × Operand), (∀ p, p ∈ l → p ∈ ps.toList) → On st st' (jjU (l.map fun p => ev C st e p.2)) := by
     intro l
     induction l with
     | nil => intro _ σ hσ; cases hσ
     | cons p l ih =>
      intro h σ hσ
      simp only [List.map_cons, jjU, List.mem_append] at hσ
      rcases hσ with hσ | hσ
      ·exact hon _ (List.mem_map.2 ⟨p, h p List.mem_cons_self, rfl⟩) e σ hσ
      ·exact ih (fun q hq => h q (List.mem_cons_of_mem _ hq)) σ hσ
    exact this _ fun _ h => h
   rw [← em, jjO (hd σ h1)]
   congr 1
   split
   ·rename_i as has
    rw [decs_congr fun τ hτ => hnm τ (avsOf_names has τ hτ)]
   ·rfl
 case load t a =>
  rw [← he]
  split
  ·exact loadA_congr (hon _)
  ·rw [loadV_congr (hon _)]
 case store t a x =>
  rw [← he.1, ← he.2]
  split
  ·rename_i v hv
   split
   ·exact storeA_congr (hon.1 _)
   ·rw [storeV_congr (hon.1 _) (by rw [avOf_names hv]; exact hon.2 _)]
  ·rfl
 case nilCheck x => rw [he]
 case binOp op t x y ty => rw [he.1, he.2]
 case unOp op t x => rw [he]
 case convert src dt x =>
  cases dst with
  | none => rfl
  | some σ => simp only; rw [← he, convV_congr (hon _) (hd σ rfl)]
 case makeFunc fn first captured =>
  split
  ·rename_i g
   have go : ∀ (r : List Operand), (∀ x, x ∈ r → ∀ T, ev C st T x = ev C st' T x) → step.cloOf C st r = step.cloOf C st' r := by
    intro r
    induction r with
    | nil => intro _; rfl
    | cons x r ih =>
     intro h
     simp only [step.cloOf]
     rw [h x (by simp), ih fun x hx => h x (List.mem_cons_of_mem _ hx)]
   rw [go _ he]
  ·rfl
 case makeSlice t l c =>
  rw [← he.1, ← he.2]
  cases dst with
  | none => rfl
  | some σ =>
   cases h2 : C.tt t <;> try rfl
   rename_i e ty bytes
   simp only [zeroN, h2] at hz
   have e1 := jjO (hd σ rfl)
   have e2 : ∀ z, (C.tt e).zero = some z → dats st z = dats st' z := fun z hzz => by
    simp only [hzz] at hz
    exact jz1 hz
   generalize ev C st 0 l = x1
   generalize ev C st 0 c = x2
   have e4 : ∀ n m k1 k2, x1 = .av (.lf (.d (.int k1 n))) → x2 = .av (.lf (.d (.int k2 m))) →
     (match (C.tt e).zero with
      | some z => match dats st z with
       | some (ds, _) => match dec ty ds with
        | some z' => StepR.optU (mk0 bytes n m z') (fun _ => lfv (.own σ (jjd st σ))) fun r => [(σ, .row (jjd st σ) ty r)]
        | none => .fail
       | none => .fail
      | none => .fail) = (match (C.tt e).zero with
      | some z => match dats st' z with
       | some (ds, _) => match dec ty ds with
        | some z' => StepR.optU (mk0 bytes n m z') (fun _ => lfv (.own σ (jjd st' σ))) fun r => [(σ, .row (jjd st' σ) ty r)]
        | none => .fail
       | none => .fail
      | none => .fail) := by
    intro n m k1 k2 _ _
    cases hzz : (C.tt e).zero with
    | none => rfl
    | some z => simp only [e2 z hzz, e1]
   rcases x1 with (l1 | _) | _ <;> try rfl
   cases l1 <;> try rfl
   rename_i d1
   cases d1 <;> try rfl
   rcases x2 with (l2 | _) | _ <;> try rfl
   cases l2 <;> try rfl
   rename_i d2
   cases d2 <;> try rfl
   exact e4 _ _ _ _ rfl rfl
 case slice t x lo hi mx =>
  cases mx with
  | some _ => rfl
  | none =>
   simp only
   have e1 : lo.map (ev C st 0) = lo.map (ev C st' 0) := by
    cases lo with
    | none => rfl
    | some y => simp only [Option.map_some]; rw [he.2 y (by simp)]
   have e2 : hi.map (ev C st 0) = hi.map (ev C st' 0) := by
    cases hi with
    | none => rfl
    | some y => simp only [Option.map_some]; rw [he.2 y (by simp)]
   rw [← he.1, e1, e2]
   split
   ·exact sliceA_congr (hon.1 _)
   ·exact sliceV_congr (hon.1 _)
 case fieldAddr s x f => rw [he]
 case indexAddr t x i =>
  rw [← he.1, ← he.2]
  split
  ·rw [indexAddrV_congr (hon.1 _)]
  ·rw [indexAddrA_congr (hon.1 _)]
  ·rfl
 case index t x i => rw [he.1, he.2]
 case extract t i => rw [he]
 case call c =>
  obtain ⟨cal, args, tys⟩ := c
  simp only
  cases cal with
  | invoke r m => rfl
  | value f =>
   simp only [opnds, List.mem_append, List.mem_cons, List.not_mem_nil, or_false] at hdeep
   simp only [isCall, forall_const] at hb
   simp only [List.mem_append, List.mem_cons, List.not_mem_nil, or_false] at he
   have em : ∀ (xs : List Operand) (Ts : List TypeId), (∀ x, x ∈ xs → ∀ T, ev C st T x = ev C st' T x) → evs C st xs Ts = evs C st' xs Ts := by
    intro xs
    induction xs with
    | nil => intro Ts _; cases Ts <;> rfl
    | cons x xs ih =>
     intro Ts h
     cases Ts with
     | nil => simp only [evs]; rw [h x (by simp), ih [] fun y hy => h y (List.mem_cons_of_mem _ hy)]
     | cons T Ts => simp only [evs]; rw [h x (by simp), ih Ts fun y hy => h y (List.mem_cons_of_mem _ hy)]
   have en : ∀ (xs ys : List Operand) (Ts : List TypeId), (∀ x, x ∈ xs → x ∈ ys) → ∀ σ, σ ∈ jjU (evs C st xs Ts) → σ ∈ jxY st ys := by
    intro xs ys
    induction xs with
    | nil => intro Ts _ σ hσ; cases Ts <;> cases hσ
    | cons x xs ih =>
     intro Ts h σ hσ
     cases Ts with
     | nil =>
      simp only [evs, jjU, List.mem_append] at hσ
      rcases hσ with hσ | hσ
      ·exact ev_names (h x List.mem_cons_self) σ hσ
      ·exact ih [] (fun y hy => h y (List.mem_cons_of_mem _ hy)) σ hσ
     | cons T Ts =>
      simp only [evs, jjU, List.mem_append] at hσ
      rcases hσ with hσ | hσ
      ·exact ev_names (h x List.mem_cons_self) σ hσ
      ·exact ih Ts (fun y hy => h y (List.mem_cons_of_mem _ hy)) σ hσ
   have h1 : On st st' (jqN st (ev C st 0 f).names) := hdeep _ fun σ hσ => ev_names (List.mem_append.2 (.inl (by simp))) σ hσ
   have h2 : On st st' (jqN st (jjU (evs C st args.toList tys.toList))) := hdeep _ fun σ hσ => en _ _ _ (fun x hx => List.mem_append.2 (.inr hx)) σ hσ
   have h3 := he f (.inl rfl) 0
   have h4 := em args.toList tys.toList fun x hx => he x (.inr hx)
   cases dst with
   | none => show jqU C 0 st _ _ = jqU C 0 st' _ _; rw [← h3, ← h4]; exact jJb hb h1 h2
   | some d => show jqU C d st _ _ = jqU C d st' _ _; rw [← h3, ← h4]; exact jJb hb h1 h2
  | builtin b =>
   simp only [List.nil_append] at he hon
   generalize args.toList = xs at he hon
   generalize tys.toList = ts
   cases b <;> try rfl
   case append =>
    rcases dst with _ | σ
    ·rfl
    rcases xs with _ | ⟨s, _ | ⟨x, _ | _⟩⟩ <;> try rfl
    rcases ts with _ | ⟨t, _ | ⟨u, _ | _⟩⟩ <;> try rfl
    have e1 := he s (by simp) t
    have e2 := he x (by simp) u
    dsimp only
    cases C.tt t <;> try rfl
    cases C.tt u <;> try rfl
    all_goals dsimp only
    all_goals rw [← e1, ← e2]
    all_goals first | exact appendV_congr (hon s (by simp) _) (hon x (by simp) _) (hd σ rfl) | exact appendS_congr (hon s (by simp) _) (hd σ rfl)
   case len =>
    rcases xs with _ | ⟨s, _ | ⟨x, _ | _⟩⟩ <;> try rfl
    rcases ts with _ | ⟨t, _ | ⟨u, _ | _⟩⟩ <;> try rfl
    have e1 := he s (by simp) t
    dsimp only
    rw [← e1]
    exact lenV_congr (hon s (by simp) _)
   case max =>
    rcases xs with _ | ⟨s, _ | ⟨x, _ | _⟩⟩ <;> try rfl
    have e1 := he s (by simp) type
    have e2 := he x (by simp) type
    dsimp only
    rw [← e1, ← e2]
   case min =>
    rcases xs with _ | ⟨s, _ | ⟨x, _ | _⟩⟩ <;> try rfl
    have e1 := he s (by simp) type
    have e2 := he x (by simp) type
    dsimp only
    rw [← e1, ← e2]
def FR (r : Option Nat) : Fence := { Fence.wide with round := r }
abbrev CW (r : Option Nat) (P : Program) (c : Code) (Q : Exit → Act → World → Prop) (a : Act) (w : World) : Prop := c.wpIn (FR r) 0 P Q a w
theorem FR_fn (r : Option Nat) (f : FuncId) : (FR r).fn f := trivial
theorem FR_room (r : Option Nat) (n : Nat) : (FR r).room n := fun _ h => by simp [FR, Fence.wide] at h
theorem CW.any {r : Option Nat} {P : Program} {c : Code} {Q : Exit → Act → World → Prop} {a : Act} {w : World} (h : CW r P c Q a w) (n : Nat) : c.wpIn (FR r) n P Q a w :=
 fun b k cs hro hb _ => h b k cs hro hb (FR_room r _)
theorem CW.of {r : Option Nat} {P : Program} {c : Code} {Q : Exit → Act → World → Prop} {a : Act} {w : World} {n : Nat} (h : c.wpIn (FR r) n P Q a w) : CW r P c Q a w :=
 fun b k cs hro hb _ => h b k cs hro hb (FR_room r _)
theorem CW.wp {P : Program} {c : Code} {Q : Exit → Act → World → Prop} {a : Act} {w : World} (h : CW none P c Q a w) : c.wp P Q a w := (wpIn_wide (n := 0)).1 h
theorem callsIn_FR {r : Option Nat} {n : Nat} {P : Program} {f : FuncId} {args : Array Value} {w : World} {R : Ending → World → Prop} (h : Calls P f args w R) : CallsIn (FR r) n P f args w R := by
 cases r with
 | none => exact callsIn_wide.2 h
 | some l => exact CallsIn.inRound l (callsIn_wide.2 h)
theorem rowsIn_FR {r : Option Nat} {n : Nat} {P : Program} {row : String} {args : Array Value} {w : World} {R : Value → World → Prop} (h : Rows P row args w R) : RowsIn (FR r) n P row args w R := by
 intro c cs _
 obtain ⟨v, w', hr, hs⟩ := h c cs
 exact ⟨v, w', hr, stepsIn_wide.2 hs⟩
theorem putT_put (tm : Array Value) (ds : List Deferred) (dst : Option Nat) (v : Value) : (⟨tm, ds⟩ : Act).put dst v = ⟨jqK tm dst v, ds⟩ := by cases dst <;> rfl
theorem op_in {P : Program} {o : Oper} {tm : Array Value} {w : World} {K : Act → World → Prop} (hK : ∀ a w, K a w → a.defers = []) (h : o.wp P ⟨tm, []⟩ w K (fun _ _ _ => False)) (r : Option Nat) (ds : List Deferred) {Q : Exit → Act → World → Prop} :
  o.wpIn (FR r) 0 P ⟨tm, ds⟩ w (fun a' w' => ∃ v, a' = ⟨jqK tm o.dst v, ds⟩ ∧ K ⟨jqK tm o.dst v, []⟩ w') Q := by
 refine ⟨fun f _ => FR_fn r f, ?_⟩
 have hev : (⟨tm, ds⟩ : Act).eval = (⟨tm, []⟩ : Act).eval := by funext x; cases x <;> rfl
 rw [hev]
 unfold Oper.wp at h
 have hd : ∀ c, o.op ≠ .defer c := by
  intro c ho
  have : (execOp (Act.eval ⟨tm, []⟩) o) = (do let d ← resolve (Act.eval ⟨tm, []⟩) c o.type; pure (.defer d)) := by
   unfold execOp; simp only [ho]
  rw [this] at h
  simp only [Sem.run_bind] at h
  cases hr : (resolve (Act.eval ⟨tm, []⟩) c o.type).run P w with
  | ok d w' =>
   rw [hr] at h
   simp only [Result.andThen_ok, Sem.run_pure, Oper.upon] at h
   have := hK _ _ h
   cases hdst : o.dst <;> rw [hdst] at this <;> simp [Act.put] at this
  | halt x w' =>
   rw [hr] at h
   cases x <;> simp [Result.andThen, Oper.upon] at h
 rw [Oper.semAt_eq _ _ _ hd]
 generalize (execOp (Act.eval ⟨tm, []⟩) o).run P w = res at h
 have hp : ∀ v, (⟨tm, ds⟩ : Act).put o.dst v = ⟨jqK tm o.dst v, ds⟩ := putT_put tm ds o.dst
 have hp0 : ∀ v, (⟨tm, []⟩ : Act).put o.dst v = ⟨jqK tm o.dst v, []⟩ := putT_put tm [] o.dst
 cases res with
 | ok x w' =>
  cases x with
  | value v => simp only [Oper.upon, Oper.uponIn, hp0] at h ⊢; exact ⟨v, hp v, h⟩
  | skip => simp only [Oper.upon, Oper.uponIn, hp0] at h ⊢; exact ⟨undef, hp _, h⟩
  | defer d =>
   simp only [Oper.upon] at h
   have := hK _ _ h
   cases hdst : o.dst <;> rw [hdst] at this <;> simp [Act.put] at this
  | enter f args =>
   simp only [Oper.upon, Oper.uponIn] at h ⊢
   refine ⟨fun h => by simp [FR, Fence.wide] at h, (callsIn_FR h).mono fun e w'' he => ?_⟩
   cases e with
   | returned v => simp only [hp0] at he; exact ⟨v, hp v, he⟩
   | panicked c => exact he.elim
   | outgrown => obtain ⟨a0, w0, hq⟩ := he; exact hq.elim
  | row row args =>
   simp only [Oper.upon, Oper.uponIn] at h ⊢
   refine ⟨fun h => by simp [FR, Fence.wide] at h, (rowsIn_FR h).mono fun v w'' he => ?_⟩
   simp only [hp0] at he
   exact ⟨v, hp v, he⟩
  | _ => simp only [Oper.upon] at h
 | halt x w' =>
  cases x <;> simp only [Oper.upon] at h
def jzk : List Oper → List Nat
 | [] => []
 | o :: r => o.dst.toList ++ jzk r
def jjL : Nat := 1000000000
def wrC : Code → List Nat
 | .region _ ops _ => jzk ops.toList
 | .seq a b | .cond _ a b => wrC a ++ wrC b
 | .block _ a | .loop a => wrC a
 | .rangeFunc _ ps a b => jjL :: (ps.toList ++ (wrC a ++ wrC b))
 | _ => []
def jqc : Code → Bool
 | .seq a b | .cond _ a b => jqc a && jqc b
 | .block _ a | .loop a => jqc a
 | .rangeFunc _ _ _ _ => false
 | _ => true
def mark (D : Nat) : Deferred := { target := .collected D, args := #[] }
structure Base (w0 : World) (fb : List Nat) (X : Nat → Prop) (w1 : World) (fb1 : List Nat) (X1 : Nat → Prop) : Prop where
 fr : ∀ w, Fr fb1 w1 w → Fr fb w0 w
 mine : ∀ b, (b ∈ fb1 ∨ w1.heap.size ≤ b) → (b ∈ fb ∨ w0.heap.size ≤ b)
 x : ∀ b, X b → X1 b
structure Marks (w0 : World) (Ds : List Nat) (w1 : World) (fb1 : List Nat) (X1 : Nat → Prop) : Prop where
 nodup : Ds.Nodup
 new : ∀ D, D ∈ Ds → w0.heap.size ≤ D
 is : ∀ D, D ∈ Ds → w1.heap[D]? = some (.deferred (some [])) ∧ D ∉ fb1 ∧ X1 D
def At (w0 : World) (fb : List Nat) (X : Nat → Prop) (ds : List Deferred) (tm0 : Array Value) (W : List Nat) (st : St) (a : Act) (w : World) : Prop :=
 ∃ w1 fb1 X1 ι Ds, Base w0 fb X w1 fb1 X1 ∧ Marks w0 Ds w1 fb1 X1 ∧ (a.defers = Ds.map mark ++ ds ∧ (jjL ∉ W → Ds = [])) ∧ Sim w1 fb1 X1 ι st a.tmps w ∧ ∀ t, t ∉ W → a.tmps.getD t undef = tm0.getD t undef
def Lands (w0 : World) (fb : List Nat) (X : Nat → Prop) (ds : List Deferred) (tm0 : Array Value) (W : List Nat) : Out → Exit → Act → World → Prop
 | .norm st, .normal, a, w => At w0 fb X ds tm0 W st a w
 | .exit id st, .exit id', a, w => id = id' ∧ At w0 fb X ds tm0 W st a w
 | .ret st, .ret, a, w => At w0 fb X ds tm0 W st a w
 | _, _, _, _ => False
theorem Base.refl (w0 : World) (fb : List Nat) (X : Nat → Prop) : Base w0 fb X w0 fb X := ⟨fun _ h => h, fun _ h => h, fun _ h => h⟩
theorem Base.trans {w0 w1 w2 : World} {fb fb1 fb2 : List Nat} {X X1 X2 : Nat → Prop} (h : Base w0 fb X w1 fb1 X1) (k : Base w1 fb1 X1 w2 fb2 X2) : Base w0 fb X w2 fb2 X2 :=
 ⟨fun w hw => h.fr w (k.fr w hw), fun b hb => h.mine b (k.mine b hb), fun b hb => k.x b (h.x b hb)⟩
theorem Marks.nil (w0 w1 : World) (fb : List Nat) (X : Nat → Prop) : Marks w0 [] w1 fb X := ⟨List.nodup_nil, fun _ h => by simp at h, fun _ h => by simp at h⟩
theorem Marks.lt {w0 w1 : World} {fb : List Nat} {X : Nat → Prop} {Ds : List Nat} (h : Marks w0 Ds w1 fb X) {D : Nat} (hD : D ∈ Ds) : D < w1.heap.size := by
 have := (h.is D hD).1
 exact (Array.getElem?_eq_some_iff.1 this).1
theorem Marks.trans {w0 w1 w2 : World} {fb fb1 fb2 : List Nat} {X X1 X2 : Nat → Prop} {Ds Ds2 : List Nat} (hb : Base w0 fb X w1 fb1 X1) (h : Marks w0 Ds w1 fb1 X1) (k : Base w1 fb1 X1 w2 fb2 X2) (m : Marks w1 Ds2 w2 fb2 X2) :
  Marks w0 (Ds2 ++ Ds) w2 fb2 X2 := by
 have hf : Fr fb1 w1 w2 := k.fr w2 (Fr.refl _ _)
 refine ⟨List.nodup_append.2 ⟨m.nodup, h.nodup, fun a ha b hb e => ?_⟩, fun D hD => ?_, fun D hD => ?_⟩
 ·subst e
  have h1 := m.new a ha
  have h2 := h.lt hb
  omega
 ·rcases List.mem_append.1 hD with hD | hD
  ·have h1 := m.new D hD
   have h2 : Fr fb w0 w1 := hb.fr w1 (Fr.refl _ _)
   have := h2.size
   omega
  ·exact h.new D hD
 ·rcases List.mem_append.1 hD with hD | hD
  ·exact m.is D hD
  ·obtain ⟨h1, h2, h3⟩ := h.is D hD
   have hlt := h.lt hD
   refine ⟨(hf.block D hlt h2).trans h1, fun h4 => ?_, k.x D h3⟩
   rcases k.mine D (.inl h4) with h5 | h5
   ·exact h2 h5
   ·omega
section
variable {w0 : World} {fb : List Nat} {X : Nat → Prop} {ds : List Deferred} {tm0 : Array Value} {W : List Nat}
theorem At.of {ι : Nat → Value} {st : St} {tm : Array Value} {w : World} (S : Sim w0 fb X ι st tm w) (ht : ∀ t, t ∉ W → tm.getD t undef = tm0.getD t undef) : At w0 fb X ds tm0 W st ⟨tm, ds⟩ w :=
 ⟨w0, fb, X, ι, [], Base.refl _ _ _, Marks.nil _ _ _ _, ⟨rfl, fun _ => rfl⟩, S, ht⟩
theorem At.mono {W' : List Nat} (h : ∀ t, t ∈ W → t ∈ W') {st : St} {a : Act} {w : World} (k : At w0 fb X ds tm0 W st a w) : At w0 fb X ds tm0 W' st a w := by
 obtain ⟨w1, fb1, X1, ι, Ds, h1, h2, h3, h4, h5⟩ := k
 exact ⟨w1, fb1, X1, ι, Ds, h1, h2, ⟨h3.1, fun hn => h3.2 fun h' => hn (h _ h')⟩, h4, fun t ht => h5 t fun h' => ht (h t h')⟩
theorem Lands.mono {W' : List Nat} (h : ∀ t, t ∈ W → t ∈ W') : ∀ {o : Out} {e : Exit} {a : Act} {w : World}, Lands w0 fb X ds tm0 W o e a w → Lands w0 fb X ds tm0 W' o e a w := by
 intro o e a w k
 cases o <;> cases e <;> first | exact At.mono h k | exact ⟨k.1, At.mono h k.2⟩ | exact k.elim
theorem At.trans {w1 : World} {fb1 : List Nat} {X1 : Nat → Prop} {Ds : List Nat} {W1 W2 : List Nat} {tm1 : Array Value} (hb : Base w0 fb X w1 fb1 X1) (hm : Marks w0 Ds w1 fb1 X1) (hr : jjL ∉ W1 → Ds = []) (ht : ∀ t, t ∉ W1 → tm1.getD t undef = tm0.getD t undef)
  {st : St} {a : Act} {w : World} (k : At w1 fb1 X1 (Ds.map mark ++ ds) tm1 W2 st a w) : At w0 fb X ds tm0 (W1 ++ W2) st a w := by
 obtain ⟨w2, fb2, X2, ι, Ds2, h1, h2, h3, h4, h5⟩ := k
 refine ⟨w2, fb2, X2, ι, Ds2 ++ Ds, hb.trans h1, hm.trans hb h1 h2, ⟨by rw [h3.1, List.map_append, List.append_assoc], fun hn => by
  simp only [List.mem_append, not_or] at hn
  rw [h3.2 hn.2, hr hn.1]; rfl⟩, h4, fun t htw => ?_⟩
 simp only [List.mem_append, not_or] at htw
 rw [h5 t htw.2, ht t htw.1]
theorem Lands.trans {w1 : World} {fb1 : List Nat} {X1 : Nat → Prop} {Ds : List Nat} {W1 W2 : List Nat} {tm1 : Array Value} (hb : Base w0 fb X w1 fb1 X1) (hm : Marks w0 Ds w1 fb1 X1) (hr : jjL ∉ W1 → Ds = []) (ht : ∀ t, t ∉ W1 → tm1.getD t undef = tm0.getD t undef)
  {o : Out} {e : Exit} {a : Act} {w : World} (k : Lands w1 fb1 X1 (Ds.map mark ++ ds) tm1 W2 o e a w) : Lands w0 fb X ds tm0 (W1 ++ W2) o e a w := by
 cases o <;> cases e <;> first | exact At.trans hb hm hr ht k | exact ⟨k.1, At.trans hb hm hr ht k.2⟩ | exact k.elim
end
def jjk (P : Program) (c : Code) (f : Orc) : Prop :=
 ∀ r, r = none ∨ jqc c = true → ∀ w0 fb X st y, (f st).comp = some y → ∀ ι tm w ds, Sim w0 fb X ι st tm w → CW r P c (Lands w0 fb X ds tm (wrC c) ((f st).out y)) ⟨tm, ds⟩ w
def Orcs (P : Program) (C : CtxC) : Code → Nat → Prop
 | .seq a b, p => (∀ f, C.orc p = some f → jjk P (.seq a b) f) ∧ Orcs P C a (2 * p) ∧ Orcs P C b (2 * p + 1)
 | .cond c a b, p => (∀ f, C.orc p = some f → jjk P (.cond c a b) f) ∧ Orcs P C a (2 * p) ∧ Orcs P C b (2 * p + 1)
 | .block id a, p => (∀ f, C.orc p = some f → jjk P (.block id a) f) ∧ Orcs P C a (2 * p)
 | c, p => ∀ f, C.orc p = some f → jjk P c f
def subs : Code → Nat → List (Nat × Code)
 | .seq a b, p => (p, .seq a b) :: (subs a (2 * p) ++ subs b (2 * p + 1))
 | .cond c a b, p => (p, .cond c a b) :: (subs a (2 * p) ++ subs b (2 * p + 1))
 | .block id a, p => (p, .block id a) :: subs a (2 * p)
 | c, p => [(p, c)]
theorem orcs_of {P : Program} {C : CtxC} : ∀ (c : Code) (p : Nat), (∀ q c', (q, c') ∈ subs c p → ∀ f, C.orc q = some f → jjk P c' f) → Orcs P C c p := by
 intro c
 induction c with
 | seq a b iha ihb =>
  intro p h
  simp only [subs] at h
  exact ⟨h p _ List.mem_cons_self, iha _ fun q c' hm => h q c' (List.mem_cons_of_mem _ (List.mem_append.2 (.inl hm))), ihb _ fun q c' hm => h q c' (List.mem_cons_of_mem _ (List.mem_append.2 (.inr hm)))⟩
 | cond o a b iha ihb =>
  intro p h
  simp only [subs] at h
  exact ⟨h p _ List.mem_cons_self, iha _ fun q c' hm => h q c' (List.mem_cons_of_mem _ (List.mem_append.2 (.inl hm))), ihb _ fun q c' hm => h q c' (List.mem_cons_of_mem _ (List.mem_append.2 (.inr hm)))⟩
 | block id a iha =>
  intro p h
  simp only [subs] at h
  exact ⟨h p _ List.mem_cons_self, iha _ fun q c' hm => h q c' (List.mem_cons_of_mem _ hm)⟩
 | _ => intro p h; exact h p _ (by simp [subs])
section
variable {P : Program} {w0 : World} {fb : List Nat} {X : Nat → Prop} {ι : Nat → Value} {st : St} {tm : Array Value} {w : World}
theorem Sim.reslot (S : Sim w0 fb X ι st tm w) {t : Nat} {v : SV} (hv : SVOk ι st.sites w (jjh X ι st.sites) v (tm.getD t undef)) : Sim w0 fb X ι (st.set t v) tm w := by
 refine ⟨S.nt, fun u => ?_, S.sites, S.excl, S.mine, S.frame, S.old, S.glob⟩
 rw [St.get_set]
 by_cases h : t = u
 ·subst h; simp only [if_true]; exact hv
 ·simp only [h, if_false]; exact S.slots u
variable {R : Type} {C : Ctx} {ops : Array Oper}
theorem runOp1_ok (S : Sim w0 fb X ι st tm w) (H : CtxGood P C) {o : Oper} {K : St → Option R} {r : R} (h : jxI C st o K = some r) {N : Act → World → Prop} {Q : Exit → Act → World → Prop}
  (hK : ∀ st' ι' tm' w', K st' = some r → Sim w0 fb X ι' st' tm' w' → N ⟨tm', []⟩ w') : o.wp P ⟨tm, []⟩ w N Q := by
 unfold jxI at h
 cases hd : jjJ st o.dst with
 | false => simp [hd] at h
 | true =>
  simp only [hd, cond_true] at h
  have hs := step_ok S H hd
  cases hc : (step C st o).comp with
  | none => simp [hc] at h
  | some y =>
   simp only [hc, Option.bind_some] at h
   cases hk : (step C st o).chk y with
   | false => simp [hk] at h
   | true =>
    simp only [hk, cond_true] at h
    exact hs y hc hk N Q fun ι' tm' w' S' => hK _ ι' tm' w' h S'
theorem run_nilCmp {T e : TypeId} (h : P.underlying T = some (.slice e)) (a : Option Addr) (n c : Nat) (neg : Bool) :
  (binOp (if neg then .neq else .eql) T (.slice a n c) (.slice none 0 0)).run P w = .ok (.bool (if neg then !a.isNone else a.isNone)) w := by
 have e : (Op.equal T (.slice a n c) (.slice none 0 0)).run P w = .ok a.isNone w := by
  have key : ∀ d : Nat, (Op.equalIn (d + 1) T (.slice a n c) (.slice none 0 0)).run P w = .ok a.isNone w := fun d => by cases a <;> simp [Op.equalIn, run_underlying h]
  exact key 9999
 cases neg
 ·show ((do pure (.bool (← Op.equal T (.slice a n c) (.slice none 0 0)))) : Sem Value).run P w = _
  simp only [Sem.run_bind, e, Result.andThen_ok, Sem.run_pure]; rfl
 ·show ((do pure (.bool (!(← Op.equal T (.slice a n c) (.slice none 0 0))))) : Sem Value).run P w = _
  simp only [Sem.run_bind, e, Result.andThen_ok, Sem.run_pure]; rfl
theorem run_eqGuard_slice {op : BinOp} {T : TypeId} {x y : Operand} {a b : Option Addr} {n c n' c' : Nat} : (eqGuard op T x y (.slice a n c) (.slice b n' c')).run P w = .ok () w := by
 unfold eqGuard; cases op <;> rfl
theorem nilCmp_inv {o : Oper} {t : Ty} {xs : List (den t)} {neg : Bool} (h : nilCmp C st o = some (⟨t, xs⟩, neg)) : ∃ T x yT e ty bytes, o.op = .binOp (if neg then .neq else .eql) T x (.const (.slice none 0 0)) yT ∧ C.tt T = .slice e ty bytes ∧ ev C st T x = .av (.lf (.d (.sl t xs))) := by
 unfold nilCmp at h
 split at h
 ·rename_i op T x yT ho
  split at h
  ·rename_i e ty bytes hT
   split at h
   ·split at h
    ·rename_i t' xs' hx
     cases h
     exact ⟨T, x, yT, e, ty, bytes, ho, hT, hx⟩
    ·cases h
   ·split at h
    ·rename_i t' xs' hx
     cases h
     exact ⟨T, x, yT, e, ty, bytes, ho, hT, hx⟩
    ·cases h
   ·cases h
  ·cases h
 ·cases h
theorem twoRoads_some {t : Ty} {xs : List (den t)} {a b : Option R} {r : R} (h : jxT xs a b = some r) : b = some r ∧ (xs = [] → a = some r) := by
 unfold jxT at h
 split at h
 ·rename_i hab; exact ⟨h, fun he => (hab he).trans h⟩
 ·cases h
theorem runOp_ok (S : Sim w0 fb X ι st tm w) (H : CtxGood P C) {o : Oper} {K : St → Option R} {r : R} (h : runOp C st o K = some r) {N : Act → World → Prop} {Q : Exit → Act → World → Prop}
  (hK : ∀ st' ι' tm' w', K st' = some r → Sim w0 fb X ι' st' tm' w' → N ⟨tm', []⟩ w') : o.wp P ⟨tm, []⟩ w N Q := by
 unfold runOp at h
 split at h
 ·rename_i t xs neg hn
  cases hd : jjJ st o.dst with
  | false => simp [hd] at h
  | true =>
   simp only [hd, cond_true] at h
   obtain ⟨h2, h1⟩ := twoRoads_some h
   obtain ⟨T, x, yT, e, ty, bytes, ho, hT, hx⟩ := nilCmp_inv hn
   have hs := jqe S C T x
   rw [hx] at hs
   have hTo := H.tt T
   rw [hT] at hTo
   have run : ∀ {a : Option Addr} {n c : Nat}, Act.eval ⟨tm, []⟩ x = .slice a n c → (execOp (Act.eval ⟨tm, []⟩) o).run P w = .ok (.value (.bool (if neg then !a.isNone else a.isNone))) w := by
    intro a n c hv
    unfold execOp
    have hc : Act.eval ⟨tm, []⟩ (.const (.slice none 0 0)) = .slice none 0 0 := rfl
    simp only [ho, hv, hc, Sem.run_bind, run_eqGuard_slice, run_nilCmp hTo.1.1, Result.andThen_ok, Sem.run_pure]
   have fin : ∀ b : Bool, (execOp (Act.eval ⟨tm, []⟩) o).run P w = .ok (.value (.bool b)) w → K (st.app o.dst (one (.bool b)) []) = some r → o.wp P ⟨tm, []⟩ w N Q := by
    intro b hr hk
    refine wp_val hr (hK _ _ _ _ hk (Sim.app (us := []) S hd ?_))
    exact Rd.bool b
   have hs : Rd w (jjh X ι st.sites) (.sl t xs) (Act.eval ⟨tm, []⟩ x) := hs
   generalize hval : Act.eval ⟨tm, []⟩ x = v at hs
   cases hs with
   | nil =>
    have := run hval
    cases neg
    ·exact fin true this (h1 rfl)
    ·exact fin false this (h1 rfl)
   | sl t xs a cap cs n hn' hcap hb hl hc hr =>
    have := run hval
    cases neg
    ·exact fin false this h2
    ·exact fin true this h2
 ·exact runOp1_ok S H h hK
theorem skipOp_ok (S : Sim w0 fb X ι st tm w) {o : Oper} {K : St → Option R} {r : R} (h : skipOp st o K = some r) {N : Act → World → Prop}
  (hK : ∀ st' ι' tm' w', K st' = some r → Sim w0 fb X ι' st' tm' w' → N ⟨tm', []⟩ w') : N ((⟨tm, []⟩ : Act).put o.dst undef) w := by
 unfold skipOp at h
 cases hd : jjJ st o.dst with
 | false => simp [hd] at h
 | true =>
  simp only [hd, cond_true] at h
  have : (⟨tm, []⟩ : Act).put o.dst undef = ⟨jqK tm o.dst undef, []⟩ := by cases o.dst <;> rfl
  rw [this]
  exact hK _ _ _ _ h (Sim.app (us := []) S hd rfl)
theorem jqw {tm : Array Value} {dst : Option Nat} {v : Value} {t : Nat} (h : t ∉ dst.toList) : (jqK tm dst v).getD t undef = tm.getD t undef := by
 cases dst with
 | none => rfl
 | some d =>
  have : d ≠ t := fun e => h (by simp [e])
  simp [jqK, Array.getD_eq_getD_getElem?, Array.getElem?_setIfInBounds_ne this]
variable {rn : Option Nat} {ds : List Deferred}
theorem runOp_in (S : Sim w0 fb X ι st tm w) (H : CtxGood P C) {o : Oper} {K : St → Option R} {r : R} (h : runOp C st o K = some r) {N : Act → World → Prop} {Q : Exit → Act → World → Prop}
  (hK : ∀ st' ι' tm' w', K st' = some r → Sim w0 fb X ι' st' tm' w' → (∀ t, t ∉ o.dst.toList → tm'.getD t undef = tm.getD t undef) → N ⟨tm', ds⟩ w') : o.wpIn (FR rn) 0 P ⟨tm, ds⟩ w N Q := by
 refine Oper.wpIn_mono ?_ (op_in (K := fun a w => a.defers = [] ∧ ∃ st' ι', K st' = some r ∧ Sim w0 fb X ι' st' a.tmps w) (fun _ _ h => h.1) (runOp_ok S H h fun st' ι' tm' w' hk S' => ⟨rfl, st', ι', hk, S'⟩) rn ds)
 rintro a w' ⟨v, rfl, _, st', ι', hk, S'⟩
 exact hK st' ι' _ w' hk S' fun t ht => jqw ht
theorem jqP (S : Sim w0 fb X ι st tm w) (H : CtxGood P C) {o : Oper} {K : St → Option R} {r : R} (h : jxI C st o K = some r) {N : Act → World → Prop} {Q : Exit → Act → World → Prop}
  (hK : ∀ st' ι' tm' w', K st' = some r → Sim w0 fb X ι' st' tm' w' → (∀ t, t ∉ o.dst.toList → tm'.getD t undef = tm.getD t undef) → N ⟨tm', ds⟩ w') : o.wpIn (FR rn) 0 P ⟨tm, ds⟩ w N Q := by
 refine Oper.wpIn_mono ?_ (op_in (K := fun a w => a.defers = [] ∧ ∃ st' ι', K st' = some r ∧ Sim w0 fb X ι' st' a.tmps w) (fun _ _ h => h.1) (runOp1_ok S H h fun st' ι' tm' w' hk S' => ⟨rfl, st', ι', hk, S'⟩) rn ds)
 rintro a w' ⟨v, rfl, _, st', ι', hk, S'⟩
 exact hK st' ι' _ w' hk S' fun t ht => jqw ht
theorem skipOp_in (S : Sim w0 fb X ι st tm w) {o : Oper} {K : St → Option R} {r : R} (h : skipOp st o K = some r) {N : Act → World → Prop}
  (hK : ∀ st' ι' tm' w', K st' = some r → Sim w0 fb X ι' st' tm' w' → (∀ t, t ∉ o.dst.toList → tm'.getD t undef = tm.getD t undef) → N ⟨tm', ds⟩ w') : N ((⟨tm, ds⟩ : Act).put o.dst undef) w := by
 rw [putT_put]
 refine skipOp_ok (N := fun a w => ∀ t0, a.tmps = t0 → t0 = jqK tm o.dst undef → N ⟨t0, ds⟩ w) S h (fun st' ι' tm' w' hk S' t0 e1 e2 => ?_) (jqK tm o.dst undef) (by rw [putT_put]) rfl
 subst e1; exact hK st' ι' _ w' hk S' fun t ht => by have e2 : tm' = jqK tm o.dst undef := e2; rw [e2]; exact jqw ht
theorem runOps_ok (H : CtxGood P C) {r : R} {W : List Nat} : ∀ (n k : Nat), ops.size = k + n → (∀ o, o ∈ ops.toList.drop k → ∀ t, t ∈ o.dst.toList → t ∈ W) → ∀ (st : St) (ι : Nat → Value) (tm : Array Value) (w : World) (K : St → Option R) (Q : Exit → Act → World → Prop), Sim w0 fb X ι st tm w →
  runOps C ops (ops.toList.drop k) st K = some r → (∀ st' ι' tm' w', K st' = some r → Sim w0 fb X ι' st' tm' w' → (∀ t, t ∉ W → tm'.getD t undef = tm.getD t undef) → Q .normal ⟨tm', ds⟩ w') → wpOpsIn (FR rn) 0 P ops Q (List.range' k n) ⟨tm, ds⟩ w := by
 intro n
 induction n with
 | zero =>
  intro k hk _ st ι tm w K Q S h hK
  rw [List.drop_eq_nil_of_le (by simp; omega)] at h
  exact hK st ι tm w h S fun _ _ => rfl
 | succ n ih =>
  intro k hk hW st ι tm w K Q S h hK
  have hlt : k < ops.size := by omega
  have ho : ops[k]? = some ops[k] := Array.getElem?_eq_getElem hlt
  have hdrop : ops.toList.drop k = ops[k] :: ops.toList.drop (k + 1) := by
   rw [List.drop_eq_getElem_cons (by simpa using hlt)]; simp
  rw [hdrop] at h hW
  simp only [runOps] at h
  rw [show List.range' k (n + 1) = k :: List.range' (k + 1) n from rfl]
  simp only [wpOpsIn, ho]
  have hWo := hW _ List.mem_cons_self
  have hW' := fun o ho => hW o (List.mem_cons_of_mem _ ho)
  have next : ∀ st' ι' tm' w', runOps C ops (ops.toList.drop (k + 1)) st' K = some r → Sim w0 fb X ι' st' tm' w' → (∀ t, t ∉ (ops[k]).dst.toList → tm'.getD t undef = tm.getD t undef) → wpOpsIn (FR rn) 0 P ops Q (List.range' (k + 1) n) ⟨tm', ds⟩ w' :=
   fun st' ι' tm' w' h' S' ht => ih (k + 1) (by omega) hW' st' ι' tm' w' K Q S' h' fun st2 ι2 tm2 w2 hk2 S2 ht2 => hK st2 ι2 tm2 w2 hk2 S2 fun t htW => (ht2 t htW).trans (ht t fun h' => htW (hWo t h'))
  generalize ops[k] = o at h next ⊢
  have ab : ∀ f, o.about P w (Act.eval ⟨tm, ds⟩) = some f → (FR rn).fn f := fun f _ => FR_fn rn f
  unfold guardOp at h
  cases hg : o.guard with
  | none =>
   simp only [hg] at h
   rw [if_pos (by simp [Region.wanted, hg])]
   exact runOp_in S H h next
  | some jw =>
   obtain ⟨j, want⟩ := jw
   simp only [hg] at h
   have hw : Region.wanted o (yielded ops tm) = (yielded ops tm j == some want) := by simp [Region.wanted, hg]
   cases hj : (ops[j]?).bind (·.dst) with
   | none => simp [hj] at h
   | some t =>
    simp only [hj] at h
    have hslot := S.slots t
    split at h
    ·rename_i b hb
     rw [hb] at hslot
     have hv := jqI hslot
     have hy : yielded ops tm j = some b := by
      have ht : t < tm.size := by
       rcases Nat.lt_or_ge t tm.size with h' | h'
       ·exact h'
       ·simp [Array.getD, Nat.not_lt.2 h', undef] at hv
      have : tm[t]? = some (.bool b) := by
       rw [Array.getElem?_eq_getElem ht]
       simpa [Array.getD, ht] using hv
      simp [yielded, hj, this]
     rw [hy] at hw
     have go : ∀ b', b = b' → Sim w0 fb X ι (st.set t (one (.bool b'))) tm w := fun b' e => S.reslot (by rw [hv, e]; exact .bool _)
     cases b <;> cases want <;> simp only [cond_true, cond_false, Bool.not_true, Bool.not_false] at h
     ·rw [if_pos (by rw [hw]; rfl)]; exact runOp_in (go false rfl) H h next
     ·rw [if_neg (by rw [hw]; decide)]; exact ⟨ab, skipOp_in (go false rfl) h next⟩
     ·rw [if_neg (by rw [hw]; decide)]; exact ⟨ab, skipOp_in (go true rfl) h next⟩
     ·rw [if_pos (by rw [hw]; rfl)]; exact runOp_in (go true rfl) H h next
    ·rename_i x hb
     rw [hb] at hslot
     have hv : tm.getD t undef = .tuple x := hslot
     have hy : yielded ops tm j = none := by
      simp only [yielded, hj, Option.bind_some]
      cases ht : tm[t]? with
      | none => rfl
      | some v =>
       have : tm.getD t undef = v := by simp [Array.getD_eq_getD_getElem?, ht]
       rw [this] at hv
       rw [hv]
     rw [hy] at hw
     rw [if_neg (by rw [hw]; simp)]
     exact ⟨ab, skipOp_in S h next⟩
    ·cases h
end
abbrev Pl := Nat ⊕ Nat
def jzl (st : St) : Pl → SV ⊕ Option Site
 | .inl t => .inl (st.get t)
 | .inr σ => .inr (st.site σ)
def jxb {α : Type} : List (Nat × α) → Nat → Option α
 | [], _ => none
 | (k, v) :: r, n => match jxb r n with
  | some x => some x
  | none => bif k.beq n then some v else none
def Rec.wr (x : Rec) : Pl → Option (SV ⊕ Option Site)
 | .inl t => match x.o.dst with
  | some d => bif d.beq t then some (.inl x.v) else none
  | none => none
 | .inr σ => (jxb x.us σ).map fun s => .inr (some s)
theorem upds_site : ∀ (us : List (Nat × Site)) (st : St) (σ : Nat), (st.upds us).site σ = match jxb us σ with | some s => some s | none => st.site σ := by
 intro us
 induction us with
 | nil => intro st σ; rfl
 | cons p us ih =>
  obtain ⟨k, s⟩ := p
  intro st σ
  simp only [St.upds, ih, jxb]
  cases jxb us σ with
  | some x => rfl
  | none =>
   simp only [St.site_setSite]
   by_cases h : k = σ
   ·subst h; simp
   ·simp [h, beqF h]
theorem upds_get : ∀ (us : List (Nat × Site)) (st : St) (t : Nat), (st.upds us).get t = st.get t := by
 intro us
 induction us with
 | nil => intro st t; rfl
 | cons p us ih => intro st t; simp only [St.upds, ih, St.get_setSite]
theorem upds_nt : ∀ (us : List (Nat × Site)) (st : St), (st.upds us).nt = st.nt := by
 intro us
 induction us with
 | nil => intro st; rfl
 | cons p us ih => intro st; simp only [St.upds, ih, St.nt_setSite]
theorem app_nt (st : St) (d : Option Nat) (v : SV) (us : List (Nat × Site)) : (st.app d v us).nt = st.nt := by
 cases d <;> simp only [St.app, St.nt_set, upds_nt]
theorem vals_app (st : St) (x : Rec) (l : Pl) : jzl (st.app x.o.dst x.v x.us) l = match x.wr l with | some u => u | none => jzl st l := by
 cases l with
 | inl t =>
  simp only [jzl, Rec.wr]
  cases x.o.dst with
  | none => simp only [St.app, upds_get]
  | some d =>
   simp only [St.app, St.get_set, upds_get]
   by_cases h : d = t
   ·subst h; simp
   ·simp [h, beqF h]
 | inr σ =>
  simp only [jzl, Rec.wr]
  have : (st.app x.o.dst x.v x.us).site σ = (st.upds x.us).site σ := by cases x.o.dst <;> simp only [St.app, St.site_set]
  rw [this, upds_site]
  cases jxb x.us σ <;> rfl
def jqt (L : Nat → Bool) : Nat → List Rec → St → St
 | _, [], st => st
 | k, x :: r, st => jqt L (k + 1) r (bif L k then st.app x.o.dst x.v x.us else st)
theorem appsL_nt {L : Nat → Bool} : ∀ {xs : List Rec} {k : Nat} {st : St}, (jqt L k xs st).nt = st.nt := by
 intro xs
 induction xs with
 | nil => intro k st; rfl
 | cons x xs ih => intro k st; simp only [jqt, ih]; cases L k <;> simp [app_nt]
theorem appsL_same {L L' : Nat → Bool} : ∀ {xs : List Rec} {k : Nat} {st st' : St} {l : Pl}, jzl st l = jzl st' l → (∀ j x, xs[j]? = some x → x.wr l ≠ none → L (k + j) = L' (k + j)) → jzl (jqt L k xs st) l = jzl (jqt L' k xs st') l := by
 intro xs
 induction xs with
 | nil => intro k st st' l h _; exact h
 | cons x xs ih =>
  intro k st st' l h hL
  simp only [jqt]
  refine ih ?_ fun j y hy hw => ?_
  ·cases hw : x.wr l with
   | none =>
    have e1 : ∀ s : St, jzl (s.app x.o.dst x.v x.us) l = jzl s l := fun s => by rw [vals_app, hw]
    cases L k <;> cases L' k <;> simp only [cond_true, cond_false, e1, h]
   | some u =>
    have := hL 0 x rfl (by rw [hw]; intro h; cases h)
    simp only [Nat.add_zero] at this
    rw [this]
    cases L' k with
    | true => simp only [cond_true, vals_app, hw]
    | false => simp only [cond_false, h]
  ·have := hL (j + 1) y (by simpa using hy) hw
   rw [show k + (j + 1) = k + 1 + j from by omega] at this
   exact this
theorem appsL_none {xs : List Rec} : ∀ {k : Nat} {st : St} {L : Nat → Bool}, (∀ j, k ≤ j → L j = false) → jqt L k xs st = st := by
 induction xs with
 | nil => intro k st L _; rfl
 | cons x xs ih =>
  intro k st L h
  simp only [jqt, h k (Nat.le_refl _), cond_false]
  exact ih fun j hj => h j (by omega)
theorem appsL_congr {L L' : Nat → Bool} : ∀ {xs : List Rec} {k k' : Nat} {st : St}, (∀ j, j < xs.length → L (k + j) = L' (k' + j)) → jqt L k xs st = jqt L' k' xs st := by
 intro xs
 induction xs with
 | nil => intro k k' st _; rfl
 | cons x xs ih =>
  intro k k' st h
  simp only [jqt]
  have h0 := h 0 (by simp)
  simp only [Nat.add_zero] at h0
  rw [h0]
  exact ih fun j hj => by have := h (j + 1) (by simpa using hj); rw [show k + (j + 1) = k + 1 + j from by omega, show k' + (j + 1) = k' + 1 + j from by omega] at this; exact this
theorem appsL_last {L : Nat → Bool} : ∀ {xs : List Rec} {k i : Nat} {st : St} {l : Pl} {x : Rec} {u : SV ⊕ Option Site}, xs[i]? = some x → L (k + i) = true → x.wr l = some u →
  (∀ j y, i < j → xs[j]? = some y → y.wr l ≠ none → L (k + j) = false) → jzl (jqt L k xs st) l = u := by
 intro xs
 induction xs with
 | nil => intro k i st l x u h; cases h
 | cons y xs ih =>
  intro k i st l x u h hL hw hj
  simp only [jqt]
  cases i with
  | zero =>
   simp only [List.getElem?_cons_zero, Option.some.injEq] at h
   subst h
   simp only [Nat.add_zero] at hL
   rw [hL]
   simp only [cond_true]
   have e : jzl (st.app y.o.dst y.v y.us) l = u := by rw [vals_app, hw]
   rw [← e]
   have e2 : st.app y.o.dst y.v y.us = jqt (fun _ => false) (k + 1) xs (st.app y.o.dst y.v y.us) := (appsL_none fun _ _ => rfl).symm
   conv => rhs; rw [e2]
   refine appsL_same rfl fun j z hz hwz => ?_
   have := hj (j + 1) z (by omega) (by simpa using hz) hwz
   rw [show k + (j + 1) = k + 1 + j from by omega] at this
   exact this
  | succ i =>
   refine ih (by simpa using h) (by rw [show k + 1 + i = k + (i + 1) from by omega]; exact hL) hw fun j z hij hz hwz => ?_
   have := hj (j + 1) z (by omega) (by simpa using hz) hwz
   rw [show k + (j + 1) = k + 1 + j from by omega] at this
   exact this
section
variable {P : Program} {ops : Array Oper}
def Free (ops : Array Oper) (L : Nat → Bool) (i : Nat) : Prop := ∀ o, ops[i]? = some o → ∀ e, e ∈ o.after.toList → Region.binds .any e = true → L e.on = true
def Closed (ops : Array Oper) (L : Nat → Bool) : Prop := ∀ j, L j = true → Free ops L j
def Bef (ops : Array Oper) (k i : Nat) : Prop := ∀ L, Closed ops L → Free ops L i → L k = true
theorem lookMem {α : Type} {l : List (Nat × α)} {n : Nat} {v : α} (h : jjB l n = some v) : (n, v) ∈ l := by
 induction l with
 | nil => cases h
 | cons p l ih =>
  obtain ⟨m, u⟩ := p
  simp only [jjB] at h
  cases hb : m.beq n with
  | true =>
   simp only [hb, cond_true, Option.some.injEq] at h
   rw [← Nat.eq_of_beq_eq_true hb, h]; exact List.mem_cons_self
  | false => simp only [hb, cond_false] at h; exact List.mem_cons_of_mem _ (ih h)
theorem befOf_ok {acc : List (Nat × Rec × List Nat)} (ha : ∀ k x b, (k, x, b) ∈ acc → ∀ m, m ∈ b → Bef ops m k) {i : Nat} : ∀ {es : List Edge} {m : Nat}, m ∈ befOf acc es → ∀ L, Closed ops L →
  (∀ e, e ∈ es → Region.binds .any e = true → L e.on = true) → L m = true := by
 intro es
 induction es with
 | nil => intro m h; cases h
 | cons e es ih =>
  intro m h L hc hf
  simp only [befOf] at h
  cases hb : Region.binds .any e with
  | false =>
   simp only [hb, cond_false] at h
   exact ih h L hc fun e' he' => hf e' (List.mem_cons_of_mem _ he')
  | true =>
   simp only [hb, cond_true] at h
   have h0 := hf e List.mem_cons_self hb
   split at h
   ·rename_i x hx
    rcases List.mem_cons.1 h with rfl | h
    ·exact h0
    ·rcases List.mem_append.1 h with h | h
     ·have hm : (e.on, x) ∈ acc := lookMem hx
      obtain ⟨x1, x2⟩ := x
      exact ha _ _ _ hm m h L hc (hc _ h0)
     ·exact ih h L hc fun e' he' => hf e' (List.mem_cons_of_mem _ he')
   ·exact ih h L hc fun e' he' => hf e' (List.mem_cons_of_mem _ he')
structure RecOk (C : Ctx) (ops : Array Oper) (st : St) (o : Oper) (x : Rec) : Prop where
 is : x.o = o
 guard : ∀ j want, o.guard = some (j, want) → ∃ t, (ops[j]?).bind (·.dst) = some t ∧ t ∈ x.rs ∧ ((∃ b, st.get t = one (.bool b) ∧ (x.go = (b == want))) ∨ ((∃ u, st.get t = lfv (.cst (.tuple u))) ∧ x.go = false))
 free : o.guard = none → x.go = true
 skip : x.go = false → x.v = undefV ∧ x.us = []
 run : x.go = true → ∃ y, (step C st o).comp = some y ∧ (step C st o).chk y = true ∧ x.v = (step C st o).val y ∧ x.us = (step C st o).us y ∧ (∀ t, t ∈ jzw (opnds o.op) → t ∈ x.rs) ∧ (∀ σ, σ ∈ footN C st o → σ ∈ x.rn) ∧ (isCall o.op = true → x.big = true)
inductive Tr (C : Ctx) (ops : Array Oper) : List Oper → Nat → List (Nat × Rec × List Nat) → St → List Rec → St → Prop where
 | nil {i acc st} : Tr C ops [] i acc st [] st
 | cons {o r i acc st x xs st'} (hd : jjJ st o.dst = true) (he : edgesOk i o.after.toList = true) (hx : RecOk C ops st o x) (hk : okWith (befOf acc o.after.toList) x acc = true)
   (h : Tr C ops r (i + 1) ((i, x, befOf acc o.after.toList) :: acc) (st.app o.dst x.v x.us) xs st') : Tr C ops (o :: r) i acc st (x :: xs) st'
theorem litB_some {R : Type} {g : Bool} {v : SV} {K : SV → Option R} {r : R} (h : litB g v K = some r) : K v = some r := by
 unfold litB at h
 cases g with
 | false => exact h
 | true =>
  simp only [cond_true] at h
  split at h
  ·rename_i b; cases b <;> exact h
  ·exact h
theorem drawOp_some {R : Type} {C : Ctx} {g : Bool} {st : St} {o : Oper} {K : Rec → Option R} {r : R} (h : drawOp C ops g st o K = some r) : ∃ x, RecOk C ops st o x ∧ K x = some r := by
 have run : ∀ gs, drawRun C g st o gs K = some r → (∀ j want, o.guard = some (j, want) → ∃ t, (ops[j]?).bind (·.dst) = some t ∧ t ∈ gs ∧ ∃ b, st.get t = one (.bool b) ∧ (b == want) = true) → ∃ x, RecOk C ops st o x ∧ K x = some r := by
  intro gs h hg
  unfold drawRun at h
  obtain ⟨y, hy, h⟩ := Option.bind_eq_some_iff.1 h
  cases hc : (step C st o).chk y with
  | false => simp [hc] at h
  | true =>
   simp only [hc, cond_true] at h
   refine ⟨_, ⟨rfl, fun j want hj => ?_, fun _ => rfl, fun h => (by cases h), fun _ => ⟨y, hy, hc, rfl, rfl, fun t ht => List.mem_append.2 (.inr ht), fun _ h => h, fun h => h⟩⟩, litB_some h⟩
   obtain ⟨t, h1, h2, b, h3, h4⟩ := hg j want hj
   exact ⟨t, h1, List.mem_append.2 (.inl h2), .inl ⟨b, h3, h4.symm⟩⟩
 have skip : ∀ gs, drawSkip o gs K = some r → (∃ j want, o.guard = some (j, want) ∧ ∃ t, (ops[j]?).bind (·.dst) = some t ∧ t ∈ gs ∧ ((∃ b, st.get t = one (.bool b) ∧ (b == want) = false) ∨ ∃ u, st.get t = lfv (.cst (.tuple u)))) → ∃ x, RecOk C ops st o x ∧ K x = some r := by
  intro gs h hg
  obtain ⟨j, want, hj, t, h1, h2, h3⟩ := hg
  refine ⟨_, ⟨rfl, fun j' want' hj' => ?_, fun h => (by rw [hj] at h; cases h), fun _ => ⟨rfl, rfl⟩, fun h => (by cases h)⟩, h⟩
  rw [hj] at hj'
  cases hj'
  refine ⟨t, h1, h2, ?_⟩
  rcases h3 with ⟨b, h3, h4⟩ | h3
  ·exact .inl ⟨b, h3, h4.symm⟩
  ·exact .inr ⟨h3, rfl⟩
 unfold drawOp at h
 split at h
 ·rename_i hg; exact run [] h fun j want hj => by rw [hg] at hj; cases hj
 ·rename_i j want hg
  split at h
  ·rename_i t ht
   split at h
   ·rename_i b hb
    cases b <;> cases want <;> simp only [cond_true, cond_false, Bool.not_true, Bool.not_false] at h
    ·exact run [t] h fun j' w' hj' => by rw [hg] at hj'; cases hj'; exact ⟨t, ht, List.mem_singleton.2 rfl, false, hb, rfl⟩
    ·exact skip [t] h ⟨j, true, hg, t, ht, List.mem_singleton.2 rfl, .inl ⟨false, hb, rfl⟩⟩
    ·exact skip [t] h ⟨j, false, hg, t, ht, List.mem_singleton.2 rfl, .inl ⟨true, hb, rfl⟩⟩
    ·exact run [t] h fun j' w' hj' => by rw [hg] at hj'; cases hj'; exact ⟨t, ht, List.mem_singleton.2 rfl, true, hb, rfl⟩
   ·rename_i u hu; exact skip [t] h ⟨j, want, hg, t, ht, List.mem_singleton.2 rfl, .inr ⟨u, hu⟩⟩
   ·cases h
  ·cases h
theorem drawGo_tr {R : Type} {C : Ctx} {K : St → Option R} {r : R} : ∀ {os : List Oper} {i : Nat} {acc : List (Nat × Rec × List Nat)} {st : St}, drawGo C ops os i acc st K = some r → ∃ xs st', Tr C ops os i acc st xs st' ∧ K st' = some r := by
 intro os
 induction os with
 | nil => intro i acc st h; exact ⟨[], st, .nil, h⟩
 | cons o os ih =>
  intro i acc st h
  simp only [drawGo] at h
  cases hd : jjJ st o.dst && edgesOk i o.after.toList with
  | false => simp [hd] at h
  | true =>
   simp only [hd, cond_true] at h
   obtain ⟨x, hx, h⟩ := drawOp_some h
   cases hk : okWith (befOf acc o.after.toList) x acc with
   | false => simp [hk] at h
   | true =>
    simp only [hk, cond_true] at h
    obtain ⟨xs, st', h1, h2⟩ := ih h
    simp only [Bool.and_eq_true] at hd
    exact ⟨x :: xs, st', .cons hd.1 hd.2 hx hk h1, h2⟩
theorem Tr.length {C : Ctx} {os : List Oper} {i : Nat} {acc : List (Nat × Rec × List Nat)} {st st' : St} {xs : List Rec} (h : Tr C ops os i acc st xs st') : xs.length = os.length := by
 induction h with
 | nil => rfl
 | cons _ _ _ _ _ ih => simp [ih]
theorem Tr.end_ {C : Ctx} {os : List Oper} {i : Nat} {acc : List (Nat × Rec × List Nat)} {st st' : St} {xs : List Rec} (h : Tr C ops os i acc st xs st') : ∀ k, jqt (fun _ => true) k xs st = st' := by
 induction h with
 | nil => intro k; rfl
 | cons _ _ hx _ _ ih => intro k; simp only [jqt, cond_true, hx.is]; exact ih _
theorem Tr.at_ {C : Ctx} {os : List Oper} {i : Nat} {acc : List (Nat × Rec × List Nat)} {st st' : St} {xs : List Rec} (h : Tr C ops os i acc st xs st') : ∀ j x, xs[j]? = some x →
  ∃ o, os[j]? = some o ∧ jjJ st o.dst = true ∧ edgesOk (i + j) o.after.toList = true ∧ RecOk C ops (jqt (fun k => decide (k < j)) 0 xs st) o x := by
 induction h with
 | nil => intro j x h; cases h
 | @cons o r i acc st x xs st' hd he hx hk h ih =>
  intro j y hy
  cases j with
  | zero =>
   simp only [List.getElem?_cons_zero, Option.some.injEq] at hy
   subst hy
   refine ⟨o, rfl, hd, he, ?_⟩
   rw [appsL_none fun j _ => by simp [Nat.blt]]
   exact hx
  | succ j =>
   obtain ⟨o', h1, h2, h3, h4⟩ := ih j y (by simpa using hy)
   refine ⟨o', by simpa using h1, ?_, by rw [show i + (j + 1) = i + 1 + j from by omega]; exact h3, ?_⟩
   ·revert h2; cases o'.dst <;> simp [jjJ, app_nt]
   ·simp only [jqt]
    have e0 : decide (0 < j + 1) = true := by simp
    rw [e0, cond_true, hx.is]
    rw [appsL_congr (L' := fun k => decide (k < j)) (k' := 0) fun m _ => by simp only [decide_eq_decide]; omega]
    exact h4
theorem memN_iff' {n : Nat} {l : List Nat} : memN n l = true ↔ n ∈ l := by
 induction l with
 | nil => simp [memN]
 | cons m l ih =>
  simp only [memN, Bool.or_eq_true, ih, List.mem_cons]
  constructor
  ·rintro (h | h)
   ·exact .inl (Nat.eq_of_beq_eq_true h)
   ·exact .inr h
  ·rintro (h | h)
   ·exact .inl (by rw [h]; exact Nat.beq_refl m)
   ·exact .inr h
theorem okWith_mem {bef : List Nat} {x : Rec} : ∀ {acc : List (Nat × Rec × List Nat)}, okWith bef x acc = true → ∀ k y b, (k, y, b) ∈ acc → k ∈ bef ∨ hits y x = false := by
 intro acc
 induction acc with
 | nil => intro _ k y b h; cases h
 | cons p acc ih =>
  obtain ⟨j, z, bz⟩ := p
  intro h k y b hm
  simp only [okWith, Bool.and_eq_true, Bool.or_eq_true] at h
  rcases List.mem_cons.1 hm with hm | hm
  ·cases hm
   rcases h.1 with h1 | h1
   ·exact .inl (memN_iff'.1 h1)
   ·exact .inr (by simpa using h1)
  ·exact ih h.2 k y b hm
theorem Tr.ord {C : Ctx} {os : List Oper} {i : Nat} {acc : List (Nat × Rec × List Nat)} {st st' : St} {xs : List Rec} (h : Tr C ops os i acc st xs st') : ∀ (pre : List Rec), pre.length = i → (∀ j, ops[i + j]? = os[j]?) →
  (∀ k y, pre[k]? = some y → ∃ b, (k, y, b) ∈ acc) → (∀ k x b, (k, x, b) ∈ acc → ∀ m, m ∈ b → Bef ops m k) → ∀ j x, xs[j]? = some x → ∀ k y, k < i + j → (pre ++ xs)[k]? = some y → Bef ops k (i + j) ∨ hits y x = false := by
 induction h with
 | nil => intro pre _ _ _ _ j x h; cases h
 | @cons o r i acc st x xs st' hd he hx hk h ih =>
  intro pre hlen hops hpre hacc j y hy k z hkj hz
  have hbef : ∀ m, m ∈ befOf acc o.after.toList → Bef ops m i := fun m hm L hc hf => by
   refine befOf_ok hacc (i := i) hm L hc fun e he hb => hf o ?_ e he hb
   have := hops 0
   simpa using this
  cases j with
  | zero =>
   simp only [List.getElem?_cons_zero, Option.some.injEq] at hy
   subst hy
   simp only [Nat.add_zero] at hkj ⊢
   rw [List.getElem?_append_left (by omega)] at hz
   obtain ⟨b, hb⟩ := hpre k z hz
   rcases okWith_mem hk k z b hb with h1 | h1
   ·exact .inl (hbef k h1)
   ·exact .inr h1
  | succ j =>
   have := ih (pre ++ [x]) (by simp [hlen]) (fun j => by have := hops (j + 1); rw [show i + 1 + j = i + (j + 1) from by omega]; simpa using this)
    (fun k y hy => ?_) (fun k x' b hm m hmb => ?_) j y (by simpa using hy) k z (by omega) (by simpa using hz)
   ·rw [show i + (j + 1) = i + 1 + j from by omega]; exact this
   ·rcases Nat.lt_or_ge k pre.length with h' | h'
    ·rw [List.getElem?_append_left h'] at hy
     obtain ⟨b, hb⟩ := hpre k y hy
     exact ⟨b, List.mem_cons_of_mem _ hb⟩
    ·rw [List.getElem?_append_right h'] at hy
     have h0 : k - pre.length = 0 := by
      rcases Nat.eq_zero_or_pos (k - pre.length) with h0 | h0
      ·exact h0
      ·rw [List.getElem?_eq_none (by simp; omega)] at hy; cases hy
     rw [h0] at hy
     simp only [List.getElem?_cons_zero, Option.some.injEq] at hy
     subst hy
     have : k = i := by omega
     subst this
     exact ⟨_, List.mem_cons_self⟩
   ·rcases List.mem_cons.1 hm with hm | hm
    ·cases hm; exact hbef m hmb
    ·exact hacc k x' b hm m hmb
end
section
variable {P : Program} {w0 : World} {fb : List Nat} {X : Nat → Prop} {ι : Nat → Value} {st st' : St} {tm : Array Value} {w : World}
theorem Sim.same (S : Sim w0 fb X ι st tm w) (hv : ∀ l, jzl st l = jzl st' l) (hn : st.nt = st'.nt) : Sim w0 fb X ι st' tm w := by
 have hs : ∀ σ, jjB st.sites σ = jjB st'.sites σ := fun σ => by have := hv (.inr σ); simpa [jzl, St.site] using this
 have hg : ∀ t, st.get t = st'.get t := fun t => by have := hv (.inl t); simpa [jzl] using this
 have hl : ∀ σ, jjs st.sites σ ↔ jjs st'.sites σ := fun σ => by unfold jjs; rw [hs]
 have ha : jjh X ι st'.sites = jjh X ι st.sites := by
  funext b
  unfold jjh
  simp only [hl]
 have G : Goes ι ι st.sites st'.sites w w (jjh X ι st.sites) (jjh X ι st'.sites) := by
  rw [ha]
  exact ⟨fun σ site h => ⟨site, by rw [← hs]; exact h, Nat.le_refl _, fun _ => rfl⟩, fun _ _ _ => rfl, fun _ h _ => h⟩
 have hlt : ∀ b, jjh X ι st'.sites b → b < w.heap.size := fun b hb => S.lt (by rw [← ha]; exact hb)
 refine ⟨S.nt.trans hn, fun t => ?_, fun σ site h => ?_, fun σ τ b h1 h2 => S.excl σ τ b ((hl σ).2 h1) ((hl τ).2 h2), fun σ b h => S.mine σ b ((hl σ).2 h), S.frame, S.old, S.glob⟩
 ·rw [← hg]; exact (S.slots t).goes G (Nat.le_refl _) hlt
 ·exact (S.sites σ site (by rw [hs]; exact h)).goes G (Nat.le_refl _) hlt rfl (fun _ _ _ => rfl)
theorem Sim.drawn (S : Sim w0 fb X ι st tm w) (n : Nat) : Sim w0 fb X ι st tm { w with drawn := n } := by
 have G : Goes ι ι st.sites st.sites w { w with drawn := n } (jjh X ι st.sites) (jjh X ι st.sites) :=
  ⟨fun σ site h => ⟨site, h, Nat.le_refl _, fun _ => rfl⟩, fun _ _ _ => rfl, fun _ h _ => h⟩
 refine ⟨S.nt, fun t => (S.slots t).goes G (Nat.le_refl _) fun b hb => S.lt hb, fun σ site h => (S.sites σ site h).goes G (Nat.le_refl _) (fun b hb => S.lt hb) rfl (fun _ _ _ => rfl), S.excl, S.mine, ⟨S.frame.os, S.frame.tape, S.frame.output, S.frame.size, S.frame.block⟩, S.old, S.glob⟩
theorem lastLook_keys {α : Type} : ∀ {us : List (Nat × α)} {σ : Nat} {s : α}, jxb us σ = some s → σ ∈ jjF us := by
 intro us
 induction us with
 | nil => intro σ s h; cases h
 | cons p us ih =>
  obtain ⟨k, v⟩ := p
  intro σ s h
  simp only [jxb] at h
  split at h
  ·rename_i x hx; exact List.mem_cons_of_mem _ (ih hx)
  ·cases hb : k.beq σ with
   | true => rw [← Nat.eq_of_beq_eq_true hb]; exact List.mem_cons_self
   | false => simp [hb] at h
theorem memN_iff2 {n : Nat} {l : List Nat} : memN n l = true ↔ n ∈ l := memN_iff'
theorem jxN {l m : List Nat} {n : Nat} (h1 : n ∈ l) (h2 : n ∈ m) : jqT l m = false := by
 induction l with
 | nil => cases h1
 | cons k l ih =>
  simp only [jqT]
  rcases List.mem_cons.1 h1 with rfl | h1
  ·rw [memN_iff2.2 h2]; rfl
  ·rw [ih h1, Bool.and_false]
theorem anyBig_mem {l : List Nat} {n : Nat} (h1 : n ∈ l) (h2 : 1000000 ≤ n) : anyBig l = true := by
 induction l with
 | nil => cases h1
 | cons k l ih =>
  simp only [anyBig, Bool.or_eq_true]
  rcases List.mem_cons.1 h1 with rfl | h1
  ·exact .inl (Nat.ble_eq_true_of_le h2)
  ·exact .inr (ih h1)
def Rec.at_ (x : Rec) : Pl → Prop
 | .inl t => t ∈ x.rs
 | .inr σ => σ ∈ x.rn ∨ (x.big = true ∧ 1000000 ≤ σ)
theorem wr_inl {x : Rec} {t : Nat} (h : x.wr (.inl t) ≠ none) : x.o.dst = some t := by
 simp only [Rec.wr] at h
 split at h
 ·rename_i d hd
  cases hb : d.beq t with
  | true => rw [hd, Nat.eq_of_beq_eq_true hb]
  | false => simp [hb] at h
 ·exact absurd rfl h
theorem wr_inr {x : Rec} {σ : Nat} (h : x.wr (.inr σ) ≠ none) : σ ∈ jjF x.us := by
 simp only [Rec.wr] at h
 cases hl : jxb x.us σ with
 | none => simp [hl] at h
 | some s => exact lastLook_keys hl
theorem hits_wl {a b : Rec} {l : Pl} (h1 : a.wr l ≠ none) (h2 : b.at_ l) : hits a b = true := by
 unfold hits
 cases l with
 | inl t =>
  have := wr_inl h1
  have h2 : t ∈ b.rs := h2
  simp [this, memO, memN_iff2.2 h2]
 | inr σ =>
  have := wr_inr h1
  rcases h2 with h2 | ⟨h2, h3⟩
  ·have : jqT (jjF a.us) (b.rn ++ jjF b.us) = false := jxN this (List.mem_append.2 (.inl h2))
   simp [this]
  ·have := anyBig_mem this h3
   simp [this, h2]
theorem hits_lw {a b : Rec} {l : Pl} (h1 : a.at_ l) (h2 : b.wr l ≠ none) : hits a b = true := by
 unfold hits
 cases l with
 | inl t =>
  have := wr_inl h2
  have h1 : t ∈ a.rs := h1
  simp [this, memO, memN_iff2.2 h1]
 | inr σ =>
  have := wr_inr h2
  rcases h1 with h2 | ⟨h2, h3⟩
  ·have : jqT (jjF b.us) a.rn = false := jxN this h2
   simp [this]
  ·have := anyBig_mem this h3
   simp [this, h2]
theorem hits_ww {a b : Rec} {l : Pl} (h1 : a.wr l ≠ none) (h2 : b.wr l ≠ none) : hits a b = true := by
 unfold hits
 cases l with
 | inl t =>
  have e1 := wr_inl h1
  have e2 := wr_inl h2
  simp [e1, e2, memO, memN]
 | inr σ =>
  have e1 := wr_inr h1
  have e2 := wr_inr h2
  have : jqT (jjF a.us) (b.rn ++ jjF b.us) = false := jxN e1 (List.mem_append.2 (.inr e2))
  simp [this]
variable {C : Ctx} {ops : Array Oper} {rn : Option Nat} {ds : List Deferred}
def addL (L : Nat → Bool) (i : Nat) : Nat → Bool := fun j => L j || decide (j = i)
theorem draw_step (H : CtxGood P C) {xs : List Rec} {st0 : St} {i : Nat} {o : Oper} {x : Rec} (hx : xs[i]? = some x) (hd : jjJ st0 o.dst = true) (hr : RecOk C ops (jqt (fun k => decide (k < i)) 0 xs st0) o x)
  (hord : ∀ j y, xs[j]? = some y → ∀ k z, k < j → xs[k]? = some z → Bef ops k j ∨ hits z y = false) {L : Nat → Bool} (hc : Closed ops L) (hi : L i = false) (hf : Free ops L i) (hoi : ops[i]? = some o)
  (S : Sim w0 fb X ι (jqt L 0 xs st0) tm w) {Q : Exit → Act → World → Prop} {K : Act → World → Prop} (hK : ∀ ι' tm' w', Sim w0 fb X ι' (jqt (addL L i) 0 xs st0) tm' w' → (∀ t, t ∉ o.dst.toList → tm'.getD t undef = tm.getD t undef) → K ⟨tm', ds⟩ w') : wpOpIn (FR rn) 0 P ops Q i K ⟨tm, ds⟩ w := by
 have see : ∀ l, x.at_ l → jzl (jqt (fun k => decide (k < i)) 0 xs st0) l = jzl (jqt L 0 xs st0) l := fun l hl => by
  refine (appsL_same rfl fun j y hy hw => ?_).symm
  simp only [Nat.zero_add]
  rcases Nat.lt_trichotomy j i with h | h | h
  ·rcases hord i x hx j y h hy with h1 | h1
   ·rw [h1 L hc hf]; simp [h]
   ·rw [hits_wl hw hl] at h1; cases h1
  ·subst h; rw [hi]; simp
  ·have : L j = false := by
    cases hLj : L j with
    | false => rfl
    | true =>
     rcases hord j y hy i x h hx with h1 | h1
     ·have := h1 L hc (hc j hLj); rw [hi] at this; cases this
     ·rw [hits_lw hl hw] at h1; cases h1
   rw [this]; simp; omega
 have seeG : ∀ t, t ∈ x.rs → (jqt (fun k => decide (k < i)) 0 xs st0).get t = (jqt L 0 xs st0).get t := fun t ht => by
  have := see (.inl t) ht; simpa [jzl] using this
 have leave : ∀ l, jzl ((jqt L 0 xs st0).app x.o.dst x.v x.us) l = jzl (jqt (addL L i) 0 xs st0) l := fun l => by
  rw [vals_app]
  cases hw : x.wr l with
  | none =>
   simp only
   refine appsL_same rfl fun j y hy hwy => ?_
   simp only [Nat.zero_add, addL]
   by_cases h : j = i
   ·subst h; rw [hx] at hy; cases hy; exact absurd hw hwy
   ·simp [h]
  | some u =>
   simp only
   refine (appsL_last hx (by simp [addL]) hw fun j y hij hy hwy => ?_).symm
   simp only [Nat.zero_add, addL]
   have : L j = false := by
    cases hLj : L j with
    | false => rfl
    | true =>
     rcases hord j y hy i x hij hx with h1 | h1
     ·have := h1 L hc (hc j hLj); rw [hi] at this; cases this
     ·rw [hits_ww (by rw [hw]; intro h; cases h) hwy] at h1; cases h1
   rw [this]; simp; omega
 have hdL : jjJ (jqt L 0 xs st0) o.dst = true := by revert hd; cases o.dst <;> simp [jjJ, appsL_nt]
 have fin : ∀ ι' tm' w', Sim w0 fb X ι' ((jqt L 0 xs st0).app x.o.dst x.v x.us) tm' w' → (∀ t, t ∉ o.dst.toList → tm'.getD t undef = tm.getD t undef) → K ⟨tm', ds⟩ w' := fun ι' tm' w' S' => hK ι' tm' w' (S'.same leave (by rw [app_nt, appsL_nt, appsL_nt]))
 unfold wpOpIn
 rw [hoi]
 simp only
 have hwant : Region.wanted o (yielded ops tm) = x.go := by
  cases hg : o.guard with
  | none => rw [hr.free hg]; simp [Region.wanted, hg]
  | some jw =>
   obtain ⟨j, want⟩ := jw
   obtain ⟨t, h1, h2, h3⟩ := hr.guard j want hg
   rw [show Region.wanted o (yielded ops tm) = (yielded ops tm j == some want) by simp [Region.wanted, hg]]
   have hslot := S.slots t
   rw [← seeG t h2] at hslot
   rcases h3 with ⟨b, h3, h4⟩ | ⟨⟨u, h3⟩, h4⟩
   ·rw [h3] at hslot
    have hv := jqI hslot
    have hy : yielded ops tm j = some b := by
     have ht : t < tm.size := by
      rcases Nat.lt_or_ge t tm.size with h' | h'
      ·exact h'
      ·simp [Array.getD, Nat.not_lt.2 h', undef] at hv
     have : tm[t]? = some (.bool b) := by
      rw [Array.getElem?_eq_getElem ht]
      simpa [Array.getD, ht] using hv
     simp [yielded, h1, this]
    rw [hy, h4]; cases b <;> cases want <;> rfl
   ·rw [h3] at hslot
    have hv : tm.getD t undef = .tuple u := hslot
    have hy : yielded ops tm j = none := by
     simp only [yielded, h1, Option.bind_some]
     cases ht : tm[t]? with
     | none => rfl
     | some v =>
      have : tm.getD t undef = v := by simp [Array.getD_eq_getD_getElem?, ht]
      rw [this] at hv
      rw [hv]
    rw [hy, h4]; rfl
 cases hgo : x.go with
 | false =>
  rw [hgo] at hwant
  rw [if_neg (by rw [hwant]; decide)]
  obtain ⟨e1, e2⟩ := hr.skip hgo
  refine ⟨fun f _ => FR_fn rn f, skipOp_in (R := St) (r := (jqt L 0 xs st0).app o.dst undefV []) S (K := some) (by simp [skipOp, hdL]) fun st1 ι1 tm1 w1 h1 S1 => ?_⟩
  cases h1
  refine fin ι1 tm1 w1 ?_
  rw [hr.is, e1, e2]
  exact S1
 | true =>
  rw [hgo] at hwant
  rw [if_pos hwant]
  obtain ⟨y, g1, g2, g3, g4, g5, g6, g7⟩ := hr.run hgo
  have hst : step C (jqt (fun k => decide (k < i)) 0 xs st0) o = step C (jqt L 0 xs st0) o := by
   refine step_congr (fun t ht => seeG t (g5 t ht)) (fun σ hσ => ?_) fun hcall σ hσ => ?_
   ·have := see (.inr σ) (.inl (g6 σ hσ)); simpa [jzl] using this
   ·have := see (.inr σ) (.inr ⟨g7 hcall, hσ⟩); simpa [jzl] using this
  revert y
  rw [hst]
  intro y g1 g2 g3 g4
  refine jqP (R := St) (r := (jqt L 0 xs st0).app o.dst x.v x.us) S H (K := some) ?_ fun st1 ι1 tm1 w1 h1 S1 => ?_
  ·unfold jxI
   rw [hdL, cond_true, g1]
   simp only [Option.bind_some, g2, cond_true, g3, g4]
  ·cases h1
   refine fin ι1 tm1 w1 ?_
   rw [hr.is]
   exact S1
def unl (listed : Array Bool) : Nat := listed.toList.count false
def jxw (listed : Array Bool) : Nat → Bool := fun j => listed.getD j false
theorem unl_set {listed : Array Bool} {i : Nat} (h : listed.getD i true = false) : unl (listed.setIfInBounds i true) + 1 = unl listed := by
 unfold unl
 have hlt : i < listed.size := by
  rcases Nat.lt_or_ge i listed.size with h' | h'
  ·exact h'
  ·simp [Array.getD, Nat.not_lt.2 h'] at h
 have hv : listed.toList[i]'(by simpa using hlt) = false := by simpa [Array.getD, hlt] using h
 rw [Array.toList_setIfInBounds, List.count_set (by simpa using hlt)]
 rw [hv]
 have : 0 < listed.toList.count false := List.count_pos_iff.2 (by rw [← hv]; exact List.getElem_mem _)
 have e1 : (if (false == false) = true then 1 else 0) = 1 := rfl
 have e2 : (if (true == false) = true then 1 else 0) = 0 := rfl
 rw [e1, e2]
 omega
theorem dstsL_mem {o : Oper} {t : Nat} : ∀ {l : List Oper}, o ∈ l → t ∈ o.dst.toList → t ∈ jzk l := by
 intro l
 induction l with
 | nil => intro h; cases h
 | cons p l ih =>
  intro h ht
  simp only [jzk, List.mem_append]
  rcases List.mem_cons.1 h with rfl | h
  ·exact .inl ht
  ·exact .inr (ih h ht)
theorem draw_any (H : CtxGood P C) {st0 stn : St} {xs : List Rec} (hT : Tr C ops ops.toList 0 [] st0 xs stn) {Q : Exit → Act → World → Prop} {tm0 : Array Value} (hQ : ∀ ι tm w, Sim w0 fb X ι stn tm w → (∀ t, t ∉ jzk ops.toList → tm.getD t undef = tm0.getD t undef) → Q .normal ⟨tm, ds⟩ w) :
  ∀ (fuel : Nat) (listed : Array Bool) (ι : Nat → Value) (tm : Array Value) (w : World), listed.size = ops.size → unl listed ≤ fuel → Closed ops (jxw listed) → Sim w0 fb X ι (jqt (jxw listed) 0 xs st0) tm w →
   (∀ t, t ∉ jzk ops.toList → tm.getD t undef = tm0.getD t undef) → wpAnyIn (FR rn) 0 P .any ops Q fuel listed ⟨tm, ds⟩ w := by
 have hlen : xs.length = ops.size := by rw [hT.length]; simp
 have hord : ∀ j y, xs[j]? = some y → ∀ k z, k < j → xs[k]? = some z → Bef ops k j ∨ hits z y = false := fun j y hy k z hk hz => by
  have := hT.ord [] rfl (fun j => by simp) (fun k y h => by simp at h) (fun k x b h => by simp at h) j y hy k z (by omega) (by simpa using hz)
  simpa using this
 have all : ∀ listed : Array Bool, listed.size = ops.size → (∀ j, j < ops.size → jxw listed j = true) → ∀ ι tm w, Sim w0 fb X ι (jqt (jxw listed) 0 xs st0) tm w → (∀ t, t ∉ jzk ops.toList → tm.getD t undef = tm0.getD t undef) → Q .normal ⟨tm, ds⟩ w := fun listed hs hl ι tm w S ht => by
  refine hQ ι tm w ?_ ht
  rw [← hT.end_ 0]
  rw [appsL_congr (L' := jxw listed) (k' := 0) fun j hj => by simp only [Nat.zero_add]; rw [hl j (by omega)]]
  exact S
 have done : ∀ listed : Array Bool, listed.size = ops.size → Region.ready .any ops listed = [] → ∀ j, j < ops.size → jxw listed j = true := fun listed hs hr j => by
  induction j using Nat.strongRecOn with
  | _ j ih =>
   intro hj
   cases hLj : jxw listed j with
   | true => rfl
   | false =>
    exfalso
    have hx : xs[j]? = some (xs[j]'(by omega)) := List.getElem?_eq_getElem _
    obtain ⟨o, h1, _, h3, _⟩ := hT.at_ j _ hx
    have h1 : ops[j]? = some o := by simpa using h1
    have hm : j ∈ Region.ready .any ops listed := by
     rw [mem_ready]
     refine ⟨?_, o, h1, fun e he hb => ?_⟩
     ·have hlt : j < listed.size := by omega
      simpa [jxw, Array.getD, hlt] using hLj
     ·have : e.on < j := by
       have he' : e ∈ o.after.toList := by simpa using he
       clear he hr
       revert h3
       simp only [Nat.zero_add]
       generalize o.after.toList = es at he'
       induction es with
       | nil => cases he'
       | cons e' es ihe =>
        intro h3
        simp only [edgesOk, Bool.and_eq_true] at h3
        rcases List.mem_cons.1 he' with rfl | he'
        ·rw [hb] at h3; simpa using h3.1
        ·exact ihe he' h3.2
      have := ih e.on this (by omega)
      simpa [jxw] using this
    rw [hr] at hm
    cases hm
 intro fuel
 induction fuel with
 | zero =>
  intro listed ι tm w hs hu hc S ht
  have hall : ∀ j, j < ops.size → jxw listed j = true := fun j hj => by
   have h0 : listed.toList.count false = 0 := Nat.le_zero.1 hu
   rw [List.count_eq_zero] at h0
   cases hLj : jxw listed j with
   | true => rfl
   | false =>
    exfalso
    have hlt : j < listed.size := by omega
    apply h0
    have : listed.toList[j]'(by simpa using hlt) = false := by simpa [jxw, Array.getD, hlt] using hLj
    rw [← this]; exact List.getElem_mem _
  refine ⟨?_, all listed hs hall ι tm w S ht⟩
  rw [List.eq_nil_iff_forall_not_mem]
  intro j hj
  rw [mem_ready] at hj
  obtain ⟨h1, o, h2, _⟩ := hj
  have hj : j < ops.size := (Array.getElem?_eq_some_iff.1 h2).1
  have := hall j hj
  have hlt : j < listed.size := by omega
  simp [jxw, Array.getD, hlt] at this h1
  rw [h1] at this
  cases this
 | succ fuel ih =>
  intro listed ι tm w hs hu hc S ht
  refine ⟨fun hr => all listed hs (done listed hs hr) ι tm w S ht, fun i hi => ?_⟩
  have hi' := mem_ready.1 hi
  obtain ⟨h1, o, h2, h3⟩ := hi'
  have hiz : i < ops.size := (Array.getElem?_eq_some_iff.1 h2).1
  have hx : xs[i]? = some (xs[i]'(by omega)) := List.getElem?_eq_getElem _
  obtain ⟨o', g1, g2, g3, g4⟩ := hT.at_ i _ hx
  have g1 : ops[i]? = some o' := by simpa using g1
  rw [h2] at g1
  cases g1
  have hlt : i < listed.size := by omega
  have hLi : jxw listed i = false := by simpa [jxw, Array.getD, hlt] using h1
  have hf : Free ops (jxw listed) i := fun o2 ho2 e he hb => by
   rw [h2] at ho2
   cases ho2
   have := h3 e (by simpa using he) hb
   simpa [jxw] using this
  have hset : jxw (listed.setIfInBounds i true) = addL (jxw listed) i := by
   funext j
   simp only [jxw, addL]
   by_cases h : j = i
   ·subst h; simp [hlt]
   ·simp [h, Array.getElem?_setIfInBounds_ne (show i ≠ j from fun e => h e.symm)]
  refine draw_step H hx g2 g4 hord hc hLi hf h2 S fun ι' tm' w' S' ht' => ih _ ι' tm' w' (by simpa using hs) (by have := unl_set h1; omega) ?_ (by rw [hset]; exact S') fun t htn => (ht' t fun h' => htn (dstsL_mem (l := ops.toList) (by simpa using Array.mem_of_getElem? h2) h')).trans (ht t htn)
  rw [hset]
  intro j hj o2 ho2 e he hb
  simp only [addL, Bool.or_eq_true, decide_eq_true_eq] at hj
  simp only [addL, Bool.or_eq_true, decide_eq_true_eq]
  rcases hj with hj | hj
  ·exact .inl (hc j hj o2 ho2 e he hb)
  ·subst hj; exact .inl (hf o2 ho2 e he hb)
theorem frzAts_fz : ∀ l : List Nat, Freezes st.sites (frzAts st l) := by
 intro l
 induction l with
 | nil => exact .nil
 | cons t l ih =>
  refine Freezes.append ?_ ih
  unfold frzAt
  split
  ·rename_i σ s _
   split
   ·rename_i s' t xs hs
    cases hb : s'.beq s with
    | false => exact .nil
    | true =>
     intro τ site hm
     simp only [cond_true, List.mem_singleton, Prod.mk.injEq] at hm
     obtain ⟨rfl, rfl⟩ := hm
     exact ⟨s', t, xs, rfl, .inl hs⟩
   ·exact .nil
  ·exact .nil
theorem drawOps_ok (H : CtxGood P C) (hm : P.follows .mixedOrders = true) {R : Type} {r : R} {K : St → Option R} {id : Nat} {Q : Exit → Act → World → Prop} (S : Sim w0 fb X ι st tm w) (h : drawOps C ops st K = some r)
  (hK : ∀ st' ι' tm' w', K st' = some r → Sim w0 fb X ι' st' tm' w' → (∀ t, t ∉ jzk ops.toList → tm'.getD t undef = tm.getD t undef) → Q .normal ⟨tm', ds⟩ w') : CW rn P (Code.region id ops true) Q ⟨tm, ds⟩ w := by
 obtain ⟨xs, stn, hT, hk⟩ := drawGo_tr h
 have S : Sim w0 fb X ι (st.upds (frzAts st (slicedOf ops.toList ops.toList))) tm w := by rw [St.upds_eq]; exact S.freezes (frzAts_fz _)
 refine wpIn_region_any hm (draw_any H hT (fun ι tm w S => hK stn ι tm w hk S) _ _ ι tm _ (by simp) ?_ ?_ ?_ (fun _ _ => rfl))
 ·unfold unl; simp
 ·intro j hj
  simp only [jxw] at hj
  exfalso
  rw [Array.getD_eq_getD_getElem?, Array.getElem?_replicate] at hj
  split at hj <;> cases hj
 ·rw [appsL_none fun j _ => by
   simp only [jxw]
   rw [Array.getD_eq_getD_getElem?, Array.getElem?_replicate]
   split <;> rfl]
  exact S.drawn _
end
def rdOk (r : Option Nat) (c : Code) : Prop := r = none ∨ jqc c = true
theorem rdOk.left {r : Option Nat} {a b : Bool} (h : r = none ∨ (a && b) = true) : r = none ∨ a = true := by
 rcases h with h | h
 ·exact .inl h
 ·simp only [Bool.and_eq_true] at h; exact .inr h.1
theorem rdOk.right {r : Option Nat} {a b : Bool} (h : r = none ∨ (a && b) = true) : r = none ∨ b = true := by
 rcases h with h | h
 ·exact .inl h
 ·simp only [Bool.and_eq_true] at h; exact .inr h.2
theorem jqH {P : Program} {C : CtxC} (H : CtxGood P C.toCtx) {R : Type} {r : R} {rn : Option Nat} : ∀ (c : Code) (p : Nat), (rn = none ∨ jqc c = true) → Orcs P C c p → ∀ (w0 : World) (fb : List Nat) (X : Nat → Prop) (st : St) (ι : Nat → Value) (tm : Array Value) (w : World)
  (ds : List Deferred) (K : Out → Option R)
  (Q : Exit → Act → World → Prop), jz0 C c p st K = some r → Sim w0 fb X ι st tm w → (∀ o e a w', K o = some r → Lands w0 fb X ds tm (wrC c) o e a w' → Q e a w') → CW rn P c Q ⟨tm, ds⟩ w := by
 have piece : ∀ (c : Code) (p : Nat), (rn = none ∨ jqc c = true) → (∀ f, C.orc p = some f → jjk P c f) → ∀ (w0 : World) (fb : List Nat) (X : Nat → Prop) (st : St) (ι : Nat → Value) (tm : Array Value) (w : World) (ds : List Deferred) (K : Out → Option R) (Q : Exit → Act → World → Prop) (x : Option R),
   wrap C p st K x = some r → Sim w0 fb X ι st tm w → (∀ o e a w', K o = some r → Lands w0 fb X ds tm (wrC c) o e a w' → Q e a w') → (x = some r → CW rn P c Q ⟨tm, ds⟩ w) → CW rn P c Q ⟨tm, ds⟩ w := by
  intro c p hn hf w0 fb X st ι tm w ds K Q x h S hK hx
  unfold wrap at h
  cases ho : C.orc p with
  | none => simp only [ho] at h; exact hx h
  | some f =>
   simp only [ho] at h
   cases hc : (f st).comp with
   | none => simp [hc] at h
   | some y =>
    simp only [hc, Option.bind_some, (f st).run_eq] at h
    exact wpIn_mono (hf f ho rn hn w0 fb X st y hc ι tm w ds S) fun e a w' hl => hK _ e a w' h hl
 intro c
 induction c with
 | skip =>
  intro p _ _ w0 fb X st ι tm w ds K Q h S hK
  exact wpIn_skip (hK (.norm st) .normal _ _ h (At.of S fun _ _ => rfl))
 | region id ops draw =>
  intro p hn hO w0 fb X st ι tm w ds K Q h S hK
  cases draw with
  | false =>
   simp only [jz0] at h
   refine piece _ p hn hO w0 fb X st ι tm w ds K Q _ h S hK fun h' => ?_
   refine wpIn_region ?_
   rw [List.range_eq_range']
   refine runOps_ok H (W := jzk ops.toList) ops.size 0 (by omega) (fun o ho t ht => dstsL_mem (by simpa using ho) ht) st ι tm w _ Q S h' ?_
   intro st' ι' tm' w' hk S' ht
   exact hK (.norm st') .normal _ _ hk (At.of S' ht)
  | true =>
   simp only [jz0] at h
   refine piece _ p hn hO w0 fb X st ι tm w ds K Q _ h S hK fun h' => ?_
   exact drawOps_ok H H.mo S h' fun st' ι' tm' w' hk S' ht => hK (.norm st') .normal _ _ hk (At.of S' ht)
 | seq a b iha ihb =>
  intro p hn hO w0 fb X st ι tm w ds K Q h S hK
  simp only [jz0] at h
  refine piece _ p hn hO.1 w0 fb X st ι tm w ds K Q _ h S hK fun h' => ?_
  refine wpIn_seq (iha _ (rdOk.left hn) hO.2.1 w0 fb X st ι tm w ds _ _ h' S ?_)
  intro o e a' w' hk hl
  have up : ∀ {o e a' w'}, Lands w0 fb X ds tm (wrC a) o e a' w' → Lands w0 fb X ds tm (wrC (.seq a b)) o e a' w' := fun hl => hl.mono fun t ht => List.mem_append.2 (.inl ht)
  cases o with
  | norm st' =>
   cases e <;> try exact hl.elim
   obtain ⟨w1, fb1, X1, ι', Ds, h1, h2, h3, S', h5⟩ := hl
   obtain ⟨tm', df⟩ := a'
   obtain ⟨h3, h3r⟩ := h3
   have h3 : df = Ds.map mark ++ ds := h3
   subst h3
   exact ihb _ (rdOk.right hn) hO.2.2 w1 fb1 X1 st' ι' tm' w' _ K Q hk S' fun o e a2 w2 hk2 hl2 => hK o e a2 w2 hk2 (Lands.trans h1 h2 h3r h5 hl2)
  | exit id st' =>
   cases e <;> try exact hl.elim
   exact hK _ _ _ _ hk (up hl)
  | ret st' =>
   cases e <;> try exact hl.elim
   exact hK _ _ _ _ hk (up hl)
 | cond o a b iha ihb =>
  intro p hn hO w0 fb X st ι tm w ds K Q h S hK
  simp only [jz0] at h
  refine piece _ p hn hO.1 w0 fb X st ι tm w ds K Q _ h S hK fun h' => ?_
  split at h'
  ·rename_i t ht
   have hv := ev_bool S ht
   have hv : Act.eval ⟨tm, ds⟩ o = .bool t := by cases o <;> exact hv
   cases t with
   | true => exact wpIn_cond hv (iha _ (rdOk.left hn) hO.2.1 w0 fb X st ι tm w ds K Q h' S fun o e a2 w2 hk2 hl2 => hK o e a2 w2 hk2 (hl2.mono fun t ht => List.mem_append.2 (.inl ht)))
   | false => exact wpIn_cond hv (ihb _ (rdOk.right hn) hO.2.2 w0 fb X st ι tm w ds K Q h' S fun o e a2 w2 hk2 hl2 => hK o e a2 w2 hk2 (hl2.mono fun t ht => List.mem_append.2 (.inr ht)))
  ·cases h'
 | block id a iha =>
  intro p hn hO w0 fb X st ι tm w ds K Q h S hK
  simp only [jz0] at h
  refine piece _ p hn hO.1 w0 fb X st ι tm w ds K Q _ h S hK fun h' => ?_
  refine wpIn_block (iha _ hn hO.2 w0 fb X st ι tm w ds _ _ h' S ?_)
  intro o e a' w' hk hl
  cases o with
  | norm st' =>
   cases e <;> try exact hl.elim
   exact hK _ _ _ _ hk hl
  | exit id' st' =>
   cases e <;> try exact hl.elim
   rename_i id2
   obtain ⟨rfl, hl⟩ := hl
   simp only [Exit.inBlock]
   cases hb : id'.beq id with
   | true =>
    simp only [hb, cond_true] at hk
    have := Nat.eq_of_beq_eq_true hb
    subst this
    simp only [if_true]
    exact hK _ _ _ _ hk hl
   | false =>
    simp only [hb, cond_false] at hk
    have : id' ≠ id := by rintro rfl; rw [Nat.beq_refl] at hb; cases hb
    simp only [this, if_false]
    exact hK _ _ _ _ hk ⟨rfl, hl⟩
  | ret st' =>
   cases e <;> try exact hl.elim
   exact hK _ _ _ _ hk hl
 | loop a _ =>
  intro p hn hO w0 fb X st ι tm w ds K Q h S hK
  simp only [jz0] at h
  exact piece _ p hn hO w0 fb X st ι tm w ds K Q _ h S hK fun h' => by cases h'
 | rangeFunc =>
  intro p hn hO w0 fb X st ι tm w ds K Q h S hK
  simp only [jz0] at h
  exact piece _ p hn hO w0 fb X st ι tm w ds K Q _ h S hK fun h' => by cases h'
 | exit id =>
  intro p _ _ w0 fb X st ι tm w ds K Q h S hK
  exact wpIn_exit (hK (.exit id st) (.exit id) _ _ h ⟨rfl, At.of S fun _ _ => rfl⟩)
 | ret =>
  intro p _ _ w0 fb X st ι tm w ds K Q h S hK
  exact wpIn_ret (hK (.ret st) .ret _ _ h (At.of S fun _ _ => rfl))
 | _ =>
  intro p _ _ w0 fb X st ι tm w ds K Q h S hK
  simp only [jz0] at h
  cases h
inductive SD : Type where
 | int (k : IntKind)
 | bool
 | str
 | sl (t : Ty)
 | map (t : Ty)
@[reducible] def SD.Y : SD → Type
 | .int _ => Int
 | .bool => Bool
 | .str => Str
 | .sl t => List (den t)
 | .map t => List (Str × den t)
def SD.mk : (s : SD) → s.Y → D
 | .int k, n => .int k n
 | .bool, b => .bool b
 | .str, s => .str s
 | .sl t, xs => .sl t xs
 | .map t, es => .map t es
def SD.ex : (s : SD) → D → Option s.Y
 | .int k, .int k' n => if k = k' then some n else none
 | .bool, .bool b => some b
 | .str, .str s => some s
 | .sl t, .sl t' xs => if h : t' = t then some (h ▸ xs) else none
 | .map t, .map t' es => if h : t' = t then some (h ▸ es) else none
 | _, _ => none
theorem SD.mk_ex {s : SD} {d : D} {y : s.Y} (h : s.ex d = some y) : s.mk y = d := by
 unfold SD.ex at h
 split at h
 ·split at h
  ·rename_i e; cases h; subst e; rfl
  ·cases h
 ·cases h; rfl
 ·cases h; rfl
 ·split at h
  ·rename_i e; cases h; subst e; rfl
  ·cases h
 ·split at h
  ·rename_i e; cases h; subst e; rfl
  ·cases h
 ·cases h
@[reducible] def YDs : List SD → Type
 | [] => Unit
 | s :: r => s.Y × YDs r
def mkDs : (ss : List SD) → YDs ss → List D
 | [], _ => []
 | s :: r, (y, z) => s.mk y :: mkDs r z
def exDs : (ss : List SD) → List D → Option (YDs ss)
 | [], [] => some ()
 | s :: r, d :: ds => match s.ex d, exDs r ds with
  | some y, some z => some (y, z)
  | _, _ => none
 | _, _ => none
theorem mkDs_ex : ∀ {ss : List SD} {ds : List D} {y : YDs ss}, exDs ss ds = some y → mkDs ss y = ds := by
 intro ss
 induction ss with
 | nil => intro ds y h; cases ds with
  | nil => rfl
  | cons => cases h
 | cons s ss ih =>
  intro ds y h
  cases ds with
  | nil => cases h
  | cons d ds =>
   simp only [exDs] at h
   split at h
   ·rename_i a b h1 h2
    cases h
    simp only [mkDs, SD.mk_ex h1, ih h2]
   ·cases h
@[reducible] def YDss : List (List SD) → Type
 | [] => Unit
 | s :: r => YDs s × YDss r
def mkDss : (ss : List (List SD)) → YDss ss → List (List D)
 | [], _ => []
 | s :: r, (y, z) => mkDs s y :: mkDss r z
def exDss : (ss : List (List SD)) → List (List D) → Option (YDss ss)
 | [], [] => some ()
 | s :: r, d :: ds => match exDs s d, exDss r ds with
  | some y, some z => some (y, z)
  | _, _ => none
 | _, _ => none
theorem mkDss_ex : ∀ {ss : List (List SD)} {ds : List (List D)} {y : YDss ss}, exDss ss ds = some y → mkDss ss y = ds := by
 intro ss
 induction ss with
 | nil => intro ds y h; cases ds with
  | nil => rfl
  | cons => cases h
 | cons s ss ih =>
  intro ds y h
  cases ds with
  | nil => cases h
  | cons d ds =>
   simp only [exDss] at h
   split at h
   ·rename_i a b h1 h2
    cases h
    simp only [mkDss, mkDs_ex h1, ih h2]
   ·cases h
inductive Sh : Type where
 | any
 | d (s : SD)
 | fn (g : FuncId) (css : List (List SD))
 | rptr (ss : List SD) (off : Nat)
 | own (n : Nat)
 | ptr (n off : Nat)
 | clo (g : FuncId) (ns : List Nat)
 | slf
 | nilI                     -- the nil interface
 | optr (n : Nat) (t : Ty)
@[reducible] def Sh.Y : Sh → Type
 | .d s => s.Y
 | .fn _ css => YDss css
 | .rptr ss _ => YDs ss
 | _ => Unit
def Sh.mk : (s : Sh) → s.Y → Lf
 | .any, _ => .any
 | .d s, y => .d (s.mk y)
 | .fn g css, y => .d (.fn g (mkDss css y))
 | .rptr ss off, y => .rptr (mkDs ss y) off
 | .own n, _ => .own n 0
 | .ptr n off, _ => .ptr n 0 off
 | .clo g ns, _ => .clo g (ns.map fun n => (n, 0))
 | .slf, _ => .slf
 | .nilI, _ => .cst .nilIface
 | .optr n t, _ => .optr n 0 t 0 0
abbrev Ren := List (Nat × Option (Nat × Nat))
def renOf (ρ : Ren) (n σ s : Nat) : Bool := match jjB ρ n with
 | some (some (σ', s')) => σ'.beq σ && s'.beq s
 | _ => false
def renCaps (ρ : Ren) : List Nat → List (Nat × Nat) → Bool
 | [], [] => true
 | n :: ns, (σ, s) :: cs => renOf ρ n σ s && renCaps ρ ns cs
 | _, _ => false
def jxD (ρ : Ren) : List Nat
 := match ρ with
 | [] => []
 | (_, some (σ, _)) :: r => σ :: jxD r
 | (_, none) :: r => jxD r
def Sh.ex (st : St) (ρ : Ren) : (s : Sh) → Lf → Option s.Y
 | .any, _ => some ()
 | .d s, .d v => s.ex v
 | .d (.sl t), .nil _ => some ([] : List (den t))
 | .d (.sl t), .own σ s => match st.site σ with
  | some (.froz s' t' xs) => bif s'.beq s then (if h : t' = t then some (h ▸ xs : List (den t)) else none) else none
  | _ => none
 | .d (.map t), .own σ s => match st.site σ with
  | some (.map s' t' es) => bif s'.beq s && !memN σ (jxD ρ) then (if h : t' = t then some (h ▸ es : List (Str × den t)) else none) else none
  | _ => none
 | .fn g css, .d (.fn g' cs) => bif Nat.beq g g' then exDss css cs else none
 | .fn g [], .clo g' [] => bif Nat.beq g g' then some () else none
 | .rptr ss off, .rptr ds off' => bif Nat.beq off off' then exDs ss ds else none
 | .own n, .own σ s => bif renOf ρ n σ s then some () else none
 | .own n, .nil _ => match jjB ρ n with | some none => some () | _ => none
 | .ptr n off, .ptr σ s off' => bif renOf ρ n σ s && Nat.beq off off' then some () else none
 | .clo g ns, .clo g' cs => bif Nat.beq g g' && renCaps ρ ns cs then some () else none
 | .slf, .slf => some ()
 | .nilI, .cst .nilIface => some ()
 | .optr n t, .optr σ s t' 0 0 => bif renOf ρ n σ s then (if t' = t then some () else none) else none
 | _, _ => none
@[reducible] def YShs : List Sh → Type
 | [] => Unit
 | s :: r => s.Y × YShs r
def mkShs : (ss : List Sh) → YShs ss → List Lf
 | [], _ => []
 | s :: r, (y, z) => s.mk y :: mkShs r z
def exShs (st : St) (ρ : Ren) : (ss : List Sh) → List Lf → Option (YShs ss)
 | [], [] => some ()
 | s :: r, l :: ls => match s.ex st ρ l, exShs st ρ r ls with
  | some y, some z => some (y, z)
  | _, _ => none
 | _, _ => none
inductive SSh : Type where
 | lf (s : Sh)
 | agg (ss : List Sh)
@[reducible] def SSh.Y : SSh → Type
 | .lf s => s.Y
 | .agg ss => YShs ss
def SSh.mk : (s : SSh) → s.Y → SV
 | .lf s, y => lfv (s.mk y)
 | .agg ss, y => .av (.agg (mkShs ss y))
def SSh.ex (st : St) (ρ : Ren) : (s : SSh) → SV → Option s.Y
 | .lf s, .av (.lf l) => s.ex st ρ l
 | .agg ss, .av (.agg ls) => exShs st ρ ss ls
 | _, _ => none
@[reducible] def YSlots : List (Nat × SSh) → Type
 | [] => Unit
 | s :: r => s.2.Y × YSlots r
def mkSlots : (ss : List (Nat × SSh)) → YSlots ss → List (Nat × SV)
 | [], _ => []
 | s :: r, (y, z) => (s.1, s.2.mk y) :: mkSlots r z
def exSlots (st : St) (ρ : Ren) : (ss : List (Nat × SSh)) → Option (YSlots ss)
 | [] => some ()
 | s :: r => match s.2.ex st ρ (st.get s.1), exSlots st ρ r with
  | some y, some z => some (y, z)
  | _, _ => none
inductive ZSh : Type where
 | row (t : Ty)
 | rowN (t : Ty) (n : Nat)          -- an array's row, whose length is told
 | box (ss : List Sh)
 | map (t : Ty)
@[reducible] def ZSh.Y : ZSh → Type
 | .row t => List (den t)
 | .rowN t _ => List (den t)
 | .box ss => YShs ss
 | .map t => List (Str × den t)
def padN {α : Type} (z : α) : Nat → List α → List α
 | 0, _ => []
 | n + 1, xs => xs.headD z :: padN z n xs.tail
theorem padN_eq {α : Type} (z : α) : ∀ (xs : List α), padN z xs.length xs = xs
 | [] => rfl
 | x :: xs => by simp only [List.length_cons, padN, List.headD_cons, List.tail_cons, padN_eq z xs]
def pad {t : Ty} (n : Nat) (xs : List (den t)) : List (den t) := match zt t with
 | some z => padN z n xs
 | none => xs
theorem pad_eq {t : Ty} {n : Nat} {xs : List (den t)} (h : xs.length = n) : pad n xs = xs := by
 subst h
 unfold pad
 split
 ·exact padN_eq _ _
 ·rfl
def ZSh.mk : (s : ZSh) → s.Y → Site
 | .row t, xs => .row 0 t xs
 | .rowN t n, xs => .row 0 t (pad n xs)
 | .box ss, y => .box 0 (mkShs ss y)
 | .map t, es => .map 0 t es
def ZSh.ex (st : St) (ρ : Ren) : (s : ZSh) → Option (Nat × Nat) → Option s.Y
 | .row t, none => some ([] : List (den t))
 | .row t, some (σ, s) => match st.site σ with
  | some (.row s' t' xs) => bif s'.beq s then (if h : t' = t then some (h ▸ xs : List (den t)) else none) else none
  | _ => none
 | .rowN _ _, none => none
 | .rowN t n, some (σ, s) => match st.site σ with
  | some (.row s' t' xs) => bif s'.beq s then (if h : t' = t then (if xs.length = n then some (h ▸ xs : List (den t)) else none) else none) else none
  | _ => none
 | .box ss, some (σ, s) => match jq4 st σ s with
  | some cells => exShs st ρ ss cells
  | none => none
 | .box _, none => none
 | .map t, some (σ, s) => match st.site σ with
  | some (.map s' t' es) => bif s'.beq s then (if h : t' = t then some (h ▸ es : List (Str × den t)) else none) else none
  | _ => none
 | .map _, none => none
inductive Loc : Type where
 | same
 | slot (t j : Nat)
 | cell (σ j : Nat)
def locLf (st : St) : Loc → Option Lf
 | .same => none
 | .slot t j => match st.get t with
  | .av (.lf l) => bif Nat.beq j 0 then some l else none
  | .av (.agg ls) => ls[j]?
  | _ => none
 | .cell σ j => match st.site σ with
  | some (.box _ cells) => cells[j]?
  | _ => none
def locOf (st : St) (n : Nat) (l : Loc) : Option (Option (Nat × Nat)) :=
 match l with
 | .same => match st.site n with | some s => some (some (n, s.stamp)) | none => none
 | l => match locLf st l with
  | some (.own σ s) => some (some (σ, s))
  | some (.ptr σ s _) => some (some (σ, s))
  | some (.optr σ s _ _ _) => some (some (σ, s))
  | some (.nil _) => some none
  | _ => none
@[reducible] def YSites : List (Nat × ZSh × Loc) → Type
 | [] => Unit
 | s :: r => s.2.1.Y × YSites r
def jqW : (ss : List (Nat × ZSh × Loc)) → YSites ss → List (Nat × Site)
 | [], _ => []
 | s :: r, (y, z) => (s.1, s.2.1.mk y) :: jqW r z
def exSites (st : St) (ρ : Ren) : (ss : List (Nat × ZSh × Loc)) → Option (YSites ss)
 | [] => some ()
 | s :: r => match (jjB ρ s.1).bind fun o => s.2.1.ex st ρ o, exSites st ρ r with
  | some y, some z => some (y, z)
  | _, _ => none
def mkRen (st : St) : List (Nat × ZSh × Loc) → Option Ren
 | [] => some []
 | s :: r => match locOf st s.1 s.2.2, mkRen st r with
  | some o, some ρ => some ((s.1, o) :: ρ)
  | _, _ => none
structure Shape where
 slots : List (Nat × SSh)
 sites : List (Nat × ZSh × Loc)
 nt : Nat
@[reducible] def Shape.Y (sh : Shape) : Type := YSlots sh.slots × YSites sh.sites
def Shape.st (sh : Shape) (y : sh.Y) : St := ⟨mkSlots sh.slots y.1, jqW sh.sites y.2, sh.nt⟩
def frz1 (st : St) : Sh → Lf → List (Nat × Site)
 | .d (.sl _), .own σ s => match st.site σ with
  | some (.row s' t xs) => bif s'.beq s then [(σ, .froz s t xs)] else []
  | _ => []
 | _, _ => []
def frzL (st : St) : List Sh → List Lf → List (Nat × Site)
 | s :: ss, l :: ls => frz1 st s l ++ frzL st ss ls
 | _, _ => []
def frzV (st : St) : SSh → SV → List (Nat × Site)
 | .lf s, .av (.lf l) => frz1 st s l
 | .agg ss, .av (.agg ls) => frzL st ss ls
 | _, _ => []
def jx6 (st : St) : List (Nat × SSh) → List (Nat × Site)
 | [] => []
 | s :: r => frzV st s.2 (st.get s.1) ++ jx6 st r
def frzZ (st : St) : ZSh → Option (Option (Nat × Nat)) → List (Nat × Site)
 | .box ss, some (some (σ, s)) => match jq4 st σ s with
  | some cells => frzL st ss cells
  | none => []
 | _, _ => []
def jx7 (st : St) : List (Nat × ZSh × Loc) → List (Nat × Site)
 | [] => []
 | s :: r => frzZ st s.2.1 (locOf st s.1 s.2.2) ++ jx7 st r
def Shape.ex (sh : Shape) (st0 : St) : Option sh.Y :=
 let st := st0.upds (jx6 st0 sh.slots ++ jx7 st0 sh.sites)
 bif st.nt.beq sh.nt then
  match mkRen st sh.sites with
  | some ρ => bif jqk (jjF ρ) && jqk (jxD ρ) then
    match exSlots st ρ sh.slots, exSites st ρ sh.sites with
    | some y, some z => some (y, z)
    | _, _ => none
   else none
  | none => none
 else none
theorem frz1_fz {st : St} {s : Sh} {l : Lf} : Freezes st.sites (frz1 st s l) := by
 unfold frz1
 split
 ·rename_i σ s
  split
  ·rename_i s' t xs hl
   cases hb : s'.beq s with
   | false => exact .nil
   | true =>
    have := Nat.eq_of_beq_eq_true hb
    subst this
    intro τ site hm
    simp only [cond_true, List.mem_singleton, Prod.mk.injEq] at hm
    obtain ⟨rfl, rfl⟩ := hm
    exact ⟨_, _, _, rfl, .inl hl⟩
  ·exact .nil
 ·exact .nil
theorem frzL_fz {st : St} : ∀ {ss : List Sh} {ls : List Lf}, Freezes st.sites (frzL st ss ls) := by
 intro ss
 induction ss with
 | nil => intro ls; cases ls <;> exact .nil
 | cons s ss ih =>
  intro ls
  cases ls with
  | nil => exact .nil
  | cons l ls => exact frz1_fz.append ih
theorem frzSlots_fz {st : St} : ∀ {ss : List (Nat × SSh)}, Freezes st.sites (jx6 st ss) := by
 intro ss
 induction ss with
 | nil => exact .nil
 | cons s ss ih =>
  refine Freezes.append ?_ ih
  unfold frzV
  split
  ·exact frz1_fz
  ·exact frzL_fz
  ·exact .nil
theorem frzSites_fz {st : St} : ∀ {ss : List (Nat × ZSh × Loc)}, Freezes st.sites (jx7 st ss) := by
 intro ss
 induction ss with
 | nil => exact .nil
 | cons s ss ih =>
  refine Freezes.append ?_ ih
  unfold frzZ
  split
  ·split
   ·exact frzL_fz
   ·exact .nil
  ·exact .nil
def RenOk (st : St) (ρ : Ren) (sites' : List (Nat × Site)) : Prop :=
 ∀ n o, jjB ρ n = some o → (∃ s', jjB sites' n = some s' ∧ s'.stamp = 0) ∧ ∀ σ s, o = some (σ, s) → ∃ site, jjB st.sites σ = some site ∧ site.stamp = s ∧ site.live = true
def newι (ι : Nat → Value) (ρ : Ren) (n : Nat) : Value :=
 match jjB ρ n with
 | some (some (σ, _)) => ι σ
 | some none => .slice none 0 0
 | none => undef
theorem renOf_some {ρ : Ren} {n σ s : Nat} (h : renOf ρ n σ s = true) : jjB ρ n = some (some (σ, s)) := by
 unfold renOf at h
 split at h
 ·rename_i σ' s' hl
  simp only [Bool.and_eq_true] at h
  rw [hl, Nat.eq_of_beq_eq_true h.1, Nat.eq_of_beq_eq_true h.2]
 ·cases h
section
variable {w0 : World} {fb : List Nat} {X : Nat → Prop} {ι : Nat → Value} {st : St} {tm : Array Value} {w : World} {ρ : Ren} {sites' : List (Nat × Site)} {av' : Nat → Prop}
theorem ren_ref (S : Sim w0 fb X ι st tm w) (hR : RenOk st ρ sites') {n σ s : Nat} (h : renOf ρ n σ s = true) {p p' : Prop} (hr : Ref st.sites σ s p) (hp : newι ι ρ n = ι σ → p → p') : Ref sites' n 0 p' := by
 have hl := renOf_some h
 obtain ⟨⟨s', h1, h2⟩, h3⟩ := hR n _ hl
 obtain ⟨site, h4, h5, _⟩ := h3 σ s rfl
 exact Ref.mk h1 h2 (hp (by simp [newι, hl]) (Ref.at hr h4 h5))
theorem renCaps_ok (S : Sim w0 fb X ι st tm w) (hR : RenOk st ρ sites') : ∀ {ns : List Nat} {cs : List (Nat × Nat)} {vs : List Value}, renCaps ρ ns cs = true → vs.length = cs.length →
  (∀ i (h : i < cs.length) (h' : i < vs.length), Ref st.sites (cs[i]).1 (cs[i]).2 (vs[i] = ι (cs[i]).1)) →
  vs.length = (ns.map fun n => (n, 0)).length ∧ ∀ i (h : i < (ns.map fun n => ((n, 0) : Nat × Nat)).length) (h' : i < vs.length), Ref sites' ((ns.map fun n => ((n, 0) : Nat × Nat))[i]).1 ((ns.map fun n => ((n, 0) : Nat × Nat))[i]).2 (vs[i] = newι ι ρ ((ns.map fun n => ((n, 0) : Nat × Nat))[i]).1) := by
 intro ns
 induction ns with
 | nil =>
  intro cs vs h hl _
  match cs, h with
  | [], _ => exact ⟨by simpa using hl, fun i h => by simp at h⟩
 | cons n ns ih =>
  intro cs vs h hl hr
  match cs, h with
  | (σ, s) :: cs, h =>
   simp only [renCaps, Bool.and_eq_true] at h
   match vs, hl with
   | v :: vs, hl =>
    obtain ⟨k1, k2⟩ := ih (vs := vs) h.2 (by simpa using hl) (fun i g1 g2 => hr (i + 1) (by simpa using g1) (by simpa using g2))
    refine ⟨by simpa using k1, fun i g1 g2 => ?_⟩
    cases i with
    | zero => exact ren_ref S hR h.1 (hr 0 (by simp) (by simp)) (fun e p => p.trans e.symm)
    | succ i => exact k2 i (by simpa using g1) (by simpa using g2)
def Drops (ι : Nat → Value) (st : St) (ρ : Ren) (av' : Nat → Prop) : Prop := ∀ σ, jjs st.sites σ → memN σ (jxD ρ) = false → ∀ b, blk (ι σ) = some b → ¬ av' b
theorem Sh.ex_ok (S : Sim w0 fb X ι st tm w) (hR : RenOk st ρ sites') (hav : ∀ b, av' b → jjh X ι st.sites b) (hO : Drops ι st ρ av') {s : Sh} {l : Lf} {y : s.Y} {v : Value} (h : s.ex st ρ l = some y) (hv : LfOk ι st.sites w (jjh X ι st.sites) l v) :
  LfOk (newι ι ρ) sites' w av' (s.mk y) v := by
 have anti : ∀ {d : D} {v : Value}, Rd w (jjh X ι st.sites) d v → Rd w av' d v := fun h => SVOk.anti (ι := ι) (sites := []) (a := one _) hav (fun b hb => S.lt (hav b hb)) h
 unfold Sh.ex at h
 split at h
 ·trivial
 ·rename_i s v'
  have : s.mk y = v' := SD.mk_ex h
  show Rd w av' (s.mk y) v
  rw [this]
  exact anti hv
 ·rename_i t u
  cases h
  have hv : v = .slice none 0 0 := hv
  rw [hv]
  exact Rd.nil t
 ·rename_i t σ s
  split at h
  ·rename_i s' t' xs hl
   cases hb : s'.beq s with
   | false => simp [hb] at h
   | true =>
    simp only [hb, cond_true] at h
    split at h
    ·rename_i e
     subst e
     cases h
     have hs := Nat.eq_of_beq_eq_true hb
     subst hs
     have hl : jjB st.sites σ = some (.froz s' t' xs) := hl
     have hv' : v = ι σ := Ref.at hv.2 hl rfl
     rw [hv']
     exact anti (S.sites σ _ hl).1
    ·cases h
  ·cases h
 ·rename_i t σ s
  split at h
  ·rename_i s' t' es hl
   cases hb : (s'.beq s && !memN σ (jxD ρ)) with
   | false => simp [hb] at h
   | true =>
    simp only [hb, cond_true] at h
    simp only [Bool.and_eq_true, Bool.not_eq_true'] at hb
    split at h
    ·rename_i e
     subst e
     cases h
     have hs := Nat.eq_of_beq_eq_true hb.1
     subst hs
     have hl : jjB st.sites σ = some (.map s' t' es) := hl
     have hv' : v = ι σ := Ref.at hv.2 hl rfl
     obtain ⟨b, h1, h2⟩ := S.sites σ _ hl
     rw [hv', h1]
     exact Rd.map t' es b (hO σ ⟨_, hl, rfl⟩ hb.2 b (by rw [h1]; rfl)) h2
    ·cases h
  ·cases h
 ·rename_i g css g' cs
  cases hb : Nat.beq g g' with
  | false => simp [hb] at h
  | true =>
   simp only [hb, cond_true] at h
   have := Nat.eq_of_beq_eq_true hb
   subst this
   show Rd w av' (.fn g (mkDss css y)) v
   rw [mkDss_ex h]
   exact anti hv
 ·rename_i g g'
  cases hb : Nat.beq g g' with
  | false => simp [hb] at h
  | true =>
   have := Nat.eq_of_beq_eq_true hb
   subst this
   obtain ⟨vs, h1, h2, _⟩ := hv
   rw [List.eq_nil_of_length_eq_zero h2] at h1
   rw [h1]
   exact CapsOk.fn (caps := []) (vs := []) trivial
 ·rename_i ss off ds off'
  cases hb : Nat.beq off off' with
  | false => simp [hb] at h
  | true =>
   simp only [hb, cond_true] at h
   have := Nat.eq_of_beq_eq_true hb
   subst this
   have e := mkDs_ex h
   obtain ⟨b, o, h1, h2, h3, cs, h4, h5, h6⟩ := hv
   show LfOk (newι ι ρ) sites' w av' (.rptr (mkDs ss y) off) v
   rw [e]
   exact ⟨b, o, h1, fun hx => h2 (hav b hx), h3, cs, h4, h5, fun j g1 g2 => anti (h6 j g1 g2)⟩
 ·rename_i n σ s
  cases hb : renOf ρ n σ s with
  | false => simp [hb] at h
  | true => exact ⟨hv.1, ren_ref S hR hb hv.2 (fun e p => p.trans e.symm)⟩
 ·rename_i n t
  split at h
  ·rename_i hl
   have hv : v = .slice none 0 0 := hv
   obtain ⟨⟨s', h1, h2⟩, _⟩ := hR n _ hl
   exact ⟨by rw [hv]; rfl, Ref.mk h1 h2 (by simp [newι, hl, hv])⟩
  ·cases h
 ·rename_i n off σ s off'
  cases hb : (renOf ρ n σ s && Nat.beq off off') with
  | false => simp [hb] at h
  | true =>
   simp only [Bool.and_eq_true] at hb
   have := Nat.eq_of_beq_eq_true hb.2
   subst this
   obtain ⟨b, h1, h2⟩ := hv
   exact ⟨b, h1, ren_ref S hR hb.1 h2 (fun e p => e.trans p)⟩
 ·rename_i g ns g' cs
  cases hb : (Nat.beq g g' && renCaps ρ ns cs) with
  | false => simp [hb] at h
  | true =>
   simp only [Bool.and_eq_true] at hb
   have := Nat.eq_of_beq_eq_true hb.1
   subst this
   obtain ⟨vs, h1, h2, h3⟩ := hv
   obtain ⟨k1, k2⟩ := renCaps_ok S hR hb.2 h2 h3
   exact ⟨vs, h1, k1, k2⟩
 ·trivial
 ·exact hv
 ·rename_i n t σ s t'
  cases hb : renOf ρ n σ s with
  | false => simp [hb] at h
  | true =>
   simp only [hb, cond_true] at h
   split at h
   ·rename_i e
    subst e
    obtain ⟨b, h1, h2⟩ := hv
    exact ⟨b, h1, ren_ref S hR hb h2 (fun e p => by rw [e]; exact p)⟩
   ·cases h
 ·cases h
theorem exShs_head {ss : List Sh} {ls : List Lf} {y : YShs ss} (h : exShs st ρ ss ls = some y) (hh : (mkShs ss y).head? = some .slf) : ls.head? = some .slf := by
 cases ss with
 | nil => cases hh
 | cons s ss =>
  cases ls with
  | nil => cases h
  | cons l ls =>
   simp only [exShs] at h
   split at h
   ·rename_i a b h1 h2
    cases h
    simp only [mkShs, List.head?_cons, Option.some.injEq] at hh ⊢
    cases s with
    | slf => cases l <;> first | rfl | cases h1
    | _ => cases hh
   ·cases h
theorem exShs_ok (S : Sim w0 fb X ι st tm w) (hR : RenOk st ρ sites') (hav : ∀ b, av' b → jjh X ι st.sites b) (hO : Drops ι st ρ av') : ∀ {ss : List Sh} {ls : List Lf} {y : YShs ss} {vs : List Value}, exShs st ρ ss ls = some y →
  LfsOk ι st.sites w (jjh X ι st.sites) ls vs → LfsOk (newι ι ρ) sites' w av' (mkShs ss y) vs := by
 intro ss
 induction ss with
 | nil =>
  intro ls y vs h hv
  match ls, h with
  | [], _ => rw [hv.inv_nil]; exact .nil
 | cons s ss ih =>
  intro ls y vs h hv
  match ls, h with
  | l :: ls, h =>
   simp only [exShs] at h
   split at h
   ·rename_i a b h1 h2
    cases h
    obtain ⟨v, vs', rfl, k1, k2⟩ := hv.inv
    exact .cons (Sh.ex_ok S hR hav hO h1 k1) (ih h2 k2)
   ·cases h
theorem SSh.ex_ok (S : Sim w0 fb X ι st tm w) (hR : RenOk st ρ sites') (hav : ∀ b, av' b → jjh X ι st.sites b) (hO : Drops ι st ρ av') {s : SSh} {a : SV} {y : s.Y} {v : Value} (h : s.ex st ρ a = some y) (hv : SVOk ι st.sites w (jjh X ι st.sites) a v) :
  SVOk (newι ι ρ) sites' w av' (s.mk y) v := by
 unfold SSh.ex at h
 split at h
 ·exact Sh.ex_ok S hR hav hO h hv
 ·obtain ⟨vs, h1, h2, h3⟩ := hv
  have := exShs_ok S hR hav hO h ⟨h2, h3⟩
  exact ⟨vs, h1, this.1, this.2⟩
 ·cases h
theorem exSlots_ok : ∀ {ss : List (Nat × SSh)} {y : YSlots ss}, exSlots st ρ ss = some y → ∀ t v, jjB (mkSlots ss y) t = some v → ∃ s : SSh, ∃ y' : s.Y, s.ex st ρ (st.get t) = some y' ∧ v = s.mk y' := by
 intro ss
 induction ss with
 | nil => intro y h t v hl; cases hl
 | cons s ss ih =>
  intro y h t v hl
  simp only [exSlots] at h
  split at h
  ·rename_i a b h1 h2
   cases h
   simp only [mkSlots, jjB] at hl
   cases hb : s.1.beq t with
   | true =>
    simp only [hb, cond_true, Option.some.injEq] at hl
    have := Nat.eq_of_beq_eq_true hb
    subst this
    exact ⟨s.2, a, h1, hl.symm⟩
   | false =>
    simp only [hb, cond_false] at hl
    exact ih h2 t v hl
  ·cases h
theorem exSites_ok : ∀ {ss : List (Nat × ZSh × Loc)} {y : YSites ss}, exSites st ρ ss = some y → ∀ n site', jjB (jqW ss y) n = some site' → ∃ z : ZSh, ∃ y' : z.Y, ∃ o, jjB ρ n = some o ∧ z.ex st ρ o = some y' ∧ site' = z.mk y' := by
 intro ss
 induction ss with
 | nil => intro y h n site' hl; cases hl
 | cons s ss ih =>
  intro y h n site' hl
  simp only [exSites] at h
  split at h
  ·rename_i a b h1 h2
   cases h
   simp only [jqW, jjB] at hl
   cases hb : s.1.beq n with
   | true =>
    simp only [hb, cond_true, Option.some.injEq] at hl
    have := Nat.eq_of_beq_eq_true hb
    subst this
    obtain ⟨o, k1, k2⟩ := Option.bind_eq_some_iff.1 h1
    exact ⟨s.2.1, a, o, k1, k2, hl.symm⟩
   | false =>
    simp only [hb, cond_false] at hl
    exact ih h2 n site' hl
  ·cases h
theorem ZSh.stamp (z : ZSh) (y : z.Y) : (z.mk y).stamp = 0 := by cases z <;> rfl
theorem mkRen_look {st1 : St} : ∀ {ss : List (Nat × ZSh × Loc)} {ρ : Ren} {y : YSites ss}, mkRen st1 ss = some ρ → ∀ n o, jjB ρ n = some o → (∃ s', jjB (jqW ss y) n = some s' ∧ s'.stamp = 0) := by
 intro ss
 induction ss with
 | nil => intro ρ y h n o hl; simp only [mkRen] at h; cases h; cases hl
 | cons s ss ih =>
  intro ρ y h n o hl
  simp only [mkRen] at h
  split at h
  ·rename_i a b h1 h2
   cases h
   obtain ⟨y1, y2⟩ := y
   simp only [jqW, jjB] at hl ⊢
   cases hb : s.1.beq n with
   | true => simp only [cond_true]; exact ⟨_, rfl, ZSh.stamp _ _⟩
   | false =>
    simp only [hb, cond_false] at hl ⊢
    exact ih h2 n o hl
  ·cases h
theorem mkRen_same {st1 : St} : ∀ {ss : List (Nat × ZSh × Loc)} {ρ : Ren}, mkRen st1 ss = some ρ → (jjF ρ).Nodup → ∀ n z, (n, z, Loc.same) ∈ ss → ∃ s, jjB ρ n = some (some (n, s)) := by
 intro ss
 induction ss with
 | nil => intro ρ h _ n z hm; simp at hm
 | cons s ss ih =>
  intro ρ h hn n z hm
  simp only [mkRen] at h
  split at h
  ·rename_i a b h1 h2
   cases h
   simp only [jjF, List.nodup_cons] at hn
   rcases List.mem_cons.1 hm with hm | hm
   ·subst hm
    simp only [locOf] at h1
    split at h1
    ·cases h1; exact ⟨_, by simp [jjB]; rfl⟩
    ·cases h1
   ·obtain ⟨s', hs'⟩ := ih h2 hn.2 n z hm
    refine ⟨s', ?_⟩
    simp only [jjB]
    have : ¬ s.1 = n := by
     rintro rfl
     have key : ∀ {ρ : Ren} {n : Nat} {o}, jjB ρ n = some o → n ∈ jjF ρ := by
      intro ρ
      induction ρ with
      | nil => intro n o h; cases h
      | cons p ρ ih' =>
       obtain ⟨m, q⟩ := p
       intro n o h
       simp only [jjB] at h
       cases hb : m.beq n with
       | true => have := Nat.eq_of_beq_eq_true hb; subst this; exact List.mem_cons_self
       | false => simp only [hb, cond_false] at h; exact List.mem_cons_of_mem _ (ih' h)
     exact hn.1 (key hs')
    rw [beqF this]
    exact hs'
  ·cases h
theorem jJe : ∀ {ρ : Ren} {n σ s : Nat}, jjB ρ n = some (some (σ, s)) → σ ∈ jxD ρ := by
 intro ρ
 induction ρ with
 | nil => intro n σ s h; cases h
 | cons p ρ ih =>
  obtain ⟨m, o⟩ := p
  intro n σ s h
  simp only [jjB] at h
  cases hb : m.beq n with
  | true =>
   simp only [hb, cond_true, Option.some.injEq] at h
   subst h
   exact List.mem_cons_self
  | false =>
   simp only [hb, cond_false] at h
   have := ih h
   cases o with
   | none => exact this
   | some q => exact List.mem_cons_of_mem _ this
theorem renLive_inj : ∀ {ρ : Ren} {n m σ s s' : Nat}, (jxD ρ).Nodup → jjB ρ n = some (some (σ, s)) → jjB ρ m = some (some (σ, s')) → n = m := by
 intro ρ
 induction ρ with
 | nil => intro n m σ s s' _ h; cases h
 | cons p ρ ih =>
  obtain ⟨k, o⟩ := p
  intro n m σ s s' hd h h'
  simp only [jjB] at h h'
  have hd' : (jxD ρ).Nodup := by
   cases o with
   | none => exact hd
   | some q => exact (List.nodup_cons.1 hd).2
  cases hb : k.beq n with
  | true =>
   simp only [hb, cond_true, Option.some.injEq] at h
   subst h
   cases hb' : k.beq m with
   | true => rw [← Nat.eq_of_beq_eq_true hb, ← Nat.eq_of_beq_eq_true hb']
   | false =>
    simp only [hb', cond_false] at h'
    exact absurd (jJe h') (List.nodup_cons.1 hd).1
  | false =>
   simp only [hb, cond_false] at h
   cases hb' : k.beq m with
   | true =>
    simp only [hb', cond_true, Option.some.injEq] at h'
    subst h'
    exact absurd (jJe h) (List.nodup_cons.1 hd).1
   | false =>
    simp only [hb', cond_false] at h'
    exact ih hd' h h'
theorem Shape.ex_ok (S : Sim w0 fb X ι st tm w) {sh : Shape} {y : sh.Y} (h : sh.ex st = some y) : ∃ ι', Sim w0 fb X ι' (sh.st y) tm w ∧ ∀ n z, (n, z, Loc.same) ∈ sh.sites → ι' n = ι n := by
 unfold Shape.ex at h
 have hF : Freezes st.sites (jx6 st sh.slots ++ jx7 st sh.sites) := frzSlots_fz.append frzSites_fz
 have S1 := S.freezes hF
 rw [← St.upds_eq] at S1
 generalize st.upds (jx6 st sh.slots ++ jx7 st sh.sites) = st1 at h S1
 cases hnt : st1.nt.beq sh.nt with
 | false => simp [hnt] at h
 | true =>
  simp only [hnt, cond_true] at h
  split at h
  ·rename_i ρ hρ
   cases hc : (jqk (jjF ρ) && jqk (jxD ρ)) with
   | false => simp [hc] at h
   | true =>
    simp only [hc, cond_true] at h
    simp only [Bool.and_eq_true, jxe] at hc
    split at h
    ·rename_i y1 y2 h1 h2
     cases h
     have facts := exSites_ok h2
     have zlive : ∀ {z : ZSh} {y' : z.Y} {σ s : Nat}, z.ex st1 ρ (some (σ, s)) = some y' → ∃ site, jjB st1.sites σ = some site ∧ site.stamp = s ∧ site.live = true := by
      intro z y' σ s hz
      cases z with
      | row t =>
       simp only [ZSh.ex] at hz
       split at hz
       ·rename_i s' t' xs hl
        cases hb : s'.beq s with
        | false => simp [hb] at hz
        | true => exact ⟨_, hl, Nat.eq_of_beq_eq_true hb, rfl⟩
       ·cases hz
      | rowN t n =>
       simp only [ZSh.ex] at hz
       split at hz
       ·rename_i s' t' xs hl
        cases hb : s'.beq s with
        | false => simp [hb] at hz
        | true => exact ⟨_, hl, Nat.eq_of_beq_eq_true hb, rfl⟩
       ·cases hz
      | box ss =>
       simp only [ZSh.ex] at hz
       split at hz
       ·rename_i hl
        exact ⟨_, jjE hl, rfl, rfl⟩
       ·cases hz
      | map t =>
       simp only [ZSh.ex] at hz
       split at hz
       ·rename_i s' t' xs hl
        cases hb : s'.beq s with
        | false => simp [hb] at hz
        | true => exact ⟨_, hl, Nat.eq_of_beq_eq_true hb, rfl⟩
       ·cases hz
     have hR : RenOk st1 ρ (jqW sh.sites y2) := by
      intro n o hn
      obtain ⟨s', hs1, hs2⟩ := mkRen_look (y := y2) hρ n o hn
      refine ⟨⟨s', hs1, hs2⟩, fun σ s e => ?_⟩
      obtain ⟨z, y', o', k1, k2, _⟩ := facts n s' hs1
      rw [hn] at k1
      cases k1
      subst e
      exact zlive k2
     have live : ∀ n, jjs (jqW sh.sites y2) n → ∀ b, blk (newι ι ρ n) = some b → ∃ σ s, jjB ρ n = some (some (σ, s)) ∧ jjs st1.sites σ ∧ newι ι ρ n = ι σ := by
      rintro n ⟨site', hn, _⟩ b hb
      obtain ⟨z, y', o, k1, k2, _⟩ := facts n site' hn
      cases o with
      | none => simp [newι, k1, blk] at hb
      | some q =>
       obtain ⟨σ, s⟩ := q
       obtain ⟨site, q1, _, q3⟩ := zlive k2
       exact ⟨σ, s, k1, ⟨site, q1, q3⟩, by simp [newι, k1]⟩
     have hav : ∀ b, jjh X (newι ι ρ) (jqW sh.sites y2) b → jjh X ι st1.sites b := by
      rintro b (hb | ⟨n, hn, hb⟩)
      ·exact .inl hb
      ·obtain ⟨σ, s, _, q2, q3⟩ := live n hn b hb
       exact .inr ⟨σ, q2, by rw [← q3]; exact hb⟩
     have anti : ∀ {d : D} {v : Value}, Rd w (jjh X ι st1.sites) d v → Rd w (jjh X (newι ι ρ) (jqW sh.sites y2)) d v :=
      fun h => SVOk.anti (ι := ι) (sites := []) (a := one _) hav (fun b hb => S1.lt (hav b hb)) h
     have hO : Drops ι st1 ρ (jjh X (newι ι ρ) (jqW sh.sites y2)) := by
      rintro σ hlv hm b hb (hx | ⟨n, hn, hnb⟩)
      ·exact (S1.mine σ b hlv hb).1 hx
      ·obtain ⟨τ, s, q1, q2, q3⟩ := live n hn b hnb
       rw [q3] at hnb
       have e := S1.excl σ τ b hlv q2 hb hnb
       subst e
       have hin := jJe q1
       rw [← memN_iff] at hin
       rw [hm] at hin
       cases hin
     refine ⟨newι ι ρ, ⟨?_, fun t => ?_, fun n site' hn => ?_, fun n m b l1 l2 g1 g2 => ?_, fun n b l1 g1 => ?_, S1.frame, S1.old, S1.glob⟩, fun n z hm => ?_⟩
     ·rw [S1.nt]; exact Nat.eq_of_beq_eq_true hnt
     ·show SVOk _ _ _ _ (St.get _ t) _
      unfold St.get
      cases hl : jjB (mkSlots sh.slots y1) t with
      | none => simp only [Shape.st, hl]; trivial
      | some v =>
       simp only [Shape.st, hl]
       obtain ⟨s, y', k1, k2⟩ := exSlots_ok h1 t v hl
       rw [k2]
       exact SSh.ex_ok S1 hR hav hO k1 (S1.slots t)
     ·have hn : jjB (jqW sh.sites y2) n = some site' := hn
      obtain ⟨z, y', o, k1, k2, k3⟩ := facts n site' hn
      rw [k3]
      cases z with
      | row t =>
       cases o with
       | none =>
        simp only [ZSh.ex] at k2
        cases k2
        exact ⟨0, [], ⟨by simp, .inl ⟨by simp [newι, k1], rfl⟩⟩, fun j h => by simp [jjM] at h⟩
       | some q =>
        obtain ⟨σ, s⟩ := q
        simp only [ZSh.ex] at k2
        split at k2
        ·rename_i s' t' xs hl
         cases hb : s'.beq s with
         | false => simp [hb] at k2
         | true =>
          simp only [hb, cond_true] at k2
          split at k2
          ·rename_i e
           subst e
           cases k2
           obtain ⟨e, cs, q1, q2⟩ := S1.sites σ _ hl
           refine ⟨e, cs, ?_, fun j g1 g2 => anti (q2 j g1 g2)⟩
           have : newι ι ρ n = ι σ := by simp [newι, k1]
           rw [this]; exact q1
          ·cases k2
        ·cases k2
      | rowN t m =>
       cases o with
       | none => cases k2
       | some q =>
        obtain ⟨σ, s⟩ := q
        simp only [ZSh.ex] at k2
        split at k2
        ·rename_i s' t' xs hl
         cases hb : s'.beq s with
         | false => simp [hb] at k2
         | true =>
          simp only [hb, cond_true] at k2
          split at k2
          ·rename_i e
           subst e
           split at k2
           ·rename_i hlen
            cases k2
            obtain ⟨e, cs, q1, q2⟩ := S1.sites σ _ hl
            simp only [ZSh.mk, pad_eq hlen]
            refine ⟨e, cs, ?_, fun j g1 g2 => anti (q2 j g1 g2)⟩
            have : newι ι ρ n = ι σ := by simp [newι, k1]
            rw [this]; exact q1
           ·cases k2
          ·cases k2
        ·cases k2
      | box ss =>
       cases o with
       | none => cases k2
       | some q =>
        obtain ⟨σ, s⟩ := q
        simp only [ZSh.ex] at k2
        split at k2
        ·rename_i cells hl
         obtain ⟨b, T, cur, q1, q2, q3, q4, q4', q5⟩ := S1.sites σ _ (jjE hl)
         have := exShs_ok S1 hR hav hO k2 ⟨q3, q5⟩
         exact ⟨b, T, cur, by simp [newι, k1, q1], q2, this.1, q4, fun hh => q4' (exShs_head k2 hh), this.2⟩
        ·cases k2
      | map t =>
       cases o with
       | none => cases k2
       | some q =>
        obtain ⟨σ, s⟩ := q
        simp only [ZSh.ex] at k2
        split at k2
        ·rename_i s' t' es hl
         cases hb : s'.beq s with
         | false => simp [hb] at k2
         | true =>
          simp only [hb, cond_true] at k2
          split at k2
          ·rename_i e
           subst e
           cases k2
           obtain ⟨b, q1, q2⟩ := S1.sites σ _ hl
           have : newι ι ρ n = ι σ := by simp [newι, k1]
           exact ⟨b, this.trans q1, q2⟩
          ·cases k2
        ·cases k2
     ·obtain ⟨σ, s, a1, a2, a3⟩ := live n l1 b g1
      obtain ⟨τ, s', b1, b2, b3⟩ := live m l2 b g2
      rw [a3] at g1
      rw [b3] at g2
      have := S1.excl σ τ b a2 b2 g1 g2
      subst this
      exact renLive_inj hc.2 a1 b1
     ·obtain ⟨σ, s, a1, a2, a3⟩ := live n l1 b g1
      rw [a3] at g1
      exact S1.mine σ b a2 g1
     ·obtain ⟨s, hs⟩ := mkRen_same hρ hc.1 n z hm
      simp [newι, hs]
    ·cases h
  ·cases h
end
inductive Kind : Type where
 | norm
 | exit (id : Nat)
 | ret
abbrev OSh := Kind × Shape
@[reducible] def YS : List OSh → Type
 | [] => Empty
 | [o] => o.2.Y
 | o :: o' :: r => Sum o.2.Y (YS (o' :: r))
def Kind.mk : Kind → St → Out
 | .norm, st => .norm st
 | .exit id, st => .exit id st
 | .ret, st => .ret st
def mkS : (os : List OSh) → YS os → Out
 | [o], y => o.1.mk (o.2.st y)
 | o :: o' :: r, y => match y with
  | .inl y => o.1.mk (o.2.st y)
  | .inr y => mkS (o' :: r) y
def Kind.is : Kind → Out → Option St
 | .norm, .norm st => some st
 | .exit id, .exit id' st => bif Nat.beq id id' then some st else none
 | .ret, .ret st => some st
 | _, _ => none
def exS : (os : List OSh) → Out → Option (YS os)
 | [], _ => none
 | [o], x => match o.1.is x with
  | some st => o.2.ex st
  | none => none
 | o :: o' :: r, x => match o.1.is x with
  | some st => (o.2.ex st).map Sum.inl
  | none => (exS (o' :: r) x).map Sum.inr
section
variable {w0 : World} {fb : List Nat} {X : Nat → Prop} {ds : List Deferred} {tm0 : Array Value} {W : List Nat}
theorem At.ex {st : St} {sh : Shape} {y : sh.Y} {a : Act} {w : World} (hy : sh.ex st = some y) (h : At w0 fb X ds tm0 W st a w) : At w0 fb X ds tm0 W (sh.st y) a w := by
 obtain ⟨w1, fb1, X1, ι, Ds, h1, h2, h3, S, h5⟩ := h
 obtain ⟨ι', S', _⟩ := Shape.ex_ok S hy
 exact ⟨w1, fb1, X1, ι', Ds, h1, h2, h3, S', h5⟩
theorem Kind.is_lands {k : Kind} {x : Out} {st : St} {sh : Shape} {y : sh.Y} {e : Exit} {a : Act} {w : World} (h : k.is x = some st) (hy : sh.ex st = some y) (hl : Lands w0 fb X ds tm0 W x e a w) : Lands w0 fb X ds tm0 W (k.mk (sh.st y)) e a w := by
 cases k <;> cases x <;> simp only [Kind.is] at h <;> try (cases h; done)
 ·cases h
  cases e <;> try exact hl.elim
  exact At.ex hy hl
 ·rename_i id id' st'
  cases hb : Nat.beq id id' with
  | false => simp [hb] at h
  | true =>
   simp only [hb, cond_true, Option.some.injEq] at h
   subst h
   cases e <;> try exact hl.elim
   exact ⟨(Nat.eq_of_beq_eq_true hb).trans hl.1, At.ex hy hl.2⟩
 ·cases h
  cases e <;> try exact hl.elim
  exact At.ex hy hl
theorem jzI : ∀ {os : List OSh} {x : Out} {y : YS os} {e : Exit} {a : Act} {w : World}, exS os x = some y → Lands w0 fb X ds tm0 W x e a w → Lands w0 fb X ds tm0 W (mkS os y) e a w := by
 intro os
 induction os with
 | nil => intro x y; exact y.elim
 | cons o os ih =>
  intro x y e a w h hl
  cases os with
  | nil =>
   simp only [exS] at h
   split at h
   ·rename_i st hk
    exact Kind.is_lands hk h hl
   ·cases h
  | cons o' r =>
   simp only [exS] at h
   split at h
   ·rename_i st hk
    obtain ⟨y1, k1, k2⟩ := Option.map_eq_some_iff.1 h
    subst k2
    exact Kind.is_lands hk k1 hl
   ·obtain ⟨y1, k1, k2⟩ := Option.map_eq_some_iff.1 h
    subst k2
    exact ih k1 hl
end
section
variable {Y B : Type}
def iter (f : Y → Option (Sum Y B)) : Nat → Y → Option B
 | 0, _ => none
 | n + 1, y => match f y with
  | none => none
  | some (.inl y') => iter f n y'
  | some (.inr b) => some b
theorem iter_mono {f : Y → Option (Sum Y B)} : ∀ {n m : Nat} {y : Y} {b : B}, n ≤ m → iter f n y = some b → iter f m y = some b := by
 intro n
 induction n with
 | zero => intro m y b _ h; cases h
 | succ n ih =>
  intro m y b hle h
  obtain ⟨m, rfl⟩ : ∃ k, m = k + 1 := ⟨m - 1, by omega⟩
  simp only [iter] at h ⊢
  split at h
  ·cases h
  ·exact ih (by omega) h
  ·exact h
open Classical in
noncomputable def jjt (f : Y → Option (Sum Y B)) (y : Y) : Option B :=
 if h : ∃ n b, iter f n y = some b then some (Classical.choose (Classical.choose_spec h)) else none
theorem loopF_iff {f : Y → Option (Sum Y B)} {y : Y} {b : B} : jjt f y = some b ↔ ∃ n, iter f n y = some b := by
 unfold jjt
 constructor
 ·intro h
  split at h
  ·rename_i h'
   cases h
   exact ⟨_, Classical.choose_spec (Classical.choose_spec h')⟩
  ·cases h
 ·rintro ⟨n, hn⟩
  have h : ∃ n b, iter f n y = some b := ⟨n, b, hn⟩
  rw [dif_pos h]
  have h1 := Classical.choose_spec (Classical.choose_spec h)
  have h2 := iter_mono (Nat.le_max_left (Classical.choose h) n) h1
  have h3 := iter_mono (Nat.le_max_right (Classical.choose h) n) hn
  rw [h2] at h3
  exact h3
theorem loopF_eq (f : Y → Option (Sum Y B)) (y : Y) : jjt f y = match f y with
  | none => none
  | some (.inl y') => jjt f y'
  | some (.inr b) => some b := by
 apply Option.ext
 intro b
 rw [loopF_iff]
 cases hf : f y with
 | none =>
  simp only
  constructor
  ·rintro ⟨n, hn⟩
   cases n with
   | zero => cases hn
   | succ n => simp only [iter, hf] at hn; cases hn
  ·intro h; cases h
 | some s =>
  cases s with
  | inl y' =>
   simp only
   rw [loopF_iff]
   constructor
   ·rintro ⟨n, hn⟩
    cases n with
    | zero => cases hn
    | succ n => simp only [iter, hf] at hn; exact ⟨n, hn⟩
   ·rintro ⟨n, hn⟩
    exact ⟨n + 1, by simp only [iter, hf]; exact hn⟩
  | inr b' =>
   simp only
   constructor
   ·rintro ⟨n, hn⟩
    cases n with
    | zero => cases hn
    | succ n => simp only [iter, hf] at hn; exact hn
   ·intro h
    exact ⟨1, by simp only [iter, hf]; exact h⟩
theorem least {p : Nat → Prop} (h : ∃ n, p n) : ∃ n, p n ∧ ∀ m, p m → n ≤ m := by
 obtain ⟨n, hn⟩ := h
 induction n using Nat.strongRecOn with
 | _ n ih =>
  by_cases h' : ∃ m, m < n ∧ p m
  ·obtain ⟨m, h1, h2⟩ := h'
   exact ih m h1 h2
  ·exact ⟨n, hn, fun m hm => Nat.le_of_not_lt fun hlt => h' ⟨m, hlt, hm⟩⟩
end
noncomputable def roundF (C : CtxC) (c : Code) (p : Nat) (sh : Shape) (os : List OSh) (y : sh.Y) : Option (Sum sh.Y (YS os)) :=
 jz0 C c (2 * p) (sh.st y) fun
  | .norm st => (sh.ex st).map .inl
  | x => (exS os x).map .inr
def caseS : (os : List OSh) → (R : Type) → YS os → (Out → Option R) → Option R
 | [o], R, y, K => K (o.1.mk (o.2.st y))
 | o :: o' :: r, R, y, K => match y with
  | .inl y => K (o.1.mk (o.2.st y))
  | .inr y => caseS (o' :: r) R y K
theorem caseS_eq : ∀ (os : List OSh) (R : Type) (y : YS os) (K : Out → Option R), caseS os R y K = K (mkS os y) := by
 intro os
 induction os with
 | nil => intro R y; exact y.elim
 | cons o os ih =>
  intro R y K
  cases os with
  | nil => rfl
  | cons o' r =>
   cases y with
   | inl y => rfl
   | inr y => exact ih R y K
def jjg (sh : Shape) (os : List OSh) (g : sh.Y → Option (YS os)) : Orc := fun st => ⟨YS os, (sh.ex st).bind g, mkS os, caseS os, caseS_eq os⟩
section
variable {P : Program} {C : CtxC}
theorem loop_frag (H : CtxGood P C.toCtx) {c : Code} {p : Nat} {sh : Shape} {os : List OSh} (hO : Orcs P C c (2 * p)) {g : sh.Y → Option (YS os)} (hg : ∀ y, g y = jjt (roundF C c p sh os) y) :
  jjk P (.loop c) (jjg sh os g) := by
 intro rn hn w0 fb X st y hy ι tm w ds S
 simp only [jjg] at hy y ⊢
 obtain ⟨y0, h1, h2⟩ := Option.bind_eq_some_iff.1 hy
 obtain ⟨ι0, S0, _⟩ := Shape.ex_ok S h1
 rw [hg] at h2
 obtain ⟨n0, hn0⟩ := loopF_iff.1 h2
 have eJ : ∃ J : Nat → Act → World → Prop, ∀ n a w, J n a w ↔ ∃ z, iter (roundF C c p sh os) n z = some y ∧ At w0 fb X ds tm (wrC c) (sh.st z) a w := ⟨_, fun _ _ _ => Iff.rfl⟩
 obtain ⟨J, hJ⟩ := eJ
 classical
 refine wpIn_loop (I := fun a w => ∃ n, J n a w) (μ := fun a w => if h : ∃ n, J n a w then Classical.choose (least h) else 0) ⟨n0, (hJ _ _ _).2 ⟨y0, hn0, At.of S0 fun _ _ => rfl⟩⟩ ?_
 intro a w' hI
 have hmin := (Classical.choose_spec (least hI)).1
 obtain ⟨z, hz, w1, fb1, X1, ι1, Ds, b1, b2, b3, S1, b5⟩ := (hJ _ _ _).1 hmin
 obtain ⟨tm1, df⟩ := a
 obtain ⟨b3, b3r⟩ := b3
 have b3 : df = Ds.map mark ++ ds := b3
 subst b3
 have join : ∀ {o : Out} {e : Exit} {a2 : Act} {w2 : World}, Lands w1 fb1 X1 (Ds.map mark ++ ds) tm1 (wrC c) o e a2 w2 → Lands w0 fb X ds tm (wrC c) o e a2 w2 := fun hl =>
  (Lands.trans b1 b2 b3r b5 hl).mono fun t ht => (List.mem_append.1 ht).elim id id
 cases hn' : Classical.choose (least hI) with
 | zero => rw [hn'] at hz; cases hz
 | succ n =>
  rw [hn'] at hz
  simp only [iter] at hz
  have go : ∀ s, roundF C c p sh os z = some s → CW rn P c (fun e a w => match s with
    | .inl z' => Lands w0 fb X ds tm (wrC c) (.norm (sh.st z')) e a w
    | .inr b => Lands w0 fb X ds tm (wrC c) (mkS os b) e a w ∧ e ≠ .normal) ⟨tm1, Ds.map mark ++ ds⟩ w' := by
   intro s hs
   refine jqH H c (2 * p) hn hO w1 fb1 X1 (sh.st z) ι1 tm1 w' _ _ _ hs S1 ?_
   intro o e a w2 hk hl
   have hl := join hl
   cases o with
   | norm st2 =>
    obtain ⟨z', q1, q2⟩ := Option.map_eq_some_iff.1 hk
    subst q2
    exact Kind.is_lands (k := .norm) rfl q1 hl
   | exit id st2 =>
    obtain ⟨z', q1, q2⟩ := Option.map_eq_some_iff.1 hk
    subst q2
    exact ⟨jzI q1 hl, by rintro rfl; exact hl⟩
   | ret st2 =>
    obtain ⟨z', q1, q2⟩ := Option.map_eq_some_iff.1 hk
    subst q2
    exact ⟨jzI q1 hl, by rintro rfl; exact hl⟩
  cases hr : roundF C c p sh os z with
  | none => rw [hr] at hz; cases hz
  | some s =>
   cases s with
   | inl z' =>
    rw [hr] at hz
    refine wpIn_mono (go _ hr) fun e a2 w2 hl => ?_
    cases e <;> try exact hl.elim
    have hJ2 : J n a2 w2 := (hJ _ _ _).2 ⟨z', hz, hl⟩
    refine ⟨⟨n, hJ2⟩, ?_⟩
    have hex : ∃ n, J n a2 w2 := ⟨n, hJ2⟩
    simp only [dif_pos hex, dif_pos hI, hn']
    have : Classical.choose (least hex) ≤ n := (Classical.choose_spec (least hex)).2 n hJ2
    omega
   | inr b =>
    rw [hr] at hz
    simp only [Option.some.injEq] at hz
    subst hz
    refine wpIn_mono (go _ hr) fun e a2 w2 hl => ?_
    cases e <;> first | exact absurd rfl hl.2 | exact hl.1
noncomputable def pieceF (C : CtxC) (c : Code) (p : Nat) (sh : Shape) (os : List OSh) (y : sh.Y) : Option (YS os) := jz0 C c p (sh.st y) (exS os)
theorem piece_frag (H : CtxGood P C.toCtx) {c : Code} {p : Nat} {sh : Shape} {os : List OSh} (hO : Orcs P C c p) {g : sh.Y → Option (YS os)} (hg : ∀ y, g y = pieceF C c p sh os y) : jjk P c (jjg sh os g) := by
 intro rn hn w0 fb X st y hy ι tm w ds S
 simp only [jjg] at hy y ⊢
 obtain ⟨y0, h1, h2⟩ := Option.bind_eq_some_iff.1 hy
 obtain ⟨ι0, S0, _⟩ := Shape.ex_ok S h1
 rw [hg] at h2
 exact jqH H c p hn hO w0 fb X (sh.st y0) ι0 tm w _ _ _ h2 S0 fun o e a w' hk hl => jzI hk hl
end
end Go.Jk
