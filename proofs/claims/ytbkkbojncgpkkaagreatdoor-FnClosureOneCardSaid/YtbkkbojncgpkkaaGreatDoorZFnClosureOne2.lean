/- It is proved that closures can be combined (FnClosureOne). (part 3 of 7: JkRange2, JkIter, JkIter2, JkIter3, JkWalk5, JkIns0, JkPu0, JkPu1, JkEqS, JkHand, JkChecks, JkChecks2, JkIns3, JkDel) Conditions: none beyond the statement. -/
import Derived.Test.YtbkkbojncgpkkaaGreatDoorZFnClosureOne1
import Derived.Lib.Bytealg
import Derived.Laws.CopyRow
import Derived.Lib.AppendZerosOnto
import Derived.Lib.Overlaps
import Derived.Laws.Externs
import Derived.Laws.StructEq
set_option linter.unusedVariables false
set_option linter.unusedSimpArgs false
namespace Go.Jk
theorem ex_nt {sh : Shape} {st : St} {y : sh.Y} (h : sh.ex st = some y) : st.nt = sh.nt := by
 unfold Shape.ex at h
 simp only at h
 cases hb : (st.upds (jzk st sh.slots ++ jzl st sh.sites)).nt.beq sh.nt with
 | false => rw [hb] at h; cases h
 | true => rw [← upds_nt (jzk st sh.slots ++ jzl st sh.sites) st]; exact Nat.eq_of_beq_eq_true hb
def allNt (n : Nat) : List OSh → Bool
 | [] => true
 | o :: r => Nat.beq o.2.nt n && allNt n r
def Out.st : Out → St
 | .norm st | .exit _ st | .ret st => st
theorem kind_st {k : Kind} {x : Out} {st : St} (h : k.is x = some st) : x.st = st := by
 cases k <;> cases x <;> simp only [Kind.is] at h <;> try (cases h; done)
 ·cases h; rfl
 ·rename_i id id' st'
  cases hb : Nat.beq id id' with
  | false => simp [hb] at h
  | true => simp only [hb, cond_true, Option.some.injEq] at h; exact h
 ·cases h; rfl
theorem exS_nt {n : Nat} : ∀ {os : List OSh} {x : Out} {y : YS os}, exS os x = some y → allNt n os = true → x.st.nt = n := by
 intro os
 induction os with
 | nil => intro x y; exact y.elim
 | cons o os ih =>
  intro x y h hn
  simp only [allNt, Bool.and_eq_true] at hn
  have hno := Nat.eq_of_beq_eq_true hn.1
  cases os with
  | nil =>
   simp only [exS] at h
   split at h
   ·rename_i st hk; rw [kind_st hk, ex_nt h, hno]
   ·cases h
  | cons o' r =>
   simp only [exS] at h
   split at h
   ·rename_i st hk
    obtain ⟨y1, k1, _⟩ := Option.map_eq_some_iff.1 h
    rw [kind_st hk, ex_nt k1, hno]
   ·obtain ⟨y1, k1, _⟩ := Option.map_eq_some_iff.1 h
    exact ih k1 hn.2
section
variable {P : Program} {C : CtxC}
theorem range_frag (H : CtxGood P C.toCtx) {g' : FuncId} (IT : jx2 P g') {t prm p : Nat} {assign body : Code} {sh : Shape} {os : List OSh} (hO1 : Orcs P C assign (2 * p)) (hO2 : Orcs P C body (2 * p + 1))
  {F : Str → sh.Y → Option (Sum sh.Y (YS os))} {fin : sh.Y → Option (YS os)} (hF : ∀ x y, F x y = roundP C assign body p prm sh os x y) (hfin : ∀ y, fin y = exS os (.norm (sh.st y)))
  (hdis : jq5 (jjJ sh.slots) (prm :: (wrC assign ++ wrC body)) = true) (hnr1 : jqr assign = true) (hnr2 : jqr body = true) (hprm : prm < sh.nt) (hnt : allNt sh.nt os = true) :
  jjj P (.rangeFunc (.tmp t) #[prm] assign body) (jq2 g' t sh os F fin) := by
 intro rn hn w0 fb X st y hy ι tm w ds S
 have hrn : rn = none := hn.elim id fun h => by cases h
 subst hrn
 simp only [jq2] at hy y ⊢
 obtain ⟨q, hq, hy⟩ := Option.bind_eq_some_iff.1 hy
 obtain ⟨y0, hy0, hfold⟩ := Option.bind_eq_some_iff.1 hy
 obtain ⟨σ1, s1, σ2, s2, σ3, s3, c, s, hv, ⟨n12, n13, n23⟩, hb1, hb2, hb3, rfl⟩ := splitOf_inv hq
 obtain ⟨hlen, hfold⟩ : s.length ≤ jxZ ∧ jzw F fin (jju c s) y0 = some y := by
  cases hb : Nat.ble s.length jxZ with
  | false => rw [hb] at hfold; cases hfold
  | true => rw [hb] at hfold; exact ⟨Nat.le_of_ble_eq_true hb, hfold⟩
 have hslot := S.slots t
 rw [hv] at hslot
 obtain ⟨vs, hval, hvl, href⟩ := hslot
 match vs, hvl with
 | [v1, v2, v3], _ =>
 have r1 : v1 = ι σ1 := Ref.at (href 0 (by simp) (by simp)) (jjK hb1) rfl
 have r2 : v2 = ι σ2 := Ref.at (href 1 (by simp) (by simp)) (jjK hb2) rfl
 have r3 : v3 = ι σ3 := Ref.at (href 2 (by simp) (by simp)) (jjK hb3) rfl
 have boxAt : ∀ {σ k : Nat} {d : D}, jq7 st σ k = some [.d d] → ∃ b T u, ι σ = .pointer (some ⟨b, 0, none⟩) ∧ w.heap[b]? = some (.cells #[u] T) ∧ Rd w (jji X ι st.sites) d u := by
  intro σ k d h
  obtain ⟨b, T, cur, g1, g2, g3, g4, g5⟩ := S.sites σ _ (jjK h)
  match cur, g3 with
  | [u], _ => exact ⟨b, T, u, g1, g2, g5 0 (by simp) (by simp)⟩
 obtain ⟨b1, T1, u1, i1, h1, d1⟩ := boxAt hb1
 obtain ⟨b2, T2, u2, i2, h2, d2⟩ := boxAt hb2
 obtain ⟨b3, T3, u3, i3, h3, d3⟩ := boxAt hb3
 obtain ⟨p', rfl, hp'⟩ := jqy d1
 obtain ⟨s', rfl, hs'⟩ := jqy d2
 have e3 : u3 = .int .i64 0 := jxw d3
 subst e3
 have lv1 : jjy st.sites σ1 := ⟨_, jjK hb1, rfl⟩
 have lv2 : jjy st.sites σ2 := ⟨_, jjK hb2, rfl⟩
 have lv3 : jjy st.sites σ3 := ⟨_, jjK hb3, rfl⟩
 have k1 : blk (ι σ1) = some b1 := by rw [i1]; rfl
 have k2 : blk (ι σ2) = some b2 := by rw [i2]; rfl
 have k3 : blk (ι σ3) = some b3 := by rw [i3]; rfl
 have m12 : b1 ≠ b2 := fun e => n12 (S.excl σ1 σ2 b1 lv1 lv2 k1 (e ▸ k2))
 have m13 : b1 ≠ b3 := fun e => n13 (S.excl σ1 σ3 b1 lv1 lv3 k1 (e ▸ k3))
 have m23 : b2 ≠ b3 := fun e => n23 (S.excl σ2 σ3 b2 lv2 lv3 k2 (e ▸ k3))
 have lt1 := S.live_lt lv1 k1
 have lt2 := S.live_lt lv2 k2
 have lt3 := S.live_lt lv3 k3
 have mine2 := (S.mine σ2 b2 lv2 k2).2
 obtain ⟨X1, hX1, S1, in1, in2, in3⟩ : ∃ X1 : Nat → Prop, (∀ b, X b → X1 b) ∧ Sim w0 fb X1 ι (st.upds [(σ1, .dead s1), (σ2, .dead s2), (σ3, .dead s3)]) tm w ∧ X1 b1 ∧ X1 b2 ∧ X1 b3 := by
  have A := S.kill (jjK hb1) rfl
  have l2 : jjG (upd st.sites σ1 (.dead s1)) σ2 = some (.box s2 [.d (.str s)]) := by rw [jjo, if_neg n12]; exact jjK hb2
  have B := A.kill (st := { st with sites := upd st.sites σ1 (.dead s1) }) l2 rfl
  have l3 : jjG (upd (upd st.sites σ1 (.dead s1)) σ2 (.dead s2)) σ3 = some (.box s3 [.d (.int .i64 0)]) := by rw [jjo, if_neg n23, jjo, if_neg n13]; exact jjK hb3
  have D := B.kill (st := { st with sites := upd (upd st.sites σ1 (.dead s1)) σ2 (.dead s2) }) l3 rfl
  exact ⟨_, fun b hb => .inl (.inl (.inl hb)), D, .inl (.inl (.inr k1)), .inl (.inr k2), .inr k3⟩
 obtain ⟨ι2, S2, _⟩ := Shape.ex_ok S1 hy0
 have htm : tm.size = sh.nt := S2.nt
 refine CW.of (n := 0) (wpIn_rangeFunc ?_)
 intro fn _
 obtain ⟨rec, hrec⟩ : ∃ rec : LoopState → Option Code → Loop, rec = fun st pe => { state := st, pending := pe, fn, tmps := tm, params := #[prm], assign, body, defers := w.heap.size } := ⟨_, rfl⟩
 obtain ⟨W1, hW1⟩ : ∃ W1, (w.alloc (.deferred (some []))).alloc (.loop (rec .ready none)) = W1 := ⟨_, rfl⟩
 obtain ⟨l, hl⟩ : ∃ l, l = w.heap.size + 1 := ⟨_, rfl⟩
 obtain ⟨D, hD⟩ : ∃ D, D = w.heap.size := ⟨_, rfl⟩
 have hsz : W1.heap.size = w.heap.size + 2 := by rw [← hW1]; simp
 have hL1 : W1.heap[l]? = some (.loop (rec .ready none)) := by
  rw [← hW1, hl]; have := World.alloc_heap_new (w.alloc (.deferred (some []))) (.loop (rec .ready none)); rwa [World.size_alloc] at this
 have hD1 : W1.heap[D]? = some (.deferred (some [])) := by
  rw [← hW1, hD]; exact (RowKit.Below.heap_alloc _ _ _ (by simp only [World.size_alloc]; omega)).trans (World.alloc_heap_new w _)
 have hold : ∀ b, b < w.heap.size → W1.heap[b]? = w.heap[b]? := fun b hb => by
  rw [← hW1, RowKit.Below.heap_alloc _ _ _ (by simp only [World.size_alloc]; omega), RowKit.Below.heap_alloc _ _ _ hb]
 have hfr1 : Fr fb w0 W1 := ⟨by rw [← hW1]; exact S.frame.os, by rw [← hW1]; exact S.frame.tape, by rw [← hW1]; exact S.frame.output, by have := S.frame.size; omega, fun b hb hn => by
  have := S.frame.size
  rw [hold b (by omega)]; exact S.frame.block b hb hn⟩
 have hsize := S.frame.size
 have S3 := S2.jump (w' := W1) (fun b _ hb => hold b hb) (by omega) hfr1
 obtain ⟨X2, hX2⟩ : ∃ X2 : Nat → Prop, X2 = fun b => X1 b ∨ (w.heap.size ≤ b ∧ b < W1.heap.size) := ⟨_, rfl⟩
 rw [← hX2] at S3
 have xl : X2 l := by rw [hX2]; exact .inr ⟨by omega, by omega⟩
 have xD : X2 D := by rw [hX2]; exact .inr ⟨by omega, by omega⟩
 have x1 : X2 b1 := by rw [hX2]; exact .inl in1
 have x2 : X2 b2 := by rw [hX2]; exact .inl in2
 have x3 : X2 b3 := by rw [hX2]; exact .inl in3
 have hXX : ∀ b, X b → X2 b := fun b hb => by rw [hX2]; exact .inl (hX1 b hb)
 obtain ⟨fbR, hfbR⟩ : ∃ fbR, fbR = l :: b2 :: jJf ι2 (sh.st y0).sites := ⟨_, rfl⟩
 have own_in : ∀ b, b ∈ jJf ι2 (sh.st y0).sites → ¬ X2 b ∧ (b ∈ fb ∨ w0.heap.size ≤ b) := fun b hb => by
  obtain ⟨σ, g1, g2⟩ := jxT.1 hb
  exact S3.mine σ b g1 g2
 have lR : l ∈ fbR := by rw [hfbR]; exact List.mem_cons_self
 have b2R : b2 ∈ fbR := by rw [hfbR]; exact List.mem_cons_of_mem _ List.mem_cons_self
 have DR : D ∉ fbR := by
  rw [hfbR]
  intro h
  rcases List.mem_cons.1 h with h | h
  ·omega
  ·rcases List.mem_cons.1 h with h | h
   ·omega
   ·exact (own_in D h).1 xD
 have fbR_in : ∀ b, b ∈ fbR → b ∈ fb ∨ w0.heap.size ≤ b := fun b hb => by
  rw [hfbR] at hb
  rcases List.mem_cons.1 hb with h | h
  ·exact .inr (by omega)
  ·rcases List.mem_cons.1 h with h | h
   ·rw [h]; exact mine2
   ·exact (own_in b h).2
 have S4 : Sim W1 fbR X2 ι2 (sh.st y0) tm W1 := S3.rebase fun σ b g1 g2 => by rw [hfbR]; exact List.mem_cons_of_mem _ (List.mem_cons_of_mem _ (jxT.2 ⟨σ, g1, g2⟩))
 have B01 : Base w0 fb X W1 fbR X2 := by
  have := S3.base fbR_in
  exact ⟨this.fr, this.mine, hXX⟩
 obtain ⟨J, hJ⟩ : ∃ J : List Str → World → Prop, ∀ r W, J r W ↔ ∃ ι z, Sim W1 fbR X2 ι (sh.st z) tm W ∧ jzw F fin r z = some y ∧ W.heap[l]? = some (.loop (rec .ready none)) ∧ W.heap[D]? = some (.deferred (some [])) := ⟨_, fun _ _ => Iff.rfl⟩
 obtain ⟨Jx, hJx⟩ : ∃ Jx : World → Prop, ∀ W, Jx W ↔ ∃ j e, ((j = .ret ∧ e = .ret) ∨ ∃ id, j = .exit id ∧ e = .exit id) ∧ SimOut (fun st => ∃ ι, Sim W1 fbR X2 ι st tm W) (mkS os y) e ∧
   W.heap[l]? = some (.loop (rec .done (some j))) ∧ W.heap[D]? = some (.deferred (some [])) := ⟨_, fun _ => Iff.rfl⟩
 have ll : l < W1.heap.size := by omega
 have lD : D < W1.heap.size := by omega
 have l_b2 : l ≠ b2 := by omega
 have D_b2 : D ≠ b2 := by omega
 have outMono : ∀ {Φ Ψ : St → Prop} {o : Out} {e : Exit}, (∀ st, Φ st → Ψ st) → SimOut Φ o e → SimOut Ψ o e := fun h k => by
  rename_i o e
  cases o <;> cases e <;> first | exact h _ k | exact ⟨k.1, h _ k.2⟩ | exact k.elim
 have turn2 : ∀ {ι : Nat → Value} {st : St} {W W' : World}, Sim W1 fbR X2 ι st tm W → Fr [b2] W W' → Sim W1 fbR X2 ι st tm W' := fun S F => S.other F fun b hb => by
  rw [List.mem_singleton.1 hb]; exact ⟨x2, .inl b2R⟩
 have turnl : ∀ {ι : Nat → Value} {st : St} {tm : Array Value} {W : World} {X' : Nat → Prop} (o : Obj), (∀ b, X2 b → X' b) → Sim W1 fbR X' ι st tm W → Sim W1 fbR X' ι st tm (W.putObj l o) := fun o hx S => S.other (Fr.putObj _ l o) fun b hb => by
  rw [List.mem_singleton.1 hb]; exact ⟨hx _ xl, .inl lR⟩
 refine ⟨l, [mark D], W1, { target := .fn (.func g') #[.pointer (some ⟨b1, 0, none⟩), .pointer (some ⟨b2, 0, none⟩), .pointer (some ⟨b3, 0, none⟩)], args := #[.func (.yield l) #[] #[]] }, W1, g',
  #[.func (.yield l) #[] #[]] ++ #[.pointer (some ⟨b1, 0, none⟩), .pointer (some ⟨b2, 0, none⟩), .pointer (some ⟨b3, 0, none⟩)], W1, ?_, ?_, fun _ _ => trivial, ?_, fun h => by simp [FR, Fence.wide] at h, ?_⟩
 ·rw [← hW1, hrec, hl, hD]; exact run_enterLoop_outer _ _ _ _ _
 ·have hval' : Act.eval ⟨tm, ds⟩ (.tmp t) = .func (.func g') #[] #[.pointer (some ⟨b1, 0, none⟩), .pointer (some ⟨b2, 0, none⟩), .pointer (some ⟨b3, 0, none⟩)] := by
   show tm.getD t undef = _
   rw [hval, r1, r2, r3, i1, i2, i3]
  simp only [rangeCall, resolve, hval']
  simp [Deferred.ofValue, Act.eval]
 ·simp [invoke, IT.1]
 ·refine CallsIn.mono (IT.2 l b1 b2 b3 p' s' c T1 T2 T3 W1 J Jx hp' (by rw [hs']; exact hlen) m12 m13 m23 ((hold b1 lt1).trans h1) ((hold b2 lt2).trans h2) ((hold b3 lt3).trans h3) ?_ ?_ ?_ ?_) ?_
  ·-- between two rounds the iterator turns its text's box
   intro r W W' hj F
   obtain ⟨ι, z, g1, g2, g3, g4⟩ := (hJ _ _).1 hj
   have hlW := Nat.lt_of_lt_of_le ll g1.frame.size
   have hDW := Nat.lt_of_lt_of_le lD g1.frame.size
   exact (hJ _ _).2 ⟨ι, z, turn2 g1 F, g2, (F.block l hlW (by simpa using l_b2)).trans g3, (F.block D hDW (by simpa using D_b2)).trans g4⟩
  ·intro W W' hj F
   obtain ⟨j, e, g1, g2, g3, g4⟩ := (hJx _).1 hj
   have hlW : l < W.heap.size := (Array.getElem?_eq_some_iff.1 g3).1
   have hDW : D < W.heap.size := (Array.getElem?_eq_some_iff.1 g4).1
   exact (hJx _).2 ⟨j, e, g1, outMono (fun st ⟨ι, h⟩ => ⟨ι, turn2 h F⟩) g2, (F.block l hlW (by simpa using l_b2)).trans g3, (F.block D hDW (by simpa using D_b2)).trans g4⟩
  ·-- ONE ROUND
   intro x rest W xb hj q1 q2 q3 hxb
   obtain ⟨ι, z, Sz, hz, hlW, hDW⟩ := (hJ _ _).1 hj
   have hlt : l < W.heap.size := (Array.getElem?_eq_some_iff.1 hlW).1
   have hltD : D < W.heap.size := (Array.getElem?_eq_some_iff.1 hDW).1
   refine ⟨fn, tm.setIfInBounds prm (.string xb), assign, body, ?_, ?_⟩
   ·have := run_yield (P := P) (args := #[.string xb]) hlW (by rw [hrec]; rfl)
    rw [hrec] at this
    simpa using this
   refine roundIn_of_wpIn (n := 0) trivial ?_
   show CW (some l) P assign _ _ _
   obtain ⟨s, hs⟩ : ∃ s, F x z = some s := by
    rcases foldP_cons hz with ⟨z', h, _⟩ | h
    ·exact ⟨_, h⟩
    ·exact ⟨_, h⟩
   have hs0 := hs
   rw [hF] at hs
   have Sa : Sim W1 fbR X2 ι ((sh.st z).set prm (one (.str x))) (tm.setIfInBounds prm (.string xb)) W := Sz.put (t := prm) hprm (Rd.str _ _ hxb)
   have own1 : ∀ σ b, jjy ((sh.st z).set prm (one (.str x))).sites σ → blk (ι σ) = some b → b ∈ jJf ι (sh.st z).sites := fun σ b g1 g2 => jxT.2 ⟨σ, g1, g2⟩
   have Sb := Sa.rebase own1
   have ownz : ∀ b, b ∈ jJf ι (sh.st z).sites → ¬ X2 b ∧ (b ∈ fbR ∨ W1.heap.size ≤ b) := fun b hb => by
    obtain ⟨σ, g1, g2⟩ := jxT.1 hb
    exact Sz.mine σ b g1 g2
   have Bb : Base W1 fbR X2 W (jJf ι (sh.st z).sites) X2 := Sa.base fun b hb => (ownz b hb).2
   refine jxE (rn := some l) H assign (2 * p) (.inr hnr1) hO1 W _ X2 _ ι _ W [] _ _ hs Sb ?_
   intro o1 e1 a1 w1 hk1 hl1
   cases o1 with
   | exit id st1 => cases hk1
   | ret st1 => cases hk1
   | norm st1 =>
   cases e1 <;> try exact hl1.elim
   obtain ⟨wa, fa, Xa, ιa, Da, Ba, _, _, Sa1, kept1⟩ := hl1
   have F1 : Fr (jJf ι (sh.st z).sites) W w1 := Ba.fr _ Sa1.frame
   have nX : ∀ b, X2 b → b ∉ jJf ι (sh.st z).sites := fun b hb h => (ownz b h).1 hb
   have hl1 : w1.heap[l]? = some (.loop (rec .ready none)) := (F1.block l hlt (nX l xl)).trans hlW
   refine ⟨w1.putObj l (.loop { rec .ready none with state := .busy }), run_beginRound hl1 (by rw [hrec]), ?_⟩
   obtain ⟨w2, hw2⟩ : ∃ w2, w2 = w1.putObj l (.loop { rec .ready none with state := .busy }) := ⟨_, rfl⟩
   rw [← hw2]
   have Sc0 : Sim W1 fbR Xa ιa st1 a1.tmps w1 := Sim.unbase (Bb.trans Ba) Sa1
   have Sc : Sim W1 fbR Xa ιa st1 a1.tmps w2 := by rw [hw2]; exact turnl _ Ba.x Sc0
   have ownc : ∀ b, b ∈ jJf ιa st1.sites → ¬ Xa b ∧ (b ∈ fbR ∨ W1.heap.size ≤ b) := fun b hb => by
    obtain ⟨σ, g1, g2⟩ := jxT.1 hb
    exact Sc.mine σ b g1 g2
   have Sd := Sc.rebase (fb' := jJf ιa st1.sites) fun σ b g1 g2 => jxT.2 ⟨σ, g1, g2⟩
   have Bd : Base W1 fbR Xa w2 (jJf ιa st1.sites) Xa := Sc.base fun b hb => (ownc b hb).2
   have hl2 : w2.heap[l]? = some (.loop { rec .ready none with state := .busy }) := by rw [hw2]; exact World.putObj_heap_same (Nat.lt_of_lt_of_le hlt F1.size)
   have sz2 : w2.heap.size = w1.heap.size := by rw [hw2]; simp
   show CW (some l) P body _ a1 _
   have ha1 : a1 = ⟨a1.tmps, a1.defers⟩ := rfl
   rw [ha1]
   refine jxE (rn := some l) H body (2 * p + 1) (.inr hnr2) hO2 w2 _ Xa st1 ιa a1.tmps w2 a1.defers _ _ hk1 Sd ?_
   intro o e a w3 hk hlo
   have nXa : ∀ b, Xa b → b ∉ jJf ιa st1.sites := fun b hb h => (ownc b h).1 hb
   have keep : ∀ {wb fb2 Xb}, Base w2 (jJf ιa st1.sites) Xa wb fb2 Xb → Fr fb2 wb w3 → ∀ b, X2 b → b < W.heap.size → b ≠ l → w3.heap[b]? = W.heap[b]? := fun B F b hb hlt' hne => by
    have F2 := B.fr _ F
    have hb1 : b < w1.heap.size := Nat.lt_of_lt_of_le hlt' F1.size
    rw [F2.block b (by omega) (nXa b (Ba.x b hb)), hw2, World.putObj_heap_other hne, F1.block b hlt' (nX b hb)]
   have fin : ∀ (st3 : St), st3.nt = sh.nt → At w2 (jJf ιa st1.sites) Xa a1.defers a1.tmps (wrC body) st3 a w3 → ∀ (jump : Option Code),
     (Instr.endRound l jump).run P w3 = .ok (.bool jump.isNone) (w3.putObj l (.loop (rec (if jump.isNone then .ready else .done) jump))) ∧
     (∃ ι3, Sim W1 fbR X2 ι3 (st3.back (jjJ sh.slots)) tm (w3.putObj l (.loop (rec (if jump.isNone then .ready else .done) jump)))) ∧
     (w3.putObj l (.loop (rec (if jump.isNone then .ready else .done) jump))).heap[l]? = some (.loop (rec (if jump.isNone then .ready else .done) jump)) ∧
     (w3.putObj l (.loop (rec (if jump.isNone then .ready else .done) jump))).heap[D]? = some (.deferred (some [])) ∧
     W.heap.size ≤ (w3.putObj l (.loop (rec (if jump.isNone then .ready else .done) jump))).heap.size ∧
     (∀ b, X2 b → b < W.heap.size → b ≠ l → (w3.putObj l (.loop (rec (if jump.isNone then .ready else .done) jump))).heap[b]? = W.heap[b]?) := by
    rintro st3 hst3 ⟨wb, fb2, Xb, ι3, Db, Bb2, _, _, S3', kept3⟩ jump
    have F2 := Bb2.fr _ S3'.frame
    have hlt2 : l < w2.heap.size := by rw [sz2]; exact Nat.lt_of_lt_of_le hlt F1.size
    have hl3 : w3.heap[l]? = some (.loop { rec .ready none with state := .busy }) := (F2.block l hlt2 (nXa l (Ba.x l xl))).trans hl2
    have hlt3 := Nat.lt_of_lt_of_le hlt2 F2.size
    have hend := run_endRound (P := P) jump hl3
    have erec : ({ ({ rec .ready none with state := .busy } : Loop) with state := if jump.isNone then .ready else .done, pending := jump } : Loop) = rec (if jump.isNone then .ready else .done) jump := by rw [hrec]
    rw [erec] at hend
    have Se0 : Sim W1 fbR Xb ι3 st3 a.tmps w3 := Sim.unbase ((Bd.trans Bb2)) S3'
    have Se1 : Sim W1 fbR X2 ι3 st3 a.tmps w3 := Se0.shrink fun b hb => Bb2.x b (Ba.x b hb)
    have Se2 := turnl (.loop (rec (if jump.isNone then .ready else .done) jump)) (fun _ h => h) Se1
    have hwr : ∀ t', t' ∈ jjJ sh.slots → t' ≠ prm ∧ t' ∉ wrC assign ∧ t' ∉ wrC body := fun t' ht' => by
     have hm : t' ∉ (prm :: (wrC assign ++ wrC body)) := fun h => by
      have := jxY ht' h
      rw [hdis] at this; cases this
     simp only [List.mem_cons, List.mem_append, not_or] at hm
     exact ⟨hm.1, hm.2.1, hm.2.2⟩
    refine ⟨hend, ⟨ι3, Se2.back (fun t' ht' => ?_) ?_⟩, World.putObj_heap_same hlt3, ?_, ?_, fun b hb hlt' hne => ?_⟩
    ·obtain ⟨g1, g2, g3⟩ := hwr t' ht'
     rw [kept3 t' g3, kept1 t' g2]
     simp only [Array.getD_eq_getD_getElem?, Array.getElem?_setIfInBounds_ne (show prm ≠ t' from fun e => g1 e.symm)]
    ·have e1 : a.tmps.size = st3.nt := S3'.nt
     omega
    ·rw [World.putObj_heap_other (by omega)]
     exact (keep Bb2 S3'.frame D xD hltD (by omega)).trans hDW
    ·simp only [World.putObj_size]
     have := F1.size
     have := F2.size
     omega
    ·rw [World.putObj_heap_other hne]; exact keep Bb2 S3'.frame b hb hlt' hne
   have leave : ∀ (st3 : St) (x3 : Out) (j : Code) (e3 : Exit), ((j = .ret ∧ e3 = .ret) ∨ ∃ id, j = .exit id ∧ e3 = .exit id) → x3.st = st3 → (∀ Φ : St → Prop, Φ (st3.back (jjJ sh.slots)) → SimOut Φ (x3.back (jjJ sh.slots)) e3) →
     (exS os (x3.back (jjJ sh.slots))).map Sum.inr = some s → At w2 (jJf ιa st1.sites) Xa a1.defers a1.tmps (wrC body) st3 a w3 →
     ∃ v w', (Instr.endRound l (some j)).run P w3 = .ok v w' ∧ ((Ending.returned v = .returned (.bool true) ∧ J rest w' ∧ W.heap.size ≤ w'.heap.size ∧ w'.heap[b1]? = W.heap[b1]? ∧ w'.heap[b2]? = W.heap[b2]? ∧ w'.heap[b3]? = W.heap[b3]?) ∨ (Ending.returned v = .returned (.bool false) ∧ Jx w')) := by
    intro st3 x3 j e3 hje hx3 hout hex hat
    obtain ⟨b, hb, hbs⟩ := Option.map_eq_some_iff.1 hex
    have hn3 : st3.nt = sh.nt := by
     have := exS_nt hb hnt
     have e : (x3.back (jjJ sh.slots)).st.nt = x3.st.nt := by cases x3 <;> rfl
     rw [e, hx3] at this
     exact this
    obtain ⟨f1, ⟨ι3, f2⟩, f3, f4, f5, f6⟩ := fin st3 hn3 hat (some j)
    refine ⟨_, _, f1, .inr ⟨rfl, (hJx _).2 ⟨j, e3, hje, ?_, f3, f4⟩⟩⟩
    have hby : b = y := by
     rcases foldP_cons hz with ⟨z', h, _⟩ | h
     ·rw [hs0] at h; cases h; cases hbs
     ·rw [hs0] at h; cases h; cases hbs; rfl
    subst hby
    refine exS_out (fun sh' st' y' hex' ⟨ι', S'⟩ => ?_) hb (hout _ ⟨ι3, f2⟩)
    obtain ⟨ι'', S'', _⟩ := Shape.ex_ok S' hex'
    exact ⟨ι'', S''⟩
   cases o with
   | norm st3 =>
    cases e <;> try exact hlo.elim
    obtain ⟨z', hz', hzs⟩ := Option.map_eq_some_iff.1 hk
    obtain ⟨f1, ⟨ι3, f2⟩, f3, f4, f5, f6⟩ := fin st3 (show (st3.back (jjJ sh.slots)).nt = sh.nt from ex_nt hz') hlo none
    obtain ⟨ι4, f7, _⟩ := Shape.ex_ok f2 hz'
    refine ⟨_, _, f1, .inl ⟨rfl, (hJ _ _).2 ⟨ι4, z', f7, ?_, f3, f4⟩, f5, f6 b1 x1 q1 (by omega), f6 b2 x2 q2 (by omega), f6 b3 x3 q3 (by omega)⟩⟩
    rcases foldP_cons hz with ⟨z2, h, h2⟩ | h
    ·rw [hs0] at h; cases h; cases hzs; exact h2
    ·rw [hs0] at h; cases h; cases hzs
   | exit id st3 =>
    cases e <;> try exact hlo.elim
    obtain ⟨rfl, hlo⟩ := hlo
    exact leave st3 (.exit id st3) (.exit id) (.exit id) (.inr ⟨id, rfl, rfl⟩) rfl (fun Φ h => ⟨rfl, h⟩) hk hlo
   | ret st3 =>
    cases e <;> try exact hlo.elim
    exact leave st3 (.ret st3) .ret .ret (.inl ⟨rfl, rfl⟩) rfl (fun Φ h => h) hk hlo
  ·exact (hJ _ _).2 ⟨ι2, y0, S4, by rw [hs']; exact hfold, hL1, hD1⟩
  ·-- BEHIND THE ITERATOR
   have land : ∀ {W2 : World} {e : Exit} (o' : Obj), SimOut (fun st => ∃ ι, Sim W1 fbR X2 ι st tm W2) (mkS os y) e → W2.heap[l]? ≠ none → W2.heap[D]? = some (.deferred (some [])) →
     Lands w0 fb X ds tm (wrC (.rangeFunc (.tmp t) #[prm] assign body)) (mkS os y) e ⟨tm, [mark D] ++ ds⟩ (W2.putObj l o') := by
    intro W2 e o' h _ hD2
    have mk : ∀ st, (∃ ι, Sim W1 fbR X2 ι st tm W2) → At w0 fb X ds tm (wrC (.rangeFunc (.tmp t) #[prm] assign body)) st ⟨tm, [mark D] ++ ds⟩ (W2.putObj l o') := by
     rintro st ⟨ι, S⟩
     refine ⟨W1, fbR, X2, ι, [D], B01, ⟨by simp, fun D' h => by rw [List.mem_singleton.1 h]; omega, fun D' h => by rw [List.mem_singleton.1 h]; exact ⟨hD1, DR, xD⟩⟩, ⟨rfl, fun h => absurd List.mem_cons_self h⟩, turnl _ (fun _ h => h) S, fun _ _ => rfl⟩
    cases hm : mkS os y <;> rw [hm] at h <;> cases e <;> first | exact mk _ h | exact ⟨h.1, mk _ h.2⟩ | exact h.elim
   rintro e W2 ⟨⟨v, rfl⟩, hj | hj⟩
   ·obtain ⟨ι, z, g1, g2, g3, g4⟩ := (hJ _ _).1 hj
    refine ⟨none, W2.putObj l (.loop { rec .ready none with state := .exhausted }), ?_, ?_⟩
    ·have := run_endLoop (P := P) g3 (by rw [hrec]; simp)
     rw [hrec] at this ⊢
     exact this
    ·simp only [jzw, hfin] at g2
     refine land _ ?_ (by rw [g3]; simp) g4
     refine exS_out (fun sh' st' y' hex' ⟨ι', S'⟩ => ?_) g2 ⟨ι, g1⟩
     obtain ⟨ι'', S'', _⟩ := Shape.ex_ok S' hex'
     exact ⟨ι'', S''⟩
   ·obtain ⟨j, e, hje, g1, g3, g4⟩ := (hJx _).1 hj
    refine ⟨some j, W2.putObj l (.loop { rec .done (some j) with state := .exhausted }), ?_, ?_⟩
    ·have := run_endLoop (P := P) g3 (by rw [hrec]; simp)
     rw [hrec] at this ⊢
     exact this
    ·have := land (.loop { rec .done (some j) with state := .exhausted }) g1 (by rw [g3]; simp) g4
     rcases hje with ⟨rfl, rfl⟩ | ⟨id, rfl, rfl⟩
     ·exact wpIn_ret this
     ·exact wpIn_exit this
end
def opsOf : Code → Array Oper
 | .region _ o _ => o
 | _ => #[]
section
variable {P : Program}
theorem yield_op {o : Oper} {tm : Array Value} {ds : List Deferred} {W : World} {a b : Nat} {ty : Array TypeId} {l : Nat} {xb : ByteArray} {K : Act → World → Prop} {Q : Exit → Act → World → Prop} {R : Ending → World → Prop}
  (ho : o.op = .call { callee := .value (.tmp a), args := #[.tmp b], argTypes := ty }) (ha : tm.getD a undef = .func (.yield l) #[] #[]) (hb : tm.getD b undef = .string xb)
  (hY : YieldAt (FR none) 0 P l #[.string xb] W R) (hR : ∀ e W', R e W' → ∃ v, e = .returned v ∧ K ⟨jxB tm o.dst v, ds⟩ W') : o.wpIn (FR none) 0 P ⟨tm, ds⟩ W K Q := by
 obtain ⟨fn, tmps, assign, body, hy, hR0⟩ := hY
 refine ⟨fun f _ => FR_fn none f, ?_⟩
 have hrun : (o.semAt none (Act.eval ⟨tm, ds⟩)).run P W = .ok (.round l fn tmps assign body) W := by
  rw [Oper.semAt_none]
  have ea : Act.eval ⟨tm, ds⟩ (.tmp a) = .func (.yield l) #[] #[] := ha
  have eb : Act.eval ⟨tm, ds⟩ (.tmp b) = .string xb := hb
  unfold execOp
  simp only [ho, resolve, ea, Deferred.ofValue, Sem.run_bind, Sem.run_pure, Result.andThen_ok, invoke, List.map_toArray, List.map_cons, List.map_nil, eb]
  simpa using hy
 show o.uponIn (FR none) 0 P _ K Q ((o.semAt none (Act.eval ⟨tm, ds⟩)).run P W)
 rw [hrun]
 refine ⟨fun h => by simp [FR, Fence.wide] at h, RoundIn.mono hR0 fun e W' he => ?_⟩
 obtain ⟨v, rfl, hk⟩ := hR e W' he
 rw [← putT_put] at hk
 exact hk
def itSh (k : Nat) (more : List (Nat × SSh)) : Shape := ⟨[(1, .lf (.rptr [.str] 0)), (2, .lf (.ptr 1001 0)), (3, .lf (.rptr [.int .i64] 0))] ++ more, [(1001, .box [.d .str], .same)], k⟩
structure ItAt (b1 b2 b3 : Nat) (p : ByteArray) (T1 T3 : TypeId) (l k : Nat) (r : Str) (tm : Array Value) (W : World) : Prop where
 size : tm.size = k
 y0 : tm.getD 0 undef = .func (.yield l) #[] #[]
 y1 : tm.getD 1 undef = .pointer (some ⟨b1, 0, none⟩)
 y2 : tm.getD 2 undef = .pointer (some ⟨b2, 0, none⟩)
 y3 : tm.getD 3 undef = .pointer (some ⟨b3, 0, none⟩)
 h1 : W.heap[b1]? = some (.cells #[.string p] T1)
 h2 : ∃ s T2, W.heap[b2]? = some (.cells #[.string s] T2) ∧ s.data.toList = r
 h3 : W.heap[b3]? = some (.cells #[.int .i64 0] T3)
theorem ItAt.sim {b1 b2 b3 : Nat} {p : ByteArray} {T1 T3 : TypeId} {l k : Nat} {r : Str} {tm : Array Value} {W : World} (I : ItAt b1 b2 b3 p T1 T3 l k r tm W) (n12 : b1 ≠ b2) (n23 : b2 ≠ b3) {c : UInt8} (hp : p.data.toList = [c]) :
  Sim W [b2] (fun _ => False) (fun _ => .pointer (some ⟨b2, 0, none⟩)) ((itSh k []).st ((([c], ()), ((), (((0, ()), ())))), (((r, ()), ())))) tm W := by
 obtain ⟨s, T2, h2, hs⟩ := I.h2
 have lt1 : b1 < W.heap.size := (Array.getElem?_eq_some_iff.1 I.h1).1
 have lt2 : b2 < W.heap.size := (Array.getElem?_eq_some_iff.1 h2).1
 have lt3 : b3 < W.heap.size := (Array.getElem?_eq_some_iff.1 I.h3).1
 have hsites : ((itSh k []).st ((([c], ()), ((), (((0, ()), ())))), (((r, ()), ())))).sites = [(1001, .box 0 [.d (.str r)])] := rfl
 have hlv : ∀ σ, jjy [(1001, Site.box 0 [.d (.str r)])] σ → σ = 1001 := fun σ ⟨s, h, _⟩ => by
  simp only [jjG] at h
  cases hb : Nat.beq 1001 σ with
  | true => exact (Nat.eq_of_beq_eq_true hb).symm
  | false => simp [hb] at h
 have hav : ∀ b, jji (fun _ => False) (fun _ => Value.pointer (some ⟨b2, 0, none⟩)) [(1001, Site.box 0 [.d (.str r)])] b → b = b2 := by
  rintro b (h | ⟨σ, _, h⟩)
  ·exact h.elim
  ·simp only [blk, Option.some.injEq] at h; exact h.symm
 refine ⟨I.size, fun t => ?_, fun σ site h => ?_, fun σ τ b h1 h2 _ _ => ?_, fun σ b h1 h2 => ?_, Fr.refl _ _, fun b h => h.elim⟩
 ·rw [hsites]
  show SVOk _ _ _ _ (match jjG [(1, lfv (.rptr [.str [c]] 0)), (2, lfv (.ptr 1001 0 0)), (3, lfv (.rptr [.int .i64 0] 0))] t with | some v => v | none => .av (.lf .any)) _
  simp only [jjG]
  by_cases e1 : t = 1
  ·subst e1
   refine ⟨b1, 0, I.y1, fun h => n12 (hav _ h), lt1, [.string p], rfl, fun j u hu => ?_, fun j h h' => ?_⟩
   ·match j, hu with
    | 0, hu => cases hu; simp [World.cell?, I.h1]
   ·match j, h, h' with
    | 0, _, _ => exact .str _ _ hp
  ·by_cases e2 : t = 2
   ·subst e2
    exact ⟨b2, I.y2, _, rfl, Nat.le_refl _, fun _ => rfl⟩
   ·by_cases e3 : t = 3
    ·subst e3
     refine ⟨b3, 0, I.y3, fun h => n23 (hav _ h).symm, lt3, [.int .i64 0], rfl, fun j u hu => ?_, fun j h h' => ?_⟩
     ·match j, hu with
      | 0, hu => cases hu; simp [World.cell?, I.h3]
     ·match j, h, h' with
      | 0, _, _ => exact .int _ _
    ·rw [beqF (fun e => e1 e.symm), beqF (fun e => e2 e.symm), beqF (fun e => e3 e.symm)]
     trivial
 ·rw [hsites] at h ⊢
  simp only [jjG] at h
  cases hb : Nat.beq 1001 σ with
  | false => simp [hb] at h
  | true =>
   simp only [hb, cond_true, Option.some.injEq] at h
   subst h
   refine ⟨b2, T2, [.string s], rfl, h2, rfl, fun u hu => ?_, fun j h h' => ?_⟩
   ·rw [List.mem_singleton.1 hu]; rfl
   ·match j, h, h' with
    | 0, _, _ => exact Rd.str _ _ hs
 ·rw [hlv σ h1, hlv τ h2]
 ·simp only [blk, Option.some.injEq] at h2
  exact ⟨fun h => h, .inl (by simp [h2])⟩
theorem ItAt.of {b1 b2 b3 : Nat} {p : ByteArray} {T1 T3 : TypeId} {l k : Nat} {r r' : Str} {tm tm' : Array Value} {W W' : World} (I : ItAt b1 b2 b3 p T1 T3 l k r tm W) (n12 : b1 ≠ b2) (n23 : b2 ≠ b3) {more : List (Nat × SSh)} {y : (itSh k more).Y} {ι : Nat → Value}
  {X : Nat → Prop} (S : Sim W [b2] X ι ((itSh k more).st y) tm' W') (ht : ∀ t, t < 4 → tm'.getD t undef = tm.getD t undef) (hy : y.2 = ((r', ()), ())) : ItAt b1 b2 b3 p T1 T3 l k r' tm' W' := by
 have lt1 : b1 < W.heap.size := (Array.getElem?_eq_some_iff.1 I.h1).1
 have lt3 : b3 < W.heap.size := (Array.getElem?_eq_some_iff.1 I.h3).1
 refine ⟨S.nt, (ht 0 (by omega)).trans I.y0, (ht 1 (by omega)).trans I.y1, (ht 2 (by omega)).trans I.y2, (ht 3 (by omega)).trans I.y3, (S.frame.block b1 lt1 (by simp [n12])).trans I.h1, ?_, (S.frame.block b3 lt3 (by simp [n23.symm])).trans I.h3⟩
 have hsite : jjG ((itSh k more).st y).sites 1001 = some (.box 0 [.d (.str r')]) := by
  show jjG (jqO (itSh k more).sites y.2) 1001 = _
  rw [hy]; rfl
 have hslot := S.slots 2
 have hg : ((itSh k more).st y).get 2 = lfv (.ptr 1001 0 0) := rfl
 rw [hg] at hslot
 obtain ⟨b, hb, hr⟩ := hslot
 have hι := Ref.at hr hsite rfl
 rw [ht 2 (by omega), I.y2] at hb
 simp only [Value.pointer.injEq, Option.some.injEq, Addr.mk.injEq, and_true] at hb
 obtain ⟨b', T, cur, g1, g2, g3, g4, g5⟩ := S.sites 1001 _ hsite
 rw [hι] at g1
 simp only [Value.pointer.injEq, Option.some.injEq, Addr.mk.injEq, and_true] at g1
 match cur, g3 with
 | [u], _ =>
  obtain ⟨s, hs1, hs2⟩ := jqy (g5 0 (by simp) (by simp))
  simp only [List.getElem_cons_zero] at hs1
  subst hs1
  exact ⟨s, T, by rw [hb, g1]; exact g2, hs2⟩
end
theorem jzI (c : UInt8) (s : Str) : jju c s ≠ [] := by
 cases s with
 | nil => simp [jju]
 | cons b r =>
  simp only [jju]
  cases b == c
  ·simp only [cond_false]; split <;> simp
  ·simp
theorem splitL_none {c : UInt8} {s : Str} (h : Lib.indexByte s c < 0) : jju c s = [s] := by
 induction s with
 | nil => rfl
 | cons b r ih =>
  simp only [Lib.indexByte] at h
  split at h
  ·omega
  ·rename_i hb
   split at h
   ·rename_i h1
    have h1 : Lib.indexByte r c = -1 := by simpa using h1
    have := ih (by omega)
    have hb : (b == c) = false := by simpa using hb
    simp only [jju, hb, cond_false, this]
   ·rename_i h1
    have := Lib.indexByte_ge r c
    have h1 : ¬ Lib.indexByte r c = -1 := by simpa using h1
    omega
theorem splitL_some {c : UInt8} {s : Str} (h : 0 ≤ Lib.indexByte s c) : jju c s = s.take (Lib.indexByte s c).toNat :: jju c (s.drop ((Lib.indexByte s c).toNat + 1)) ∧ (Lib.indexByte s c).toNat < s.length := by
 induction s with
 | nil => simp [Lib.indexByte] at h
 | cons b r ih =>
  simp only [Lib.indexByte] at h ⊢
  by_cases hb : (b == c) = true
  ·simp only [hb, if_true] at h ⊢
   simp [jju, hb]
  ·have hb' : (b == c) = false := by simpa using hb
   simp only [hb', Bool.false_eq_true, if_false] at h ⊢
   by_cases h1 : (Lib.indexByte r c == -1) = true
   ·simp only [h1, if_true] at h; omega
   ·have h1' : (Lib.indexByte r c == -1) = false := by simpa using h1
    simp only [h1', Bool.false_eq_true, if_false] at h ⊢
    have hge := Lib.indexByte_ge r c
    have h1 : ¬ Lib.indexByte r c = -1 := by simpa using h1
    obtain ⟨g1, g2⟩ := ih (by omega)
    have e : (Lib.indexByte r c + 1).toNat = (Lib.indexByte r c).toNat + 1 := by omega
    rw [e]
    refine ⟨?_, by simp; omega⟩
    simp only [jju, hb', cond_false, g1, List.take_succ_cons, List.drop_succ_cons]
def iy (k : Nat) (c : UInt8) (r : Str) : (itSh k []).Y := ((([c], ()), ((), ((0, ()), ()))), ((r, ()), ()))
def ist (k : Nat) (c : UInt8) (r : Str) : St := (itSh k []).st (iy k c r)
def kEnd (k : Nat) : Out → Option (itSh k []).Y
 | .norm st => (itSh k []).ex st
 | _ => none
def kCut (k t7 t8 : Nat) : Out → Option (Sum (itSh k []).Y ((Int × Str) × (itSh k []).Y))
 | .norm st => match st.get t7, st.get t8 with
  | .av (.lf (.d (.int .i64 i))), .av (.lf (.d (.str x))) => ((itSh k []).ex st).map fun y => .inr ((i, x), y)
  | _, _ => none
 | _ => none
noncomputable def kIf (C : CtxC) (k t7 t8 : Nat) (r7 : Code) (p7 : Nat) : Out → Option (Sum (itSh k []).Y ((Int × Str) × (itSh k []).Y))
 | .exit id st => bif Nat.beq id 2 then ((itSh k []).ex st).map .inl else none
 | .norm st => exec C r7 p7 st (kCut k t7 t8)
 | _ => none
noncomputable def kIdx (C : CtxC) (k t7 t8 : Nat) (c6 r7 : Code) (p6 p7 : Nat) : Out → Option (Sum (itSh k []).Y ((Int × Str) × (itSh k []).Y))
 | .norm st => exec C c6 p6 st (kIf C k t7 t8 r7 p7)
 | _ => none
noncomputable def two (k : Nat) (C : Ctx) (st : St) (o0 o1 : Oper) (a b : Nat) : Option ((Value × Str) × (itSh k []).Y) :=
 jxS C st o0 fun st => jxS C st o1 fun st => match st.get a, st.get b with
  | .av (.lf (.cst v)), .av (.lf (.d (.str x))) => ((itSh k []).ex st).map fun y => ((v, x), y)
  | _, _ => none
noncomputable def one3 (k : Nat) (C : Ctx) (st : St) (o3 : Oper) (t42 : Nat) : Option (Bool × (itSh k []).Y) :=
 jxS C st o3 fun st => match st.get t42 with
  | .av (.lf (.d (.bool b))) => ((itSh k []).ex st).map fun y => (b, y)
  | _ => none
section
variable {P : Program} {w0 : World} {fb : List Nat} {X : Nat → Prop} {ι : Nat → Value} {st : St} {tm : Array Value} {w : World}
theorem slot_int (S : Sim w0 fb X ι st tm w) {t : Nat} {k : IntKind} {n : Int} (h : st.get t = .av (.lf (.d (.int k n)))) : tm.getD t undef = .int k n := by
 have := S.slots t; rw [h] at this; exact jxw this
theorem slot_str (S : Sim w0 fb X ι st tm w) {t : Nat} {x : Str} (h : st.get t = .av (.lf (.d (.str x)))) : ∃ b, tm.getD t undef = .string b ∧ b.data.toList = x := by
 have := S.slots t; rw [h] at this; exact jqy this
theorem slot_bool (S : Sim w0 fb X ι st tm w) {t : Nat} {x : Bool} (h : st.get t = .av (.lf (.d (.bool x)))) : tm.getD t undef = .bool x := by
 have := S.slots t; rw [h] at this; exact jqv this
theorem slot_cst (S : Sim w0 fb X ι st tm w) {t : Nat} {x : Value} (h : st.get t = .av (.lf (.cst x))) : tm.getD t undef = x := by
 have := S.slots t; rw [h] at this; exact this
theorem two_ok {C : Ctx} (H : CtxGood P C) {k : Nat} {o0 o1 : Oper} {a b : Nat} {v : Value} {x : Str} {y : (itSh k []).Y} (h : two k C st o0 o1 a b = some ((v, x), y)) (S : Sim w0 fb X ι st tm w) {ds : List Deferred} {K : Act → World → Prop} {Q : Exit → Act → World → Prop}
  (hK : ∀ tm' w' xb ι', tm'.getD a undef = v → tm'.getD b undef = .string xb → xb.data.toList = x → (∀ t, t ∉ o0.dst.toList ++ o1.dst.toList → tm'.getD t undef = tm.getD t undef) →
   Sim w0 fb X ι' ((itSh k []).st y) tm' w' → K ⟨tm', ds⟩ w') : o0.wpIn (FR none) 0 P ⟨tm, ds⟩ w (fun a' w' => o1.wpIn (FR none) 0 P a' w' K Q) Q := by
 refine jzL S H h fun st1 ι1 tm1 w1 e1 S1 ht1 => ?_
 refine jzL S1 H e1 fun st2 ι2 tm2 w2 e2 S2 ht2 => ?_
 split at e2
 ·rename_i v' x' ha hb
  obtain ⟨y', hy, he⟩ := Option.map_eq_some_iff.1 e2
  cases he
  obtain ⟨xb, g1, g2⟩ := slot_str S2 hb
  obtain ⟨ι3, S3, _⟩ := Shape.ex_ok S2 hy
  refine hK tm2 w2 xb ι3 (slot_cst S2 ha) g1 g2 (fun t ht => ?_) S3
  simp only [List.mem_append, not_or] at ht
  rw [ht2 t ht.2, ht1 t ht.1]
 ·cases e2
theorem one3_ok {C : Ctx} (H : CtxGood P C) {k : Nat} {o3 : Oper} {t42 : Nat} {b : Bool} {y : (itSh k []).Y} (h : one3 k C st o3 t42 = some (b, y)) (S : Sim w0 fb X ι st tm w) {ds : List Deferred} {K : Act → World → Prop} {Q : Exit → Act → World → Prop}
  (hK : ∀ tm' w' ι', tm'.getD t42 undef = .bool b → (∀ t, t ∉ o3.dst.toList → tm'.getD t undef = tm.getD t undef) → Sim w0 fb X ι' ((itSh k []).st y) tm' w' → K ⟨tm', ds⟩ w') : o3.wpIn (FR none) 0 P ⟨tm, ds⟩ w K Q := by
 refine jzL S H h fun st1 ι1 tm1 w1 e1 S1 ht1 => ?_
 split at e1
 ·rename_i b' hb
  obtain ⟨y', hy, he⟩ := Option.map_eq_some_iff.1 e1
  cases he
  obtain ⟨ι3, S3, _⟩ := Shape.ex_ok S1 hy
  exact hK tm1 w1 ι3 (slot_bool S1 hb) ht1 S3
 ·cases e1
structure IterText (P : Program) (C : CtxC) (g' : FuncId) (fn : Func) (k : Nat) (A r5 c6 r7 r9 : Code) (o0 o1 o2 o3 q0 q1 q2 : Oper) (pA p5 p6 p7 p9 t7 t8 a1 a2 t41 t42 u1 u2 : Nat) (ty ty' : Array TypeId) : Prop where
 isFn : P.funcs[g']? = some fn
 nt : fn.ntmps = k
 k4 : 4 ≤ k
 res : fn.results = #[]
 ent : ∀ args w, (callFunc g' args).run P w = .ok (.enter g' args) w
 body : ∃ i8 i10, fn.body = some (.seq A (.seq (.block 2 (.loop (.block 3 (.seq r5 (.seq c6 (.seq r7 (.seq (.seq (.region i8 #[o0, o1, o2, o3] false) (.cond (.tmp t42) .ret .skip)) r9))))))) (.region i10 #[q0, q1, q2] false)))
 nr : (jqr A && (jqr r5 && (jqr c6 && (jqr r7 && jqr r9)))) = true
 wr : jq5 [0, 1, 2, 3] (wrC A ++ (wrC r5 ++ (wrC c6 ++ (wrC r7 ++ wrC r9)))) = true
 gd : o0.guard = none ∧ o1.guard = none ∧ o2.guard = none ∧ o3.guard = none ∧ q0.guard = none ∧ q1.guard = none ∧ q2.guard = none
 wo : jq5 [0, 1, 2, 3, t7] (o0.dst.toList ++ (o1.dst.toList ++ (o3.dst.toList ++ [t41]))) = true
 wq : jq5 [0, 1, 2, 3] (q0.dst.toList ++ q1.dst.toList) = true
 d2 : o2.dst = some t41
 lt41 : t41 < k
 c2 : o2.op = .call { callee := .value (.tmp a1), args := #[.tmp a2], argTypes := ty }
 d5 : q2.op = .call { callee := .value (.tmp u1), args := #[.tmp u2], argTypes := ty' }
 orcs : Orcs P C A pA ∧ Orcs P C r5 p5 ∧ Orcs P C c6 p6 ∧ Orcs P C r7 p7 ∧ Orcs P C r9 p9
 hA : ∀ c r, exec C A pA (ist k c r) (kEnd k) = some (iy k c r)
 hB : ∀ c r, exec C r5 p5 (ist k c r) (kIdx C k t7 t8 c6 r7 p6 p7) = bif decide (Lib.indexByte r c < 0) then some (.inl (iy k c r)) else (jqE r 0 (IntKind.i64.wrap (Lib.indexByte r c + 0))).bind fun x => some (.inr ((Lib.indexByte r c, x), iy k c r))
 hT : ∀ c r i x v, two k C.toCtx ((((ist k c r).set t7 (one (.int .i64 i))).set t8 (one (.str x))).set 0 (lfv (.cst v))) o0 o1 a1 a2 = some ((v, x), iy k c r)
 h3 : ∀ c r b, one3 k C.toCtx ((ist k c r).set t41 (one (.bool b))) o3 t42 = some (!b, iy k c r)
 h30 : (jxS C.toCtx ⟨[(t41, one (.bool false))], [], k⟩ o3 fun st => match st.get t42 with | .av (.lf (.d (.bool b))) => some b | _ => none) = some true
 hC : ∀ c r i, exec C r9 p9 ((ist k c r).set t7 (one (.int .i64 i))) (kEnd k) = (jqE r (IntKind.i64.wrap (i + (([c] : Str).length : Int))) r.length).bind fun x => some (iy k c x)
 hQ : ∀ c r v, two k C.toCtx ((ist k c r).set 0 (lfv (.cst v))) q0 q1 u1 u2 = some ((v, r), iy k c r)
end
section
variable {P : Program} {C : CtxC} {b1 b2 b3 l k : Nat} {p : ByteArray} {T1 T3 : TypeId} {c : UInt8} {r r' : Str} {tm : Array Value} {W : World}
theorem jqF {a b : List Nat} (h : jq5 a b = true) {t : Nat} (ht : t ∈ a) : t ∉ b := fun h' => by have := jxY ht h'; rw [h] at this; cases this
theorem wrap_small {n : Int} (h : 0 ≤ n) (h2 : n ≤ 4611686018427387905) : IntKind.i64.wrap n = n := by
 have e1 : IntKind.i64.bits = 64 := rfl
 have e2 : IntKind.i64.signed = true := rfl
 unfold IntKind.wrap
 simp only [e1, e2, Bool.true_and, decide_eq_true_eq]
 have e3 : (2 ^ 64 : Int) = 18446744073709551616 := by decide
 have e4 : (2 ^ (64 - 1) : Int) = 9223372036854775808 := by decide
 rw [e3, e4]
 have : n % 18446744073709551616 = n := Int.emod_eq_of_lt h (by omega)
 rw [this]
 rw [if_neg (by omega)]
theorem iter_ok (H : CtxGood P C.toCtx) {g' : FuncId} {fn : Func} {k : Nat} {A r5 c6 r7 r9 : Code} {o0 o1 o2 o3 q0 q1 q2 : Oper} {pA p5 p6 p7 p9 t7 t8 a1 a2 t41 t42 u1 u2 : Nat} {ty ty' : Array TypeId}
  (T : IterText P C g' fn k A r5 c6 r7 r9 o0 o1 o2 o3 q0 q1 q2 pA p5 p6 p7 p9 t7 t8 a1 a2 t41 t42 u1 u2 ty ty') (hmark : jq5 [jqm] (wrC A ++ (wrC r5 ++ (wrC c6 ++ (wrC r7 ++ wrC r9)))) = true) (ht78 : t7 ≠ t8 ∧ t7 ≠ 0 ∧ t8 ≠ 0 ∧ t41 ≠ t7 ∧ t41 ≠ 0) : jx2 P g' := by
 refine ⟨T.ent, ?_⟩
 intro l b1 b2 b3 p s c T1 T2 T3 W J Jx hp hlen n12 n13 n23 h1 h2 h3 aJ aX round hJ0
 obtain ⟨i8, i10, hbody⟩ := T.body
 have nr := T.nr
 simp only [Bool.and_eq_true] at nr
 obtain ⟨nrA, nr5, nr6, nr7, nr9⟩ := nr
 have four : ∀ {t : Nat}, t < 4 → t ∈ [0, 1, 2, 3] := fun {t} h => by
  have : t = 0 ∨ t = 1 ∨ t = 2 ∨ t = 3 := by omega
  rcases this with rfl | rfl | rfl | rfl <;> simp
 have hw4 : ∀ t, t < 4 → t ∉ wrC A ∧ t ∉ wrC r5 ∧ t ∉ wrC c6 ∧ t ∉ wrC r7 ∧ t ∉ wrC r9 := fun t ht => by
  have := jqF T.wr (four ht)
  simpa only [List.mem_append, not_or] using this
 have hwm : jqm ∉ wrC A ∧ jqm ∉ wrC r5 ∧ jqm ∉ wrC c6 ∧ jqm ∉ wrC r7 ∧ jqm ∉ wrC r9 := by
  have := jqF hmark (List.mem_singleton.2 rfl)
  simpa only [List.mem_append, not_or] using this
 have arrive : ∀ {r r' : Str} {tm : Array Value} {W : World} {Wd : List Nat} {st' : St} {a' : Act} {w' : World}, ItAt b1 b2 b3 p T1 T3 l k r tm W → (∀ t, t < 4 → t ∉ Wd) → jqm ∉ Wd → At W [b2] (fun _ => False) [] tm Wd st' a' w' → (itSh k []).ex st' = some (iy k c r') →
   a'.defers = [] ∧ ItAt b1 b2 b3 p T1 T3 l k r' a'.tmps w' ∧ Fr [b2] W w' := by
  rintro r r' tm W Wd st' a' w' I hd hm ⟨w1, fb1, X1, ι, Ds, B, M, ⟨hdf, hds⟩, S, kept⟩ hex
  have hDs := hds hm
  subst hDs
  obtain ⟨ι2, S2, _⟩ := Shape.ex_ok S hex
  have S3 := Sim.unbase B S2
  exact ⟨hdf, I.of n12 n23 S3 (fun t ht => kept t (hd t ht)) rfl, S3.frame⟩
 refine callsIn_of_wp_marks T.isFn hbody trivial ?_ rfl
 obtain ⟨tm0, htm0⟩ : ∃ tm0, (#[.func (.yield l) #[] #[]] ++ #[.pointer (some ⟨b1, 0, none⟩), .pointer (some ⟨b2, 0, none⟩), .pointer (some ⟨b3, 0, none⟩)] ++
   Array.replicate (fn.ntmps - (#[Value.func (.yield l) #[] #[]] ++ #[Value.pointer (some ⟨b1, 0, none⟩), Value.pointer (some ⟨b2, 0, none⟩), Value.pointer (some ⟨b3, 0, none⟩)] : Array Value).size) undef : Array Value) = tm0 := ⟨_, rfl⟩
 rw [htm0]
 have k4 := T.k4
 have I0 : ItAt b1 b2 b3 p T1 T3 l k s.data.toList tm0 W := by
  refine ⟨?_, ?_, ?_, ?_, ?_, h1, ⟨s, T2, h2, rfl⟩, h3⟩
  ·rw [← htm0, T.nt]; simp; omega
  ·rw [← htm0]; simp [Array.getD_eq_getD_getElem?, Array.getElem?_append]
  ·rw [← htm0]; simp [Array.getD_eq_getD_getElem?, Array.getElem?_append]
  ·rw [← htm0]; simp [Array.getD_eq_getD_getElem?, Array.getElem?_append]
  ·rw [← htm0]; simp [Array.getD_eq_getD_getElem?, Array.getElem?_append]
 obtain ⟨R, hR⟩ : ∃ R : Ending → World → Prop, R = fun e W' => (∃ v, e = .returned v) ∧ (J [] W' ∨ Jx W') := ⟨_, rfl⟩
 rw [← hR]
 have fin : ∀ (tm : Array Value) (W' : World), (J [] W' ∨ Jx W') → LeavesInM (FR none) 0 P fn tm R [] .returning W' := fun tm W' h => by
  refine ⟨.tuple #[], run_results (outs := []) (by rw [T.res]) (rv := []) (by simp), ?_⟩
  rw [hR]; exact ⟨⟨_, rfl⟩, h⟩
 refine wpIn_seq (jxE (rn := none) H A pA (.inr nrA) T.orcs.1 W [b2] _ (ist k c s.data.toList) _ tm0 W [] (kEnd k) _ (T.hA c s.data.toList) (I0.sim n12 n23 hp) ?_)
 intro oA eA aA wA hkA hlA
 cases oA with
 | exit id st => cases hkA
 | ret st => cases hkA
 | norm stA =>
 cases eA <;> try exact hlA.elim
 obtain ⟨dA, IA, FA⟩ := arrive I0 (fun t ht => (hw4 t ht).1) hwm.1 hlA hkA
 have JA := aJ _ _ _ hJ0 FA
 obtain ⟨tmA, dfA⟩ := aA
 have dA : dfA = [] := dA
 subst dA
 have last : ∀ {r : Str} {tm : Array Value} {W : World}, ItAt b1 b2 b3 p T1 T3 l k r tm W → J [r] W → CW none P (.region i10 #[q0, q1, q2] false) (bodyPostM (FR none) 0 P fn R) ⟨tm, []⟩ W := by
  intro r tm W I hj
  refine wpIn_region ?_
  rw [show List.range (#[q0, q1, q2] : Array Oper).size = [0, 1, 2] from rfl]
  have S := (I.sim n12 n23 hp).reslot (t := 0) (v := lfv (.cst (.func (.yield l) #[] #[]))) (show tm.getD 0 undef = _ from I.y0)
  have g4 : q0.guard = none := T.gd.2.2.2.2.1
  have g5 : q1.guard = none := T.gd.2.2.2.2.2.1
  have g6 : q2.guard = none := T.gd.2.2.2.2.2.2
  simp only [wpOpsIn, List.getElem?_toArray, List.getElem?_cons_zero, List.getElem?_cons_succ, Region.wanted, g4, g5, g6, if_true]
  refine two_ok H (T.hQ c r _) S ?_
  intro tm' w' xb ι' ya yb hxb kept S'
  have I' : ItAt b1 b2 b3 p T1 T3 l k r tm' w' := I.of n12 n23 S' (fun t ht => kept t (jqF T.wq (four ht))) rfl
  have J' := aJ _ _ _ hj S'.frame
  obtain ⟨s2, T2', h2', hs2⟩ := I'.h2
  refine yield_op T.d5 ya yb (round r [] w' xb J' (Array.getElem?_eq_some_iff.1 I'.h1).1 (Array.getElem?_eq_some_iff.1 h2').1 (Array.getElem?_eq_some_iff.1 I'.h3).1 hxb) ?_
  rintro e w2 (⟨rfl, g, _⟩ | ⟨rfl, g⟩)
  ·exact ⟨_, rfl, fin _ _ (.inl g)⟩
  ·exact ⟨_, rfl, fin _ _ (.inr g)⟩
 refine wpIn_seq (wpIn_block (wpIn_loop (I := fun a W => ∃ r tm, a = ⟨tm, []⟩ ∧ ItAt b1 b2 b3 p T1 T3 l k r tm W ∧ J (jju c r) W ∧ r.length ≤ jxZ)
  (μ := fun a W => match W.heap[b2]? with | some (.cells cur _ _) => (match cur.toList with | [.string s] => s.data.toList.length | _ => 0) | _ => 0) ⟨_, tmA, rfl, IA, JA, hlen⟩ ?_))
 rintro a W ⟨r, tm, rfl, I, hj, hrl⟩
 have hμ : (match W.heap[b2]? with | some (.cells cur _ _) => (match cur.toList with | [.string s] => s.data.toList.length | _ => 0) | _ => 0) = r.length := by
  obtain ⟨s2, T2', h2', hs2⟩ := I.h2
  rw [h2']; simp only; rw [hs2]
 rw [hμ]
 have cutQ : ∃ res, exec C r5 p5 (ist k c r) (kIdx C k t7 t8 c6 r7 p6 p7) = some res ∧ ((res = .inl (iy k c r) ∧ jju c r = [r]) ∨ ∃ i x, res = .inr ((i, x), iy k c r) ∧ 0 ≤ i ∧ i.toNat < r.length ∧ x = r.take i.toNat ∧ jju c r = x :: jju c (r.drop (i.toNat + 1)) ) := by
  rw [T.hB]
  by_cases hi : Lib.indexByte r c < 0
  ·simp only [hi, decide_true, cond_true]
   exact ⟨_, rfl, .inl ⟨rfl, splitL_none hi⟩⟩
  ·simp only [hi, decide_false, cond_false]
   obtain ⟨g1, g2⟩ := splitL_some (c := c) (s := r) (by omega)
   have hw : IntKind.i64.wrap (Lib.indexByte r c + 0) = Lib.indexByte r c := by rw [Int.add_zero]; exact wrap_small (by omega) (by unfold jxZ at hrl; omega)
   have hsub : jqE r 0 (IntKind.i64.wrap (Lib.indexByte r c + 0)) = some (r.take (Lib.indexByte r c).toNat) := by
    rw [hw]; unfold jqE; rw [if_pos ⟨by omega, by omega, by omega⟩]; simp
   rw [hsub]
   exact ⟨_, rfl, .inr ⟨_, _, rfl, by omega, g2, rfl, g1⟩⟩
 obtain ⟨res, hres, hcase⟩ := cutQ
 refine wpIn_block (wpIn_seq (jxE (rn := none) H r5 p5 (.inr nr5) T.orcs.2.1 W [b2] _ (ist k c r) _ tm W [] (kIdx C k t7 t8 c6 r7 p6 p7) _ hres (I.sim n12 n23 hp) ?_))
 intro o5 e5 a5 w5 hk5 hl5
 cases o5 with
 | exit id st => cases hk5
 | ret st => cases hk5
 | norm st5 =>
 cases e5 <;> try exact hl5.elim
 obtain ⟨wa, fa, Xa, ιa, Da, Ba, Ma, ⟨da, dar⟩, Sa, ka⟩ := hl5
 obtain ⟨tm5, df5⟩ := a5
 have da : df5 = Da.map mark ++ [] := da
 subst da
 refine wpIn_seq (jxE (rn := none) H c6 p6 (.inr nr6) T.orcs.2.2.1 wa fa Xa st5 ιa tm5 w5 _ (kIf C k t7 t8 r7 p7) _ hk5 Sa ?_)
 intro o6 e6 a6 w6 hk6 hl6
 have hl6 := Lands.trans Ba Ma dar ka hl6
 cases o6 with
 | ret st => cases hk6
 | exit id st6 =>
  cases e6 <;> try exact hl6.elim
  obtain ⟨hide, hl6'⟩ := hl6
  subst hide
  cases hid : Nat.beq id 2 with
  | false => simp [kIf, hid] at hk6
  | true =>
   have hid := Nat.eq_of_beq_eq_true hid
   subst hid
   simp only [kIf, Nat.beq_refl, cond_true] at hk6
   obtain ⟨y, hy, hyr⟩ := Option.map_eq_some_iff.1 hk6
   rcases hcase with ⟨rfl, hs⟩ | ⟨i, x, rfl, _⟩
   ·cases hyr
    obtain ⟨d6, I6, F6⟩ := arrive I (fun t ht => by simp only [List.mem_append, not_or]; exact ⟨(hw4 t ht).2.1, (hw4 t ht).2.2.1⟩) (by simp only [List.mem_append, not_or]; exact ⟨hwm.2.1, hwm.2.2.1⟩) hl6' hy
    obtain ⟨tm6, df6⟩ := a6
    have d6 : df6 = [] := d6
    subst d6
    have := last I6 (by rw [← hs]; exact aJ _ _ _ hj F6)
    exact this
   ·cases hyr
 | norm st6 =>
 cases e6 <;> try exact hl6.elim
 simp only [kIf] at hk6
 obtain ⟨wb, fb, Xb, ιb, Db, Bb, Mb, ⟨db, dbr⟩, Sb, kb⟩ := hl6
 obtain ⟨tm6, df6⟩ := a6
 have db : df6 = Db.map mark ++ [] := db
 subst db
 refine wpIn_seq (jxE (rn := none) H r7 p7 (.inr nr7) T.orcs.2.2.2.1 wb fb Xb st6 ιb tm6 w6 _ (kCut k t7 t8) _ hk6 Sb ?_)
 intro o7 e7 a7 w7 hk7 hl7
 have hl7 := Lands.trans Bb Mb dbr kb hl7
 cases o7 with
 | exit id st => cases hk7
 | ret st => cases hk7
 | norm st7 =>
 cases e7 <;> try exact hl7.elim
 simp only [kCut] at hk7
 split at hk7
 case h_2 => cases hk7
 rename_i i x hi7 hx8
 obtain ⟨y, hy, hyr⟩ := Option.map_eq_some_iff.1 hk7
 rcases hcase with ⟨rfl, _⟩ | ⟨i', x', rfl, q1, q2, q3, q4⟩
 ·cases hyr
 cases hyr
 have hl70 := hl7
 obtain ⟨d7, I7, F7⟩ := arrive I (fun t ht => by simp only [List.mem_append, not_or]; exact ⟨⟨(hw4 t ht).2.1, (hw4 t ht).2.2.1⟩, (hw4 t ht).2.2.2.1⟩)
  (by simp only [List.mem_append, not_or]; exact ⟨⟨hwm.2.1, hwm.2.2.1⟩, hwm.2.2.2.1⟩) hl7 hy
 obtain ⟨wc, fc, Xc, ιc, Dc, _, _, _, Sc, _⟩ := hl70
 have v7 := slot_int Sc hi7
 obtain ⟨xb, v8, hxb⟩ := slot_str Sc hx8
 obtain ⟨tm7, df7⟩ := a7
 have d7 : df7 = [] := d7
 subst d7
 have J7 := aJ _ _ _ hj F7
 rw [q4] at J7
 refine wpIn_seq (wpIn_seq (wpIn_region ?_))
 rw [show List.range (#[o0, o1, o2, o3] : Array Oper).size = [0, 1, 2, 3] from rfl]
 have g0 : o0.guard = none := T.gd.1
 have g1 : o1.guard = none := T.gd.2.1
 have g2 : o2.guard = none := T.gd.2.2.1
 have g3 : o3.guard = none := T.gd.2.2.2.1
 simp only [wpOpsIn, List.getElem?_toArray, List.getElem?_cons_zero, List.getElem?_cons_succ, Region.wanted, g0, g1, g2, g3, if_true]
 have S7 := (((I7.sim n12 n23 hp).reslot (t := t7) (v := one (.int .i64 i)) (by rw [show tm7.getD t7 undef = _ from v7]; exact .int _ _)).reslot (t := t8) (v := one (.str x)) (by rw [show tm7.getD t8 undef = _ from v8]; exact .str _ _ hxb)).reslot (t := 0) (v := lfv (.cst (.func (.yield l) #[] #[]))) (show tm7.getD 0 undef = _ from I7.y0)
 refine two_ok H (T.hT c r i x _) S7 ?_
 intro tm8 w8 xb8 ι8 ya yb hxb8 kept8 S8
 have hwo : ∀ t, t ∈ [0, 1, 2, 3, t7] → t ∉ o0.dst.toList ++ o1.dst.toList ∧ t ∉ o3.dst.toList ∧ t ≠ t41 := fun t ht => by
  have := jqF T.wo ht
  simp only [List.mem_append, List.mem_singleton, not_or] at this
  exact ⟨by simp only [List.mem_append, not_or]; exact ⟨this.1, this.2.1⟩, this.2.2.1, this.2.2.2⟩
 have five : ∀ {t : Nat}, t < 4 → t ∈ [0, 1, 2, 3, t7] := fun {t} h => by
  have := four h
  simp only [List.mem_cons, List.not_mem_nil, or_false] at this ⊢
  rcases this with h | h | h | h <;> simp [h]
 have m7 : t7 ∈ [0, 1, 2, 3, t7] := by simp
 have I8 : ItAt b1 b2 b3 p T1 T3 l k r tm8 w8 := I7.of n12 n23 S8 (fun t ht => kept8 t (hwo t (five ht)).1) rfl
 have v87 : tm8.getD t7 undef = .int .i64 i := (kept8 t7 (hwo t7 m7).1).trans v7
 have J8 := aJ _ _ _ J7 S8.frame
 obtain ⟨s2, T2', h2', hs2⟩ := I8.h2
 refine yield_op T.c2 ya yb (round x _ w8 xb8 J8 (Array.getElem?_eq_some_iff.1 I8.h1).1 (Array.getElem?_eq_some_iff.1 h2').1 (Array.getElem?_eq_some_iff.1 I8.h3).1 hxb8) ?_
 have behind : ∀ (b : Bool) (w9 : World), ItAt b1 b2 b3 p T1 T3 l k r (jxB tm8 o2.dst (.bool b)) w9 → (b = true → J (jju c (r.drop (i.toNat + 1))) w9) → (b = false → Jx w9) → ∀ Q : Exit → Act → World → Prop,
   (∀ a w, a.defers = [] → Jx w → Q .ret a w) → (∀ tm2 w2, ItAt b1 b2 b3 p T1 T3 l k (r.drop (i.toNat + 1)) tm2 w2 → J (jju c (r.drop (i.toNat + 1))) w2 → Q .normal ⟨tm2, []⟩ w2) →
   o3.wpIn (FR none) 0 P ⟨jxB tm8 o2.dst (.bool b), []⟩ w9 (Exit.then (fun a w => CW none P (.cond (.tmp t42) .ret .skip) (Exit.then (fun a w => CW none P r9 Q a w) Q) a w) (Exit.then (fun a w => CW none P r9 Q a w) Q) .normal)
    (Exit.then (fun a w => CW none P (.cond (.tmp t42) .ret .skip) (Exit.then (fun a w => CW none P r9 Q a w) Q) a w) (Exit.then (fun a w => CW none P r9 Q a w) Q)) := by
  intro b w9 I9 hbt hbf Q hret hnorm
  have vb : (jxB tm8 o2.dst (.bool b)).getD t41 undef = .bool b := by
   rw [T.d2]
   have : t41 < tm8.size := by rw [I8.size]; exact T.lt41
   simp [jxB, Array.getD_eq_getD_getElem?, this]
  have v97 : (jxB tm8 o2.dst (.bool b)).getD t7 undef = .int .i64 i := by
   rw [putT_ne (by rw [T.d2]; simp; exact (hwo t7 m7).2.2)]; exact v87
  have S9 := (I9.sim n12 n23 hp).reslot (t := t41) (v := one (.bool b)) (by rw [show (jxB tm8 o2.dst (.bool b)).getD t41 undef = _ from vb]; exact .bool _)
  refine one3_ok H (T.h3 c r b) S9 ?_
  intro tm10 w10 ι10 v42 kept10 S10
  have I10 : ItAt b1 b2 b3 p T1 T3 l k r tm10 w10 := I9.of n12 n23 S10 (fun t ht => kept10 t (hwo t (five ht)).2.1) rfl
  have v107 : tm10.getD t7 undef = .int .i64 i := (kept10 t7 (hwo t7 m7).2.1).trans v97
  cases b with
  | false =>
   have hj9 := aX _ _ (hbf rfl) S10.frame
   exact wpIn_cond (t := true) v42 (wpIn_ret (hret _ _ rfl hj9))
  | true =>
   have hj9 := aJ _ _ _ (hbt rfl) S10.frame
   refine wpIn_cond (t := false) v42 (wpIn_skip ?_)
   have Se := (I10.sim n12 n23 hp).reslot (t := t7) (v := one (.int .i64 i)) (by rw [show tm10.getD t7 undef = _ from v107]; exact .int _ _)
   have hsub : jqE r (IntKind.i64.wrap (i + (([c] : Str).length : Int))) r.length = some (r.drop (i.toNat + 1)) := by
    have e1 : (([c] : Str).length : Int) = 1 := rfl
    rw [e1, wrap_small (by omega) (by unfold jxZ at hrl; omega)]
    unfold jqE
    rw [if_pos ⟨by omega, by omega, by omega⟩]
    have e2 : (i + 1).toNat = i.toNat + 1 := by omega
    simp [e2]
   have hC := T.hC c r i
   rw [hsub] at hC
   refine jxE (rn := none) H r9 p9 (.inr nr9) T.orcs.2.2.2.2 w10 [b2] _ _ _ tm10 w10 [] (kEnd k) _ hC Se ?_
   intro o11 e11 a11 w11 hk11 hl11
   cases o11 with
   | exit id st => cases hk11
   | ret st => cases hk11
   | norm st11 =>
   cases e11 <;> try exact hl11.elim
   obtain ⟨d11, I11, F11⟩ := arrive I10 (fun t ht => (hw4 t ht).2.2.2.2) hwm.2.2.2.2 hl11 hk11
   obtain ⟨tm11, df11⟩ := a11
   have d11 : df11 = [] := d11
   subst d11
   exact hnorm tm11 w11 I11 (aJ _ _ _ hj9 F11)
 have same : ∀ {b : Bool} {w9 : World}, w8.heap.size ≤ w9.heap.size → w9.heap[b1]? = w8.heap[b1]? → w9.heap[b2]? = w8.heap[b2]? → w9.heap[b3]? = w8.heap[b3]? → ItAt b1 b2 b3 p T1 T3 l k r (jxB tm8 o2.dst (.bool b)) w9 := by
  intro b w9 _ e1 e2 e3
  have hp4 : ∀ t, t < 4 → (jxB tm8 o2.dst (.bool b)).getD t undef = tm8.getD t undef := fun t ht => putT_ne (by rw [T.d2]; simp; exact (hwo t (five ht)).2.2)
  refine ⟨?_, (hp4 0 (by omega)).trans I8.y0, (hp4 1 (by omega)).trans I8.y1, (hp4 2 (by omega)).trans I8.y2, (hp4 3 (by omega)).trans I8.y3, e1.trans I8.h1, ?_, e3.trans I8.h3⟩
  ·rw [← I8.size]; cases o2.dst <;> simp [jxB]
  ·obtain ⟨s3, T3', g, g'⟩ := I8.h2
   exact ⟨s3, T3', e2.trans g, g'⟩
 rintro e w9 (⟨rfl, gJ, gs, gb1, gb2, gb3⟩ | ⟨rfl, gx⟩)
 ·refine ⟨_, rfl, behind true w9 (same gs gb1 gb2 gb3) (fun _ => gJ) (fun h => by cases h) _ (fun a w hd hx => ?_) (fun tm2 w2 I2 J2 => ?_)⟩
  ·show LeavesInM (FR none) 0 P fn a.tmps R a.defers .returning w
   rw [hd]; exact fin _ _ (.inr hx)
  ·have hd : (r.drop (i.toNat + 1)).length < r.length := by rw [List.length_drop]; omega
   refine ⟨⟨_, tm2, rfl, I2, J2, by omega⟩, ?_⟩
   obtain ⟨s4, T4', g4, hs4⟩ := I2.h2
   rw [g4]; simp only; rw [hs4]; exact hd
 ·refine ⟨_, rfl, ?_⟩
  have vb : (jxB tm8 o2.dst (.bool false)).getD t41 undef = .bool false := by
   rw [T.d2]
   have : t41 < tm8.size := by rw [I8.size]; exact T.lt41
   simp [jxB, Array.getD_eq_getD_getElem?, this]
  have S9 : Sim w9 [] (fun _ => False) noι ⟨[(t41, one (.bool false))], [], k⟩ (jxB tm8 o2.dst (.bool false)) w9 := by
   refine ⟨?_, fun t => ?_, fun σ site h => (by cases h), fun σ τ b h => (by obtain ⟨_, h, _⟩ := h; cases h), fun σ b h => (by obtain ⟨_, h, _⟩ := h; cases h), Fr.refl _ _, fun b h => h.elim⟩
   ·rw [T.d2]; simp [jxB, I8.size]
   ·show SVOk _ _ _ _ (match jjG [(t41, one (.bool false))] t with | some v => v | none => .av (.lf .any)) _
    simp only [jjG]
    cases hb : t41.beq t with
    | false => trivial
    | true =>
     have := Nat.eq_of_beq_eq_true hb
     subst this
     rw [vb]; exact .bool _
  refine jzL S9 H T.h30 fun st10 ι10 tm10 w10 e10 S10 _ => ?_
  split at e10
  ·rename_i b hb
   cases e10
   have hj9 := aX _ _ gx (S10.frame.mono fun b h => by simp at h)
   refine wpIn_cond (t := true) (slot_bool S10 hb) (wpIn_ret ?_)
   exact fin _ _ (.inr hj9)
  ·cases e10
end
def ridOf : Code → Nat
 | .region i _ _ => i
 | _ => 0
def jx8 : Code → Code
 | .rangeFunc _ _ a _ => a
 | _ => .skip
def jzr : Code → Code
 | .rangeFunc _ _ _ b => b
 | _ => .skip
def keysO : List (Nat × Orc) → List Nat
 | [] => []
 | p :: r => p.1 :: keysO r
theorem orcs_none {P : Program} {C : Ctx} {c : Code} {q : Nat} {fr : List (Nat × Orc)} (hd : jq5 (keysO fr) (jjJ (subs c q)) = true) : Orcs P (jjd C fr) c q := by
 refine orcs_of c q fun p c' hm f hf0 => ?_
 exfalso
 have hf : lookO fr p = some f := hf0
 clear hf0
 have h1 : p ∈ keysO fr := by
  clear hd
  induction fr with
  | nil => cases hf
  | cons x fr ih =>
   obtain ⟨k, g⟩ := x
   simp only [lookO] at hf
   cases hb : k.beq p with
   | true => rw [← Nat.eq_of_beq_eq_true hb]; exact List.mem_cons_self
   | false => simp only [hb, cond_false] at hf; exact List.mem_cons_of_mem _ (ih hf)
 have h2 : p ∈ jjJ (subs c q) := by
  generalize subs c q = l at hm
  induction l with
  | nil => cases hm
  | cons x l ih =>
   rcases List.mem_cons.1 hm with rfl | hm
   ·exact List.mem_cons_self
   ·exact List.mem_cons_of_mem _ (ih hm)
 rw [jxY h1 h2] at hd
 cases hd
theorem range_at {P : Program} {C : Ctx} (H : CtxGood P C) {g' : FuncId} (IT : jx2 P g') {c : Code} {q p t prm : Nat} {sh : Shape} {os : List OSh} {fr : List (Nat × Orc)} {F : Str → sh.Y → Option (Sum sh.Y (YS os))} {fin : sh.Y → Option (YS os)}
  (hat : jjc c q p = .rangeFunc (.tmp t) #[prm] (jx8 (jjc c q p)) (jzr (jjc c q p))) (hd : jq5 (keysO fr) (jjJ (subs (jx8 (jjc c q p)) (2 * p))) = true)
  (hu : jqt (jjJ (subs (jzr (jjc c q p)) (2 * p + 1))) = true) (hF : Frags P (jzr (jjc c q p)) (2 * p + 1) fr)
  (hr : ∀ x y, F x y = roundP (jjd C fr) (jx8 (jjc c q p)) (jzr (jjc c q p)) p prm sh os x y) (hfin : ∀ y, fin y = exS os (.norm (sh.st y)))
  (hdis : jq5 (jjJ sh.slots) (prm :: (wrC (jx8 (jjc c q p)) ++ wrC (jzr (jjc c q p)))) = true) (hnr1 : jqr (jx8 (jjc c q p)) = true) (hnr2 : jqr (jzr (jjc c q p)) = true)
  (hprm : Nat.blt prm sh.nt = true) (hnt : allNt sh.nt os = true) : jjj P (jjc c q p) (jq2 g' t sh os F fin) := by
 rw [hat]
 exact range_frag (C := jjd C fr) H IT (orcs_none hd) (jqp hu hF) hr hfin hdis hnr1 hnr2 (by simpa using hprm) hnt
theorem RdsOk.take {w : World} {av : Nat → Prop} {ds : List D} {vs : List Value} (h : RdsOk w av ds vs) (n : Nat) : RdsOk w av (ds.take n) (vs.take n) := by
 refine ⟨by rw [List.length_take, List.length_take, h.1], fun j g1 g2 => ?_⟩
 simp only [List.getElem_take]
 simp only [List.length_take] at g1 g2
 exact h.2 j (by omega) (by omega)
theorem RdsOk.drop {w : World} {av : Nat → Prop} {ds : List D} {vs : List Value} (h : RdsOk w av ds vs) (n : Nat) : RdsOk w av (ds.drop n) (vs.drop n) := by
 refine ⟨by rw [List.length_drop, List.length_drop, h.1], fun j g1 g2 => ?_⟩
 simp only [List.getElem_drop]
 simp only [List.length_drop] at g1 g2
 exact h.2 (n + j) (by omega) (by omega)
theorem RdsOk.app {w : World} {av : Nat → Prop} {ds ds' : List D} {vs vs' : List Value} (h : RdsOk w av ds vs) (h' : RdsOk w av ds' vs') : RdsOk w av (ds ++ ds') (vs ++ vs') := by
 refine ⟨by rw [List.length_append, List.length_append, h.1, h'.1], fun j g1 g2 => ?_⟩
 rw [List.getElem_append, List.getElem_append]
 have := h.1
 simp only [List.length_append] at g1 g2
 by_cases hj : j < ds.length
 ·rw [dif_pos hj, dif_pos (by omega)]
  exact h.2 j hj (by omega)
 ·rw [dif_neg hj, dif_neg (by omega)]
  have := h'.2 (j - ds.length) (by omega) (by omega)
  simpa [h.1] using this
theorem RdsOk.one {w : World} {av : Nat → Prop} {ds : List D} {vs : List Value} (h : RdsOk w av ds vs) : ∀ v ∈ vs, v.oneCell' = true := by
 intro v hv
 obtain ⟨j, hj, rfl⟩ := List.mem_iff_getElem.1 hv
 exact (h.2 j (by rw [← h.1]; exact hj) hj).oneCell
section
variable {α S Y B : Type}
theorem jqc {f : Y → Option (Sum Y B)} {y y' : Y} (h : f y = some (.inl y')) : jjF f y = jjF f y' := by rw [loopF_eq, h]
theorem jjC {f : Y → Option (Sum Y B)} {y : Y} {b : B} (h : f y = some (.inr b)) : jjF f y = some b := by rw [loopF_eq, h]
def jxl (body : Nat → α → S → Option (Sum S B)) (fin : S → B) : Nat → List α → S → Option B
 | _, [], s => some (fin s)
 | i, x :: r, s => match body i x s with
  | none => none
  | some (.inl s') => jxl body fin (i + 1) r s'
  | some (.inr b) => some b
theorem loop_from (g : Y → Option (Sum Y B)) (xs : List α) (st : Nat → S → Y) (body : Nat → α → S → Option (Sum S B)) (fin : S → B)
  (h1 : ∀ i x s, xs[i]? = some x → g (st i s) = (body i x s).map fun q => match q with | .inl s' => .inl (st (i + 1) s') | .inr b => .inr b)
  (h2 : ∀ s, g (st xs.length s) = some (.inr (fin s))) : ∀ (r : List α) (k : Nat), (∀ i, r[i]? = xs[k + i]?) → k ≤ xs.length → ∀ s, jjF g (st k s) = jxl body fin k r s := by
 intro r
 induction r with
 | nil =>
  intro k hr hk s
  have : k = xs.length := by
   have := hr 0
   simp only [List.getElem?_nil, Nat.add_zero] at this
   have := (List.getElem?_eq_none_iff.1 this.symm)
   omega
  subst this
  exact jjC (h2 s)
 | cons x r ih =>
  intro k hr hk s
  have hx : xs[k]? = some x := by
   have := hr 0
   simpa using this.symm
  have hlt : k < xs.length := (List.getElem?_eq_some_iff.1 hx).1
  simp only [jxl]
  have := h1 k x s hx
  cases hb : body k x s with
  | none =>
   rw [hb] at this
   rw [loopF_eq, this]
   rfl
  | some q =>
   rw [hb] at this
   cases q with
   | inl s' =>
    rw [jqc (y' := st (k + 1) s') this]
    exact ih (k + 1) (fun i => by have := hr (i + 1); rw [List.getElem?_cons_succ] at this; rw [this]; congr 1; omega) hlt s'
   | inr b => exact jjC this
theorem loop_list (g : Y → Option (Sum Y B)) (xs : List α) (st : Nat → S → Y) (body : Nat → α → S → Option (Sum S B)) (fin : S → B)
  (h1 : ∀ i x s, xs[i]? = some x → g (st i s) = (body i x s).map fun q => match q with | .inl s' => .inl (st (i + 1) s') | .inr b => .inr b)
  (h2 : ∀ s, g (st xs.length s) = some (.inr (fin s))) (s : S) : jjF g (st 0 s) = jxl body fin 0 xs s :=
 loop_from g xs st body fin h1 h2 xs 0 (fun i => by rw [Nat.zero_add]) (Nat.zero_le _) s
theorem jz2 (g : Y → Option (Sum Y B)) (xs : List α) (st : Nat → S → Y) (body : Nat → α → S → Option (Sum S B)) (fin : S → B) (I : Nat → S → Prop) (s0 : S) (hI : I 0 s0)
  (h1 : ∀ i x s, xs[i]? = some x → I i s → (g (st i s) = (body i x s).map fun q => match q with | .inl s' => .inl (st (i + 1) s') | .inr b => .inr b) ∧ ∀ s', body i x s = some (.inl s') → I (i + 1) s')
  (h2 : ∀ s, I xs.length s → g (st xs.length s) = some (.inr (fin s))) : jjF g (st 0 s0) = jxl body fin 0 xs s0 := by
 suffices h : ∀ (r : List α) (k : Nat) (s : S), (∀ i, r[i]? = xs[k + i]?) → k ≤ xs.length → I k s → jjF g (st k s) = jxl body fin k r s from
  h xs 0 s0 (fun i => by rw [Nat.zero_add]) (Nat.zero_le _) hI
 intro r
 induction r with
 | nil =>
  intro k s hr hk hI
  have : k = xs.length := by
   have := hr 0
   simp only [List.getElem?_nil, Nat.add_zero] at this
   have := (List.getElem?_eq_none_iff.1 this.symm)
   omega
  subst this
  exact jjC (h2 s hI)
 | cons x r ih =>
  intro k s hr hk hI
  have hx : xs[k]? = some x := by
   have := hr 0
   simpa using this.symm
  have hlt : k < xs.length := (List.getElem?_eq_some_iff.1 hx).1
  simp only [jxl]
  obtain ⟨this, hI'⟩ := h1 k x s hx hI
  cases hb : body k x s with
  | none =>
   rw [hb] at this
   rw [loopF_eq, this]
   rfl
  | some q =>
   rw [hb] at this
   cases q with
   | inl s' =>
    rw [jqc (y' := st (k + 1) s') this]
    exact ih (k + 1) s' (fun i => by have := hr (i + 1); rw [List.getElem?_cons_succ] at this; rw [this]; congr 1; omega) hlt (hI' s' hb)
   | inr b => exact jjC this
def jqK (ok : Nat → α → Bool) : Nat → List α → Bool
 | _, [] => true
 | i, x :: r => ok i x && jqK ok (i + 1) r
theorem jj5 (ok : α → Bool) : ∀ (i : Nat) (xs : List α), jqK (fun _ x => ok x) i xs = xs.all ok := by
 intro i xs
 induction xs generalizing i with
 | nil => rfl
 | cons x r ih => simp [jqK, ih]
theorem allI_congr {ok ok' : Nat → α → Bool} : ∀ (xs : List α) (j : Nat), (∀ i x, j ≤ i → x ∈ xs → ok i x = ok' i x) → jqK ok j xs = jqK ok' j xs := by
 intro xs
 induction xs with
 | nil => intro j _; rfl
 | cons x r ih =>
  intro j h
  simp only [jqK]
  rw [h j x (Nat.le_refl _) List.mem_cons_self, ih (j + 1) (fun i y hi hy => h i y (by omega) (List.mem_cons_of_mem _ hy))]
theorem allI_and {ok ok' : Nat → α → Bool} : ∀ (xs : List α) (j : Nat), jqK (fun i x => ok i x && ok' i x) j xs = (jqK ok j xs && jqK ok' j xs) := by
 intro xs
 induction xs with
 | nil => intro j; rfl
 | cons x r ih =>
  intro j
  simp only [jqK, ih]
  cases ok j x <;> cases ok' j x <;> simp
theorem allI_lt (n : Nat) : ∀ (xs : List α) (j : Nat), jqK (fun i _ => decide (i < n)) j xs = (xs.isEmpty || decide (j + xs.length ≤ n)) := by
 intro xs
 induction xs with
 | nil => intro j; rfl
 | cons x r ih =>
  intro j
  simp only [jqK, ih]
  cases r with
  | nil => simp; omega
  | cons y r =>
   simp only [List.isEmpty_cons, Bool.false_or, List.length_cons]
   by_cases h : j < n
   ·simp only [h, decide_true, Bool.true_and]; congr 1; apply propext; omega
   ·simp only [h, decide_false, Bool.false_and]; symm; simp; omega
theorem jJw (ok : Nat → α → Bool) (step : α → S → S) (no : B) (fin : S → B) : ∀ (r : List α) (k : Nat) (s : S),
  jxl (fun i x s => some (bif ok i x then .inl (step x s) else .inr no)) fin k r s = some (bif jqK ok k r then fin (r.foldl (fun s x => step x s) s) else no) := by
 intro r
 induction r with
 | nil => intro k s; rfl
 | cons x r ih =>
  intro k s
  simp only [jxl, jqK]
  cases ok k x with
  | false => rfl
  | true => simp only [cond_true, Bool.true_and]; exact ih _ _
theorem jj3 (g : Y → Option (Sum Y B)) (xs : List α) (st : Nat → Y) (ok : Nat → α → Bool) (no yes : B)
  (h1 : ∀ i x, xs[i]? = some x → g (st i) = some (bif ok i x then .inl (st (i + 1)) else .inr no)) (h2 : g (st xs.length) = some (.inr yes)) :
  jjF g (st 0) = some (bif jqK ok 0 xs then yes else no) := by
 rw [loop_list (S := Unit) g xs (fun i _ => st i) (fun i x _ => some (bif ok i x then .inl () else .inr no)) (fun _ => yes)
  (fun i x _ hx => by rw [h1 i x hx]; cases ok i x <;> rfl) (fun _ => h2) ()]
 suffices h : ∀ (r : List α) (k : Nat), jxl (fun i x (_ : Unit) => some (bif ok i x then .inl () else .inr no)) (fun _ => yes) k r () = some (bif jqK ok k r then yes else no) from h xs 0
 intro r
 induction r with
 | nil => intro k; rfl
 | cons x r ih =>
  intro k
  simp only [jxl, jqK]
  cases ok k x with
  | false => rfl
  | true => simp only [cond_true, Bool.true_and]; exact ih _
theorem loop_fold (g : Y → Option (Sum Y B)) (xs : List α) (st : Nat → S → Y) (step : α → S → S) (fin : S → B) (I : Nat → S → Prop) (s : S) (hI : I 0 s)
  (h1 : ∀ i x s, xs[i]? = some x → I i s → g (st i s) = some (.inl (st (i + 1) (step x s))) ∧ I (i + 1) (step x s)) (h2 : ∀ s, I xs.length s → g (st xs.length s) = some (.inr (fin s))) :
  jjF g (st 0 s) = some (fin (xs.foldl (fun s x => step x s) s)) := by
 suffices h : ∀ (r : List α) (k : Nat) (s : S), (∀ i, r[i]? = xs[k + i]?) → k ≤ xs.length → I k s → jjF g (st k s) = some (fin (r.foldl (fun s x => step x s) s)) from
  h xs 0 s (fun i => by rw [Nat.zero_add]) (Nat.zero_le _) hI
 intro r
 induction r with
 | nil =>
  intro k s hr hk hI
  have : k = xs.length := by
   have := hr 0
   simp only [List.getElem?_nil, Nat.add_zero] at this
   have := (List.getElem?_eq_none_iff.1 this.symm)
   omega
  subst this
  exact jjC (h2 s hI)
 | cons x r ih =>
  intro k s hr hk hI
  have hx : xs[k]? = some x := by
   have := hr 0
   simpa using this.symm
  have hlt : k < xs.length := (List.getElem?_eq_some_iff.1 hx).1
  obtain ⟨e, hI'⟩ := h1 k x s hx hI
  rw [jqc e]
  exact ih (k + 1) _ (fun i => by have := hr (i + 1); rw [List.getElem?_cons_succ] at this; rw [this]; congr 1; omega) hlt hI'
end
abbrev Sm (n : Nat) : Prop := n ≤ 1099511627776
theorem jjx {α : Type} (xs : List α) (i : Nat) : ix xs (i : Int) = xs[i]? := by
 unfold ix; rw [if_pos (Int.natCast_nonneg i), Int.toNat_natCast]
theorem jqP {n i : Nat} (h : i < n) : inb n (i : Int) = some i := by
 unfold inb; rw [if_pos ⟨Int.natCast_nonneg i, by omega⟩, Int.toNat_natCast]
theorem jjE {n : Int} (h : -9223372036854775808 ≤ n) (h' : n ≤ 9223372036854775807) : IntKind.i64.wrap n = n := by
 rw [IntKind.wrap_i64]; omega
theorem jjn {i : Nat} (h : Sm i) : IntKind.i64.wrap ((i : Int) + 1) = ((i + 1 : Nat) : Int) := by
 rw [jjE (by unfold Sm at h; omega) (by unfold Sm at h; omega)]; omega
theorem wrap_sub1 {i : Nat} (h : Sm i) : IntKind.i64.wrap (((i + 1 : Nat) : Int) - 1) = (i : Int) := by
 rw [jjE (by unfold Sm at h; omega) (by unfold Sm at h; omega)]; omega
theorem subl_nat {α : Type} {xs : List α} {a b : Nat} (h : a ≤ b) (h2 : b ≤ xs.length) : jqE xs (a : Int) (b : Int) = some ((xs.take b).drop a) := by
 unfold jqE; rw [if_pos ⟨Int.natCast_nonneg a, by omega, by omega⟩, Int.toNat_natCast, Int.toNat_natCast]
theorem jJo {α : Type} {xs : List α} {b : Nat} (h2 : b ≤ xs.length) : jqE xs 0 (b : Int) = some (xs.take b) := by
 have := subl_nat (a := 0) (Nat.zero_le b) h2
 simpa using this
theorem subl_from {α : Type} {xs : List α} {a : Nat} (h2 : a ≤ xs.length) : jqE xs (a : Int) (xs.length : Int) = some (xs.drop a) := by
 rw [subl_nat h2 (Nat.le_refl _), List.take_length]
theorem jqi {α : Type} {bytes : Nat} {xs ys : List α} (hb : bytes ≤ 100) (h : Sm (xs.length + ys.length)) : apd bytes xs ys = some (xs ++ ys) := by
 unfold apd
 have h1 : (xs.length + ys.length) * bytes ≤ room := by unfold room; exact Nat.le_trans (Nat.mul_le_mul h hb) (by decide)
 have h2 : xs.length + ys.length ≤ maxLen := by unfold maxLen; unfold Sm at h; omega
 rw [if_pos ⟨h1, h2⟩]
theorem w1 : IntKind.i64.wrap 1 = 1 := by decide
theorem beq0 (i : Nat) : ((i : Int) == 0) = (i == 0) := by
 cases h : (i == 0)
 ·simp only [beq_eq_false_iff_ne, ne_eq] at h ⊢; omega
 ·simp only [beq_iff_eq] at h ⊢; omega
theorem dlt (a b : Int) : decide (a < b) = !decide (b ≤ a) := by
 by_cases h : b ≤ a <;> simp [h] <;> omega
theorem dgt (a b : Int) : decide (a > b) = !decide (a ≤ b) := dlt b a
theorem dge (a b : Int) : decide (a ≥ b) = decide (b ≤ a) := rfl
theorem jjB {i n : Nat} (h : i < n) : decide ((i : Int) < (n : Int)) = true := by simpa using h
theorem jjR {n : Nat} : decide ((n : Int) < (n : Int)) = false := by simp
theorem jjH {α : Type} {xs : List α} {i : Nat} {x : α} (h : xs[i]? = some x) : i < xs.length := (List.getElem?_eq_some_iff.1 h).1
def Ev {α : Type} (o : Option α) (P : α → Prop) : Prop := ∃ x, o = some x ∧ P x
theorem Ev.bind {α β : Type} {o : Option α} {k : α → Option β} {P : α → Prop} {Q : β → Prop} (h : Ev o P) (hk : ∀ x, P x → Ev (k x) Q) : Ev (o.bind k) Q := by
 obtain ⟨x, rfl, hx⟩ := h; exact hk x hx
theorem Ev.eq {α β : Type} {o : Option α} {k : α → Option β} {x : α} {Q : β → Prop} (h : o = some x) (hk : Ev (k x) Q) : Ev (o.bind k) Q := by
 rw [h]; exact hk
theorem Ev.ret {α : Type} {x : α} {Q : α → Prop} (h : Q x) : Ev (some x) Q := ⟨x, rfl, h⟩
theorem Ev.ite {α : Type} {c : Bool} {x y : Option α} {Q : α → Prop} (h1 : c = true → Ev x Q) (h2 : c = false → Ev y Q) : Ev (bif c then x else y) Q := by
 cases c
 ·exact h2 rfl
 ·exact h1 rfl
theorem Ev.mono {α : Type} {o : Option α} {P Q : α → Prop} (h : Ev o P) (hk : ∀ x, P x → Q x) : Ev o Q := by
 obtain ⟨x, rfl, hx⟩ := h; exact ⟨x, rfl, hk x hx⟩
theorem Ev.loop {Y B : Type} {f : Y → Option (Sum Y B)} (I : Nat → Y → Prop) {Q : B → Prop} (h : ∀ n y, I n y → Ev (f y) (fun s => match s with | .inl y' => ∃ k, k < n ∧ I k y' | .inr b => Q b)) : ∀ n y, I n y → Ev (jjF f y) Q := by
 intro n
 induction n using Nat.strongRecOn with
 | _ n ih =>
  intro y hy
  obtain ⟨s, hs, hq⟩ := h n y hy
  cases s with
  | inl y' =>
   obtain ⟨k, hk, hI⟩ := hq
   rw [jqc hs]
   exact ih k hk y' hI
  | inr b => exact ⟨b, jjC hs, hq⟩
theorem ev_cat {s t : Str} (h : s.length + t.length ≤ 4611686018427387904) : cat s t = some (s ++ t) := by
 unfold cat
 rw [if_neg]
 show ¬ (((s.length + t.length : Nat) : Int) > 9223372036854775807)
 omega
theorem quo_nn {k : IntKind} {x y : Int} (hk : k = .i64) (h0 : 0 ≤ x) (h1 : x ≤ 4611686018427387904) (hy : 0 < y) : quoI k x y = some (x / y) := by
 subst hk
 unfold quoI
 rw [if_neg (by omega), Int.tdiv_eq_ediv_of_nonneg h0]
 have h2 : 0 ≤ x / y := Int.ediv_nonneg h0 (by omega)
 have h3 : x / y ≤ x := Int.ediv_le_self y h0
 rw [jjE (by omega) (by omega)]
theorem rem_nn {x y : Int} (h0 : 0 ≤ x) (hy : 0 < y) : remI x y = some (x % y) := by
 unfold remI
 rw [if_neg (by omega), Int.tmod_eq_emod_of_nonneg h0]
theorem xor_nn {x y : Int} (hx : 0 ≤ x) (hx' : x < 4611686018427387904) (hy : 0 ≤ y) (hy' : y < 4611686018427387904) : 0 ≤ xorI .i64 x y := by
 unfold xorI
 obtain ⟨m, rfl⟩ := Int.eq_ofNat_of_zero_le hx
 obtain ⟨n, rfl⟩ := Int.eq_ofNat_of_zero_le hy
 have key : (BitVec.ofInt IntKind.i64.bits (m : Int) ^^^ BitVec.ofInt IntKind.i64.bits (n : Int)).toNat < 4611686018427387904 := by
  rw [BitVec.toNat_xor]
  have h1 : (BitVec.ofInt IntKind.i64.bits (m : Int)).toNat = m := by
   rw [BitVec.ofInt_natCast, BitVec.toNat_ofNat]
   exact Nat.mod_eq_of_lt (by show m < 2 ^ 64; omega)
  have h2 : (BitVec.ofInt IntKind.i64.bits (n : Int)).toNat = n := by
   rw [BitVec.ofInt_natCast, BitVec.toNat_ofNat]
   exact Nat.mod_eq_of_lt (by show n < 2 ^ 64; omega)
  rw [h1, h2]
  exact Nat.xor_lt_two_pow (n := 62) (by omega) (by omega)
 rw [jjE (by omega) (by omega)]
 omega
theorem ix_in {α : Type} {xs : List α} {i : Int} (h0 : 0 ≤ i) (h1 : i < (xs.length : Int)) : ∃ x, ix xs i = some x ∧ x ∈ xs := by
 obtain ⟨n, rfl⟩ := Int.eq_ofNat_of_zero_le h0
 have hn : n < xs.length := by omega
 exact ⟨xs[n], by rw [jjx]; exact List.getElem?_eq_getElem hn, List.getElem_mem hn⟩
structure RD (b : List Int) (p : Int) (m : Nat) : Prop where
 len : b.length ≤ 2000
 byte : ∀ x, x ∈ b → 0 ≤ x ∧ x ≤ 255
 lo : 0 ≤ p
 hi : p + m ≤ 1099511627776
theorem RD.less {b : List Int} {p : Int} {m k : Nat} (h : RD b p m) (hk : k ≤ m) : RD b p k := ⟨h.len, h.byte, h.lo, by have := h.hi; omega⟩
def EqTs (P : Program) : Nat → List (TypeId × Nat × Bool) → List Lf → Prop
 | _, [], [] => True
 | k, (t, o, b) :: fs, .d (.int i _) :: z => o = k ∧ b = false ∧ (TI.int i).ok P t ∧ EqTs P (k + 1) fs z
 | k, (t, o, b) :: fs, .d (.bool _) :: z => o = k ∧ b = false ∧ (TI.bool).ok P t ∧ EqTs P (k + 1) fs z
 | k, (t, o, b) :: fs, .d (.str _) :: z => o = k ∧ b = false ∧ (TI.str).ok P t ∧ EqTs P (k + 1) fs z
 | _, _, _ => False
section
variable {P : Program} {w : World}
theorem part_at {t : TypeId} {ti : TI} (h : ti.ok P t) (hn : ti ≠ .none) (ha : ti.agg = false) {vs : List Value} {k : Nat} {v : Value} (hv : vs[k]? = some v) : (part t vs.toArray k).run P w = .ok v w := by
 unfold part
 simp only [Sem.run_bind, TI.run_isAgg h hn, ha, Result.andThen_ok, Bool.false_eq_true, if_false]
 simp [hv]
theorem eqFields_run {d : Nat} : ∀ {fs : List Field} {k : Nat} {z : List Lf} {vs us : List Value} {b : Bool}, EqTs P k (fs.map fun f => (f.type, f.offset, f.name == "_")) z → fs ≠ [] → jqf (vs.drop k) (us.drop k) = some b → fitV z (vs.drop k) = true →
  (Op.eqFields (d + 1) vs.toArray us.toArray fs).run P w = .ok b w := by
 intro fs
 induction fs with
 | nil => intro k z vs us b _ h; exact absurd rfl h
 | cons f fs ih =>
  intro k z vs us b he _ hc hf
  cases hvd : vs.drop k with
  | nil => rw [hvd] at hc; cases us.drop k <;> cases hc
  | cons v vr =>
   cases hud : us.drop k with
   | nil => rw [hvd, hud] at hc; cases vr <;> cases hc
   | cons u ur =>
    have hv : vs[k]? = some v := by rw [← List.head?_drop, hvd]; rfl
    have hu : us[k]? = some u := by rw [← List.head?_drop, hud]; rfl
    have hvr : vs.drop (k + 1) = vr := by rw [← List.tail_drop, hvd]; rfl
    have hur : us.drop (k + 1) = ur := by rw [← List.tail_drop, hud]; rfl
    rw [hvd] at hf
    rw [hvd, hud] at hc
    have key : ∃ r zr, jzb v u = some r ∧ f.offset = k ∧ (f.name == "_") = false ∧ (part f.type vs.toArray k).run P w = .ok v w ∧ (part f.type us.toArray k).run P w = .ok u w ∧
      (Op.equalIn (d + 1) f.type v u).run P w = .ok r w ∧ EqTs P (k + 1) (fs.map fun f => (f.type, f.offset, f.name == "_")) zr ∧ fitV zr vr = true := by
     have hle : ∃ r, jzb v u = some r := by
      cases hl : jzb v u with
      | some r => exact ⟨r, rfl⟩
      | none => cases vr <;> cases ur <;> simp [jqf, hl] at hc
     obtain ⟨r, hr⟩ := hle
     have hr0 := hr
     refine ⟨r, z.tail, hr0, ?_⟩
     cases z with
     | nil => cases v <;> cases hf
     | cons zc zr =>
      cases zc <;> try (cases hf; done)
      rename_i dz
      cases dz <;> try (cases hf; done)
      all_goals (simp only [List.map_cons, EqTs] at he; obtain ⟨h1, h2, h3, h4⟩ := he)
      all_goals (cases v <;> try (cases hf; done))
      all_goals (cases u <;> try (cases hr; done))
      all_goals (refine ⟨h1, h2, part_at h3 (by intro h; cases h) rfl hv, part_at h3 (by intro h; cases h) rfl hu, ?_, h4, hf⟩)
      ·simp only [jzb] at hr
       split at hr
       ·rename_i e; subst e; cases hr; exact run_equalIn_int w d _ _ _ _ _ h3.1
       ·cases hr
      ·simp only [jzb, Option.some.injEq] at hr
       subst hr
       exact run_equalIn_bool' w d _ _ _ h3.1
      ·simp only [jzb, Option.some.injEq] at hr
       subst hr
       rw [run_equalIn_string w d _ _ _ h3.1, beq_toListBytes]
    obtain ⟨r, zr, g1, g2, g3, g4, g5, g6, g7, g8⟩ := key
    have hn' : f.name ≠ "_" := by simpa using g3
    rw [Op.eqFields]
    simp only [if_pos hn', g2, Sem.run_bind, g4, g5, g6, Result.andThen_ok]
    cases fs with
    | nil =>
     have hlast : vr = [] := by
      cases zr with
      | nil => cases vr with
       | nil => rfl
       | cons x _ => cases x <;> cases g8
      | cons x _ => cases x <;> (try rename_i dd; cases dd) <;> simp only [List.map_nil, EqTs] at g7
     subst hlast
     have : ur = [] := by
      cases ur with
      | nil => rfl
      | cons x xr => simp [jqf] at hc
     subst this
     simp only [jqf] at hc
     rw [g1] at hc
     cases hc
     cases b <;> simp [Op.eqFields]
    | cons f2 fs2 =>
     have hne : vr ≠ [] := by
      rintro rfl
      cases zr with
      | nil => simp only [List.map_cons, EqTs] at g7
      | cons x _ => cases x <;> (try rename_i dd; cases dd) <;> cases g8
     have : ∃ s, jqf vr ur = some s ∧ b = (r && s) := by
      cases vr with
      | nil => exact absurd rfl hne
      | cons v2 vr2 =>
       simp only [jqf, g1] at hc
       cases hs : jqf (v2 :: vr2) ur with
       | none => rw [hs] at hc; cases ur <;> simp at hc
       | some s => rw [hs] at hc; simp only [Option.some.injEq] at hc; exact ⟨s, rfl, hc.symm⟩
     obtain ⟨s, hs, rfl⟩ := this
     have := ih (k := k + 1) (z := zr) (vs := vs) (us := us) (b := s) g7 (by simp) (by rw [hvr, hur]; exact hs) (by rw [hvr]; exact g8)
     cases r
     ·simp
     ·simpa using this
theorem eq_struct {T : TypeId} {fields : Array Field} {l : List (TypeId × Nat × Bool)} {z : List Lf} (hu : P.underlying T = some (.struct fields)) (hp : P.stoodInHeld T = false) (hg : P.eqGuardType P.depth T = false)
  (hm : (fields.toList.map fun f => (f.type, f.offset, f.name == "_")) = l) (hne : fields.toList ≠ []) (he : EqTs P 0 l z) :
  P.eqGuardType P.depth T = false ∧ ∀ (vs us : List Value) (b : Bool) (w : World), jqf vs us = some b → fitV z vs = true → (Op.equal T (.agg vs.toArray) (.agg us.toArray)).run P w = .ok b w := by
 refine ⟨hg, fun vs us b w hc hf => ?_⟩
 have hfo : P.fieldsOf T = fields := by simp [Program.fieldsOf, hu]
 show (Op.equalIn (9999 + 1) T (.agg vs.toArray) (.agg us.toArray)).run P w = _
 rw [run_equalIn_struct (P := P) w 9999 T _ _ (by rw [hfo]; exact hu) hp, hfo]
 exact eqFields_run (d := 9998) (k := 0) (by rw [hm]; exact he) hne hc hf
end
def idxArgs : List Arg → Option (Str × Int)
 | [.av (.lf (.d (.str s))), .av (.lf (.d (.int .u8 c)))] => some (s, c)
 | _ => none
def indexSumm : jjM := fun as => match idxArgs as with
 | some (s, c) => ⟨Unit, some (), fun _ => [], fun _ => [.lf (.d (.int .i64 (Lib.indexByte s c.toNat.toUInt8)))]⟩
 | none => .fail
theorem idxArgs_inv {as : List Arg} {s : Str} {c : Int} (h : idxArgs as = some (s, c)) : as = [.av (.lf (.d (.str s))), .av (.lf (.d (.int .u8 c)))] := by
 unfold idxArgs at h
 split at h
 ·cases h; rfl
 ·cases h
theorem indexByte_ok {P : Program} {g : FuncId} {fn : Func} (hf : P.funcs[g]? = some fn) (hname : (fn.name == "runtime.NumGoroutine") = false) (hb : fn.body.isNone = true) (hn : Extern.findNext fn = none)
  (he : Extern.find fn = some Extern.BytealgIndexByte.indexByte) : jja P g indexSumm := by
 intro as
 unfold indexSumm
 cases hq : idxArgs as with
 | none => intro y hy; cases hy
 | some q =>
  obtain ⟨s, c⟩ := q
  have has := idxArgs_inv hq
  subst has
  intro y hy w X vs BS hh _ _ _
  match vs, hh with
  | [v1, v2], ⟨a1, a2, e1, h1, c1, c2, e2, h2, e3⟩ =>
   obtain ⟨z1, r1⟩ := h1
   obtain ⟨z2, r2⟩ := h2
   subst z1 z2 e3
   simp only [List.append_nil] at e2
   subst e2
   simp only [List.append_nil] at e1
   subst e1
   obtain ⟨b, rfl, hb'⟩ := jqy r1
   have e := jxw r2
   subst e
   refine .inr ⟨.int .i64 (Lib.indexByte b.data.toList c.toNat.toUInt8), w, ?_, [], [], [.int .i64 (Lib.indexByte s c.toNat.toUInt8)], Fr.refl _ _, ?_, ?_, ?_, by simp, fun b hb => by simp at hb⟩
   ·rw [run_callFunc_extern hf hname hb hn he]
    show ((Extern.BytealgIndexByte.indexByte #[.string b, .int .u8 c]).run P w).andThen _ = _
    rw [Lib.run_indexByteString]
    rfl
   ·simp [jqn, jx3]
   ·exact ⟨[], [], rfl, ⟨rfl, .int _ _⟩, rfl⟩
   ·rw [hb']; rfl
def shI (nt : Nat) : Shape := ⟨[(1, .lf (.ptr 1 0))], [(1, .box [.d (.sl .pack)], .same)], nt⟩
noncomputable def four (nt : Nat) (C : Ctx) (st : St) (m0 m1 m2 m3 : Oper) : Option ((List (FuncId × List (Nat × Nat))) × (shI nt).Y) :=
 jxS C st m0 fun st => jxS C st m1 fun st => jxS C st m2 fun st => jxS C st m3 fun st => match st.get 7, st.get 8, st.get 9, st.get 10, st.site 1 with
  | .av (.lf (.clo a ca)), .av (.lf (.clo b cb)), .av (.lf (.clo c cc)), .av (.lf (.clo d cd)), some (.box 0 _) => ((shI nt).ex st).map fun y => ([(a, ca), (b, cb), (c, cc), (d, cd)], y)
  | _, _, _, _, _ => none
section
variable {P : Program} {w0 : World} {fb : List Nat} {X : Nat → Prop} {ι : Nat → Value} {st : St} {tm : Array Value} {w : World}
end
section
variable {P : Program} {C : CtxC}
end
end Go.Jk
