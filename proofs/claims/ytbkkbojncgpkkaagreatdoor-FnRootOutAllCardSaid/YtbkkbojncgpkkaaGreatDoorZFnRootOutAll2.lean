/- It is proved that everything can be removed (FnRootOutAll). (part 3 of 7: JkRange2, JkIter, JkIter2, JkIter3, JkWalk5, JkIns0, JkPu0, JkPu1, JkEqS, JkHand, JkChecks, JkChecks2, JkIns3, JkDel) Conditions: none beyond the statement. -/
import Derived.Test.YtbkkbojncgpkkaaGreatDoorZFnRootOutAll1
import Derived.Lib.Bytealg
import Derived.Laws.CopyRow
import Derived.Lib.AppendZerosOnto
import Derived.Lib.Overlaps
import Derived.Laws.Externs
import Derived.Laws.StructEq
set_option linter.unusedVariables false
set_option linter.unusedSimpArgs false
namespace Go.Jk
theorem ex_nt {sh : Shape} {st : St} {y : sh.Y} (h : sh.ex st = some y) : st.nt = sh.nt := by
 unfold Shape.ex at h
 simp only at h
 cases hb : (st.upds (jzM st sh.slots ++ jzN st sh.sites)).nt.beq sh.nt with
 | false => rw [hb] at h; cases h
 | true => rw [← upds_nt (jzM st sh.slots ++ jzN st sh.sites) st]; exact Nat.eq_of_beq_eq_true hb
def allNt (n : Nat) : List OSh → Bool
 | [] => true
 | o :: r => Nat.beq o.2.nt n && allNt n r
def Out.st : Out → St
 | .norm st | .exit _ st | .ret st => st
theorem kind_st {k : Kind} {x : Out} {st : St} (h : k.is x = some st) : x.st = st := by
 cases k <;> cases x <;> simp only [Kind.is] at h <;> try (cases h; done)
 ·cases h; rfl
 ·rename_i id id' st'
  cases hb : Nat.beq id id' with
  | false => simp [hb] at h
  | true => simp only [hb, cond_true, Option.some.injEq] at h; exact h
 ·cases h; rfl
theorem exS_nt {n : Nat} : ∀ {os : List OSh} {x : Out} {y : YS os}, exS os x = some y → allNt n os = true → x.st.nt = n := by
 intro os
 induction os with
 | nil => intro x y; exact y.elim
 | cons o os ih =>
  intro x y h hn
  simp only [allNt, Bool.and_eq_true] at hn
  have hno := Nat.eq_of_beq_eq_true hn.1
  cases os with
  | nil =>
   simp only [exS] at h
   split at h
   ·rename_i st hk; rw [kind_st hk, ex_nt h, hno]
   ·cases h
  | cons o' r =>
   simp only [exS] at h
   split at h
   ·rename_i st hk
    obtain ⟨y1, k1, _⟩ := Option.map_eq_some_iff.1 h
    rw [kind_st hk, ex_nt k1, hno]
   ·obtain ⟨y1, k1, _⟩ := Option.map_eq_some_iff.1 h
    exact ih k1 hn.2
section
variable {P : Program} {C : CtxC}
theorem range_frag (H : CtxGood P C.toCtx) {g' : FuncId} (IT : jzq P g') {t prm p : Nat} {assign body : Code} {sh : Shape} {os : List OSh} (hO1 : Orcs P C assign (2 * p)) (hO2 : Orcs P C body (2 * p + 1))
  {F : Str → sh.Y → Option (Sum sh.Y (YS os))} {fin : sh.Y → Option (YS os)} (hF : ∀ x y, F x y = roundP C assign body p prm sh os x y) (hfin : ∀ y, fin y = exS os (.norm (sh.st y)))
  (hdis : jxe (jjM sh.slots) (prm :: (wrC assign ++ wrC body)) = true) (hnr1 : jqo assign = true) (hnr2 : jqo body = true) (hprm : prm < sh.nt) (hnt : allNt sh.nt os = true) :
  jjn P (.rangeFunc (.tmp t) #[prm] assign body) (jxp g' t sh os F fin) := by
 intro rn hn w0 fb X st y hy ι tm w ds S
 have hrn : rn = none := hn.elim id fun h => by cases h
 subst hrn
 simp only [jxp] at hy y ⊢
 obtain ⟨q, hq, hy⟩ := Option.bind_eq_some_iff.1 hy
 obtain ⟨y0, hy0, hfold⟩ := Option.bind_eq_some_iff.1 hy
 obtain ⟨σ1, s1, σ2, s2, σ3, s3, c, s, hv, ⟨n12, n13, n23⟩, hb1, hb2, hb3, rfl⟩ := splitOf_inv hq
 obtain ⟨hlen, hfold⟩ : s.length ≤ jzn ∧ jzY F fin (jjy c s) y0 = some y := by
  cases hb : Nat.ble s.length jzn with
  | false => rw [hb] at hfold; cases hfold
  | true => rw [hb] at hfold; exact ⟨Nat.le_of_ble_eq_true hb, hfold⟩
 have hslot := S.slots t
 rw [hv] at hslot
 obtain ⟨vs, hval, hvl, href⟩ := hslot
 match vs, hvl with
 | [v1, v2, v3], _ =>
 have r1 : v1 = ι σ1 := Ref.at (href 0 (by simp) (by simp)) (jjN hb1) rfl
 have r2 : v2 = ι σ2 := Ref.at (href 1 (by simp) (by simp)) (jjN hb2) rfl
 have r3 : v3 = ι σ3 := Ref.at (href 2 (by simp) (by simp)) (jjN hb3) rfl
 have boxAt : ∀ {σ k : Nat} {d : D}, jxv st σ k = some [.d d] → ∃ b T u, ι σ = .pointer (some ⟨b, 0, none⟩) ∧ w.heap[b]? = some (.cells #[u] T) ∧ Rd w (jjm X ι st.sites) d u := by
  intro σ k d h
  obtain ⟨b, T, cur, g1, g2, g3, g4, g5⟩ := S.sites σ _ (jjN h)
  match cur, g3 with
  | [u], _ => exact ⟨b, T, u, g1, g2, g5 0 (by simp) (by simp)⟩
 obtain ⟨b1, T1, u1, i1, h1, d1⟩ := boxAt hb1
 obtain ⟨b2, T2, u2, i2, h2, d2⟩ := boxAt hb2
 obtain ⟨b3, T3, u3, i3, h3, d3⟩ := boxAt hb3
 obtain ⟨p', rfl, hp'⟩ := jqL d1
 obtain ⟨s', rfl, hs'⟩ := jqL d2
 have e3 : u3 = .int .i64 0 := jxa d3
 subst e3
 have lv1 : jjB st.sites σ1 := ⟨_, jjN hb1, rfl⟩
 have lv2 : jjB st.sites σ2 := ⟨_, jjN hb2, rfl⟩
 have lv3 : jjB st.sites σ3 := ⟨_, jjN hb3, rfl⟩
 have k1 : blk (ι σ1) = some b1 := by rw [i1]; rfl
 have k2 : blk (ι σ2) = some b2 := by rw [i2]; rfl
 have k3 : blk (ι σ3) = some b3 := by rw [i3]; rfl
 have m12 : b1 ≠ b2 := fun e => n12 (S.excl σ1 σ2 b1 lv1 lv2 k1 (e ▸ k2))
 have m13 : b1 ≠ b3 := fun e => n13 (S.excl σ1 σ3 b1 lv1 lv3 k1 (e ▸ k3))
 have m23 : b2 ≠ b3 := fun e => n23 (S.excl σ2 σ3 b2 lv2 lv3 k2 (e ▸ k3))
 have lt1 := S.live_lt lv1 k1
 have lt2 := S.live_lt lv2 k2
 have lt3 := S.live_lt lv3 k3
 have mine2 := (S.mine σ2 b2 lv2 k2).2
 obtain ⟨X1, hX1, S1, in1, in2, in3⟩ : ∃ X1 : Nat → Prop, (∀ b, X b → X1 b) ∧ Sim w0 fb X1 ι (st.upds [(σ1, .dead s1), (σ2, .dead s2), (σ3, .dead s3)]) tm w ∧ X1 b1 ∧ X1 b2 ∧ X1 b3 := by
  have A := S.kill (jjN hb1) rfl
  have l2 : jjJ (upd st.sites σ1 (.dead s1)) σ2 = some (.box s2 [.d (.str s)]) := by rw [jjr, if_neg n12]; exact jjN hb2
  have B := A.kill (st := { st with sites := upd st.sites σ1 (.dead s1) }) l2 rfl
  have l3 : jjJ (upd (upd st.sites σ1 (.dead s1)) σ2 (.dead s2)) σ3 = some (.box s3 [.d (.int .i64 0)]) := by rw [jjr, if_neg n23, jjr, if_neg n13]; exact jjN hb3
  have D := B.kill (st := { st with sites := upd (upd st.sites σ1 (.dead s1)) σ2 (.dead s2) }) l3 rfl
  exact ⟨_, fun b hb => .inl (.inl (.inl hb)), D, .inl (.inl (.inr k1)), .inl (.inr k2), .inr k3⟩
 obtain ⟨ι2, S2, _⟩ := Shape.ex_ok S1 hy0
 have htm : tm.size = sh.nt := S2.nt
 refine CW.of (n := 0) (wpIn_rangeFunc ?_)
 intro fn _
 obtain ⟨rec, hrec⟩ : ∃ rec : LoopState → Option Code → Loop, rec = fun st pe => { state := st, pending := pe, fn, tmps := tm, params := #[prm], assign, body, defers := w.heap.size } := ⟨_, rfl⟩
 obtain ⟨W1, hW1⟩ : ∃ W1, (w.alloc (.deferred (some []))).alloc (.loop (rec .ready none)) = W1 := ⟨_, rfl⟩
 obtain ⟨l, hl⟩ : ∃ l, l = w.heap.size + 1 := ⟨_, rfl⟩
 obtain ⟨D, hD⟩ : ∃ D, D = w.heap.size := ⟨_, rfl⟩
 have hsz : W1.heap.size = w.heap.size + 2 := by rw [← hW1]; simp
 have hL1 : W1.heap[l]? = some (.loop (rec .ready none)) := by
  rw [← hW1, hl]; have := World.alloc_heap_new (w.alloc (.deferred (some []))) (.loop (rec .ready none)); rwa [World.size_alloc] at this
 have hD1 : W1.heap[D]? = some (.deferred (some [])) := by
  rw [← hW1, hD]; exact (RowKit.Below.heap_alloc _ _ _ (by simp only [World.size_alloc]; omega)).trans (World.alloc_heap_new w _)
 have hold : ∀ b, b < w.heap.size → W1.heap[b]? = w.heap[b]? := fun b hb => by
  rw [← hW1, RowKit.Below.heap_alloc _ _ _ (by simp only [World.size_alloc]; omega), RowKit.Below.heap_alloc _ _ _ hb]
 have hfr1 : Fr fb w0 W1 := ⟨by rw [← hW1]; exact S.frame.os, by rw [← hW1]; exact S.frame.tape, by rw [← hW1]; exact S.frame.output, by have := S.frame.size; omega, fun b hb hn => by
  have := S.frame.size
  rw [hold b (by omega)]; exact S.frame.block b hb hn⟩
 have hsize := S.frame.size
 have S3 := S2.jump (w' := W1) (fun b _ hb => hold b hb) (by omega) hfr1
 obtain ⟨X2, hX2⟩ : ∃ X2 : Nat → Prop, X2 = fun b => X1 b ∨ (w.heap.size ≤ b ∧ b < W1.heap.size) := ⟨_, rfl⟩
 rw [← hX2] at S3
 have xl : X2 l := by rw [hX2]; exact .inr ⟨by omega, by omega⟩
 have xD : X2 D := by rw [hX2]; exact .inr ⟨by omega, by omega⟩
 have x1 : X2 b1 := by rw [hX2]; exact .inl in1
 have x2 : X2 b2 := by rw [hX2]; exact .inl in2
 have x3 : X2 b3 := by rw [hX2]; exact .inl in3
 have hXX : ∀ b, X b → X2 b := fun b hb => by rw [hX2]; exact .inl (hX1 b hb)
 obtain ⟨fbR, hfbR⟩ : ∃ fbR, fbR = l :: b2 :: jJh ι2 (sh.st y0).sites := ⟨_, rfl⟩
 have own_in : ∀ b, b ∈ jJh ι2 (sh.st y0).sites → ¬ X2 b ∧ (b ∈ fb ∨ w0.heap.size ≤ b) := fun b hb => by
  obtain ⟨σ, g1, g2⟩ := jq7.1 hb
  exact S3.mine σ b g1 g2
 have lR : l ∈ fbR := by rw [hfbR]; exact List.mem_cons_self
 have b2R : b2 ∈ fbR := by rw [hfbR]; exact List.mem_cons_of_mem _ List.mem_cons_self
 have DR : D ∉ fbR := by
  rw [hfbR]
  intro h
  rcases List.mem_cons.1 h with h | h
  ·omega
  ·rcases List.mem_cons.1 h with h | h
   ·omega
   ·exact (own_in D h).1 xD
 have fbR_in : ∀ b, b ∈ fbR → b ∈ fb ∨ w0.heap.size ≤ b := fun b hb => by
  rw [hfbR] at hb
  rcases List.mem_cons.1 hb with h | h
  ·exact .inr (by omega)
  ·rcases List.mem_cons.1 h with h | h
   ·rw [h]; exact mine2
   ·exact (own_in b h).2
 have S4 : Sim W1 fbR X2 ι2 (sh.st y0) tm W1 := S3.rebase fun σ b g1 g2 => by rw [hfbR]; exact List.mem_cons_of_mem _ (List.mem_cons_of_mem _ (jq7.2 ⟨σ, g1, g2⟩))
 have B01 : Base w0 fb X W1 fbR X2 := by
  have := S3.base fbR_in
  exact ⟨this.fr, this.mine, hXX⟩
 obtain ⟨J, hJ⟩ : ∃ J : List Str → World → Prop, ∀ r W, J r W ↔ ∃ ι z, Sim W1 fbR X2 ι (sh.st z) tm W ∧ jzY F fin r z = some y ∧ W.heap[l]? = some (.loop (rec .ready none)) ∧ W.heap[D]? = some (.deferred (some [])) := ⟨_, fun _ _ => Iff.rfl⟩
 obtain ⟨Jx, hJx⟩ : ∃ Jx : World → Prop, ∀ W, Jx W ↔ ∃ j e, ((j = .ret ∧ e = .ret) ∨ ∃ id, j = .exit id ∧ e = .exit id) ∧ SimOut (fun st => ∃ ι, Sim W1 fbR X2 ι st tm W) (mkS os y) e ∧
   W.heap[l]? = some (.loop (rec .done (some j))) ∧ W.heap[D]? = some (.deferred (some [])) := ⟨_, fun _ => Iff.rfl⟩
 have ll : l < W1.heap.size := by omega
 have lD : D < W1.heap.size := by omega
 have l_b2 : l ≠ b2 := by omega
 have D_b2 : D ≠ b2 := by omega
 have outMono : ∀ {Φ Ψ : St → Prop} {o : Out} {e : Exit}, (∀ st, Φ st → Ψ st) → SimOut Φ o e → SimOut Ψ o e := fun h k => by
  rename_i o e
  cases o <;> cases e <;> first | exact h _ k | exact ⟨k.1, h _ k.2⟩ | exact k.elim
 have turn2 : ∀ {ι : Nat → Value} {st : St} {W W' : World}, Sim W1 fbR X2 ι st tm W → Fr [b2] W W' → Sim W1 fbR X2 ι st tm W' := fun S F => S.other F fun b hb => by
  rw [List.mem_singleton.1 hb]; exact ⟨x2, .inl b2R⟩
 have turnl : ∀ {ι : Nat → Value} {st : St} {tm : Array Value} {W : World} {X' : Nat → Prop} (o : Obj), (∀ b, X2 b → X' b) → Sim W1 fbR X' ι st tm W → Sim W1 fbR X' ι st tm (W.putObj l o) := fun o hx S => S.other (Fr.putObj _ l o) fun b hb => by
  rw [List.mem_singleton.1 hb]; exact ⟨hx _ xl, .inl lR⟩
 refine ⟨l, [mark D], W1, { target := .fn (.func g') #[.pointer (some ⟨b1, 0, none⟩), .pointer (some ⟨b2, 0, none⟩), .pointer (some ⟨b3, 0, none⟩)], args := #[.func (.yield l) #[] #[]] }, W1, g',
  #[.func (.yield l) #[] #[]] ++ #[.pointer (some ⟨b1, 0, none⟩), .pointer (some ⟨b2, 0, none⟩), .pointer (some ⟨b3, 0, none⟩)], W1, ?_, ?_, fun _ _ => trivial, ?_, fun h => by simp [FR, Fence.wide] at h, ?_⟩
 ·rw [← hW1, hrec, hl, hD]; exact run_enterLoop_outer _ _ _ _ _
 ·have hval' : Act.eval ⟨tm, ds⟩ (.tmp t) = .func (.func g') #[] #[.pointer (some ⟨b1, 0, none⟩), .pointer (some ⟨b2, 0, none⟩), .pointer (some ⟨b3, 0, none⟩)] := by
   show tm.getD t undef = _
   rw [hval, r1, r2, r3, i1, i2, i3]
  simp only [rangeCall, resolve, hval']
  simp [Deferred.ofValue, Act.eval]
 ·simp [invoke, IT.1]
 ·refine CallsIn.mono (IT.2 l b1 b2 b3 p' s' c T1 T2 T3 W1 J Jx hp' (by rw [hs']; exact hlen) m12 m13 m23 ((hold b1 lt1).trans h1) ((hold b2 lt2).trans h2) ((hold b3 lt3).trans h3) ?_ ?_ ?_ ?_) ?_
  ·-- between two rounds the iterator turns its text's box
   intro r W W' hj F
   obtain ⟨ι, z, g1, g2, g3, g4⟩ := (hJ _ _).1 hj
   have hlW := Nat.lt_of_lt_of_le ll g1.frame.size
   have hDW := Nat.lt_of_lt_of_le lD g1.frame.size
   exact (hJ _ _).2 ⟨ι, z, turn2 g1 F, g2, (F.block l hlW (by simpa using l_b2)).trans g3, (F.block D hDW (by simpa using D_b2)).trans g4⟩
  ·intro W W' hj F
   obtain ⟨j, e, g1, g2, g3, g4⟩ := (hJx _).1 hj
   have hlW : l < W.heap.size := (Array.getElem?_eq_some_iff.1 g3).1
   have hDW : D < W.heap.size := (Array.getElem?_eq_some_iff.1 g4).1
   exact (hJx _).2 ⟨j, e, g1, outMono (fun st ⟨ι, h⟩ => ⟨ι, turn2 h F⟩) g2, (F.block l hlW (by simpa using l_b2)).trans g3, (F.block D hDW (by simpa using D_b2)).trans g4⟩
  ·-- ONE ROUND
   intro x rest W xb hj q1 q2 q3 hxb
   obtain ⟨ι, z, Sz, hz, hlW, hDW⟩ := (hJ _ _).1 hj
   have hlt : l < W.heap.size := (Array.getElem?_eq_some_iff.1 hlW).1
   have hltD : D < W.heap.size := (Array.getElem?_eq_some_iff.1 hDW).1
   refine ⟨fn, tm.setIfInBounds prm (.string xb), assign, body, ?_, ?_⟩
   ·have := run_yield (P := P) (args := #[.string xb]) hlW (by rw [hrec]; rfl)
    rw [hrec] at this
    simpa using this
   refine roundIn_of_wpIn (n := 0) trivial ?_
   show CW (some l) P assign _ _ _
   obtain ⟨s, hs⟩ : ∃ s, F x z = some s := by
    rcases foldP_cons hz with ⟨z', h, _⟩ | h
    ·exact ⟨_, h⟩
    ·exact ⟨_, h⟩
   have hs0 := hs
   rw [hF] at hs
   have Sa : Sim W1 fbR X2 ι ((sh.st z).set prm (one (.str x))) (tm.setIfInBounds prm (.string xb)) W := Sz.put (t := prm) hprm (Rd.str _ _ hxb)
   have own1 : ∀ σ b, jjB ((sh.st z).set prm (one (.str x))).sites σ → blk (ι σ) = some b → b ∈ jJh ι (sh.st z).sites := fun σ b g1 g2 => jq7.2 ⟨σ, g1, g2⟩
   have Sb := Sa.rebase own1
   have ownz : ∀ b, b ∈ jJh ι (sh.st z).sites → ¬ X2 b ∧ (b ∈ fbR ∨ W1.heap.size ≤ b) := fun b hb => by
    obtain ⟨σ, g1, g2⟩ := jq7.1 hb
    exact Sz.mine σ b g1 g2
   have Bb : Base W1 fbR X2 W (jJh ι (sh.st z).sites) X2 := Sa.base fun b hb => (ownz b hb).2
   refine jqF (rn := some l) H assign (2 * p) (.inr hnr1) hO1 W _ X2 _ ι _ W [] _ _ hs Sb ?_
   intro o1 e1 a1 w1 hk1 hl1
   cases o1 with
   | exit id st1 => cases hk1
   | ret st1 => cases hk1
   | norm st1 =>
   cases e1 <;> try exact hl1.elim
   obtain ⟨wa, fa, Xa, ιa, Da, Ba, _, _, Sa1, kept1⟩ := hl1
   have F1 : Fr (jJh ι (sh.st z).sites) W w1 := Ba.fr _ Sa1.frame
   have nX : ∀ b, X2 b → b ∉ jJh ι (sh.st z).sites := fun b hb h => (ownz b h).1 hb
   have hl1 : w1.heap[l]? = some (.loop (rec .ready none)) := (F1.block l hlt (nX l xl)).trans hlW
   refine ⟨w1.putObj l (.loop { rec .ready none with state := .busy }), run_beginRound hl1 (by rw [hrec]), ?_⟩
   obtain ⟨w2, hw2⟩ : ∃ w2, w2 = w1.putObj l (.loop { rec .ready none with state := .busy }) := ⟨_, rfl⟩
   rw [← hw2]
   have Sc0 : Sim W1 fbR Xa ιa st1 a1.tmps w1 := Sim.unbase (Bb.trans Ba) Sa1
   have Sc : Sim W1 fbR Xa ιa st1 a1.tmps w2 := by rw [hw2]; exact turnl _ Ba.x Sc0
   have ownc : ∀ b, b ∈ jJh ιa st1.sites → ¬ Xa b ∧ (b ∈ fbR ∨ W1.heap.size ≤ b) := fun b hb => by
    obtain ⟨σ, g1, g2⟩ := jq7.1 hb
    exact Sc.mine σ b g1 g2
   have Sd := Sc.rebase (fb' := jJh ιa st1.sites) fun σ b g1 g2 => jq7.2 ⟨σ, g1, g2⟩
   have Bd : Base W1 fbR Xa w2 (jJh ιa st1.sites) Xa := Sc.base fun b hb => (ownc b hb).2
   have hl2 : w2.heap[l]? = some (.loop { rec .ready none with state := .busy }) := by rw [hw2]; exact World.putObj_heap_same (Nat.lt_of_lt_of_le hlt F1.size)
   have sz2 : w2.heap.size = w1.heap.size := by rw [hw2]; simp
   show CW (some l) P body _ a1 _
   have ha1 : a1 = ⟨a1.tmps, a1.defers⟩ := rfl
   rw [ha1]
   refine jqF (rn := some l) H body (2 * p + 1) (.inr hnr2) hO2 w2 _ Xa st1 ιa a1.tmps w2 a1.defers _ _ hk1 Sd ?_
   intro o e a w3 hk hlo
   have nXa : ∀ b, Xa b → b ∉ jJh ιa st1.sites := fun b hb h => (ownc b h).1 hb
   have keep : ∀ {wb fb2 Xb}, Base w2 (jJh ιa st1.sites) Xa wb fb2 Xb → Fr fb2 wb w3 → ∀ b, X2 b → b < W.heap.size → b ≠ l → w3.heap[b]? = W.heap[b]? := fun B F b hb hlt' hne => by
    have F2 := B.fr _ F
    have hb1 : b < w1.heap.size := Nat.lt_of_lt_of_le hlt' F1.size
    rw [F2.block b (by omega) (nXa b (Ba.x b hb)), hw2, World.putObj_heap_other hne, F1.block b hlt' (nX b hb)]
   have fin : ∀ (st3 : St), st3.nt = sh.nt → At w2 (jJh ιa st1.sites) Xa a1.defers a1.tmps (wrC body) st3 a w3 → ∀ (jump : Option Code),
     (Instr.endRound l jump).run P w3 = .ok (.bool jump.isNone) (w3.putObj l (.loop (rec (if jump.isNone then .ready else .done) jump))) ∧
     (∃ ι3, Sim W1 fbR X2 ι3 (st3.back (jjM sh.slots)) tm (w3.putObj l (.loop (rec (if jump.isNone then .ready else .done) jump)))) ∧
     (w3.putObj l (.loop (rec (if jump.isNone then .ready else .done) jump))).heap[l]? = some (.loop (rec (if jump.isNone then .ready else .done) jump)) ∧
     (w3.putObj l (.loop (rec (if jump.isNone then .ready else .done) jump))).heap[D]? = some (.deferred (some [])) ∧
     W.heap.size ≤ (w3.putObj l (.loop (rec (if jump.isNone then .ready else .done) jump))).heap.size ∧
     (∀ b, X2 b → b < W.heap.size → b ≠ l → (w3.putObj l (.loop (rec (if jump.isNone then .ready else .done) jump))).heap[b]? = W.heap[b]?) := by
    rintro st3 hst3 ⟨wb, fb2, Xb, ι3, Db, Bb2, _, _, S3', kept3⟩ jump
    have F2 := Bb2.fr _ S3'.frame
    have hlt2 : l < w2.heap.size := by rw [sz2]; exact Nat.lt_of_lt_of_le hlt F1.size
    have hl3 : w3.heap[l]? = some (.loop { rec .ready none with state := .busy }) := (F2.block l hlt2 (nXa l (Ba.x l xl))).trans hl2
    have hlt3 := Nat.lt_of_lt_of_le hlt2 F2.size
    have hend := run_endRound (P := P) jump hl3
    have erec : ({ ({ rec .ready none with state := .busy } : Loop) with state := if jump.isNone then .ready else .done, pending := jump } : Loop) = rec (if jump.isNone then .ready else .done) jump := by rw [hrec]
    rw [erec] at hend
    have Se0 : Sim W1 fbR Xb ι3 st3 a.tmps w3 := Sim.unbase ((Bd.trans Bb2)) S3'
    have Se1 : Sim W1 fbR X2 ι3 st3 a.tmps w3 := Se0.shrink fun b hb => Bb2.x b (Ba.x b hb)
    have Se2 := turnl (.loop (rec (if jump.isNone then .ready else .done) jump)) (fun _ h => h) Se1
    have hwr : ∀ t', t' ∈ jjM sh.slots → t' ≠ prm ∧ t' ∉ wrC assign ∧ t' ∉ wrC body := fun t' ht' => by
     have hm : t' ∉ (prm :: (wrC assign ++ wrC body)) := fun h => by
      have := jzl ht' h
      rw [hdis] at this; cases this
     simp only [List.mem_cons, List.mem_append, not_or] at hm
     exact ⟨hm.1, hm.2.1, hm.2.2⟩
    refine ⟨hend, ⟨ι3, Se2.back (fun t' ht' => ?_) ?_⟩, World.putObj_heap_same hlt3, ?_, ?_, fun b hb hlt' hne => ?_⟩
    ·obtain ⟨g1, g2, g3⟩ := hwr t' ht'
     rw [kept3 t' g3, kept1 t' g2]
     simp only [Array.getD_eq_getD_getElem?, Array.getElem?_setIfInBounds_ne (show prm ≠ t' from fun e => g1 e.symm)]
    ·have e1 : a.tmps.size = st3.nt := S3'.nt
     omega
    ·rw [World.putObj_heap_other (by omega)]
     exact (keep Bb2 S3'.frame D xD hltD (by omega)).trans hDW
    ·simp only [World.putObj_size]
     have := F1.size
     have := F2.size
     omega
    ·rw [World.putObj_heap_other hne]; exact keep Bb2 S3'.frame b hb hlt' hne
   have leave : ∀ (st3 : St) (x3 : Out) (j : Code) (e3 : Exit), ((j = .ret ∧ e3 = .ret) ∨ ∃ id, j = .exit id ∧ e3 = .exit id) → x3.st = st3 → (∀ Φ : St → Prop, Φ (st3.back (jjM sh.slots)) → SimOut Φ (x3.back (jjM sh.slots)) e3) →
     (exS os (x3.back (jjM sh.slots))).map Sum.inr = some s → At w2 (jJh ιa st1.sites) Xa a1.defers a1.tmps (wrC body) st3 a w3 →
     ∃ v w', (Instr.endRound l (some j)).run P w3 = .ok v w' ∧ ((Ending.returned v = .returned (.bool true) ∧ J rest w' ∧ W.heap.size ≤ w'.heap.size ∧ w'.heap[b1]? = W.heap[b1]? ∧ w'.heap[b2]? = W.heap[b2]? ∧ w'.heap[b3]? = W.heap[b3]?) ∨ (Ending.returned v = .returned (.bool false) ∧ Jx w')) := by
    intro st3 x3 j e3 hje hx3 hout hex hat
    obtain ⟨b, hb, hbs⟩ := Option.map_eq_some_iff.1 hex
    have hn3 : st3.nt = sh.nt := by
     have := exS_nt hb hnt
     have e : (x3.back (jjM sh.slots)).st.nt = x3.st.nt := by cases x3 <;> rfl
     rw [e, hx3] at this
     exact this
    obtain ⟨f1, ⟨ι3, f2⟩, f3, f4, f5, f6⟩ := fin st3 hn3 hat (some j)
    refine ⟨_, _, f1, .inr ⟨rfl, (hJx _).2 ⟨j, e3, hje, ?_, f3, f4⟩⟩⟩
    have hby : b = y := by
     rcases foldP_cons hz with ⟨z', h, _⟩ | h
     ·rw [hs0] at h; cases h; cases hbs
     ·rw [hs0] at h; cases h; cases hbs; rfl
    subst hby
    refine exS_out (fun sh' st' y' hex' ⟨ι', S'⟩ => ?_) hb (hout _ ⟨ι3, f2⟩)
    obtain ⟨ι'', S'', _⟩ := Shape.ex_ok S' hex'
    exact ⟨ι'', S''⟩
   cases o with
   | norm st3 =>
    cases e <;> try exact hlo.elim
    obtain ⟨z', hz', hzs⟩ := Option.map_eq_some_iff.1 hk
    obtain ⟨f1, ⟨ι3, f2⟩, f3, f4, f5, f6⟩ := fin st3 (show (st3.back (jjM sh.slots)).nt = sh.nt from ex_nt hz') hlo none
    obtain ⟨ι4, f7, _⟩ := Shape.ex_ok f2 hz'
    refine ⟨_, _, f1, .inl ⟨rfl, (hJ _ _).2 ⟨ι4, z', f7, ?_, f3, f4⟩, f5, f6 b1 x1 q1 (by omega), f6 b2 x2 q2 (by omega), f6 b3 x3 q3 (by omega)⟩⟩
    rcases foldP_cons hz with ⟨z2, h, h2⟩ | h
    ·rw [hs0] at h; cases h; cases hzs; exact h2
    ·rw [hs0] at h; cases h; cases hzs
   | exit id st3 =>
    cases e <;> try exact hlo.elim
    obtain ⟨rfl, hlo⟩ := hlo
    exact leave st3 (.exit id st3) (.exit id) (.exit id) (.inr ⟨id, rfl, rfl⟩) rfl (fun Φ h => ⟨rfl, h⟩) hk hlo
   | ret st3 =>
    cases e <;> try exact hlo.elim
    exact leave st3 (.ret st3) .ret .ret (.inl ⟨rfl, rfl⟩) rfl (fun Φ h => h) hk hlo
  ·exact (hJ _ _).2 ⟨ι2, y0, S4, by rw [hs']; exact hfold, hL1, hD1⟩
  ·-- BEHIND THE ITERATOR
   have land : ∀ {W2 : World} {e : Exit} (o' : Obj), SimOut (fun st => ∃ ι, Sim W1 fbR X2 ι st tm W2) (mkS os y) e → W2.heap[l]? ≠ none → W2.heap[D]? = some (.deferred (some [])) →
     Lands w0 fb X ds tm (wrC (.rangeFunc (.tmp t) #[prm] assign body)) (mkS os y) e ⟨tm, [mark D] ++ ds⟩ (W2.putObj l o') := by
    intro W2 e o' h _ hD2
    have mk : ∀ st, (∃ ι, Sim W1 fbR X2 ι st tm W2) → At w0 fb X ds tm (wrC (.rangeFunc (.tmp t) #[prm] assign body)) st ⟨tm, [mark D] ++ ds⟩ (W2.putObj l o') := by
     rintro st ⟨ι, S⟩
     refine ⟨W1, fbR, X2, ι, [D], B01, ⟨by simp, fun D' h => by rw [List.mem_singleton.1 h]; omega, fun D' h => by rw [List.mem_singleton.1 h]; exact ⟨hD1, DR, xD⟩⟩, ⟨rfl, fun h => absurd List.mem_cons_self h⟩, turnl _ (fun _ h => h) S, fun _ _ => rfl⟩
    cases hm : mkS os y <;> rw [hm] at h <;> cases e <;> first | exact mk _ h | exact ⟨h.1, mk _ h.2⟩ | exact h.elim
   rintro e W2 ⟨⟨v, rfl⟩, hj | hj⟩
   ·obtain ⟨ι, z, g1, g2, g3, g4⟩ := (hJ _ _).1 hj
    refine ⟨none, W2.putObj l (.loop { rec .ready none with state := .exhausted }), ?_, ?_⟩
    ·have := run_endLoop (P := P) g3 (by rw [hrec]; simp)
     rw [hrec] at this ⊢
     exact this
    ·simp only [jzY, hfin] at g2
     refine land _ ?_ (by rw [g3]; simp) g4
     refine exS_out (fun sh' st' y' hex' ⟨ι', S'⟩ => ?_) g2 ⟨ι, g1⟩
     obtain ⟨ι'', S'', _⟩ := Shape.ex_ok S' hex'
     exact ⟨ι'', S''⟩
   ·obtain ⟨j, e, hje, g1, g3, g4⟩ := (hJx _).1 hj
    refine ⟨some j, W2.putObj l (.loop { rec .done (some j) with state := .exhausted }), ?_, ?_⟩
    ·have := run_endLoop (P := P) g3 (by rw [hrec]; simp)
     rw [hrec] at this ⊢
     exact this
    ·have := land (.loop { rec .done (some j) with state := .exhausted }) g1 (by rw [g3]; simp) g4
     rcases hje with ⟨rfl, rfl⟩ | ⟨id, rfl, rfl⟩
     ·exact wpIn_ret this
     ·exact wpIn_exit this
end
def jJ9 : Code → Array Oper
 | .region _ o _ => o
 | _ => #[]
section
variable {P : Program}
theorem yield_op {o : Oper} {tm : Array Value} {ds : List Deferred} {W : World} {a b : Nat} {ty : Array TypeId} {l : Nat} {xb : ByteArray} {K : Act → World → Prop} {Q : Exit → Act → World → Prop} {R : Ending → World → Prop}
  (ho : o.op = .call { callee := .value (.tmp a), args := #[.tmp b], argTypes := ty }) (ha : tm.getD a undef = .func (.yield l) #[] #[]) (hb : tm.getD b undef = .string xb)
  (hY : YieldAt (FR none) 0 P l #[.string xb] W R) (hR : ∀ e W', R e W' → ∃ v, e = .returned v ∧ K ⟨jqN tm o.dst v, ds⟩ W') : o.wpIn (FR none) 0 P ⟨tm, ds⟩ W K Q := by
 obtain ⟨fn, tmps, assign, body, hy, hR0⟩ := hY
 refine ⟨fun f _ => FR_fn none f, ?_⟩
 have hrun : (o.semAt none (Act.eval ⟨tm, ds⟩)).run P W = .ok (.round l fn tmps assign body) W := by
  rw [Oper.semAt_none]
  have ea : Act.eval ⟨tm, ds⟩ (.tmp a) = .func (.yield l) #[] #[] := ha
  have eb : Act.eval ⟨tm, ds⟩ (.tmp b) = .string xb := hb
  unfold execOp
  simp only [ho, resolve, ea, Deferred.ofValue, Sem.run_bind, Sem.run_pure, Result.andThen_ok, invoke, List.map_toArray, List.map_cons, List.map_nil, eb]
  simpa using hy
 show o.uponIn (FR none) 0 P _ K Q ((o.semAt none (Act.eval ⟨tm, ds⟩)).run P W)
 rw [hrun]
 refine ⟨fun h => by simp [FR, Fence.wide] at h, RoundIn.mono hR0 fun e W' he => ?_⟩
 obtain ⟨v, rfl, hk⟩ := hR e W' he
 rw [← putT_put] at hk
 exact hk
def itSh (k : Nat) (more : List (Nat × SSh)) : Shape := ⟨[(1, .lf (.rptr [.str] 0)), (2, .lf (.ptr 1001 0)), (3, .lf (.rptr [.int .i64] 0))] ++ more, [(1001, .box [.d .str], .same)], k⟩
structure ItAt (b1 b2 b3 : Nat) (p : ByteArray) (T1 T3 : TypeId) (l k : Nat) (r : Str) (tm : Array Value) (W : World) : Prop where
 size : tm.size = k
 y0 : tm.getD 0 undef = .func (.yield l) #[] #[]
 y1 : tm.getD 1 undef = .pointer (some ⟨b1, 0, none⟩)
 y2 : tm.getD 2 undef = .pointer (some ⟨b2, 0, none⟩)
 y3 : tm.getD 3 undef = .pointer (some ⟨b3, 0, none⟩)
 h1 : W.heap[b1]? = some (.cells #[.string p] T1)
 h2 : ∃ s T2, W.heap[b2]? = some (.cells #[.string s] T2) ∧ s.data.toList = r
 h3 : W.heap[b3]? = some (.cells #[.int .i64 0] T3)
theorem ItAt.sim {b1 b2 b3 : Nat} {p : ByteArray} {T1 T3 : TypeId} {l k : Nat} {r : Str} {tm : Array Value} {W : World} (I : ItAt b1 b2 b3 p T1 T3 l k r tm W) (n12 : b1 ≠ b2) (n23 : b2 ≠ b3) {c : UInt8} (hp : p.data.toList = [c]) :
  Sim W [b2] (fun _ => False) (fun _ => .pointer (some ⟨b2, 0, none⟩)) ((itSh k []).st ((([c], ()), ((), (((0, ()), ())))), (((r, ()), ())))) tm W := by
 obtain ⟨s, T2, h2, hs⟩ := I.h2
 have lt1 : b1 < W.heap.size := (Array.getElem?_eq_some_iff.1 I.h1).1
 have lt2 : b2 < W.heap.size := (Array.getElem?_eq_some_iff.1 h2).1
 have lt3 : b3 < W.heap.size := (Array.getElem?_eq_some_iff.1 I.h3).1
 have hsites : ((itSh k []).st ((([c], ()), ((), (((0, ()), ())))), (((r, ()), ())))).sites = [(1001, .box 0 [.d (.str r)])] := rfl
 have hlv : ∀ σ, jjB [(1001, Site.box 0 [.d (.str r)])] σ → σ = 1001 := fun σ ⟨s, h, _⟩ => by
  simp only [jjJ] at h
  cases hb : Nat.beq 1001 σ with
  | true => exact (Nat.eq_of_beq_eq_true hb).symm
  | false => simp [hb] at h
 have hav : ∀ b, jjm (fun _ => False) (fun _ => Value.pointer (some ⟨b2, 0, none⟩)) [(1001, Site.box 0 [.d (.str r)])] b → b = b2 := by
  rintro b (h | ⟨σ, _, h⟩)
  ·exact h.elim
  ·simp only [blk, Option.some.injEq] at h; exact h.symm
 refine ⟨I.size, fun t => ?_, fun σ site h => ?_, fun σ τ b h1 h2 _ _ => ?_, fun σ b h1 h2 => ?_, Fr.refl _ _, fun b h => h.elim⟩
 ·rw [hsites]
  show SVOk _ _ _ _ (match jjJ [(1, lfv (.rptr [.str [c]] 0)), (2, lfv (.ptr 1001 0 0)), (3, lfv (.rptr [.int .i64 0] 0))] t with | some v => v | none => .av (.lf .any)) _
  simp only [jjJ]
  by_cases e1 : t = 1
  ·subst e1
   refine ⟨b1, 0, I.y1, fun h => n12 (hav _ h), lt1, [.string p], rfl, fun j u hu => ?_, fun j h h' => ?_⟩
   ·match j, hu with
    | 0, hu => cases hu; simp [World.cell?, I.h1]
   ·match j, h, h' with
    | 0, _, _ => exact .str _ _ hp
  ·by_cases e2 : t = 2
   ·subst e2
    exact ⟨b2, I.y2, _, rfl, Nat.le_refl _, fun _ => rfl⟩
   ·by_cases e3 : t = 3
    ·subst e3
     refine ⟨b3, 0, I.y3, fun h => n23 (hav _ h).symm, lt3, [.int .i64 0], rfl, fun j u hu => ?_, fun j h h' => ?_⟩
     ·match j, hu with
      | 0, hu => cases hu; simp [World.cell?, I.h3]
     ·match j, h, h' with
      | 0, _, _ => exact .int _ _
    ·rw [beqF (fun e => e1 e.symm), beqF (fun e => e2 e.symm), beqF (fun e => e3 e.symm)]
     trivial
 ·rw [hsites] at h ⊢
  simp only [jjJ] at h
  cases hb : Nat.beq 1001 σ with
  | false => simp [hb] at h
  | true =>
   simp only [hb, cond_true, Option.some.injEq] at h
   subst h
   refine ⟨b2, T2, [.string s], rfl, h2, rfl, fun u hu => ?_, fun j h h' => ?_⟩
   ·rw [List.mem_singleton.1 hu]; rfl
   ·match j, h, h' with
    | 0, _, _ => exact Rd.str _ _ hs
 ·rw [hlv σ h1, hlv τ h2]
 ·simp only [blk, Option.some.injEq] at h2
  exact ⟨fun h => h, .inl (by simp [h2])⟩
theorem ItAt.of {b1 b2 b3 : Nat} {p : ByteArray} {T1 T3 : TypeId} {l k : Nat} {r r' : Str} {tm tm' : Array Value} {W W' : World} (I : ItAt b1 b2 b3 p T1 T3 l k r tm W) (n12 : b1 ≠ b2) (n23 : b2 ≠ b3) {more : List (Nat × SSh)} {y : (itSh k more).Y} {ι : Nat → Value}
  {X : Nat → Prop} (S : Sim W [b2] X ι ((itSh k more).st y) tm' W') (ht : ∀ t, t < 4 → tm'.getD t undef = tm.getD t undef) (hy : y.2 = ((r', ()), ())) : ItAt b1 b2 b3 p T1 T3 l k r' tm' W' := by
 have lt1 : b1 < W.heap.size := (Array.getElem?_eq_some_iff.1 I.h1).1
 have lt3 : b3 < W.heap.size := (Array.getElem?_eq_some_iff.1 I.h3).1
 refine ⟨S.nt, (ht 0 (by omega)).trans I.y0, (ht 1 (by omega)).trans I.y1, (ht 2 (by omega)).trans I.y2, (ht 3 (by omega)).trans I.y3, (S.frame.block b1 lt1 (by simp [n12])).trans I.h1, ?_, (S.frame.block b3 lt3 (by simp [n23.symm])).trans I.h3⟩
 have hsite : jjJ ((itSh k more).st y).sites 1001 = some (.box 0 [.d (.str r')]) := by
  show jjJ (jq1 (itSh k more).sites y.2) 1001 = _
  rw [hy]; rfl
 have hslot := S.slots 2
 have hg : ((itSh k more).st y).get 2 = lfv (.ptr 1001 0 0) := rfl
 rw [hg] at hslot
 obtain ⟨b, hb, hr⟩ := hslot
 have hι := Ref.at hr hsite rfl
 rw [ht 2 (by omega), I.y2] at hb
 simp only [Value.pointer.injEq, Option.some.injEq, Addr.mk.injEq, and_true] at hb
 obtain ⟨b', T, cur, g1, g2, g3, g4, g5⟩ := S.sites 1001 _ hsite
 rw [hι] at g1
 simp only [Value.pointer.injEq, Option.some.injEq, Addr.mk.injEq, and_true] at g1
 match cur, g3 with
 | [u], _ =>
  obtain ⟨s, hs1, hs2⟩ := jqL (g5 0 (by simp) (by simp))
  simp only [List.getElem_cons_zero] at hs1
  subst hs1
  exact ⟨s, T, by rw [hb, g1]; exact g2, hs2⟩
end
theorem jJe (c : UInt8) (s : Str) : jjy c s ≠ [] := by
 cases s with
 | nil => simp [jjy]
 | cons b r =>
  simp only [jjy]
  cases b == c
  ·simp only [cond_false]; split <;> simp
  ·simp
theorem splitL_none {c : UInt8} {s : Str} (h : Lib.indexByte s c < 0) : jjy c s = [s] := by
 induction s with
 | nil => rfl
 | cons b r ih =>
  simp only [Lib.indexByte] at h
  split at h
  ·omega
  ·rename_i hb
   split at h
   ·rename_i h1
    have h1 : Lib.indexByte r c = -1 := by simpa using h1
    have := ih (by omega)
    have hb : (b == c) = false := by simpa using hb
    simp only [jjy, hb, cond_false, this]
   ·rename_i h1
    have := Lib.indexByte_ge r c
    have h1 : ¬ Lib.indexByte r c = -1 := by simpa using h1
    omega
theorem splitL_some {c : UInt8} {s : Str} (h : 0 ≤ Lib.indexByte s c) : jjy c s = s.take (Lib.indexByte s c).toNat :: jjy c (s.drop ((Lib.indexByte s c).toNat + 1)) ∧ (Lib.indexByte s c).toNat < s.length := by
 induction s with
 | nil => simp [Lib.indexByte] at h
 | cons b r ih =>
  simp only [Lib.indexByte] at h ⊢
  by_cases hb : (b == c) = true
  ·simp only [hb, if_true] at h ⊢
   simp [jjy, hb]
  ·have hb' : (b == c) = false := by simpa using hb
   simp only [hb', Bool.false_eq_true, if_false] at h ⊢
   by_cases h1 : (Lib.indexByte r c == -1) = true
   ·simp only [h1, if_true] at h; omega
   ·have h1' : (Lib.indexByte r c == -1) = false := by simpa using h1
    simp only [h1', Bool.false_eq_true, if_false] at h ⊢
    have hge := Lib.indexByte_ge r c
    have h1 : ¬ Lib.indexByte r c = -1 := by simpa using h1
    obtain ⟨g1, g2⟩ := ih (by omega)
    have e : (Lib.indexByte r c + 1).toNat = (Lib.indexByte r c).toNat + 1 := by omega
    rw [e]
    refine ⟨?_, by simp; omega⟩
    simp only [jjy, hb', cond_false, g1, List.take_succ_cons, List.drop_succ_cons]
def iy (k : Nat) (c : UInt8) (r : Str) : (itSh k []).Y := ((([c], ()), ((), ((0, ()), ()))), ((r, ()), ()))
def ist (k : Nat) (c : UInt8) (r : Str) : St := (itSh k []).st (iy k c r)
def kEnd (k : Nat) : Out → Option (itSh k []).Y
 | .norm st => (itSh k []).ex st
 | _ => none
def kCut (k t7 t8 : Nat) : Out → Option (Sum (itSh k []).Y ((Int × Str) × (itSh k []).Y))
 | .norm st => match st.get t7, st.get t8 with
  | .av (.lf (.d (.int .i64 i))), .av (.lf (.d (.str x))) => ((itSh k []).ex st).map fun y => .inr ((i, x), y)
  | _, _ => none
 | _ => none
noncomputable def kIf (C : CtxC) (k t7 t8 : Nat) (r7 : Code) (p7 : Nat) : Out → Option (Sum (itSh k []).Y ((Int × Str) × (itSh k []).Y))
 | .exit id st => bif Nat.beq id 2 then ((itSh k []).ex st).map .inl else none
 | .norm st => jJP C r7 p7 st (kCut k t7 t8)
 | _ => none
noncomputable def kIdx (C : CtxC) (k t7 t8 : Nat) (c6 r7 : Code) (p6 p7 : Nat) : Out → Option (Sum (itSh k []).Y ((Int × Str) × (itSh k []).Y))
 | .norm st => jJP C c6 p6 st (kIf C k t7 t8 r7 p7)
 | _ => none
noncomputable def two (k : Nat) (C : Ctx) (st : St) (o0 o1 : Oper) (a b : Nat) : Option ((Value × Str) × (itSh k []).Y) :=
 jzh C st o0 fun st => jzh C st o1 fun st => match st.get a, st.get b with
  | .av (.lf (.cst v)), .av (.lf (.d (.str x))) => ((itSh k []).ex st).map fun y => ((v, x), y)
  | _, _ => none
noncomputable def one3 (k : Nat) (C : Ctx) (st : St) (o3 : Oper) (t42 : Nat) : Option (Bool × (itSh k []).Y) :=
 jzh C st o3 fun st => match st.get t42 with
  | .av (.lf (.d (.bool b))) => ((itSh k []).ex st).map fun y => (b, y)
  | _ => none
section
variable {P : Program} {w0 : World} {fb : List Nat} {X : Nat → Prop} {ι : Nat → Value} {st : St} {tm : Array Value} {w : World}
theorem slot_int (S : Sim w0 fb X ι st tm w) {t : Nat} {k : IntKind} {n : Int} (h : st.get t = .av (.lf (.d (.int k n)))) : tm.getD t undef = .int k n := by
 have := S.slots t; rw [h] at this; exact jxa this
theorem slot_str (S : Sim w0 fb X ι st tm w) {t : Nat} {x : Str} (h : st.get t = .av (.lf (.d (.str x)))) : ∃ b, tm.getD t undef = .string b ∧ b.data.toList = x := by
 have := S.slots t; rw [h] at this; exact jqL this
theorem slot_bool (S : Sim w0 fb X ι st tm w) {t : Nat} {x : Bool} (h : st.get t = .av (.lf (.d (.bool x)))) : tm.getD t undef = .bool x := by
 have := S.slots t; rw [h] at this; exact jqG this
theorem slot_cst (S : Sim w0 fb X ι st tm w) {t : Nat} {x : Value} (h : st.get t = .av (.lf (.cst x))) : tm.getD t undef = x := by
 have := S.slots t; rw [h] at this; exact this
theorem two_ok {C : Ctx} (H : CtxGood P C) {k : Nat} {o0 o1 : Oper} {a b : Nat} {v : Value} {x : Str} {y : (itSh k []).Y} (h : two k C st o0 o1 a b = some ((v, x), y)) (S : Sim w0 fb X ι st tm w) {ds : List Deferred} {K : Act → World → Prop} {Q : Exit → Act → World → Prop}
  (hK : ∀ tm' w' xb ι', tm'.getD a undef = v → tm'.getD b undef = .string xb → xb.data.toList = x → (∀ t, t ∉ o0.dst.toList ++ o1.dst.toList → tm'.getD t undef = tm.getD t undef) →
   Sim w0 fb X ι' ((itSh k []).st y) tm' w' → K ⟨tm', ds⟩ w') : o0.wpIn (FR none) 0 P ⟨tm, ds⟩ w (fun a' w' => o1.wpIn (FR none) 0 P a' w' K Q) Q := by
 refine jqM S H h fun st1 ι1 tm1 w1 e1 S1 ht1 => ?_
 refine jqM S1 H e1 fun st2 ι2 tm2 w2 e2 S2 ht2 => ?_
 split at e2
 ·rename_i v' x' ha hb
  obtain ⟨y', hy, he⟩ := Option.map_eq_some_iff.1 e2
  cases he
  obtain ⟨xb, g1, g2⟩ := slot_str S2 hb
  obtain ⟨ι3, S3, _⟩ := Shape.ex_ok S2 hy
  refine hK tm2 w2 xb ι3 (slot_cst S2 ha) g1 g2 (fun t ht => ?_) S3
  simp only [List.mem_append, not_or] at ht
  rw [ht2 t ht.2, ht1 t ht.1]
 ·cases e2
theorem one3_ok {C : Ctx} (H : CtxGood P C) {k : Nat} {o3 : Oper} {t42 : Nat} {b : Bool} {y : (itSh k []).Y} (h : one3 k C st o3 t42 = some (b, y)) (S : Sim w0 fb X ι st tm w) {ds : List Deferred} {K : Act → World → Prop} {Q : Exit → Act → World → Prop}
  (hK : ∀ tm' w' ι', tm'.getD t42 undef = .bool b → (∀ t, t ∉ o3.dst.toList → tm'.getD t undef = tm.getD t undef) → Sim w0 fb X ι' ((itSh k []).st y) tm' w' → K ⟨tm', ds⟩ w') : o3.wpIn (FR none) 0 P ⟨tm, ds⟩ w K Q := by
 refine jqM S H h fun st1 ι1 tm1 w1 e1 S1 ht1 => ?_
 split at e1
 ·rename_i b' hb
  obtain ⟨y', hy, he⟩ := Option.map_eq_some_iff.1 e1
  cases he
  obtain ⟨ι3, S3, _⟩ := Shape.ex_ok S1 hy
  exact hK tm1 w1 ι3 (slot_bool S1 hb) ht1 S3
 ·cases e1
structure IterText (P : Program) (C : CtxC) (g' : FuncId) (fn : Func) (k : Nat) (A r5 c6 r7 r9 : Code) (o0 o1 o2 o3 q0 q1 q2 : Oper) (pA p5 p6 p7 p9 t7 t8 a1 a2 t41 t42 u1 u2 : Nat) (ty ty' : Array TypeId) : Prop where
 isFn : P.funcs[g']? = some fn
 nt : fn.ntmps = k
 k4 : 4 ≤ k
 res : fn.results = #[]
 ent : ∀ args w, (callFunc g' args).run P w = .ok (.enter g' args) w
 body : ∃ i8 i10, fn.body = some (.seq A (.seq (.block 2 (.loop (.block 3 (.seq r5 (.seq c6 (.seq r7 (.seq (.seq (.region i8 #[o0, o1, o2, o3] false) (.cond (.tmp t42) .ret .skip)) r9))))))) (.region i10 #[q0, q1, q2] false)))
 nr : (jqo A && (jqo r5 && (jqo c6 && (jqo r7 && jqo r9)))) = true
 wr : jxe [0, 1, 2, 3] (wrC A ++ (wrC r5 ++ (wrC c6 ++ (wrC r7 ++ wrC r9)))) = true
 gd : o0.guard = none ∧ o1.guard = none ∧ o2.guard = none ∧ o3.guard = none ∧ q0.guard = none ∧ q1.guard = none ∧ q2.guard = none
 wo : jxe [0, 1, 2, 3, t7] (o0.dst.toList ++ (o1.dst.toList ++ (o3.dst.toList ++ [t41]))) = true
 wq : jxe [0, 1, 2, 3] (q0.dst.toList ++ q1.dst.toList) = true
 d2 : o2.dst = some t41
 lt41 : t41 < k
 c2 : o2.op = .call { callee := .value (.tmp a1), args := #[.tmp a2], argTypes := ty }
 d5 : q2.op = .call { callee := .value (.tmp u1), args := #[.tmp u2], argTypes := ty' }
 orcs : Orcs P C A pA ∧ Orcs P C r5 p5 ∧ Orcs P C c6 p6 ∧ Orcs P C r7 p7 ∧ Orcs P C r9 p9
 hA : ∀ c r, jJP C A pA (ist k c r) (kEnd k) = some (iy k c r)
 hB : ∀ c r, jJP C r5 p5 (ist k c r) (kIdx C k t7 t8 c6 r7 p6 p7) = bif decide (Lib.indexByte r c < 0) then some (.inl (iy k c r)) else (jqJ r 0 (IntKind.i64.wrap (Lib.indexByte r c + 0))).bind fun x => some (.inr ((Lib.indexByte r c, x), iy k c r))
 hT : ∀ c r i x v, two k C.toCtx ((((ist k c r).set t7 (one (.int .i64 i))).set t8 (one (.str x))).set 0 (lfv (.cst v))) o0 o1 a1 a2 = some ((v, x), iy k c r)
 h3 : ∀ c r b, one3 k C.toCtx ((ist k c r).set t41 (one (.bool b))) o3 t42 = some (!b, iy k c r)
 h30 : (jzh C.toCtx ⟨[(t41, one (.bool false))], [], k⟩ o3 fun st => match st.get t42 with | .av (.lf (.d (.bool b))) => some b | _ => none) = some true
 hC : ∀ c r i, jJP C r9 p9 ((ist k c r).set t7 (one (.int .i64 i))) (kEnd k) = (jqJ r (IntKind.i64.wrap (i + (([c] : Str).length : Int))) r.length).bind fun x => some (iy k c x)
 hQ : ∀ c r v, two k C.toCtx ((ist k c r).set 0 (lfv (.cst v))) q0 q1 u1 u2 = some ((v, r), iy k c r)
end
section
variable {P : Program} {C : CtxC} {b1 b2 b3 l k : Nat} {p : ByteArray} {T1 T3 : TypeId} {c : UInt8} {r r' : Str} {tm : Array Value} {W : World}
theorem notIn {a b : List Nat} (h : jxe a b = true) {t : Nat} (ht : t ∈ a) : t ∉ b := fun h' => by have := jzl ht h'; rw [h] at this; cases this
theorem wrap_small {n : Int} (h : 0 ≤ n) (h2 : n ≤ 4611686018427387905) : IntKind.i64.wrap n = n := by
 have e1 : IntKind.i64.bits = 64 := rfl
 have e2 : IntKind.i64.signed = true := rfl
 unfold IntKind.wrap
 simp only [e1, e2, Bool.true_and, decide_eq_true_eq]
 have e3 : (2 ^ 64 : Int) = 18446744073709551616 := by decide
 have e4 : (2 ^ (64 - 1) : Int) = 9223372036854775808 := by decide
 rw [e3, e4]
 have : n % 18446744073709551616 = n := Int.emod_eq_of_lt h (by omega)
 rw [this]
 rw [if_neg (by omega)]
theorem iter_ok (H : CtxGood P C.toCtx) {g' : FuncId} {fn : Func} {k : Nat} {A r5 c6 r7 r9 : Code} {o0 o1 o2 o3 q0 q1 q2 : Oper} {pA p5 p6 p7 p9 t7 t8 a1 a2 t41 t42 u1 u2 : Nat} {ty ty' : Array TypeId}
  (T : IterText P C g' fn k A r5 c6 r7 r9 o0 o1 o2 o3 q0 q1 q2 pA p5 p6 p7 p9 t7 t8 a1 a2 t41 t42 u1 u2 ty ty') (hmark : jxe [jjP] (wrC A ++ (wrC r5 ++ (wrC c6 ++ (wrC r7 ++ wrC r9)))) = true) (ht78 : t7 ≠ t8 ∧ t7 ≠ 0 ∧ t8 ≠ 0 ∧ t41 ≠ t7 ∧ t41 ≠ 0) : jzq P g' := by
 refine ⟨T.ent, ?_⟩
 intro l b1 b2 b3 p s c T1 T2 T3 W J Jx hp hlen n12 n13 n23 h1 h2 h3 aJ aX round hJ0
 obtain ⟨i8, i10, hbody⟩ := T.body
 have nr := T.nr
 simp only [Bool.and_eq_true] at nr
 obtain ⟨nrA, nr5, nr6, nr7, nr9⟩ := nr
 have four : ∀ {t : Nat}, t < 4 → t ∈ [0, 1, 2, 3] := fun {t} h => by
  have : t = 0 ∨ t = 1 ∨ t = 2 ∨ t = 3 := by omega
  rcases this with rfl | rfl | rfl | rfl <;> simp
 have hw4 : ∀ t, t < 4 → t ∉ wrC A ∧ t ∉ wrC r5 ∧ t ∉ wrC c6 ∧ t ∉ wrC r7 ∧ t ∉ wrC r9 := fun t ht => by
  have := notIn T.wr (four ht)
  simpa only [List.mem_append, not_or] using this
 have hwm : jjP ∉ wrC A ∧ jjP ∉ wrC r5 ∧ jjP ∉ wrC c6 ∧ jjP ∉ wrC r7 ∧ jjP ∉ wrC r9 := by
  have := notIn hmark (List.mem_singleton.2 rfl)
  simpa only [List.mem_append, not_or] using this
 have arrive : ∀ {r r' : Str} {tm : Array Value} {W : World} {Wd : List Nat} {st' : St} {a' : Act} {w' : World}, ItAt b1 b2 b3 p T1 T3 l k r tm W → (∀ t, t < 4 → t ∉ Wd) → jjP ∉ Wd → At W [b2] (fun _ => False) [] tm Wd st' a' w' → (itSh k []).ex st' = some (iy k c r') →
   a'.defers = [] ∧ ItAt b1 b2 b3 p T1 T3 l k r' a'.tmps w' ∧ Fr [b2] W w' := by
  rintro r r' tm W Wd st' a' w' I hd hm ⟨w1, fb1, X1, ι, Ds, B, M, ⟨hdf, hds⟩, S, kept⟩ hex
  have hDs := hds hm
  subst hDs
  obtain ⟨ι2, S2, _⟩ := Shape.ex_ok S hex
  have S3 := Sim.unbase B S2
  exact ⟨hdf, I.of n12 n23 S3 (fun t ht => kept t (hd t ht)) rfl, S3.frame⟩
 refine callsIn_of_wp_marks T.isFn hbody trivial ?_ rfl
 obtain ⟨tm0, htm0⟩ : ∃ tm0, (#[.func (.yield l) #[] #[]] ++ #[.pointer (some ⟨b1, 0, none⟩), .pointer (some ⟨b2, 0, none⟩), .pointer (some ⟨b3, 0, none⟩)] ++
   Array.replicate (fn.ntmps - (#[Value.func (.yield l) #[] #[]] ++ #[Value.pointer (some ⟨b1, 0, none⟩), Value.pointer (some ⟨b2, 0, none⟩), Value.pointer (some ⟨b3, 0, none⟩)] : Array Value).size) undef : Array Value) = tm0 := ⟨_, rfl⟩
 rw [htm0]
 have k4 := T.k4
 have I0 : ItAt b1 b2 b3 p T1 T3 l k s.data.toList tm0 W := by
  refine ⟨?_, ?_, ?_, ?_, ?_, h1, ⟨s, T2, h2, rfl⟩, h3⟩
  ·rw [← htm0, T.nt]; simp; omega
  ·rw [← htm0]; simp [Array.getD_eq_getD_getElem?, Array.getElem?_append]
  ·rw [← htm0]; simp [Array.getD_eq_getD_getElem?, Array.getElem?_append]
  ·rw [← htm0]; simp [Array.getD_eq_getD_getElem?, Array.getElem?_append]
  ·rw [← htm0]; simp [Array.getD_eq_getD_getElem?, Array.getElem?_append]
 obtain ⟨R, hR⟩ : ∃ R : Ending → World → Prop, R = fun e W' => (∃ v, e = .returned v) ∧ (J [] W' ∨ Jx W') := ⟨_, rfl⟩
 rw [← hR]
 have fin : ∀ (tm : Array Value) (W' : World), (J [] W' ∨ Jx W') → LeavesInM (FR none) 0 P fn tm R [] .returning W' := fun tm W' h => by
  refine ⟨.tuple #[], run_results (outs := []) (by rw [T.res]) (rv := []) (by simp), ?_⟩
  rw [hR]; exact ⟨⟨_, rfl⟩, h⟩
 refine wpIn_seq (jqF (rn := none) H A pA (.inr nrA) T.orcs.1 W [b2] _ (ist k c s.data.toList) _ tm0 W [] (kEnd k) _ (T.hA c s.data.toList) (I0.sim n12 n23 hp) ?_)
 intro oA eA aA wA hkA hlA
 cases oA with
 | exit id st => cases hkA
 | ret st => cases hkA
 | norm stA =>
 cases eA <;> try exact hlA.elim
 obtain ⟨dA, IA, FA⟩ := arrive I0 (fun t ht => (hw4 t ht).1) hwm.1 hlA hkA
 have JA := aJ _ _ _ hJ0 FA
 obtain ⟨tmA, dfA⟩ := aA
 have dA : dfA = [] := dA
 subst dA
 have last : ∀ {r : Str} {tm : Array Value} {W : World}, ItAt b1 b2 b3 p T1 T3 l k r tm W → J [r] W → CW none P (.region i10 #[q0, q1, q2] false) (bodyPostM (FR none) 0 P fn R) ⟨tm, []⟩ W := by
  intro r tm W I hj
  refine wpIn_region ?_
  rw [show List.range (#[q0, q1, q2] : Array Oper).size = [0, 1, 2] from rfl]
  have S := (I.sim n12 n23 hp).reslot (t := 0) (v := lfv (.cst (.func (.yield l) #[] #[]))) (show tm.getD 0 undef = _ from I.y0)
  have g4 : q0.guard = none := T.gd.2.2.2.2.1
  have g5 : q1.guard = none := T.gd.2.2.2.2.2.1
  have g6 : q2.guard = none := T.gd.2.2.2.2.2.2
  simp only [wpOpsIn, List.getElem?_toArray, List.getElem?_cons_zero, List.getElem?_cons_succ, Region.wanted, g4, g5, g6, if_true]
  refine two_ok H (T.hQ c r _) S ?_
  intro tm' w' xb ι' ya yb hxb kept S'
  have I' : ItAt b1 b2 b3 p T1 T3 l k r tm' w' := I.of n12 n23 S' (fun t ht => kept t (notIn T.wq (four ht))) rfl
  have J' := aJ _ _ _ hj S'.frame
  obtain ⟨s2, T2', h2', hs2⟩ := I'.h2
  refine yield_op T.d5 ya yb (round r [] w' xb J' (Array.getElem?_eq_some_iff.1 I'.h1).1 (Array.getElem?_eq_some_iff.1 h2').1 (Array.getElem?_eq_some_iff.1 I'.h3).1 hxb) ?_
  rintro e w2 (⟨rfl, g, _⟩ | ⟨rfl, g⟩)
  ·exact ⟨_, rfl, fin _ _ (.inl g)⟩
  ·exact ⟨_, rfl, fin _ _ (.inr g)⟩
 refine wpIn_seq (wpIn_block (wpIn_loop (I := fun a W => ∃ r tm, a = ⟨tm, []⟩ ∧ ItAt b1 b2 b3 p T1 T3 l k r tm W ∧ J (jjy c r) W ∧ r.length ≤ jzn)
  (μ := fun a W => match W.heap[b2]? with | some (.cells cur _ _) => (match cur.toList with | [.string s] => s.data.toList.length | _ => 0) | _ => 0) ⟨_, tmA, rfl, IA, JA, hlen⟩ ?_))
 rintro a W ⟨r, tm, rfl, I, hj, hrl⟩
 have hμ : (match W.heap[b2]? with | some (.cells cur _ _) => (match cur.toList with | [.string s] => s.data.toList.length | _ => 0) | _ => 0) = r.length := by
  obtain ⟨s2, T2', h2', hs2⟩ := I.h2
  rw [h2']; simp only; rw [hs2]
 rw [hμ]
 have cutQ : ∃ res, jJP C r5 p5 (ist k c r) (kIdx C k t7 t8 c6 r7 p6 p7) = some res ∧ ((res = .inl (iy k c r) ∧ jjy c r = [r]) ∨ ∃ i x, res = .inr ((i, x), iy k c r) ∧ 0 ≤ i ∧ i.toNat < r.length ∧ x = r.take i.toNat ∧ jjy c r = x :: jjy c (r.drop (i.toNat + 1)) ) := by
  rw [T.hB]
  by_cases hi : Lib.indexByte r c < 0
  ·simp only [hi, decide_true, cond_true]
   exact ⟨_, rfl, .inl ⟨rfl, splitL_none hi⟩⟩
  ·simp only [hi, decide_false, cond_false]
   obtain ⟨g1, g2⟩ := splitL_some (c := c) (s := r) (by omega)
   have hw : IntKind.i64.wrap (Lib.indexByte r c + 0) = Lib.indexByte r c := by rw [Int.add_zero]; exact wrap_small (by omega) (by unfold jzn at hrl; omega)
   have hsub : jqJ r 0 (IntKind.i64.wrap (Lib.indexByte r c + 0)) = some (r.take (Lib.indexByte r c).toNat) := by
    rw [hw]; unfold jqJ; rw [if_pos ⟨by omega, by omega, by omega⟩]; simp
   rw [hsub]
   exact ⟨_, rfl, .inr ⟨_, _, rfl, by omega, g2, rfl, g1⟩⟩
 obtain ⟨res, hres, hcase⟩ := cutQ
 refine wpIn_block (wpIn_seq (jqF (rn := none) H r5 p5 (.inr nr5) T.orcs.2.1 W [b2] _ (ist k c r) _ tm W [] (kIdx C k t7 t8 c6 r7 p6 p7) _ hres (I.sim n12 n23 hp) ?_))
 intro o5 e5 a5 w5 hk5 hl5
 cases o5 with
 | exit id st => cases hk5
 | ret st => cases hk5
 | norm st5 =>
 cases e5 <;> try exact hl5.elim
 obtain ⟨wa, fa, Xa, ιa, Da, Ba, Ma, ⟨da, dar⟩, Sa, ka⟩ := hl5
 obtain ⟨tm5, df5⟩ := a5
 have da : df5 = Da.map mark ++ [] := da
 subst da
 refine wpIn_seq (jqF (rn := none) H c6 p6 (.inr nr6) T.orcs.2.2.1 wa fa Xa st5 ιa tm5 w5 _ (kIf C k t7 t8 r7 p7) _ hk5 Sa ?_)
 intro o6 e6 a6 w6 hk6 hl6
 have hl6 := Lands.trans Ba Ma dar ka hl6
 cases o6 with
 | ret st => cases hk6
 | exit id st6 =>
  cases e6 <;> try exact hl6.elim
  obtain ⟨hide, hl6'⟩ := hl6
  subst hide
  cases hid : Nat.beq id 2 with
  | false => simp [kIf, hid] at hk6
  | true =>
   have hid := Nat.eq_of_beq_eq_true hid
   subst hid
   simp only [kIf, Nat.beq_refl, cond_true] at hk6
   obtain ⟨y, hy, hyr⟩ := Option.map_eq_some_iff.1 hk6
   rcases hcase with ⟨rfl, hs⟩ | ⟨i, x, rfl, _⟩
   ·cases hyr
    obtain ⟨d6, I6, F6⟩ := arrive I (fun t ht => by simp only [List.mem_append, not_or]; exact ⟨(hw4 t ht).2.1, (hw4 t ht).2.2.1⟩) (by simp only [List.mem_append, not_or]; exact ⟨hwm.2.1, hwm.2.2.1⟩) hl6' hy
    obtain ⟨tm6, df6⟩ := a6
    have d6 : df6 = [] := d6
    subst d6
    have := last I6 (by rw [← hs]; exact aJ _ _ _ hj F6)
    exact this
   ·cases hyr
 | norm st6 =>
 cases e6 <;> try exact hl6.elim
 simp only [kIf] at hk6
 obtain ⟨wb, fb, Xb, ιb, Db, Bb, Mb, ⟨db, dbr⟩, Sb, kb⟩ := hl6
 obtain ⟨tm6, df6⟩ := a6
 have db : df6 = Db.map mark ++ [] := db
 subst db
 refine wpIn_seq (jqF (rn := none) H r7 p7 (.inr nr7) T.orcs.2.2.2.1 wb fb Xb st6 ιb tm6 w6 _ (kCut k t7 t8) _ hk6 Sb ?_)
 intro o7 e7 a7 w7 hk7 hl7
 have hl7 := Lands.trans Bb Mb dbr kb hl7
 cases o7 with
 | exit id st => cases hk7
 | ret st => cases hk7
 | norm st7 =>
 cases e7 <;> try exact hl7.elim
 simp only [kCut] at hk7
 split at hk7
 case h_2 => cases hk7
 rename_i i x hi7 hx8
 obtain ⟨y, hy, hyr⟩ := Option.map_eq_some_iff.1 hk7
 rcases hcase with ⟨rfl, _⟩ | ⟨i', x', rfl, q1, q2, q3, q4⟩
 ·cases hyr
 cases hyr
 have hl70 := hl7
 obtain ⟨d7, I7, F7⟩ := arrive I (fun t ht => by simp only [List.mem_append, not_or]; exact ⟨⟨(hw4 t ht).2.1, (hw4 t ht).2.2.1⟩, (hw4 t ht).2.2.2.1⟩)
  (by simp only [List.mem_append, not_or]; exact ⟨⟨hwm.2.1, hwm.2.2.1⟩, hwm.2.2.2.1⟩) hl7 hy
 obtain ⟨wc, fc, Xc, ιc, Dc, _, _, _, Sc, _⟩ := hl70
 have v7 := slot_int Sc hi7
 obtain ⟨xb, v8, hxb⟩ := slot_str Sc hx8
 obtain ⟨tm7, df7⟩ := a7
 have d7 : df7 = [] := d7
 subst d7
 have J7 := aJ _ _ _ hj F7
 rw [q4] at J7
 refine wpIn_seq (wpIn_seq (wpIn_region ?_))
 rw [show List.range (#[o0, o1, o2, o3] : Array Oper).size = [0, 1, 2, 3] from rfl]
 have g0 : o0.guard = none := T.gd.1
 have g1 : o1.guard = none := T.gd.2.1
 have g2 : o2.guard = none := T.gd.2.2.1
 have g3 : o3.guard = none := T.gd.2.2.2.1
 simp only [wpOpsIn, List.getElem?_toArray, List.getElem?_cons_zero, List.getElem?_cons_succ, Region.wanted, g0, g1, g2, g3, if_true]
 have S7 := (((I7.sim n12 n23 hp).reslot (t := t7) (v := one (.int .i64 i)) (by rw [show tm7.getD t7 undef = _ from v7]; exact .int _ _)).reslot (t := t8) (v := one (.str x)) (by rw [show tm7.getD t8 undef = _ from v8]; exact .str _ _ hxb)).reslot (t := 0) (v := lfv (.cst (.func (.yield l) #[] #[]))) (show tm7.getD 0 undef = _ from I7.y0)
 refine two_ok H (T.hT c r i x _) S7 ?_
 intro tm8 w8 xb8 ι8 ya yb hxb8 kept8 S8
 have hwo : ∀ t, t ∈ [0, 1, 2, 3, t7] → t ∉ o0.dst.toList ++ o1.dst.toList ∧ t ∉ o3.dst.toList ∧ t ≠ t41 := fun t ht => by
  have := notIn T.wo ht
  simp only [List.mem_append, List.mem_singleton, not_or] at this
  exact ⟨by simp only [List.mem_append, not_or]; exact ⟨this.1, this.2.1⟩, this.2.2.1, this.2.2.2⟩
 have five : ∀ {t : Nat}, t < 4 → t ∈ [0, 1, 2, 3, t7] := fun {t} h => by
  have := four h
  simp only [List.mem_cons, List.not_mem_nil, or_false] at this ⊢
  rcases this with h | h | h | h <;> simp [h]
 have m7 : t7 ∈ [0, 1, 2, 3, t7] := by simp
 have I8 : ItAt b1 b2 b3 p T1 T3 l k r tm8 w8 := I7.of n12 n23 S8 (fun t ht => kept8 t (hwo t (five ht)).1) rfl
 have v87 : tm8.getD t7 undef = .int .i64 i := (kept8 t7 (hwo t7 m7).1).trans v7
 have J8 := aJ _ _ _ J7 S8.frame
 obtain ⟨s2, T2', h2', hs2⟩ := I8.h2
 refine yield_op T.c2 ya yb (round x _ w8 xb8 J8 (Array.getElem?_eq_some_iff.1 I8.h1).1 (Array.getElem?_eq_some_iff.1 h2').1 (Array.getElem?_eq_some_iff.1 I8.h3).1 hxb8) ?_
 have behind : ∀ (b : Bool) (w9 : World), ItAt b1 b2 b3 p T1 T3 l k r (jqN tm8 o2.dst (.bool b)) w9 → (b = true → J (jjy c (r.drop (i.toNat + 1))) w9) → (b = false → Jx w9) → ∀ Q : Exit → Act → World → Prop,
   (∀ a w, a.defers = [] → Jx w → Q .ret a w) → (∀ tm2 w2, ItAt b1 b2 b3 p T1 T3 l k (r.drop (i.toNat + 1)) tm2 w2 → J (jjy c (r.drop (i.toNat + 1))) w2 → Q .normal ⟨tm2, []⟩ w2) →
   o3.wpIn (FR none) 0 P ⟨jqN tm8 o2.dst (.bool b), []⟩ w9 (Exit.then (fun a w => CW none P (.cond (.tmp t42) .ret .skip) (Exit.then (fun a w => CW none P r9 Q a w) Q) a w) (Exit.then (fun a w => CW none P r9 Q a w) Q) .normal)
    (Exit.then (fun a w => CW none P (.cond (.tmp t42) .ret .skip) (Exit.then (fun a w => CW none P r9 Q a w) Q) a w) (Exit.then (fun a w => CW none P r9 Q a w) Q)) := by
  intro b w9 I9 hbt hbf Q hret hnorm
  have vb : (jqN tm8 o2.dst (.bool b)).getD t41 undef = .bool b := by
   rw [T.d2]
   have : t41 < tm8.size := by rw [I8.size]; exact T.lt41
   simp [jqN, Array.getD_eq_getD_getElem?, this]
  have v97 : (jqN tm8 o2.dst (.bool b)).getD t7 undef = .int .i64 i := by
   rw [jqy (by rw [T.d2]; simp; exact (hwo t7 m7).2.2)]; exact v87
  have S9 := (I9.sim n12 n23 hp).reslot (t := t41) (v := one (.bool b)) (by rw [show (jqN tm8 o2.dst (.bool b)).getD t41 undef = _ from vb]; exact .bool _)
  refine one3_ok H (T.h3 c r b) S9 ?_
  intro tm10 w10 ι10 v42 kept10 S10
  have I10 : ItAt b1 b2 b3 p T1 T3 l k r tm10 w10 := I9.of n12 n23 S10 (fun t ht => kept10 t (hwo t (five ht)).2.1) rfl
  have v107 : tm10.getD t7 undef = .int .i64 i := (kept10 t7 (hwo t7 m7).2.1).trans v97
  cases b with
  | false =>
   have hj9 := aX _ _ (hbf rfl) S10.frame
   exact wpIn_cond (t := true) v42 (wpIn_ret (hret _ _ rfl hj9))
  | true =>
   have hj9 := aJ _ _ _ (hbt rfl) S10.frame
   refine wpIn_cond (t := false) v42 (wpIn_skip ?_)
   have Se := (I10.sim n12 n23 hp).reslot (t := t7) (v := one (.int .i64 i)) (by rw [show tm10.getD t7 undef = _ from v107]; exact .int _ _)
   have hsub : jqJ r (IntKind.i64.wrap (i + (([c] : Str).length : Int))) r.length = some (r.drop (i.toNat + 1)) := by
    have e1 : (([c] : Str).length : Int) = 1 := rfl
    rw [e1, wrap_small (by omega) (by unfold jzn at hrl; omega)]
    unfold jqJ
    rw [if_pos ⟨by omega, by omega, by omega⟩]
    have e2 : (i + 1).toNat = i.toNat + 1 := by omega
    simp [e2]
   have hC := T.hC c r i
   rw [hsub] at hC
   refine jqF (rn := none) H r9 p9 (.inr nr9) T.orcs.2.2.2.2 w10 [b2] _ _ _ tm10 w10 [] (kEnd k) _ hC Se ?_
   intro o11 e11 a11 w11 hk11 hl11
   cases o11 with
   | exit id st => cases hk11
   | ret st => cases hk11
   | norm st11 =>
   cases e11 <;> try exact hl11.elim
   obtain ⟨d11, I11, F11⟩ := arrive I10 (fun t ht => (hw4 t ht).2.2.2.2) hwm.2.2.2.2 hl11 hk11
   obtain ⟨tm11, df11⟩ := a11
   have d11 : df11 = [] := d11
   subst d11
   exact hnorm tm11 w11 I11 (aJ _ _ _ hj9 F11)
 have same : ∀ {b : Bool} {w9 : World}, w8.heap.size ≤ w9.heap.size → w9.heap[b1]? = w8.heap[b1]? → w9.heap[b2]? = w8.heap[b2]? → w9.heap[b3]? = w8.heap[b3]? → ItAt b1 b2 b3 p T1 T3 l k r (jqN tm8 o2.dst (.bool b)) w9 := by
  intro b w9 _ e1 e2 e3
  have hp4 : ∀ t, t < 4 → (jqN tm8 o2.dst (.bool b)).getD t undef = tm8.getD t undef := fun t ht => jqy (by rw [T.d2]; simp; exact (hwo t (five ht)).2.2)
  refine ⟨?_, (hp4 0 (by omega)).trans I8.y0, (hp4 1 (by omega)).trans I8.y1, (hp4 2 (by omega)).trans I8.y2, (hp4 3 (by omega)).trans I8.y3, e1.trans I8.h1, ?_, e3.trans I8.h3⟩
  ·rw [← I8.size]; cases o2.dst <;> simp [jqN]
  ·obtain ⟨s3, T3', g, g'⟩ := I8.h2
   exact ⟨s3, T3', e2.trans g, g'⟩
 rintro e w9 (⟨rfl, gJ, gs, gb1, gb2, gb3⟩ | ⟨rfl, gx⟩)
 ·refine ⟨_, rfl, behind true w9 (same gs gb1 gb2 gb3) (fun _ => gJ) (fun h => by cases h) _ (fun a w hd hx => ?_) (fun tm2 w2 I2 J2 => ?_)⟩
  ·show LeavesInM (FR none) 0 P fn a.tmps R a.defers .returning w
   rw [hd]; exact fin _ _ (.inr hx)
  ·have hd : (r.drop (i.toNat + 1)).length < r.length := by rw [List.length_drop]; omega
   refine ⟨⟨_, tm2, rfl, I2, J2, by omega⟩, ?_⟩
   obtain ⟨s4, T4', g4, hs4⟩ := I2.h2
   rw [g4]; simp only; rw [hs4]; exact hd
 ·refine ⟨_, rfl, ?_⟩
  have vb : (jqN tm8 o2.dst (.bool false)).getD t41 undef = .bool false := by
   rw [T.d2]
   have : t41 < tm8.size := by rw [I8.size]; exact T.lt41
   simp [jqN, Array.getD_eq_getD_getElem?, this]
  have S9 : Sim w9 [] (fun _ => False) noι ⟨[(t41, one (.bool false))], [], k⟩ (jqN tm8 o2.dst (.bool false)) w9 := by
   refine ⟨?_, fun t => ?_, fun σ site h => (by cases h), fun σ τ b h => (by obtain ⟨_, h, _⟩ := h; cases h), fun σ b h => (by obtain ⟨_, h, _⟩ := h; cases h), Fr.refl _ _, fun b h => h.elim⟩
   ·rw [T.d2]; simp [jqN, I8.size]
   ·show SVOk _ _ _ _ (match jjJ [(t41, one (.bool false))] t with | some v => v | none => .av (.lf .any)) _
    simp only [jjJ]
    cases hb : t41.beq t with
    | false => trivial
    | true =>
     have := Nat.eq_of_beq_eq_true hb
     subst this
     rw [vb]; exact .bool _
  refine jqM S9 H T.h30 fun st10 ι10 tm10 w10 e10 S10 _ => ?_
  split at e10
  ·rename_i b hb
   cases e10
   have hj9 := aX _ _ gx (S10.frame.mono fun b h => by simp at h)
   refine wpIn_cond (t := true) (slot_bool S10 hb) (wpIn_ret ?_)
   exact fin _ _ (.inr hj9)
  ·cases e10
end
def ridOf : Code → Nat
 | .region i _ _ => i
 | _ => 0
def jzy : Code → Code
 | .rangeFunc _ _ a _ => a
 | _ => .skip
def jzS : Code → Code
 | .rangeFunc _ _ _ b => b
 | _ => .skip
def keysO : List (Nat × Orc) → List Nat
 | [] => []
 | p :: r => p.1 :: keysO r
theorem orcs_none {P : Program} {C : Ctx} {c : Code} {q : Nat} {fr : List (Nat × Orc)} (hd : jxe (keysO fr) (jjM (subs c q)) = true) : Orcs P (jjd C fr) c q := by
 refine orcs_of c q fun p c' hm f hf0 => ?_
 exfalso
 have hf : lookO fr p = some f := hf0
 clear hf0
 have h1 : p ∈ keysO fr := by
  clear hd
  induction fr with
  | nil => cases hf
  | cons x fr ih =>
   obtain ⟨k, g⟩ := x
   simp only [lookO] at hf
   cases hb : k.beq p with
   | true => rw [← Nat.eq_of_beq_eq_true hb]; exact List.mem_cons_self
   | false => simp only [hb, cond_false] at hf; exact List.mem_cons_of_mem _ (ih hf)
 have h2 : p ∈ jjM (subs c q) := by
  generalize subs c q = l at hm
  induction l with
  | nil => cases hm
  | cons x l ih =>
   rcases List.mem_cons.1 hm with rfl | hm
   ·exact List.mem_cons_self
   ·exact List.mem_cons_of_mem _ (ih hm)
 rw [jzl h1 h2] at hd
 cases hd
theorem range_at {P : Program} {C : Ctx} (H : CtxGood P C) {g' : FuncId} (IT : jzq P g') {c : Code} {q p t prm : Nat} {sh : Shape} {os : List OSh} {fr : List (Nat × Orc)} {F : Str → sh.Y → Option (Sum sh.Y (YS os))} {fin : sh.Y → Option (YS os)}
  (hat : jjc c q p = .rangeFunc (.tmp t) #[prm] (jzy (jjc c q p)) (jzS (jjc c q p))) (hd : jxe (keysO fr) (jjM (subs (jzy (jjc c q p)) (2 * p))) = true)
  (hu : jqB (jjM (subs (jzS (jjc c q p)) (2 * p + 1))) = true) (hF : Frags P (jzS (jjc c q p)) (2 * p + 1) fr)
  (hr : ∀ x y, F x y = roundP (jjd C fr) (jzy (jjc c q p)) (jzS (jjc c q p)) p prm sh os x y) (hfin : ∀ y, fin y = exS os (.norm (sh.st y)))
  (hdis : jxe (jjM sh.slots) (prm :: (wrC (jzy (jjc c q p)) ++ wrC (jzS (jjc c q p)))) = true) (hnr1 : jqo (jzy (jjc c q p)) = true) (hnr2 : jqo (jzS (jjc c q p)) = true)
  (hprm : Nat.blt prm sh.nt = true) (hnt : allNt sh.nt os = true) : jjn P (jjc c q p) (jxp g' t sh os F fin) := by
 rw [hat]
 exact range_frag (C := jjd C fr) H IT (orcs_none hd) (jqd hu hF) hr hfin hdis hnr1 hnr2 (by simpa using hprm) hnt
theorem jJC {P : Program} (w : World) (dT sT ty elem : TypeId) (k g o dLen dCap : Nat) (a : Addr) (sLen sCap : Nat) (cur : Array Value) (t : TypeId) (cs : List Value)
  (hu : P.underlying dT = some (.slice elem)) (hs : (P.info? elem).map (·.size) = some k)
  (hg : w.heap[g]? = some (.cells cur t (0, 0))) (hn : cs.length = Nat.min sLen dLen * k)
  (hsrc : ∀ j v, cs[j]? = some v → w.cell? (a.add j) = some v) (hfit : o + cs.length ≤ cur.size) (h1 : ∀ v ∈ cs, v.oneCell' = true) :
  (Builtin.copy_ #[dT, sT] ty #[.slice (some ⟨g, o, none⟩) dLen dCap, .slice (some a) sLen sCap]).run P w =
   .ok (goInt (Nat.min sLen dLen)) (w.setRow g (splice cur.toList o cs).toArray) := by
 have hl := run_loadCells_list (P := P) w a cs hsrc
 have hst := run_storeCells_at P g o t cs 0 cur w hg (by simpa using hfit) h1
 cases hq : P.info? elem with
 | none => simp [hq] at hs
 | some i =>
  have hi : i.size = k := by simpa [hq] using hs
  simp [Builtin.copy_, run_underlying hu, Builtin.lenOf, Builtin.firstCells, sizeOf, typeInfo, hq, hi, ← hn, hl, hst, splice]
theorem wp_copy_k {P : Program} (w : World) {o : Oper} {a : Act} {K : Act → World → Prop} {Q : Exit → Act → World → Prop} (d s : Operand) (t t' : TypeId)
  (ho : o.op = .call { callee := .builtin .copy, args := #[d, s], argTypes := #[t, t'] }) (v u : Value) (hd : a.eval d = v) (hs : a.eval s = u) {v' : Value} {w' : World}
  (hr : (Builtin.copy_ #[t, t'] o.type #[v, u]).run P w = .ok v' w') (h : K (a.put o.dst v') w') : o.wp P a w K Q := by
 unfold Oper.wp execOp
 simp only [ho, resolve, invoke, builtin, Sem.run_bind, Sem.run_pure, Result.andThen_ok, List.map_toArray, List.map_cons, List.map_nil, hd, hs, hr]
 exact h
theorem wpList_copy_k {P : Program} (w : World) {ops : Array Oper} {rest : List Oper} {o : Oper} {a : Act} {Q : Exit → Act → World → Prop} (hgd : o.guard = none) (d s : Operand) (t t' : TypeId)
  (ho : o.op = .call { callee := .builtin .copy, args := #[d, s], argTypes := #[t, t'] }) (v u : Value) (hd : a.eval d = v) (hs : a.eval s = u) {v' : Value} {w' : World}
  (hr : (Builtin.copy_ #[t, t'] o.type #[v, u]).run P w = .ok v' w') (h : wpList P ops Q rest (a.put o.dst v') w') : wpList P ops Q (o :: rest) a w :=
 wpList_plain hgd fun _ hK => wp_copy_k w d s t t' ho v u hd hs hr (hK _ _ h)
theorem step_copy_k {P : Program} {ops : Array Oper} {o : Oper} {a : Act} {w : World} {K : Act → World → Prop} {Q : Exit → Act → World → Prop} {E : Prop}
  (hg : o.guard = none) (d x : Operand) (dT sT : TypeId) (hop : o.op = Op.call { callee := Callee.builtin Builtin.copy, args := #[d, x], argTypes := #[dT, sT] })
  (v u : Value) (hd : a.eval d = v) (hx : a.eval x = u) {v' : Value} {w' : World} (hr : (Builtin.copy_ #[dT, sT] o.type #[v, u]).run P w = .ok v' w') (hK : K (a.put o.dst v') w') :
  if Region.wanted o (yielded ops a.tmps) = true then Oper.wp P o a w K Q else E := by
 have hw : Region.wanted o (yielded ops a.tmps) = true := by simp [Region.wanted, hg]
 rw [if_pos hw]
 exact wp_copy_k w d x dT sT hop v u hd hx hr hK
theorem jxF {P : Program} (w : World) {ops : Array Oper} {rest : List Oper} {o : Oper} {a : Act} {Q : Exit → Act → World → Prop} (hgd : o.guard = none) (d s : Operand) (t t' : TypeId)
  (ho : o.op = .call { callee := .builtin .append, args := #[d, s], argTypes := #[t, t'] }) (v u : Value) (hd : a.eval d = v) (hs : a.eval s = u) {v' : Value} {w' : World}
  (hr : (Builtin.append_ #[t, t'] o.type #[v, u]).run P w = .ok v' w') (h : wpList P ops Q rest (a.put o.dst v') w') : wpList P ops Q (o :: rest) a w :=
 wpList_plain hgd fun _ hK => by
  unfold Oper.wp execOp
  simp only [ho, resolve, invoke, builtin, Sem.run_bind, Sem.run_pure, Result.andThen_ok, List.map_toArray, List.map_cons, List.map_nil, hd, hs, hr]
  exact hK _ _ h
def insArgs (t : Ty) : List Arg → Option (List (den t) × Int × List (den t))
 | [.av (.lf (.fresh t1 xs)), .av (.lf (.d (.int .i64 i))), .av (.lf (.fresh t2 vs))] => if h1 : t1 = t then (if h2 : t2 = t then some (h1 ▸ xs, i, h2 ▸ vs) else none) else none
 | _ => none
def insL {α : Type} (bt : Nat) (xs : List α) (i : Int) (vs : List α) : Option (List α) :=
 if 0 ≤ i ∧ i ≤ xs.length ∧ (xs.length + vs.length) * bt ≤ room ∧ xs.length + vs.length ≤ maxLen then some (xs.take i.toNat ++ vs ++ xs.drop i.toNat) else none
def insSumm (t : Ty) (bt : Nat) : jjF := fun as => match insArgs t as with
 | some (xs, i, vs) => ⟨List (den t), insL bt xs i vs, fun _ => [], fun r => [.lf (.fresh t r)]⟩
 | none => .fail
theorem insArgs_inv {t : Ty} {as : List Arg} {xs : List (den t)} {i : Int} {vs : List (den t)} (h : insArgs t as = some (xs, i, vs)) : as = [.av (.lf (.fresh t xs)), .av (.lf (.d (.int .i64 i))), .av (.lf (.fresh t vs))] := by
 unfold insArgs at h
 split at h
 ·split at h
  ·rename_i h1
   split at h
   ·rename_i h2
    subst h1
    subst h2
    cases h
    rfl
   ·cases h
  ·cases h
 ·cases h
structure InsRoads (P : Program) (f : FuncId) (T e : TypeId) (bt : Nat) : Prop where
 none0 : ∀ (xa : Option Addr) (vc : Nat) (w : World), Calls P f #[.slice none 0 0, .int .i64 0, .slice xa 0 vc] w fun e w' => e = .returned (.slice none 0 0) ∧ w' = w
 none1 : ∀ (g n c i : Nat) (xa : Option Addr) (vc : Nat) (w : World) (hi : i ≤ n) (hnc : n ≤ c) (hc63 : c ≤ 9223372036854775807),
  Calls P f #[.slice (some ⟨g, 0, none⟩) n c, .int .i64 i, .slice xa 0 vc] w fun e w' => e = .returned (.slice (some ⟨g, 0, none⟩) n c) ∧ w' = w
 end0 : ∀ (xa : Option Addr) (m vc : Nat) (w : World) (hm : 0 < m) (v' : Value) (W : World) (hr : ∀ ty, (Builtin.append_ #[T, T] ty #[.slice none 0 0, .slice xa m vc]).run P w = .ok v' W),
  Calls P f #[.slice none 0 0, .int .i64 0, .slice xa m vc] w fun e w' => e = .returned v' ∧ w' = W
 end1 : ∀ (g n c : Nat) (xa : Option Addr) (m vc : Nat) (w : World) (hnc : n ≤ c) (hc63 : c ≤ 9223372036854775807) (hm : 0 < m) (v' : Value) (W : World) (hr : ∀ ty, (Builtin.append_ #[T, T] ty #[.slice (some ⟨g, 0, none⟩) n c, .slice xa m vc]).run P w = .ok v' W),
  Calls P f #[.slice (some ⟨g, 0, none⟩) n c, .int .i64 n, .slice xa m vc] w fun e w' => e = .returned v' ∧ w' = W
 shift : ∀ (g n c i vb m vc : Nat) (cur vcur : Array Value) (te ve : TypeId) (w : World) (hi : i < n) (hm : 0 < m) (hroom : n + m ≤ c) (hc63 : c ≤ 9223372036854775807) (hne : vb ≠ g)
  (hg : w.heap[g]? = some (.cells cur te (0, 0))) (hv : w.heap[vb]? = some (.cells vcur ve (0, 0))) (hcs : cur.size = c * 4) (hvs : m * 4 ≤ vcur.size)
  (h1c : ∀ v ∈ cur.toList.take (n * 4), v.oneCell' = true) (h1v : ∀ v ∈ vcur.toList.take (m * 4), v.oneCell' = true),
  Calls P f #[.slice (some ⟨g, 0, none⟩) n c, .int .i64 i, .slice (some ⟨vb, 0, none⟩) m vc] w fun e w' =>
   e = .returned (.slice (some ⟨g, 0, none⟩) (n + m) c) ∧ w' = w.drew.setRow g (splice (splice cur.toList ((i + m) * 4) ((cur.toList.take (n * 4)).drop (i * 4))) (i * 4) (vcur.toList.take (m * 4))).toArray
 grow : ∀ (g n c i vb m vc : Nat) (cur vcur : Array Value) (te ve : TypeId) (w : World) (hi : i < n) (hm : 0 < m) (hnc : n ≤ c) (hroom : c < n + m) (hc63 : c ≤ 9223372036854775807) (hbig : (n + m) * bt ≤ 140737488355328)
  (hg : w.heap[g]? = some (.cells cur te (0, 0))) (hv : w.heap[vb]? = some (.cells vcur ve (0, 0))) (hcs : cur.size = c * 4) (hvs : m * 4 ≤ vcur.size)
  (h1c : ∀ v ∈ cur.toList.take (n * 4), v.oneCell' = true) (h1v : ∀ v ∈ vcur.toList.take (m * 4), v.oneCell' = true),
  ∃ G ROW, ∃ W : World, G ≤ maxLen ∧ n + m ≤ G ∧ ROW.size = G * 4 ∧ ROW.toList.take (i * 4) = cur.toList.take (i * 4) ∧ W.os = w.os ∧ W.tape = w.tape ∧ W.output = w.output ∧ W.heap = w.heap.push (.cells ROW e (0, 0)) ∧
  Calls P f #[.slice (some ⟨g, 0, none⟩) n c, .int .i64 i, .slice (some ⟨vb, 0, none⟩) m vc] w fun e w' =>
   e = .returned (.slice (some ⟨w.heap.size, 0, none⟩) (n + m) G) ∧ w'.os = w.os ∧ w'.tape = w.tape ∧ w'.output = w.output ∧
    w'.heap = (W.setRow w.heap.size (splice (splice ROW.toList (i * 4) (vcur.toList.take (m * 4))) ((i + m) * 4) ((cur.toList.take (n * 4)).drop (i * 4))).toArray).heap
theorem RdsOk.take {w : World} {av : Nat → Prop} {ds : List D} {vs : List Value} (h : RdsOk w av ds vs) (n : Nat) : RdsOk w av (ds.take n) (vs.take n) := by
 refine ⟨by rw [List.length_take, List.length_take, h.1], fun j g1 g2 => ?_⟩
 simp only [List.getElem_take]
 simp only [List.length_take] at g1 g2
 exact h.2 j (by omega) (by omega)
theorem RdsOk.drop {w : World} {av : Nat → Prop} {ds : List D} {vs : List Value} (h : RdsOk w av ds vs) (n : Nat) : RdsOk w av (ds.drop n) (vs.drop n) := by
 refine ⟨by rw [List.length_drop, List.length_drop, h.1], fun j g1 g2 => ?_⟩
 simp only [List.getElem_drop]
 simp only [List.length_drop] at g1 g2
 exact h.2 (n + j) (by omega) (by omega)
theorem RdsOk.app {w : World} {av : Nat → Prop} {ds ds' : List D} {vs vs' : List Value} (h : RdsOk w av ds vs) (h' : RdsOk w av ds' vs') : RdsOk w av (ds ++ ds') (vs ++ vs') := by
 refine ⟨by rw [List.length_append, List.length_append, h.1, h'.1], fun j g1 g2 => ?_⟩
 rw [List.getElem_append, List.getElem_append]
 have := h.1
 simp only [List.length_append] at g1 g2
 by_cases hj : j < ds.length
 ·rw [dif_pos hj, dif_pos (by omega)]
  exact h.2 j hj (by omega)
 ·rw [dif_neg hj, dif_neg (by omega)]
  have := h'.2 (j - ds.length) (by omega) (by omega)
  simpa [h.1] using this
theorem RdsOk.one {w : World} {av : Nat → Prop} {ds : List D} {vs : List Value} (h : RdsOk w av ds vs) : ∀ v ∈ vs, v.oneCell' = true := by
 intro v hv
 obtain ⟨j, hj, rfl⟩ := List.mem_iff_getElem.1 hv
 exact (h.2 j (by rw [← h.1]; exact hj) hj).oneCell
theorem jxq {w : World} {e : TypeId} {s : Nat} {v : Value} {n : Nat} {cs : List Value} (h : w.ownsRow 0 e s v n cs) : (v = .slice none 0 0 ∧ n = 0 ∧ cs = []) ∨
  ∃ g c cur, v = .slice (some ⟨g, 0, none⟩) n c ∧ w.heap[g]? = some (.cells cur e (0, 0)) ∧ n ≤ c ∧ c ≤ maxLen ∧ cur.size = c * s ∧ cur.toList.take (n * s) = cs := by
 obtain ⟨h1, h2⟩ := h
 rcases h2 with ⟨h2, h3⟩ | ⟨g, c, cur, h2, _, h4, h5, h6, h7, h8⟩
 ·subst h3
  exact .inl ⟨h2, rfl, List.eq_nil_of_length_eq_zero (by simpa using h1)⟩
 ·exact .inr ⟨g, c, cur, h2, h4, h5, h6, h7, h8⟩
theorem ins_fin {t : Ty} (h4 : esz t = 4) {w w' : World} {X : Nat → Prop} {BS : List Nat} {xs vs : List (den t)} {i : Nat} (hi : i ≤ xs.length) {cs vcs : List Value} {v' : Value} (hcs : RdsOk w (fun b => X b ∨ b ∈ BS) (jj2 t xs) cs) (hvs : RdsOk w (fun b => X b ∨ b ∈ BS) (jj2 t vs) vcs)
  (hrow : ∃ e, w'.ownsRow 0 e 4 v' (xs.length + vs.length) (cs.take (i * 4) ++ vcs ++ cs.drop (i * 4))) (F : Fr BS w w') (hold : ∀ b, X b → b < w.heap.size) (hv : ∀ b, blk v' = some b → b < w'.heap.size ∧ (b ∈ BS ∨ w.heap.size ≤ b)) (hX : ∀ b, b ∈ BS → ¬ X b)
  (args : List Arg) (jx5 : List Value) (hbb : jqj args jx5 = []) :
  ∃ bs1 bs2 rv, Fr BS w w' ∧ jxm w' (fun b => X b ∨ b ∈ bs1 ++ bs2) (jqj args jx5) [] bs1 ∧ jzr w' (fun b => X b ∨ b ∈ bs1 ++ bs2) [.lf (.fresh t (xs.take i ++ vs ++ xs.drop i))] rv bs2 ∧
   v' = jJ1 rv ∧ (bs1 ++ bs2).Nodup ∧ ∀ b, b ∈ bs1 ++ bs2 → ¬ X b ∧ (b ∈ BS ∨ w.heap.size ≤ b) := by
 have hmem : ∀ b, b ∈ (blk v').toList → blk v' = some b := fun b hb => by
  cases hq : blk v' with
  | none => rw [hq] at hb; simp at hb
  | some c => rw [hq] at hb; simp at hb; rw [hb]
 have hnX : ∀ b, b ∈ BS ∨ w.heap.size ≤ b → ¬ X b := fun b hb hx => by
  rcases hb with hb | hb
  ·exact hX b hb hx
  ·have := hold b hx; omega
 have G : Goes noι noι [] [] w w' (fun b => X b ∨ b ∈ BS) (fun b => X b ∨ b ∈ [] ++ ((blk v').toList ++ [])) := by
  refine ⟨fun _ _ h => (by cases h), fun b hb hlt => F.block b hlt (fun h => hb (.inr h)), fun b hb hlt h => ?_⟩
  rcases h with h | h
  ·exact hb (.inl h)
  ·simp only [List.nil_append, List.append_nil] at h
   rcases (hv b (hmem b h)).2 with h | h
   ·exact hb (.inr h)
   ·omega
 have hlt' : ∀ b, (X b ∨ b ∈ [] ++ ((blk v').toList ++ [])) → b < w'.heap.size := fun b h => by
  rcases h with h | h
  ·exact Nat.lt_of_lt_of_le (hold b h) F.size
  ·simp only [List.nil_append, List.append_nil] at h
   exact (hv b (hmem b h)).1
 obtain ⟨e, hrow⟩ := hrow
 have hlen : (xs.take i ++ vs ++ xs.drop i).length = xs.length + vs.length := by simp only [List.length_append, List.length_take, List.length_drop]; omega
 have hfl : jj2 t (xs.take i ++ vs ++ xs.drop i) = (jj2 t xs).take (i * 4) ++ jj2 t vs ++ (jj2 t xs).drop (i * 4) := by
  rw [jqE, jqE, flat_take, flat_drop, h4]
 have hrd : RdsOk w (fun b => X b ∨ b ∈ BS) (jj2 t (xs.take i ++ vs ++ xs.drop i)) (cs.take (i * 4) ++ vcs ++ cs.drop (i * 4)) := by
  rw [hfl]
  exact ((hcs.take _).app hvs).app (hcs.drop _)
 refine ⟨[], (blk v').toList ++ [], [v'], F, by rw [hbb]; rfl, ⟨_, [], rfl, ⟨rfl, e, _, by rw [hlen, h4]; exact hrow, hrd.1, fun j g1 g2 => (hrd.2 j g1 g2).goes G F.size hlt'⟩, rfl⟩, rfl, ?_, fun b hb => ?_⟩
 ·cases blk v' <;> simp
 ·simp only [List.nil_append, List.append_nil] at hb
  have := (hv b (hmem b hb)).2
  exact ⟨hnX b this, this⟩
theorem splice_in (cur cs vs : List Value) (n m i : Nat) (hcs : cur.take (n * 4) = cs) (hi : i ≤ n) (hvl : vs.length = m * 4) (hn : n * 4 + m * 4 ≤ cur.length) :
  (splice (splice cur ((i + m) * 4) (cs.drop (i * 4))) (i * 4) vs).take ((n + m) * 4) = cs.take (i * 4) ++ vs ++ cs.drop (i * 4) := by
 subst hcs
 apply List.ext_getElem?
 intro j
 simp only [splice, List.getElem?_take, List.getElem?_append, List.getElem?_drop, List.length_append, List.length_take, List.length_drop, hvl]
 repeat' split
 all_goals first | rfl | omega | (congr 1; omega) | skip
theorem splice_new (ROW cs vs : List Value) (n m i : Nat) (hROW : ROW.take (i * 4) = cs.take (i * 4)) (hi : i ≤ n) (hcl : cs.length = n * 4) (hvl : vs.length = m * 4) (hn : n * 4 + m * 4 ≤ ROW.length) :
  (splice (splice ROW (i * 4) vs) ((i + m) * 4) (cs.drop (i * 4))).take ((n + m) * 4) = cs.take (i * 4) ++ vs ++ cs.drop (i * 4) := by
 rw [← hROW]
 apply List.ext_getElem?
 intro j
 simp only [splice, List.getElem?_take, List.getElem?_append, List.getElem?_drop, List.length_append, List.length_take, List.length_drop, hvl, hcl]
 repeat' split
 all_goals first | rfl | omega | (congr 1; omega) | (symm; apply List.getElem?_eq_none; omega)
section
variable {α S Y B : Type}
theorem jqc {f : Y → Option (Sum Y B)} {y y' : Y} (h : f y = some (.inl y')) : jjC f y = jjC f y' := by rw [loopF_eq, h]
theorem jjE {f : Y → Option (Sum Y B)} {y : Y} {b : B} (h : f y = some (.inr b)) : jjC f y = some b := by rw [loopF_eq, h]
def jqD (body : Nat → α → S → Option (Sum S B)) (fin : S → B) : Nat → List α → S → Option B
 | _, [], s => some (fin s)
 | i, x :: r, s => match body i x s with
  | none => none
  | some (.inl s') => jqD body fin (i + 1) r s'
  | some (.inr b) => some b
theorem loop_from (g : Y → Option (Sum Y B)) (xs : List α) (st : Nat → S → Y) (body : Nat → α → S → Option (Sum S B)) (fin : S → B)
  (h1 : ∀ i x s, xs[i]? = some x → g (st i s) = (body i x s).map fun q => match q with | .inl s' => .inl (st (i + 1) s') | .inr b => .inr b)
  (h2 : ∀ s, g (st xs.length s) = some (.inr (fin s))) : ∀ (r : List α) (k : Nat), (∀ i, r[i]? = xs[k + i]?) → k ≤ xs.length → ∀ s, jjC g (st k s) = jqD body fin k r s := by
 intro r
 induction r with
 | nil =>
  intro k hr hk s
  have : k = xs.length := by
   have := hr 0
   simp only [List.getElem?_nil, Nat.add_zero] at this
   have := (List.getElem?_eq_none_iff.1 this.symm)
   omega
  subst this
  exact jjE (h2 s)
 | cons x r ih =>
  intro k hr hk s
  have hx : xs[k]? = some x := by
   have := hr 0
   simpa using this.symm
  have hlt : k < xs.length := (List.getElem?_eq_some_iff.1 hx).1
  simp only [jqD]
  have := h1 k x s hx
  cases hb : body k x s with
  | none =>
   rw [hb] at this
   rw [loopF_eq, this]
   rfl
  | some q =>
   rw [hb] at this
   cases q with
   | inl s' =>
    rw [jqc (y' := st (k + 1) s') this]
    exact ih (k + 1) (fun i => by have := hr (i + 1); rw [List.getElem?_cons_succ] at this; rw [this]; congr 1; omega) hlt s'
   | inr b => exact jjE this
theorem loop_list (g : Y → Option (Sum Y B)) (xs : List α) (st : Nat → S → Y) (body : Nat → α → S → Option (Sum S B)) (fin : S → B)
  (h1 : ∀ i x s, xs[i]? = some x → g (st i s) = (body i x s).map fun q => match q with | .inl s' => .inl (st (i + 1) s') | .inr b => .inr b)
  (h2 : ∀ s, g (st xs.length s) = some (.inr (fin s))) (s : S) : jjC g (st 0 s) = jqD body fin 0 xs s :=
 loop_from g xs st body fin h1 h2 xs 0 (fun i => by rw [Nat.zero_add]) (Nat.zero_le _) s
theorem jq4 (g : Y → Option (Sum Y B)) (xs : List α) (st : Nat → S → Y) (body : Nat → α → S → Option (Sum S B)) (fin : S → B) (I : Nat → S → Prop) (s0 : S) (hI : I 0 s0)
  (h1 : ∀ i x s, xs[i]? = some x → I i s → (g (st i s) = (body i x s).map fun q => match q with | .inl s' => .inl (st (i + 1) s') | .inr b => .inr b) ∧ ∀ s', body i x s = some (.inl s') → I (i + 1) s')
  (h2 : ∀ s, I xs.length s → g (st xs.length s) = some (.inr (fin s))) : jjC g (st 0 s0) = jqD body fin 0 xs s0 := by
 suffices h : ∀ (r : List α) (k : Nat) (s : S), (∀ i, r[i]? = xs[k + i]?) → k ≤ xs.length → I k s → jjC g (st k s) = jqD body fin k r s from
  h xs 0 s0 (fun i => by rw [Nat.zero_add]) (Nat.zero_le _) hI
 intro r
 induction r with
 | nil =>
  intro k s hr hk hI
  have : k = xs.length := by
   have := hr 0
   simp only [List.getElem?_nil, Nat.add_zero] at this
   have := (List.getElem?_eq_none_iff.1 this.symm)
   omega
  subst this
  exact jjE (h2 s hI)
 | cons x r ih =>
  intro k s hr hk hI
  have hx : xs[k]? = some x := by
   have := hr 0
   simpa using this.symm
  have hlt : k < xs.length := (List.getElem?_eq_some_iff.1 hx).1
  simp only [jqD]
  obtain ⟨this, hI'⟩ := h1 k x s hx hI
  cases hb : body k x s with
  | none =>
   rw [hb] at this
   rw [loopF_eq, this]
   rfl
  | some q =>
   rw [hb] at this
   cases q with
   | inl s' =>
    rw [jqc (y' := st (k + 1) s') this]
    exact ih (k + 1) s' (fun i => by have := hr (i + 1); rw [List.getElem?_cons_succ] at this; rw [this]; congr 1; omega) hlt (hI' s' hb)
   | inr b => exact jjE this
def jqz (ok : Nat → α → Bool) : Nat → List α → Bool
 | _, [] => true
 | i, x :: r => ok i x && jqz ok (i + 1) r
theorem jjW (ok : α → Bool) : ∀ (i : Nat) (xs : List α), jqz (fun _ x => ok x) i xs = xs.all ok := by
 intro i xs
 induction xs generalizing i with
 | nil => rfl
 | cons x r ih => simp [jqz, ih]
theorem allI_congr {ok ok' : Nat → α → Bool} : ∀ (xs : List α) (j : Nat), (∀ i x, j ≤ i → x ∈ xs → ok i x = ok' i x) → jqz ok j xs = jqz ok' j xs := by
 intro xs
 induction xs with
 | nil => intro j _; rfl
 | cons x r ih =>
  intro j h
  simp only [jqz]
  rw [h j x (Nat.le_refl _) List.mem_cons_self, ih (j + 1) (fun i y hi hy => h i y (by omega) (List.mem_cons_of_mem _ hy))]
theorem allI_and {ok ok' : Nat → α → Bool} : ∀ (xs : List α) (j : Nat), jqz (fun i x => ok i x && ok' i x) j xs = (jqz ok j xs && jqz ok' j xs) := by
 intro xs
 induction xs with
 | nil => intro j; rfl
 | cons x r ih =>
  intro j
  simp only [jqz, ih]
  cases ok j x <;> cases ok' j x <;> simp
theorem allI_lt (n : Nat) : ∀ (xs : List α) (j : Nat), jqz (fun i _ => decide (i < n)) j xs = (xs.isEmpty || decide (j + xs.length ≤ n)) := by
 intro xs
 induction xs with
 | nil => intro j; rfl
 | cons x r ih =>
  intro j
  simp only [jqz, ih]
  cases r with
  | nil => simp; omega
  | cons y r =>
   simp only [List.isEmpty_cons, Bool.false_or, List.length_cons]
   by_cases h : j < n
   ·simp only [h, decide_true, Bool.true_and]; congr 1; apply propext; omega
   ·simp only [h, decide_false, Bool.false_and]; symm; simp; omega
theorem jQh (ok : Nat → α → Bool) (step : α → S → S) (no : B) (fin : S → B) : ∀ (r : List α) (k : Nat) (s : S),
  jqD (fun i x s => some (bif ok i x then .inl (step x s) else .inr no)) fin k r s = some (bif jqz ok k r then fin (r.foldl (fun s x => step x s) s) else no) := by
 intro r
 induction r with
 | nil => intro k s; rfl
 | cons x r ih =>
  intro k s
  simp only [jqD, jqz]
  cases ok k x with
  | false => rfl
  | true => simp only [cond_true, Bool.true_and]; exact ih _ _
theorem jjU (g : Y → Option (Sum Y B)) (xs : List α) (st : Nat → Y) (ok : Nat → α → Bool) (no yes : B)
  (h1 : ∀ i x, xs[i]? = some x → g (st i) = some (bif ok i x then .inl (st (i + 1)) else .inr no)) (h2 : g (st xs.length) = some (.inr yes)) :
  jjC g (st 0) = some (bif jqz ok 0 xs then yes else no) := by
 rw [loop_list (S := Unit) g xs (fun i _ => st i) (fun i x _ => some (bif ok i x then .inl () else .inr no)) (fun _ => yes)
  (fun i x _ hx => by rw [h1 i x hx]; cases ok i x <;> rfl) (fun _ => h2) ()]
 suffices h : ∀ (r : List α) (k : Nat), jqD (fun i x (_ : Unit) => some (bif ok i x then .inl () else .inr no)) (fun _ => yes) k r () = some (bif jqz ok k r then yes else no) from h xs 0
 intro r
 induction r with
 | nil => intro k; rfl
 | cons x r ih =>
  intro k
  simp only [jqD, jqz]
  cases ok k x with
  | false => rfl
  | true => simp only [cond_true, Bool.true_and]; exact ih _
theorem loop_fold (g : Y → Option (Sum Y B)) (xs : List α) (st : Nat → S → Y) (step : α → S → S) (fin : S → B) (I : Nat → S → Prop) (s : S) (hI : I 0 s)
  (h1 : ∀ i x s, xs[i]? = some x → I i s → g (st i s) = some (.inl (st (i + 1) (step x s))) ∧ I (i + 1) (step x s)) (h2 : ∀ s, I xs.length s → g (st xs.length s) = some (.inr (fin s))) :
  jjC g (st 0 s) = some (fin (xs.foldl (fun s x => step x s) s)) := by
 suffices h : ∀ (r : List α) (k : Nat) (s : S), (∀ i, r[i]? = xs[k + i]?) → k ≤ xs.length → I k s → jjC g (st k s) = some (fin (r.foldl (fun s x => step x s) s)) from
  h xs 0 s (fun i => by rw [Nat.zero_add]) (Nat.zero_le _) hI
 intro r
 induction r with
 | nil =>
  intro k s hr hk hI
  have : k = xs.length := by
   have := hr 0
   simp only [List.getElem?_nil, Nat.add_zero] at this
   have := (List.getElem?_eq_none_iff.1 this.symm)
   omega
  subst this
  exact jjE (h2 s hI)
 | cons x r ih =>
  intro k s hr hk hI
  have hx : xs[k]? = some x := by
   have := hr 0
   simpa using this.symm
  have hlt : k < xs.length := (List.getElem?_eq_some_iff.1 hx).1
  obtain ⟨e, hI'⟩ := h1 k x s hx hI
  rw [jqc e]
  exact ih (k + 1) _ (fun i => by have := hr (i + 1); rw [List.getElem?_cons_succ] at this; rw [this]; congr 1; omega) hlt hI'
end
abbrev Sm (n : Nat) : Prop := n ≤ 1099511627776
theorem jjs {α : Type} (xs : List α) (i : Nat) : ix xs (i : Int) = xs[i]? := by
 unfold ix; rw [if_pos (Int.natCast_nonneg i), Int.toNat_natCast]
theorem jqQ {n i : Nat} (h : i < n) : inb n (i : Int) = some i := by
 unfold inb; rw [if_pos ⟨Int.natCast_nonneg i, by omega⟩, Int.toNat_natCast]
theorem jjG {n : Int} (h : -9223372036854775808 ≤ n) (h' : n ≤ 9223372036854775807) : IntKind.i64.wrap n = n := by
 rw [IntKind.wrap_i64]; omega
theorem jjj {i : Nat} (h : Sm i) : IntKind.i64.wrap ((i : Int) + 1) = ((i + 1 : Nat) : Int) := by
 rw [jjG (by unfold Sm at h; omega) (by unfold Sm at h; omega)]; omega
theorem jz2 {i : Nat} (h : Sm i) : IntKind.i64.wrap (((i + 1 : Nat) : Int) - 1) = (i : Int) := by
 rw [jjG (by unfold Sm at h; omega) (by unfold Sm at h; omega)]; omega
theorem subl_nat {α : Type} {xs : List α} {a b : Nat} (h : a ≤ b) (h2 : b ≤ xs.length) : jqJ xs (a : Int) (b : Int) = some ((xs.take b).drop a) := by
 unfold jqJ; rw [if_pos ⟨Int.natCast_nonneg a, by omega, by omega⟩, Int.toNat_natCast, Int.toNat_natCast]
theorem jzw {α : Type} {xs : List α} {b : Nat} (h2 : b ≤ xs.length) : jqJ xs 0 (b : Int) = some (xs.take b) := by
 have := subl_nat (a := 0) (Nat.zero_le b) h2
 simpa using this
theorem jxG {α : Type} {xs : List α} {a : Nat} (h2 : a ≤ xs.length) : jqJ xs (a : Int) (xs.length : Int) = some (xs.drop a) := by
 rw [subl_nat h2 (Nat.le_refl _), List.take_length]
theorem jj0 {α : Type} {bytes : Nat} {xs ys : List α} (hb : bytes ≤ 100) (h : Sm (xs.length + ys.length)) : apd bytes xs ys = some (xs ++ ys) := by
 unfold apd
 have h1 : (xs.length + ys.length) * bytes ≤ room := by unfold room; exact Nat.le_trans (Nat.mul_le_mul h hb) (by decide)
 have h2 : xs.length + ys.length ≤ maxLen := by unfold maxLen; unfold Sm at h; omega
 rw [if_pos ⟨h1, h2⟩]
theorem w1 : IntKind.i64.wrap 1 = 1 := by decide
theorem beq0 (i : Nat) : ((i : Int) == 0) = (i == 0) := by
 cases h : (i == 0)
 ·simp only [beq_eq_false_iff_ne, ne_eq] at h ⊢; omega
 ·simp only [beq_iff_eq] at h ⊢; omega
theorem dlt (a b : Int) : decide (a < b) = !decide (b ≤ a) := by
 by_cases h : b ≤ a <;> simp [h] <;> omega
theorem dgt (a b : Int) : decide (a > b) = !decide (a ≤ b) := dlt b a
theorem dge (a b : Int) : decide (a ≥ b) = decide (b ≤ a) := rfl
theorem jjA {i n : Nat} (h : i < n) : decide ((i : Int) < (n : Int)) = true := by simpa using h
theorem jjI {n : Nat} : decide ((n : Int) < (n : Int)) = false := by simp
theorem jjv {α : Type} {xs : List α} {i : Nat} {x : α} (h : xs[i]? = some x) : i < xs.length := (List.getElem?_eq_some_iff.1 h).1
def Ev {α : Type} (o : Option α) (P : α → Prop) : Prop := ∃ x, o = some x ∧ P x
theorem Ev.bind {α β : Type} {o : Option α} {k : α → Option β} {P : α → Prop} {Q : β → Prop} (h : Ev o P) (hk : ∀ x, P x → Ev (k x) Q) : Ev (o.bind k) Q := by
 obtain ⟨x, rfl, hx⟩ := h; exact hk x hx
theorem Ev.eq {α β : Type} {o : Option α} {k : α → Option β} {x : α} {Q : β → Prop} (h : o = some x) (hk : Ev (k x) Q) : Ev (o.bind k) Q := by
 rw [h]; exact hk
theorem Ev.ret {α : Type} {x : α} {Q : α → Prop} (h : Q x) : Ev (some x) Q := ⟨x, rfl, h⟩
theorem Ev.ite {α : Type} {c : Bool} {x y : Option α} {Q : α → Prop} (h1 : c = true → Ev x Q) (h2 : c = false → Ev y Q) : Ev (bif c then x else y) Q := by
 cases c
 ·exact h2 rfl
 ·exact h1 rfl
theorem Ev.mono {α : Type} {o : Option α} {P Q : α → Prop} (h : Ev o P) (hk : ∀ x, P x → Q x) : Ev o Q := by
 obtain ⟨x, rfl, hx⟩ := h; exact ⟨x, rfl, hk x hx⟩
theorem Ev.loop {Y B : Type} {f : Y → Option (Sum Y B)} (I : Nat → Y → Prop) {Q : B → Prop} (h : ∀ n y, I n y → Ev (f y) (fun s => match s with | .inl y' => ∃ k, k < n ∧ I k y' | .inr b => Q b)) : ∀ n y, I n y → Ev (jjC f y) Q := by
 intro n
 induction n using Nat.strongRecOn with
 | _ n ih =>
  intro y hy
  obtain ⟨s, hs, hq⟩ := h n y hy
  cases s with
  | inl y' =>
   obtain ⟨k, hk, hI⟩ := hq
   rw [jqc hs]
   exact ih k hk y' hI
  | inr b => exact ⟨b, jjE hs, hq⟩
theorem ev_cat {s t : Str} (h : s.length + t.length ≤ 4611686018427387904) : cat s t = some (s ++ t) := by
 unfold cat
 rw [if_neg]
 show ¬ (((s.length + t.length : Nat) : Int) > 9223372036854775807)
 omega
theorem quo_nn {k : IntKind} {x y : Int} (hk : k = .i64) (h0 : 0 ≤ x) (h1 : x ≤ 4611686018427387904) (hy : 0 < y) : quoI k x y = some (x / y) := by
 subst hk
 unfold quoI
 rw [if_neg (by omega), Int.tdiv_eq_ediv_of_nonneg h0]
 have h2 : 0 ≤ x / y := Int.ediv_nonneg h0 (by omega)
 have h3 : x / y ≤ x := Int.ediv_le_self y h0
 rw [jjG (by omega) (by omega)]
theorem rem_nn {x y : Int} (h0 : 0 ≤ x) (hy : 0 < y) : remI x y = some (x % y) := by
 unfold remI
 rw [if_neg (by omega), Int.tmod_eq_emod_of_nonneg h0]
theorem xor_nn {x y : Int} (hx : 0 ≤ x) (hx' : x < 4611686018427387904) (hy : 0 ≤ y) (hy' : y < 4611686018427387904) : 0 ≤ xorI .i64 x y := by
 unfold xorI
 obtain ⟨m, rfl⟩ := Int.eq_ofNat_of_zero_le hx
 obtain ⟨n, rfl⟩ := Int.eq_ofNat_of_zero_le hy
 have key : (BitVec.ofInt IntKind.i64.bits (m : Int) ^^^ BitVec.ofInt IntKind.i64.bits (n : Int)).toNat < 4611686018427387904 := by
  rw [BitVec.toNat_xor]
  have h1 : (BitVec.ofInt IntKind.i64.bits (m : Int)).toNat = m := by
   rw [BitVec.ofInt_natCast, BitVec.toNat_ofNat]
   exact Nat.mod_eq_of_lt (by show m < 2 ^ 64; omega)
  have h2 : (BitVec.ofInt IntKind.i64.bits (n : Int)).toNat = n := by
   rw [BitVec.ofInt_natCast, BitVec.toNat_ofNat]
   exact Nat.mod_eq_of_lt (by show n < 2 ^ 64; omega)
  rw [h1, h2]
  exact Nat.xor_lt_two_pow (n := 62) (by omega) (by omega)
 rw [jjG (by omega) (by omega)]
 omega
theorem ix_in {α : Type} {xs : List α} {i : Int} (h0 : 0 ≤ i) (h1 : i < (xs.length : Int)) : ∃ x, ix xs i = some x ∧ x ∈ xs := by
 obtain ⟨n, rfl⟩ := Int.eq_ofNat_of_zero_le h0
 have hn : n < xs.length := by omega
 exact ⟨xs[n], by rw [jjs]; exact List.getElem?_eq_getElem hn, List.getElem_mem hn⟩
structure RD (b : List Int) (p : Int) (m : Nat) : Prop where
 len : b.length ≤ 2000
 byte : ∀ x, x ∈ b → 0 ≤ x ∧ x ≤ 255
 lo : 0 ≤ p
 hi : p + m ≤ 1099511627776
theorem RD.less {b : List Int} {p : Int} {m k : Nat} (h : RD b p m) (hk : k ≤ m) : RD b p k := ⟨h.len, h.byte, h.lo, by have := h.hi; omega⟩
def EqTs (P : Program) : Nat → List (TypeId × Nat × Bool) → List Lf → Prop
 | _, [], [] => True
 | k, (t, o, b) :: fs, .d (.int i _) :: z => o = k ∧ b = false ∧ (TI.int i).ok P t ∧ EqTs P (k + 1) fs z
 | k, (t, o, b) :: fs, .d (.bool _) :: z => o = k ∧ b = false ∧ (TI.bool).ok P t ∧ EqTs P (k + 1) fs z
 | k, (t, o, b) :: fs, .d (.str _) :: z => o = k ∧ b = false ∧ (TI.str).ok P t ∧ EqTs P (k + 1) fs z
 | _, _, _ => False
section
variable {P : Program} {w : World}
theorem part_at {t : TypeId} {ti : TI} (h : ti.ok P t) (hn : ti ≠ .none) (ha : ti.agg = false) {vs : List Value} {k : Nat} {v : Value} (hv : vs[k]? = some v) : (part t vs.toArray k).run P w = .ok v w := by
 unfold part
 simp only [Sem.run_bind, TI.run_isAgg h hn, ha, Result.andThen_ok, Bool.false_eq_true, if_false]
 simp [hv]
theorem eqFields_run {d : Nat} : ∀ {fs : List Field} {k : Nat} {z : List Lf} {vs us : List Value} {b : Bool}, EqTs P k (fs.map fun f => (f.type, f.offset, f.name == "_")) z → fs ≠ [] → jqq (vs.drop k) (us.drop k) = some b → fitV z (vs.drop k) = true →
  (Op.eqFields (d + 1) vs.toArray us.toArray fs).run P w = .ok b w := by
 intro fs
 induction fs with
 | nil => intro k z vs us b _ h; exact absurd rfl h
 | cons f fs ih =>
  intro k z vs us b he _ hc hf
  cases hvd : vs.drop k with
  | nil => rw [hvd] at hc; cases us.drop k <;> cases hc
  | cons v vr =>
   cases hud : us.drop k with
   | nil => rw [hvd, hud] at hc; cases vr <;> cases hc
   | cons u ur =>
    have hv : vs[k]? = some v := by rw [← List.head?_drop, hvd]; rfl
    have hu : us[k]? = some u := by rw [← List.head?_drop, hud]; rfl
    have hvr : vs.drop (k + 1) = vr := by rw [← List.tail_drop, hvd]; rfl
    have hur : us.drop (k + 1) = ur := by rw [← List.tail_drop, hud]; rfl
    rw [hvd] at hf
    rw [hvd, hud] at hc
    have key : ∃ r zr, jzB v u = some r ∧ f.offset = k ∧ (f.name == "_") = false ∧ (part f.type vs.toArray k).run P w = .ok v w ∧ (part f.type us.toArray k).run P w = .ok u w ∧
      (Op.equalIn (d + 1) f.type v u).run P w = .ok r w ∧ EqTs P (k + 1) (fs.map fun f => (f.type, f.offset, f.name == "_")) zr ∧ fitV zr vr = true := by
     have hle : ∃ r, jzB v u = some r := by
      cases hl : jzB v u with
      | some r => exact ⟨r, rfl⟩
      | none => cases vr <;> cases ur <;> simp [jqq, hl] at hc
     obtain ⟨r, hr⟩ := hle
     have hr0 := hr
     refine ⟨r, z.tail, hr0, ?_⟩
     cases z with
     | nil => cases v <;> cases hf
     | cons zc zr =>
      cases zc <;> try (cases hf; done)
      rename_i dz
      cases dz <;> try (cases hf; done)
      all_goals (simp only [List.map_cons, EqTs] at he; obtain ⟨h1, h2, h3, h4⟩ := he)
      all_goals (cases v <;> try (cases hf; done))
      all_goals (cases u <;> try (cases hr; done))
      all_goals (refine ⟨h1, h2, part_at h3 (by intro h; cases h) rfl hv, part_at h3 (by intro h; cases h) rfl hu, ?_, h4, hf⟩)
      ·simp only [jzB] at hr
       split at hr
       ·rename_i e; subst e; cases hr; exact run_equalIn_int w d _ _ _ _ _ h3.1
       ·cases hr
      ·simp only [jzB, Option.some.injEq] at hr
       subst hr
       exact run_equalIn_bool' w d _ _ _ h3.1
      ·simp only [jzB, Option.some.injEq] at hr
       subst hr
       rw [run_equalIn_string w d _ _ _ h3.1, beq_toListBytes]
    obtain ⟨r, zr, g1, g2, g3, g4, g5, g6, g7, g8⟩ := key
    have hn' : f.name ≠ "_" := by simpa using g3
    rw [Op.eqFields]
    simp only [if_pos hn', g2, Sem.run_bind, g4, g5, g6, Result.andThen_ok]
    cases fs with
    | nil =>
     have hlast : vr = [] := by
      cases zr with
      | nil => cases vr with
       | nil => rfl
       | cons x _ => cases x <;> cases g8
      | cons x _ => cases x <;> (try rename_i dd; cases dd) <;> simp only [List.map_nil, EqTs] at g7
     subst hlast
     have : ur = [] := by
      cases ur with
      | nil => rfl
      | cons x xr => simp [jqq] at hc
     subst this
     simp only [jqq] at hc
     rw [g1] at hc
     cases hc
     cases b <;> simp [Op.eqFields]
    | cons f2 fs2 =>
     have hne : vr ≠ [] := by
      rintro rfl
      cases zr with
      | nil => simp only [List.map_cons, EqTs] at g7
      | cons x _ => cases x <;> (try rename_i dd; cases dd) <;> cases g8
     have : ∃ s, jqq vr ur = some s ∧ b = (r && s) := by
      cases vr with
      | nil => exact absurd rfl hne
      | cons v2 vr2 =>
       simp only [jqq, g1] at hc
       cases hs : jqq (v2 :: vr2) ur with
       | none => rw [hs] at hc; cases ur <;> simp at hc
       | some s => rw [hs] at hc; simp only [Option.some.injEq] at hc; exact ⟨s, rfl, hc.symm⟩
     obtain ⟨s, hs, rfl⟩ := this
     have := ih (k := k + 1) (z := zr) (vs := vs) (us := us) (b := s) g7 (by simp) (by rw [hvr, hur]; exact hs) (by rw [hvr]; exact g8)
     cases r
     ·simp
     ·simpa using this
theorem eq_struct {T : TypeId} {fields : Array Field} {l : List (TypeId × Nat × Bool)} {z : List Lf} (hu : P.underlying T = some (.struct fields)) (hp : P.stoodInHeld T = false) (hg : P.eqGuardType P.depth T = false)
  (hm : (fields.toList.map fun f => (f.type, f.offset, f.name == "_")) = l) (hne : fields.toList ≠ []) (he : EqTs P 0 l z) :
  P.eqGuardType P.depth T = false ∧ ∀ (vs us : List Value) (b : Bool) (w : World), jqq vs us = some b → fitV z vs = true → (Op.equal T (.agg vs.toArray) (.agg us.toArray)).run P w = .ok b w := by
 refine ⟨hg, fun vs us b w hc hf => ?_⟩
 have hfo : P.fieldsOf T = fields := by simp [Program.fieldsOf, hu]
 show (Op.equalIn (9999 + 1) T (.agg vs.toArray) (.agg us.toArray)).run P w = _
 rw [run_equalIn_struct (P := P) w 9999 T _ _ (by rw [hfo]; exact hu) hp, hfo]
 exact eqFields_run (d := 9998) (k := 0) (by rw [hm]; exact he) hne hc hf
end
def idxArgs : List Arg → Option (Str × Int)
 | [.av (.lf (.d (.str s))), .av (.lf (.d (.int .u8 c)))] => some (s, c)
 | _ => none
def indexSumm : jjF := fun as => match idxArgs as with
 | some (s, c) => ⟨Unit, some (), fun _ => [], fun _ => [.lf (.d (.int .i64 (Lib.indexByte s c.toNat.toUInt8)))]⟩
 | none => .fail
theorem idxArgs_inv {as : List Arg} {s : Str} {c : Int} (h : idxArgs as = some (s, c)) : as = [.av (.lf (.d (.str s))), .av (.lf (.d (.int .u8 c)))] := by
 unfold idxArgs at h
 split at h
 ·cases h; rfl
 ·cases h
theorem indexByte_ok {P : Program} {g : FuncId} {fn : Func} (hf : P.funcs[g]? = some fn) (hname : (fn.name == "runtime.NumGoroutine") = false) (hb : fn.body.isNone = true) (hn : Extern.findNext fn = none)
  (he : Extern.find fn = some Extern.BytealgIndexByte.indexByte) : jja P g indexSumm := by
 intro as
 unfold indexSumm
 cases hq : idxArgs as with
 | none => intro y hy; cases hy
 | some q =>
  obtain ⟨s, c⟩ := q
  have has := idxArgs_inv hq
  subst has
  intro y hy w X vs BS hh _ _ _
  match vs, hh with
  | [v1, v2], ⟨a1, a2, e1, h1, c1, c2, e2, h2, e3⟩ =>
   obtain ⟨z1, r1⟩ := h1
   obtain ⟨z2, r2⟩ := h2
   subst z1 z2 e3
   simp only [List.append_nil] at e2
   subst e2
   simp only [List.append_nil] at e1
   subst e1
   obtain ⟨b, rfl, hb'⟩ := jqL r1
   have e := jxa r2
   subst e
   refine .inr ⟨.int .i64 (Lib.indexByte b.data.toList c.toNat.toUInt8), w, ?_, [], [], [.int .i64 (Lib.indexByte s c.toNat.toUInt8)], Fr.refl _ _, ?_, ?_, ?_, by simp, fun b hb => by simp at hb⟩
   ·rw [run_callFunc_extern hf hname hb hn he]
    show ((Extern.BytealgIndexByte.indexByte #[.string b, .int .u8 c]).run P w).andThen _ = _
    rw [Lib.run_indexByteString]
    rfl
   ·simp [jqj, jxm]
   ·exact ⟨[], [], rfl, ⟨rfl, .int _ _⟩, rfl⟩
   ·rw [hb']; rfl
abbrev CY := (Int × Unit) × Unit
def shI (nt : Nat) : Shape := ⟨[(1, .lf (.ptr 1 0))], [(1, .box [.d (.sl .pack)], .same)], nt⟩
def shL (nt : Nat) : Shape := ⟨[(1, .lf (.ptr 1 0)), (13, .lf (.d (.int .i64))), (14, .lf (.d (.int .i64)))], [(1, .box [.d (.sl .pack)], .same)], nt⟩
def yI (nt : Nat) (ps : List Pack) : (shI nt).Y := (((), ()), ((ps, ()), ()))
def yL (nt : Nat) (ps : List Pack) (n i : Int) : (shL nt).Y := (((), (n, (i, ()))), ((ps, ()), ()))
noncomputable def four (nt : Nat) (C : Ctx) (st : St) (m0 m1 m2 m3 : Oper) : Option ((List (FuncId × List (Nat × Nat))) × (shI nt).Y) :=
 jzh C st m0 fun st => jzh C st m1 fun st => jzh C st m2 fun st => jzh C st m3 fun st => match st.get 7, st.get 8, st.get 9, st.get 10, st.site 1 with
  | .av (.lf (.clo a ca)), .av (.lf (.clo b cb)), .av (.lf (.clo c cc)), .av (.lf (.clo d cd)), some (.box 0 _) => ((shI nt).ex st).map fun y => ([(a, ca), (b, cb), (c, cc), (d, cd)], y)
  | _, _, _, _, _ => none
def kLt (nt : Nat) : Out → Option (Bool × (shL nt).Y)
 | .norm st => match st.get 15 with
  | .av (.lf (.d (.bool b))) => ((shL nt).ex st).map fun y => (b, y)
  | _ => none
 | _ => none
def kBody (nt : Nat) (os : List OSh) : Out → Option (Sum (shL nt).Y (YS os))
 | .norm st => ((shL nt).ex st).map .inl
 | o => (exS os o).map .inr
def kNext (nt : Nat) : Out → Option (shL nt).Y
 | .norm st => (shL nt).ex st
 | _ => none
def restC {B : Type} (ps : List Pack) (mk : Int → B) : List (List Pack → Option CY) → Option B
 | [] => some (mk 0)
 | c :: cs => (c ps).bind fun r => bif (r.1.1 != 0) then some (mk r.1.1) else restC ps mk cs
section
variable {P : Program} {w0 : World} {fb : List Nat} {X : Nat → Prop} {ι : Nat → Value} {st : St} {tm : Array Value} {w : World}
theorem val_in {o : Oper} {v : Value} {w' : World} (h : (execOp (Act.eval ⟨tm, []⟩) o).run P w = .ok (.value v) w') {rn : Option Nat} {ds : List Deferred} {K : Act → World → Prop} {Q : Exit → Act → World → Prop}
  (hk : K ⟨jqN tm o.dst v, ds⟩ w') : o.wpIn (FR rn) 0 P ⟨tm, ds⟩ w K Q := by
 refine Oper.wpIn_mono ?_ (op_in (K := fun a w2 => a = ⟨jqN tm o.dst v, []⟩ ∧ w2 = w') (fun _ _ h => by rw [h.1]) (wp_val h ⟨rfl, rfl⟩) rn ds)
 rintro a w2 ⟨v', rfl, h1, rfl⟩
 simp only [Act.mk.injEq, and_true] at h1
 rw [h1]; exact hk
theorem run_move {o : Oper} {x : Operand} (ho : o.op = .move x ∨ o.op = .assign x) : (execOp (Act.eval ⟨tm, []⟩) o).run P w = .ok (.value (Act.eval ⟨tm, []⟩ x)) w := by
 unfold execOp
 rcases ho with ho | ho <;> simp only [ho, Sem.run_pure]
theorem Sim.retm (S : Sim w0 fb X ι st tm w) {tm' : Array Value} (h : ∀ t, tm'.getD t undef = tm.getD t undef ∨ st.get t = .av (.lf .any)) (hs : tm'.size = tm.size) : Sim w0 fb X ι st tm' w := by
 refine ⟨hs.trans S.nt, fun t => ?_, S.sites, S.excl, S.mine, S.frame, S.old⟩
 rcases h t with h | h
 ·rw [h]; exact S.slots t
 ·rw [h]; trivial
theorem shI_get {nt : Nat} {ps : List Pack} {t : Nat} (h : t ≠ 1) : ((shI nt).st (yI nt ps)).get t = .av (.lf .any) := by
 show (match jjJ [(1, lfv (.ptr 1 0 0))] t with | some v => v | none => .av (.lf .any)) = _
 simp only [jjJ]
 rw [beqF (fun e => h e.symm)]
 rfl
theorem shL_get {nt : Nat} {ps : List Pack} {n i : Int} {t : Nat} (h : t ≠ 1) (h3 : t ≠ 13) (h4 : t ≠ 14) : ((shL nt).st (yL nt ps n i)).get t = .av (.lf .any) := by
 show (match jjJ [(1, lfv (.ptr 1 0 0)), (13, one (.int .i64 n)), (14, one (.int .i64 i))] t with | some v => v | none => .av (.lf .any)) = _
 simp only [jjJ]
 rw [beqF (fun e => h e.symm), beqF (fun e => h3 e.symm), beqF (fun e => h4 e.symm)]
 rfl
theorem jq6 {tm : Array Value} {t : Nat} {v : Value} (h : t < tm.size) : (jqN tm (some t) v).getD t undef = v := by
 simp [jqN, Array.getD_eq_getD_getElem?, h]
theorem jqe {tm : Array Value} {d : Option Nat} {v : Value} : (jqN tm d v).size = tm.size := by cases d <;> simp [jqN]
structure ChkText (P : Program) (C : CtxC) (nt : Nat) (os : List OSh) (T e : TypeId) (m0 m1 m2 m3 m4 m5 n0 n1 n2 q0 r0 r1 r2 : Oper) (i3 : Nat) (BB r8 E : Code) (p3 pB p8 pE : Nat) (g0 g1 g2 g3 : FuncId) (c0 c1 c2 c3 : List Pack → Option CY) (mk : Int → YS os) : Prop where
 und : P.underlying T = some (.slice e)
 tye : C.tt e = .func
 gd : m0.guard = none ∧ m1.guard = none ∧ m2.guard = none ∧ m3.guard = none ∧ m4.guard = none ∧ m5.guard = none ∧ n0.guard = none ∧ n1.guard = none ∧ n2.guard = none ∧ r0.guard = none ∧ r1.guard = none ∧ r2.guard = none
 om : m4.op = .buildSlice T 4 #[(0, .tmp 7), (1, .tmp 8), (2, .tmp 9), (3, .tmp 10)] ∧ m5.op = .assign (.tmp 11)
 on : n0.op = .move (.tmp 3) ∧ n1.op = .call { callee := .builtin .len, args := #[.tmp 12], argTypes := #[T] } ∧ n2.op = .move (.const (.int .i64 0))
 ors : r0.op = .indexAddr T (.tmp 12) (.tmp 14) ∧ r1.op = .load e (.tmp 16) ∧ r2.op = .assign (.tmp 17)
 dst : m4.dst = some 11 ∧ m5.dst = some 3 ∧ n0.dst = some 12 ∧ n1.dst = some 13 ∧ n2.dst = some 14 ∧ r0.dst = some 16 ∧ r1.dst = some 17 ∧ r2.dst = some 5
 nt20 : 20 ≤ nt
 nrB : jqo BB = true
 nr8 : jqo r8 = true
 nrE : jqo E = true
 wr : jxe [1, 12, jjP] (q0.dst.toList ++ (wrC BB ++ (wrC r8 ++ (m0.dst.toList ++ (m1.dst.toList ++ (m2.dst.toList ++ m3.dst.toList)))))) = true
 wrE : jxe [jjP] (wrC E) = true
 orcs : Orcs P C (.region i3 #[q0] false) p3 ∧ Orcs P C BB pB ∧ Orcs P C r8 p8 ∧ Orcs P C E pE
 hos : ∀ id st, exS os (.exit id st) = none
 h4 : ∀ ps, four nt C.toCtx ((shI nt).st (yI nt ps)) m0 m1 m2 m3 = some ([(g0, [(1, 0)]), (g1, [(1, 0)]), (g2, [(1, 0)]), (g3, [(1, 0)])], yI nt ps)
 hset : ∀ ps n i, (shL nt).ex ((((shI nt).st (yI nt ps)).set 13 (one (.int .i64 n))).set 14 (one (.int .i64 i))) = some (yL nt ps n i)
 hlt : ∀ ps n i, jJP C (.region i3 #[q0] false) p3 ((shL nt).st (yL nt ps n i)) (kLt nt) = some (decide (i < n), yL nt ps n i)
 hB : ∀ gc, gc ∈ [(g0, c0), (g1, c1), (g2, c2), (g3, c3)] → ∀ ps n i, jJP C BB pB (((shL nt).st (yL nt ps n i)).set 5 (lfv (.clo gc.1 [(1, 0)]))) (kBody nt os) = (gc.2 ps).bind fun r => bif (r.1.1 != 0) then some (.inr (mk r.1.1)) else some (.inl (yL nt ps n i))
 h8 : ∀ ps n i, jJP C r8 p8 ((shL nt).st (yL nt ps n i)) (kNext nt) = some (yL nt ps n (IntKind.i64.wrap (i + 1)))
 hE : ∀ ps n i, jJP C E pE ((shL nt).st (yL nt ps n i)) (exS os) = some (mk 0)
end
section
variable {P : Program} {C : CtxC}
theorem run_four {T e : TypeId} (hT : P.underlying T = some (.slice e)) (he : (P.info? e).map (fun i => (i.size, i.zero)) = some (1, some .nilFunc)) {v0 v1 v2 v3 : Value} (h : ∀ v ∈ [v0, v1, v2, v3], v.cells = #[v]) (w : World) :
  (Instr.buildSlice T 4 #[(0, v0), (1, v1), (2, v2), (3, v3)]).run P w = .ok (.slice (some ⟨w.heap.size, 0, none⟩) 4 4) (w.alloc (.cells #[v0, v1, v2, v3] e)) := by
 cases hi : P.info? e with
 | none => simp [hi] at he
 | some i =>
  simp only [hi, Option.map_some, Option.some.injEq, Prod.mk.injEq] at he
  refine run_buildSlice w T e 4 _ _ i .nilFunc hT hi he.2 (by rw [he.1]; decide) (by rw [he.1]; decide) ?_
  have hz : (((Array.range (4 * i.size)).map fun x => (Value.nilFunc).cells[x % (Value.nilFunc).cells.size]!)).size = 4 := by simp [he.1]
  have := fill_order 1 [(0, v0), (1, v1), (2, v2), (3, v3)] 0 ((Array.range (4 * i.size)).map fun x => (Value.nilFunc).cells[x % (Value.nilFunc).cells.size]!)
   (fun j hj => by
    match j, hj with
    | 0, _ => rfl
    | 1, _ => rfl
    | 2, _ => rfl
    | 3, _ => rfl) (fun p hp => by
     have : p.2 ∈ [v0, v1, v2, v3] := by
      simp only [List.mem_cons, List.not_mem_nil, or_false] at hp ⊢
      rcases hp with rfl | rfl | rfl | rfl <;> simp
     rw [h _ this]; rfl) (by rw [hz]; simp)
  rw [he.1] at this hz ⊢
  simp only
  rw [this]
  have hc : ([(0, v0), (1, v1), (2, v2), (3, v3)].flatMap fun p : Nat × Value => p.2.cells.toList) = [v0, v1, v2, v3] := by
   simp only [List.flatMap_cons, List.flatMap_nil, h v0 (by simp), h v1 (by simp), h v2 (by simp), h v3 (by simp)]
   rfl
  rw [hc]
  congr 2
  unfold splice
  rw [Nat.zero_mul, List.take_zero, List.nil_append, Nat.zero_add, List.drop_eq_nil_of_le (by simp), List.append_nil]
theorem checks_frag (H : CtxGood P C.toCtx) {nt : Nat} {os : List OSh} {T e : TypeId} {m0 m1 m2 m3 m4 m5 n0 n1 n2 q0 r0 r1 r2 : Oper} {i1 i2 i3 i4 : Nat} {BB r8 E : Code} {p3 pB p8 pE : Nat} {g0 g1 g2 g3 : FuncId} {c0 c1 c2 c3 : List Pack → Option CY} {mk : Int → YS os}
  (K : ChkText P C nt os T e m0 m1 m2 m3 m4 m5 n0 n1 n2 q0 r0 r1 r2 i3 BB r8 E p3 pB p8 pE g0 g1 g2 g3 c0 c1 c2 c3 mk) {g : (shI nt).Y → Option (YS os)} (hg : ∀ ps, g (yI nt ps) = restC ps mk [c0, c1, c2, c3]) {code : Code}
  (hcode : code = .seq (.region i1 #[m0, m1, m2, m3, m4, m5] false) (.seq (.seq (.region i2 #[n0, n1, n2] false) (.block 0 (.loop (.seq (.region i3 #[q0] false) (.seq (.cond (.tmp 15) .skip (.exit 0)) (.seq (.block 1 (.seq (.region i4 #[r0, r1, r2] false) BB)) r8)))))) E)) :
  jjn P code (jjb (shI nt) os g) := by
 intro rn hn w0 fb X st y hy ι tm w ds S
 simp only [jjb] at hy y ⊢
 obtain ⟨y0, hy0, hy1⟩ := Option.bind_eq_some_iff.1 hy
 obtain ⟨ps, hps⟩ : ∃ ps, y0 = yI nt ps := ⟨y0.2.1.1, rfl⟩
 subst hps
 rw [hg] at hy1
 obtain ⟨ι0, S0, _⟩ := Shape.ex_ok S hy0
 obtain ⟨Wc, hWc⟩ : ∃ Wc, Wc = wrC code := ⟨_, rfl⟩
 have hwr := fun t (ht : t ∈ [1, 12, jjP]) => notIn K.wr ht
 simp only [List.mem_append, not_or] at hwr
 have inW : ∀ t, t ∉ Wc → (t ∉ m0.dst.toList ∧ t ∉ m1.dst.toList ∧ t ∉ m2.dst.toList ∧ t ∉ m3.dst.toList) ∧ (t ≠ 11 ∧ t ≠ 3 ∧ t ≠ 12 ∧ t ≠ 13 ∧ t ≠ 14 ∧ t ≠ 16 ∧ t ≠ 17 ∧ t ≠ 5) ∧ (t ∉ q0.dst.toList ∧ t ∉ wrC BB ∧ t ∉ wrC r8 ∧ t ∉ wrC E) := by
  intro t ht
  rw [hWc, hcode] at ht
  simp only [wrC, jz0, K.dst.1, K.dst.2.1, K.dst.2.2.1, K.dst.2.2.2.1, K.dst.2.2.2.2.1, K.dst.2.2.2.2.2.1, K.dst.2.2.2.2.2.2.1, K.dst.2.2.2.2.2.2.2, List.mem_append, not_or, Option.toList_some, List.mem_cons, List.not_mem_nil, or_false, List.append_nil, List.nil_append, List.append_assoc] at ht
  obtain ⟨x0, x1, x2, x3, x4, x5, x6, x7, x8, x9, x10, x11, x12, x13, x14, x15⟩ := ht
  exact ⟨⟨x0, x1, x2, x3⟩, ⟨x4, x5, x6, x7, x8, x10, x11, x12⟩, x9, x13, x14, x15⟩
 have tyInf : (P.info? e).map (fun i => (i.size, i.zero)) = some (1, some .nilFunc) := by
  have := H.tt e
  rw [K.tye] at this
  obtain ⟨_, _, _, h⟩ := this
  exact h.2.2.2
 have hres : ∀ {w1 : World} {fb1 : List Nat} {X1 : Nat → Prop} {ds1 : List Deferred} {tm1 : Array Value} {W1 : List Nat} {st1 : St} {a : Act} {w2 : World}, jjP ∉ W1 → At w1 fb1 X1 ds1 tm1 W1 st1 a w2 →
   a.defers = ds1 ∧ ∃ ι, Sim w1 fb1 X1 ι st1 a.tmps w2 ∧ ∀ t, t ∉ W1 → a.tmps.getD t undef = tm1.getD t undef := by
  rintro w1 fb1 X1 ds1 tm1 W1 st1 a w2 hm ⟨wa, fa, Xa, ι, Ds, B, M, ⟨d1, d2⟩, Sx, kp⟩
  have := d2 hm
  subst this
  exact ⟨d1, ι, (Sim.unbase B Sx).shrink B.x, kp⟩
 rw [hcode]
 refine CW.of (n := 0) (wpIn_seq (wpIn_region ?_))
 obtain ⟨G0, G1, G2, G3, G4, G5, G6, G7, G8, G9, G10, G11⟩ := K.gd
 obtain ⟨D4, D5, D6, D7, D8, D9, D10, D11⟩ := K.dst
 rw [show List.range (#[m0, m1, m2, m3, m4, m5] : Array Oper).size = [0, 1, 2, 3, 4, 5] from rfl]
 simp only [wpOpsIn, List.getElem?_toArray, List.getElem?_cons_zero, List.getElem?_cons_succ, Region.wanted, G0, G1, G2, G3, G4, G5, if_true]
 refine jqM S0 H (K.h4 ps) fun sa ιa ta wa ea Sa ka => ?_
 refine jqM Sa H ea fun sb ιb tb wb eb Sb kb => ?_
 refine jqM Sb H eb fun sc ιc tc wc ec Sc kc => ?_
 refine jqM Sc H ec fun sd ιd td wd ed Sd kd => ?_
 split at ed
 case h_2 => cases ed
 rename_i a ca b cb c cc d cd cells1 e7 e8 e9 e10 es1
 obtain ⟨yy, hyy, hye⟩ := Option.map_eq_some_iff.1 ed
 simp only [Prod.mk.injEq, List.cons.injEq, and_true] at hye
 obtain ⟨⟨⟨rfl, rfl⟩, ⟨rfl, rfl⟩, ⟨rfl, rfl⟩, rfl, rfl⟩, rfl⟩ := hye
 obtain ⟨ιe, Se, hse⟩ := Shape.ex_ok Sd hyy
 have hι1 : ιe 1 = ιd 1 := hse 1 _ List.mem_cons_self
 have hsI : jjJ ((shI nt).st (yI nt ps)).sites 1 = some (.box 0 [.d (.sl .pack ps)]) := rfl
 obtain ⟨pv, hpv⟩ : ∃ pv, pv = td.getD 1 undef := ⟨_, rfl⟩
 have hp1 : ιe 1 = pv := by
  have := Se.slots 1
  have hg1 : ((shI nt).st (yI nt ps)).get 1 = lfv (.ptr 1 0 0) := rfl
  rw [hg1] at this
  obtain ⟨b, hb, hr⟩ := this
  rw [hpv, hb]; exact Ref.at hr hsI rfl
 have cloAt : ∀ {t : Nat} {gg : FuncId}, sd.get t = .av (.lf (.clo gg [(1, 0)])) → td.getD t undef = .func (.func gg) #[] #[pv] := by
  intro t gg h
  have := Sd.slots t
  rw [h] at this
  obtain ⟨vs, h1, h2, h3⟩ := this
  match vs, h2 with
  | [v], _ =>
   have h4 := Ref.at (h3 0 (by simp) (by simp)) es1 rfl
   simp only [List.getElem_cons_zero] at h4
   rw [h1, h4, ← hι1, hp1]
 have z7 := cloAt e7
 have z8 := cloAt e8
 have z9 := cloAt e9
 have z10 := cloAt e10
 have szd : td.size = nt := Se.nt
 have nt20 := K.nt20
 obtain ⟨B, hB⟩ : ∃ B, B = wd.heap.size := ⟨_, rfl⟩
 obtain ⟨jx5, hvals⟩ : ∃ jx5 : Array Value, jx5 = #[.func (.func a) #[] #[pv], .func (.func b) #[] #[pv], .func (.func c) #[] #[pv], .func (.func d) #[] #[pv]] := ⟨_, rfl⟩
 have run4 : (execOp (Act.eval ⟨td, []⟩) m4).run P wd = .ok (.value (.slice (some ⟨B, 0, none⟩) 4 4)) (wd.alloc (.cells jx5 e)) := by
  have q7 : Act.eval ⟨td, []⟩ (.tmp 7) = _ := z7
  have q8 : Act.eval ⟨td, []⟩ (.tmp 8) = _ := z8
  have q9 : Act.eval ⟨td, []⟩ (.tmp 9) = _ := z9
  have q10 : Act.eval ⟨td, []⟩ (.tmp 10) = _ := z10
  have := run_four (P := P) K.und tyInf (v0 := .func (.func a) #[] #[pv]) (v1 := .func (.func b) #[] #[pv]) (v2 := .func (.func c) #[] #[pv]) (v3 := .func (.func d) #[] #[pv]) (fun v hv => by
   simp only [List.mem_cons, List.not_mem_nil, or_false] at hv
   rcases hv with rfl | rfl | rfl | rfl <;> rfl) wd
  unfold execOp
  simp only [K.om.1, List.map_toArray, List.map_cons, List.map_nil, q7, q8, q9, q10, Sem.run_bind, this, Result.andThen_ok, Sem.run_pure, hB, hvals]
 refine val_in run4 ?_
 have e11 : (jqN td m4.dst (.slice (some ⟨B, 0, none⟩) 4 4)).getD 11 undef = .slice (some ⟨B, 0, none⟩) 4 4 := by rw [D4]; exact jq6 (by omega)
 refine val_in (run_move (.inr K.om.2)) ?_
 have ev11 : Act.eval ⟨jqN td m4.dst (.slice (some ⟨B, 0, none⟩) 4 4), []⟩ (.tmp 11) = .slice (some ⟨B, 0, none⟩) 4 4 := e11
 rw [ev11]
 obtain ⟨t3, ht3⟩ : ∃ t3, t3 = jqN (jqN td m4.dst (.slice (some ⟨B, 0, none⟩) 4 4)) m5.dst (.slice (some ⟨B, 0, none⟩) 4 4) := ⟨_, rfl⟩
 rw [← ht3]
 have sz3 : t3.size = nt := by rw [ht3, jqe, jqe, szd]
 have v33 : t3.getD 3 undef = .slice (some ⟨B, 0, none⟩) 4 4 := by rw [ht3, D5]; exact jq6 (by rw [jqe]; omega)
 have k3 : ∀ t, t ≠ 11 → t ≠ 3 → t3.getD t undef = td.getD t undef := fun t h1 h2 => by
  rw [ht3, D4, D5, jqy (by simpa using fun e => h2 e), jqy (by simpa using fun e => h1 e)]
 obtain ⟨wf, hwf⟩ : ∃ wf, wf = wd.alloc (.cells jx5 e) := ⟨_, rfl⟩
 rw [← hwf]
 have szf : wf.heap.size = wd.heap.size + 1 := by rw [hwf]; simp
 have holdf : ∀ b, b < wd.heap.size → wf.heap[b]? = wd.heap[b]? := fun b hb => by rw [hwf]; exact RowKit.Below.heap_alloc _ _ _ hb
 have hBf : wf.heap[B]? = some (.cells jx5 e) := by rw [hwf, hB]; exact World.alloc_heap_new wd _
 have Sf0 := Se.jump (w' := wf) (fun b _ hb => holdf b hb) (by omega) (by
  refine ⟨by rw [hwf]; exact Se.frame.os, by rw [hwf]; exact Se.frame.tape, by rw [hwf]; exact Se.frame.output, by have := Se.frame.size; omega, fun b hb hn => ?_⟩
  have := Se.frame.size
  rw [holdf b (by omega)]; exact Se.frame.block b hb hn)
 obtain ⟨X2, hX2⟩ : ∃ X2 : Nat → Prop, X2 = fun b => X b ∨ (wd.heap.size ≤ b ∧ b < wf.heap.size) := ⟨_, rfl⟩
 rw [← hX2] at Sf0
 have xB : X2 B := by rw [hX2]; exact .inr ⟨by omega, by omega⟩
 have hXX : ∀ b, X b → X2 b := fun b hb => by rw [hX2]; exact .inl hb
 have Sf1 : Sim w0 fb X2 ιe ((shI nt).st (yI nt ps)) t3 wf := Sf0.retm (fun t => by
  by_cases h11 : t = 11
  ·exact .inr (shI_get (by omega))
  ·by_cases h3 : t = 3
   ·exact .inr (shI_get (by omega))
   ·exact .inl (k3 t h11 h3)) (by rw [sz3, szd])
 obtain ⟨fb2, hfb2⟩ : ∃ fb2, fb2 = jJh ιe ((shI nt).st (yI nt ps)).sites := ⟨_, rfl⟩
 have own2 : ∀ b, b ∈ fb2 → ¬ X2 b ∧ (b ∈ fb ∨ w0.heap.size ≤ b) := fun b hb => by
  rw [hfb2] at hb
  obtain ⟨σ, q1, q2⟩ := jq7.1 hb
  exact Sf1.mine σ b q1 q2
 have Sf2 : Sim wf fb2 X2 ιe ((shI nt).st (yI nt ps)) t3 wf := Sf1.rebase fun σ b q1 q2 => by rw [hfb2]; exact jq7.2 ⟨σ, q1, q2⟩
 have Bf : Base w0 fb X wf fb2 X2 := by
  have := Sf1.base fun b hb => (own2 b hb).2
  exact ⟨this.fr, this.mine, hXX⟩
 have BnF : B ∉ fb2 := fun h => (own2 B h).1 xB
 refine wpIn_seq (wpIn_seq (wpIn_region ?_))
 rw [show List.range (#[n0, n1, n2] : Array Oper).size = [0, 1, 2] from rfl]
 simp only [wpOpsIn, List.getElem?_toArray, List.getElem?_cons_zero, List.getElem?_cons_succ, Region.wanted, G6, G7, G8, if_true]
 refine val_in (run_move (.inl K.on.1)) ?_
 have ev3 : Act.eval ⟨t3, []⟩ (.tmp 3) = .slice (some ⟨B, 0, none⟩) 4 4 := v33
 rw [ev3]
 obtain ⟨t4, ht4⟩ : ∃ t4, t4 = jqN t3 n0.dst (.slice (some ⟨B, 0, none⟩) 4 4) := ⟨_, rfl⟩
 rw [← ht4]
 have v412 : t4.getD 12 undef = .slice (some ⟨B, 0, none⟩) 4 4 := by rw [ht4, D6]; exact jq6 (by omega)
 have runL : (execOp (Act.eval ⟨t4, []⟩) n1).run P wf = .ok (.value (.int .i64 4)) wf := by
  have q : Act.eval ⟨t4, []⟩ (.tmp 12) = .slice (some ⟨B, 0, none⟩) 4 4 := v412
  unfold execOp
  simp only [K.on.2.1, resolve, invoke, builtin, Sem.run_bind, Sem.run_pure, Result.andThen_ok, List.map_toArray, List.map_cons, List.map_nil, q]
  simp [Builtin.len_, run_underlying K.und, goInt]
 refine val_in runL ?_
 refine val_in (run_move (.inl K.on.2.2)) ?_
 have ev0 : ∀ (tt : Array Value), Act.eval ⟨tt, []⟩ (.const (.int .i64 0)) = .int .i64 0 := fun _ => rfl
 rw [ev0]
 obtain ⟨t5, ht5⟩ : ∃ t5, t5 = jqN (jqN t4 n1.dst (.int .i64 4)) n2.dst (.int .i64 0) := ⟨_, rfl⟩
 rw [← ht5]
 have sz5 : t5.size = nt := by rw [ht5, jqe, jqe, ht4, jqe, sz3]
 have sz4 : t4.size = nt := by rw [ht4, jqe, sz3]
 have k5 : ∀ t, t ≠ 12 → t ≠ 13 → t ≠ 14 → t5.getD t undef = t3.getD t undef := fun t h1 h2 h3 => by
  rw [ht5, D7, D8, jqy (by simpa using fun e => h3 e), jqy (by simpa using fun e => h2 e), ht4, D6, jqy (by simpa using fun e => h1 e)]
 have v512 : t5.getD 12 undef = .slice (some ⟨B, 0, none⟩) 4 4 := by rw [ht5, D7, D8, jqy (by simp), jqy (by simp)]; exact v412
 have v513 : t5.getD 13 undef = .int .i64 4 := by rw [ht5, D7, D8, jqy (by simp)]; exact jq6 (by omega)
 have v514 : t5.getD 14 undef = .int .i64 0 := by rw [ht5, D8]; exact jq6 (by rw [jqe]; omega)
 have v51 : t5.getD 1 undef = pv := by rw [k5 1 (by omega) (by omega) (by omega), k3 1 (by omega) (by omega), hpv]
 have S5 : ∃ ι, Sim wf fb2 X2 ι ((shL nt).st (yL nt ps 4 0)) t5 wf := by
  have A := Sf2.retm (tm' := t5) (fun t => by
   by_cases h1 : t = 1
   ·subst h1; exact .inl (k5 1 (by omega) (by omega) (by omega))
   ·exact .inr (shI_get h1)) (by rw [sz5, sz3])
  have A2 := (A.reslot (t := 13) (v := one (.int .i64 4)) (by rw [v513]; exact .int _ _)).reslot (t := 14) (v := one (.int .i64 0)) (by rw [v514]; exact .int _ _)
  obtain ⟨ι, A3, _⟩ := Shape.ex_ok A2 (K.hset ps 4 0)
  exact ⟨ι, A3⟩
 have kd2 : ∀ t, t ∉ Wc → t5.getD t undef = tm.getD t undef := fun t ht => by
  obtain ⟨⟨y0, y1, y2, y3⟩, ⟨y4, y5, y6, y7, y8, _⟩, _⟩ := inW t ht
  rw [k5 t y6 y7 y8, k3 t y4 y5, kd t y3, kc t y2, kb t y1, ka t y0]
 obtain ⟨cs, hcs⟩ : ∃ cs, cs = [c0, c1, c2, c3] := ⟨_, rfl⟩
 obtain ⟨Hd, hHd⟩ : ∃ Hd : Nat → Array Value → World → Prop, ∀ i t w, Hd i t w ↔ (∃ ι, Sim wf fb2 X2 ι ((shL nt).st (yL nt ps 4 i)) t w) ∧ t.getD 12 undef = .slice (some ⟨B, 0, none⟩) 4 4 ∧ t.getD 1 undef = pv ∧ (∀ u, u ∉ Wc → t.getD u undef = tm.getD u undef) :=
  ⟨_, fun _ _ _ => Iff.rfl⟩
 have h14 : ∀ {i : Nat} {t : Array Value} {w : World}, Hd i t w → t.getD 14 undef = .int .i64 i := fun h => by
  obtain ⟨⟨ι, S⟩, _⟩ := (hHd _ _ _).1 h
  exact slot_int S (t := 14) rfl
 have gone : ∀ {st : St} {t : Array Value} {w : World}, (∃ ι, Sim wf fb2 X2 ι st t w) → (∀ u, u ∉ Wc → t.getD u undef = tm.getD u undef) → At w0 fb X ds tm Wc st ⟨t, ds⟩ w := by
  rintro st t w ⟨ι, S⟩ kp
  exact ⟨wf, fb2, X2, ι, [], Bf, Marks.nil _ _ _ _, ⟨rfl, fun _ => rfl⟩, S, kp⟩
 have ending : ∀ {i : Nat} {t : Array Value} {w : World}, Hd i t w → mk 0 = y → CW rn P E (Lands w0 fb X ds tm Wc (mkS os y)) ⟨t, ds⟩ w := by
  intro i t w h hm
  obtain ⟨⟨ι, S⟩, _, _, kp⟩ := (hHd _ _ _).1 h
  refine jqF H E pE (.inr K.nrE) K.orcs.2.2.2 wf fb2 X2 _ ι t w ds (exS os) _ (K.hE ps 4 i) S ?_
  intro o e a w2 hk hl
  rw [← hm]
  have hl := jJp hk hl
  have := Lands.trans (W1 := Wc) Bf (Marks.nil w0 wf fb2 X2) (fun _ => rfl) kp hl
  exact this.mono fun t ht => by
   rcases List.mem_append.1 ht with h | h
   ·exact h
   ·rw [hWc, hcode]; simp only [wrC, List.mem_append]; exact .inr (.inr h)
 refine wpIn_block (wpIn_loop (I := fun a w => ∃ (i : Nat) (t : Array Value), a = ⟨t, ds⟩ ∧ i ≤ 4 ∧ Hd i t w ∧ restC ps mk (cs.drop i) = some y)
  (μ := fun a w => match a.tmps.getD 14 undef with | .int _ i => (4 - i).toNat | _ => 0) ⟨0, t5, rfl, by omega, (hHd _ _ _).2 ⟨S5, v512, v51, kd2⟩, by rw [hcs]; exact hy1⟩ ?_)
 rintro a6 w6 ⟨i, t6, rfl, hi4, h6, hr6⟩
 have hμ : (match t6.getD 14 undef with | .int _ i => (4 - i).toNat | _ => 0) = 4 - i := by rw [h14 h6]; simp only; omega
 simp only [hμ]
 obtain ⟨⟨ι6, S6⟩, v612, v61, k6⟩ := (hHd _ _ _).1 h6
 refine wpIn_seq (jqF H (.region i3 #[q0] false) p3 (.inr rfl) K.orcs.1 wf fb2 X2 _ ι6 t6 w6 ds (kLt nt) _ (K.hlt ps 4 i) S6 ?_)
 intro o7 e7' a7 w7 hk7 hl7
 cases o7 with
 | exit id st => cases hk7
 | ret st => cases hk7
 | norm st7 =>
 cases e7' <;> try exact hl7.elim
 have mkq : jjP ∉ wrC (.region i3 #[q0] false) := by
  show jjP ∉ jz0 [q0]
  simp only [jz0, List.append_nil]
  exact (hwr jjP (by simp)).1
 obtain ⟨d7, ι7, S7, kp7⟩ := hres mkq hl7
 obtain ⟨t7, df7⟩ := a7
 have d7 : df7 = ds := d7
 subst d7
 simp only [kLt] at hk7
 split at hk7
 case h_2 => cases hk7
 rename_i bl hbl
 obtain ⟨yy7, hyy7, hye7⟩ := Option.map_eq_some_iff.1 hk7
 simp only [Prod.mk.injEq] at hye7
 obtain ⟨rfl, rfl⟩ := hye7
 have v715 := slot_bool S7 hbl
 obtain ⟨ι7', S7', _⟩ := Shape.ex_ok S7 hyy7
 have q12 : (12 : Nat) ∉ wrC (.region i3 #[q0] false) := by
  show 12 ∉ jz0 [q0]
  simp only [jz0, List.append_nil]; exact (hwr 12 (by simp)).1
 have q1 : (1 : Nat) ∉ wrC (.region i3 #[q0] false) := by
  show 1 ∉ jz0 [q0]
  simp only [jz0, List.append_nil]; exact (hwr 1 (by simp)).1
 have h7 : Hd i t7 w7 := (hHd _ _ _).2 ⟨⟨ι7', S7'⟩, (kp7 12 q12).trans v612, (kp7 1 q1).trans v61, fun u hu => (kp7 u (by
  show u ∉ jz0 [q0]
  simp only [jz0, List.append_nil]; exact (inW u hu).2.2.1)).trans (k6 u hu)⟩
 have ev15 : Act.eval ⟨t7, df7⟩ (.tmp 15) = .bool (decide ((i : Int) < 4)) := v715
 by_cases hlt : (i : Int) < 4
 case neg =>
  rw [decide_eq_false hlt] at ev15
  refine wpIn_seq (wpIn_cond ev15 (wpIn_exit ?_))
  have hi : i = 4 := by omega
  subst hi
  have hm : mk 0 = y := by rw [hcs] at hr6; simpa [restC] using hr6
  have := ending h7 hm
  rw [hWc, hcode] at this
  exact this
 rw [decide_eq_true hlt] at ev15
 refine wpIn_seq (wpIn_cond ev15 (wpIn_skip ?_))
 refine wpIn_seq (wpIn_block (wpIn_seq (wpIn_region ?_)))
 rw [show List.range (#[r0, r1, r2] : Array Oper).size = [0, 1, 2] from rfl]
 simp only [wpOpsIn, List.getElem?_toArray, List.getElem?_cons_zero, List.getElem?_cons_succ, Region.wanted, G9, G10, G11, if_true]
 obtain ⟨⟨ι8, S8⟩, v812, v81, k8⟩ := (hHd _ _ _).1 h7
 have v814 := h14 h7
 have szE : (sizeOf e).run P w7 = .ok 1 w7 := by
  cases hq : P.info? e with
  | none => rw [hq] at tyInf; cases tyInf
  | some inf =>
   rw [hq] at tyInf
   simp only [Option.map_some, Option.some.injEq, Prod.mk.injEq] at tyInf
   simp [sizeOf, jjO hq, tyInf.1]
 have run5 : (execOp (Act.eval ⟨t7, []⟩) r0).run P w7 = .ok (.value (.pointer (some ⟨B, i, none⟩))) w7 := by
  have z1 : Act.eval ⟨t7, []⟩ (.tmp 12) = .slice (some ⟨B, 0, none⟩) 4 4 := v812
  have z2 : Act.eval ⟨t7, []⟩ (.tmp 14) = .int .i64 i := v814
  unfold execOp
  simp [K.ors.1, z1, z2, Instr.indexAt, asIntOf, run_underlying K.und, hlt, szE, jxg]
  intro h; omega
 refine val_in run5 ?_
 obtain ⟨t8, ht8⟩ : ∃ t8, t8 = jqN t7 r0.dst (.pointer (some ⟨B, i, none⟩)) := ⟨_, rfl⟩
 rw [← ht8]
 have sz7 : t7.size = nt := S8.nt
 have v816 : t8.getD 16 undef = .pointer (some ⟨B, i, none⟩) := by rw [ht8, D9]; exact jq6 (by omega)
 have hB7 : w7.heap[B]? = some (.cells jx5 e) := by
  rw [S8.frame.block B (by omega) BnF]; exact hBf
 obtain ⟨gi, ci, hgi, hvi, hci⟩ : ∃ gi ci, (gi, ci) ∈ [(a, c0), (b, c1), (c, c2), (d, c3)] ∧ jx5[i]? = some (.func (.func gi) #[] #[pv]) ∧ ∃ cr, cs.drop i = ci :: cr ∧ cr = cs.drop (i + 1) := by
  have : i = 0 ∨ i = 1 ∨ i = 2 ∨ i = 3 := by omega
  rcases this with rfl | rfl | rfl | rfl
  ·exact ⟨a, c0, by simp, by rw [hvals]; rfl, _, by rw [hcs]; rfl, by rw [hcs]; rfl⟩
  ·exact ⟨b, c1, by simp, by rw [hvals]; rfl, _, by rw [hcs]; rfl, by rw [hcs]; rfl⟩
  ·exact ⟨c, c2, by simp, by rw [hvals]; rfl, _, by rw [hcs]; rfl, by rw [hcs]; rfl⟩
  ·exact ⟨d, c3, by simp, by rw [hvals]; rfl, _, by rw [hcs]; rfl, by rw [hcs]; rfl⟩
 obtain ⟨cr, hdrop, hcr⟩ := hci
 have run6 : (execOp (Act.eval ⟨t8, []⟩) r1).run P w7 = .ok (.value (.func (.func gi) #[] #[pv])) w7 := by
  have z1 : Act.eval ⟨t8, []⟩ (.tmp 16) = .pointer (some ⟨B, i, none⟩) := v816
  have hl := jqZ (P := P) (w := w7) (T := e) (ti := .func) (by have := H.tt e; rw [K.tye] at this; exact this) (by intro h; cases h) ⟨B, i, none⟩ [.func (.func gi) #[] #[pv]] rfl (fun j u hu => by
   match j, hu with
   | 0, hu =>
    cases hu
    rw [jxg]
    simp [World.cell?, hB7, hvi])
  unfold execOp
  simp only [K.ors.2.1, Instr.loadAt, Instr.sureAddr, z1, Sem.run_bind, Sem.run_pure, Result.andThen_ok, hl]
  rfl
 refine val_in run6 ?_
 refine val_in (run_move (.inr K.ors.2.2)) ?_
 obtain ⟨t9, ht9⟩ : ∃ t9, t9 = jqN t8 r1.dst (.func (.func gi) #[] #[pv]) := ⟨_, rfl⟩
 rw [← ht9]
 have ev17 : Act.eval ⟨t9, []⟩ (.tmp 17) = .func (.func gi) #[] #[pv] := by
  show t9.getD 17 undef = _
  rw [ht9, D10]; exact jq6 (by rw [ht8, jqe]; omega)
 rw [ev17]
 obtain ⟨t10, ht10⟩ : ∃ t10, t10 = jqN t9 r2.dst (.func (.func gi) #[] #[pv]) := ⟨_, rfl⟩
 rw [← ht10]
 have sz10 : t10.size = nt := by rw [ht10, jqe, ht9, jqe, ht8, jqe, sz7]
 have k10 : ∀ u, u ≠ 16 → u ≠ 17 → u ≠ 5 → t10.getD u undef = t7.getD u undef := fun u h1 h2 h3 => by
  rw [ht10, D11, jqy (by simpa using fun e => h3 e), ht9, D10, jqy (by simpa using fun e => h2 e), ht8, D9, jqy (by simpa using fun e => h1 e)]
 have v105 : t10.getD 5 undef = .func (.func gi) #[] #[pv] := by rw [ht10, D11]; exact jq6 (by rw [ht9, jqe, ht8, jqe]; omega)
 have S10 : Sim wf fb2 X2 ι8 ((shL nt).st (yL nt ps 4 i)) t10 w7 := S8.retm (fun u => by
  by_cases h1 : u = 16
  ·exact .inr (shL_get (by omega) (by omega) (by omega))
  ·by_cases h2 : u = 17
   ·exact .inr (shL_get (by omega) (by omega) (by omega))
   ·by_cases h3 : u = 5
    ·exact .inr (shL_get (by omega) (by omega) (by omega))
    ·exact .inl (k10 u h1 h2 h3)) (by rw [sz10, sz7])
 have S11 := S10.reslot (t := 5) (v := lfv (.clo gi [(1, 0)])) (by
  rw [v105]
  refine ⟨[pv], rfl, rfl, fun j hj hj' => ?_⟩
  match j, hj, hj' with
  | 0, _, _ =>
   have := S8.slots 1
   have hg1 : ((shL nt).st (yL nt ps 4 i)).get 1 = lfv (.ptr 1 0 0) := rfl
   rw [hg1] at this
   obtain ⟨b', hb', hr'⟩ := this
   refine ⟨.box 0 [.d (.sl .pack ps)], rfl, Nat.le_refl _, fun _ => ?_⟩
   have h2 := Ref.at hr' (site := .box 0 [.d (.sl .pack ps)]) rfl rfl
   show pv = ι8 1
   rw [h2, ← hb', v81])
 rw [hdrop] at hr6
 simp only [restC] at hr6
 obtain ⟨rr, hrr, hr6⟩ := Option.bind_eq_some_iff.1 hr6
 have hBe := K.hB (gi, ci) hgi ps 4 i
 simp only [hrr, Option.bind_some] at hBe
 have kAll : ∀ u, u ∉ Wc → t10.getD u undef = tm.getD u undef := fun u hu => by
  obtain ⟨_, ⟨_, _, _, _, _, y16, y17, y5⟩, _⟩ := inW u hu
  rw [k10 u y16 y17 y5, k8 u hu]
 have wrBBin : ∀ t, t ∈ wrC BB → t ∈ Wc := fun t ht => by
  rw [hWc, hcode]; simp only [wrC, List.mem_append]; exact .inr (.inl (.inr (.inr (.inr (.inl (.inr ht))))))
 cases hne : (rr.1.1 != 0) with
 | true =>
  simp only [hne, cond_true] at hBe hr6
  refine jqF H BB pB (.inr K.nrB) K.orcs.2.1 wf fb2 X2 _ ι8 t10 w7 df7 (kBody nt os) _ hBe S11 ?_
  intro o e' a12 w12 hk hl
  have hl2 := Lands.trans (W1 := Wc) Bf (Marks.nil w0 wf fb2 X2) (fun _ => rfl) kAll hl
  have hl3 : Lands w0 fb X df7 tm Wc o e' a12 w12 := hl2.mono fun t ht => by
   rcases List.mem_append.1 ht with h | h
   ·exact h
   ·exact wrBBin t h
  have hy : mk rr.1.1 = y := by simpa using hr6
  cases o with
  | norm st12 =>
   obtain ⟨z, _, hz⟩ := Option.map_eq_some_iff.1 hk
   cases hz
  | exit id st12 =>
   obtain ⟨bb, hbb, hz⟩ := Option.map_eq_some_iff.1 hk
   rw [K.hos] at hbb
   cases hbb
  | ret st12 =>
   obtain ⟨bb, hbb, hz⟩ := Option.map_eq_some_iff.1 hk
   cases hz
   have := jJp hbb hl3
   rw [hy, hWc, hcode] at this
   cases e' <;> try exact hl3.elim
   exact this
 | false =>
  simp only [hne, cond_false] at hBe hr6
  refine jqF H BB pB (.inr K.nrB) K.orcs.2.1 wf fb2 X2 _ ι8 t10 w7 df7 (kBody nt os) _ hBe S11 ?_
  intro o e' a12 w12 hk hl
  cases o with
  | exit id st12 =>
   obtain ⟨z, _, hz⟩ := Option.map_eq_some_iff.1 hk
   cases hz
  | ret st12 =>
   obtain ⟨z, _, hz⟩ := Option.map_eq_some_iff.1 hk
   cases hz
  | norm st12 =>
   cases e' <;> try exact hl.elim
   obtain ⟨z, hz, hze⟩ := Option.map_eq_some_iff.1 hk
   cases hze
   obtain ⟨d12, ι12, S12, kp12⟩ := hres (hwr jjP (by simp)).2.1 hl
   obtain ⟨t12, df12⟩ := a12
   have d12 : df12 = df7 := d12
   subst d12
   obtain ⟨ι13, S13, _⟩ := Shape.ex_ok S12 hz
   refine jqF H r8 p8 (.inr K.nr8) K.orcs.2.2.1 wf fb2 X2 _ ι13 t12 w12 df12 (kNext nt) _ (K.h8 ps 4 i) S13 ?_
   intro o14 e14 a14 w14 hk14 hl14
   cases o14 with
   | exit id st => cases hk14
   | ret st => cases hk14
   | norm st14 =>
   cases e14 <;> try exact hl14.elim
   obtain ⟨d14, ι14, S14, kp14⟩ := hres (hwr jjP (by simp)).2.2.1 hl14
   obtain ⟨t14, df14⟩ := a14
   have d14 : df14 = df12 := d14
   subst d14
   obtain ⟨ι15, S15, _⟩ := Shape.ex_ok S14 hk14
   have hwrap : IntKind.i64.wrap ((i : Int) + 1) = ((i + 1 : Nat) : Int) := by rw [wrap_small (by omega) (by omega)]; omega
   rw [hwrap] at S15
   have hH : Hd (i + 1) t14 w14 := (hHd _ _ _).2 ⟨⟨ι15, S15⟩, by
    rw [kp14 12 (hwr 12 (by simp)).2.2.1, kp12 12 (hwr 12 (by simp)).2.1, k10 12 (by omega) (by omega) (by omega), v812], by
    rw [kp14 1 (hwr 1 (by simp)).2.2.1, kp12 1 (hwr 1 (by simp)).2.1, k10 1 (by omega) (by omega) (by omega), v81], fun u hu => by
    obtain ⟨_, _, _, z1, z2, _⟩ := inW u hu
    rw [kp14 u z2, kp12 u z1, kAll u hu]⟩
   refine ⟨⟨i + 1, t14, rfl, by omega, hH, by rw [hcr] at hr6; exact hr6⟩, ?_⟩
   rw [h14 hH]
   simp only
   omega
end
theorem jqh {P : Program} {f : FuncId} {vs : Array Value} {w : World} {rv : Value} {Q : World → Prop} {R : Value → World → Prop} (he : (callFunc f vs).run P w = .ok (.enter f vs) w)
  (h : Calls P f vs w fun e w' => e = .returned rv ∧ Q w') (hR : ∀ w', Q w' → R rv w') : Enters P f vs w R :=
 .inl ⟨he, h.mono fun e w' h => by obtain ⟨rfl, h⟩ := h; exact hR w' h⟩
theorem insert_ok {P : Program} {f : FuncId} {T e : TypeId} {t : Ty} {bt : Nat} (h4 : esz t = 4) (hbt : 0 < bt) (R : InsRoads P f T e bt) (he : ∀ vs w, (callFunc f vs).run P w = .ok (.enter f vs) w) (ht : P.underlying T = some (.slice e))
  (hinfo : (P.info? e).map (fun i => (i.zero.map (·.cells.size), i.size, i.bytes)) = some (some 4, 4, bt)) : jja P f (insSumm t bt) := by
 obtain ⟨i0, hi0, hzz⟩ := Option.map_eq_some_iff.1 hinfo
 simp only [Prod.mk.injEq] at hzz
 obtain ⟨hz0, hzs, hzb⟩ := hzz
 obtain ⟨z, hz, hzc⟩ := Option.map_eq_some_iff.1 hz0
 intro as
 unfold insSumm
 cases hq : insArgs t as with
 | none => intro y hy; cases hy
 | some q =>
  obtain ⟨xs, i, vs⟩ := q
  have has := insArgs_inv hq
  subst has
  intro y hy w X jx5 BS hh hnd hBX hold
  have hy : insL bt xs i vs = some y := hy
  unfold insL at hy
  split at hy
  case isFalse => cases hy
  rename_i hc
  obtain ⟨hc0, hc1, hc2, hc3⟩ := hc
  cases hy
  obtain ⟨k, rfl⟩ := Int.eq_ofNat_of_zero_le hc0
  simp only [Int.ofNat_eq_natCast, Int.toNat_natCast] at *
  have hk : k ≤ xs.length := by omega
  match jx5, hh with
  | [v1, v2, v3], ⟨b1, q1, e1, h1, b2, q2, e2, h2, b3, q3, e3, h3, e4⟩ =>
   obtain ⟨z1, t1, cs, o1, r1⟩ := h1
   obtain ⟨z2, r2⟩ := h2
   obtain ⟨z3, t3, vcs, o3, r3⟩ := h3
   rw [h4] at o1 o3
   subst z1 z2 z3 e4
   simp only [List.append_nil, List.nil_append] at e3 e2
   subst e3
   subst e2
   subst e1
   have r2' := jxa r2
   subst r2'
   have hbb : jqj [Arg.av (AV.lf (Lf.fresh t xs)), Arg.av (AV.lf (Lf.d (.int .i64 (k : Int)))), Arg.av (AV.lf (Lf.fresh t vs))] [v1, .int .i64 (k : Int), v3] = [] := by
    cases v1 <;> cases v3 <;> rfl
   show Enters P f #[v1, .int .i64 (k : Int), v3] w _
   have hlc : cs.length = xs.length * 4 := o1.1
   have hlv : vcs.length = vs.length * 4 := o3.1
   have h63 : xs.length + vs.length ≤ 9223372036854775807 := by simp only [maxLen] at hc3; omega
   have hroom : (xs.length + vs.length) * bt ≤ 140737488355328 := hc2
   by_cases hm : vs.length = 0
   ·-- nothing to lay in
    have hvs : vs = [] := List.eq_nil_of_length_eq_zero hm
    subst hvs
    have hvcs : vcs = [] := List.eq_nil_of_length_eq_zero (by simpa using hlv)
    subst hvcs
    have fin :=
     ins_fin h4 (w := w) (w' := w) hk r1 r3 ⟨t1, by simp only [List.append_nil, List.take_append_drop]; exact o1⟩ (Fr.refl _ _) hold
      (fun b hb => by
       have : b ∈ (blk v1).toList ++ (blk v3).toList := List.mem_append.2 (.inl (by rw [hb]; simp))
       refine ⟨?_, .inl this⟩
       rcases jxq o1 with ⟨h, _, _⟩ | ⟨g, c, cur, h, hg, _⟩
       ·rw [h] at hb; cases hb
       ·rw [h] at hb; cases hb; exact (Array.getElem?_eq_some_iff.1 hg).1) hBX _ _ hbb
    have hv3 : ∃ xa vc, v3 = .slice xa 0 vc := by
     rcases jxq o3 with ⟨h, _, _⟩ | ⟨g, c, cur, h, _⟩
     ·exact ⟨_, _, h⟩
     ·exact ⟨_, _, h⟩
    obtain ⟨xa, vc, hv3⟩ := hv3
    rcases jxq o1 with ⟨h, hn, _⟩ | ⟨g, c, cur, h, hg, hnc, hcm, _⟩
    ·have hk0 : k = 0 := by omega
     subst hk0
     subst h hv3
     exact jqh (he _ _) (R.none0 xa vc w) (fun w' hw' => by rw [hw']; exact fin)
    ·subst h hv3
     exact jqh (he _ _) (R.none1 g xs.length c k xa vc w hk hnc (by simp only [maxLen] at hcm; omega)) (fun w' hw' => by rw [hw']; exact fin)
   ·have hm0 : 0 < vs.length := by omega
    have one1 := r1.one
    have one3 := r3.one
    rcases jxq o3 with ⟨_, h, _⟩ | ⟨vb, vc, vcur, hv3, hgv, hvc1, hvc2, hvc3, hvc4⟩
    ·exact absurd h hm
    have hvc3 : vcur.size = vc * 4 := hvc3
    have hvc4 : vcur.toList.take (vs.length * 4) = vcs := hvc4
    have hvb : vb < w.heap.size := (Array.getElem?_eq_some_iff.1 hgv).1
    have src : Src w 4 v3 vs.length vcs := ⟨hlv, one3, .inr ⟨⟨vb, 0, none⟩, vc, hv3, fun j u hj => by
     rw [← hvc4, List.getElem?_take] at hj
     split at hj
     ·rw [Addr.add_lit, Nat.zero_add]; simpa [World.cell?, hgv] using hj
     ·cases hj⟩⟩
    have append : k = xs.length → ∃ v' W, (∀ ty, (Builtin.append_ #[T, T] ty #[v1, v3]).run P w = .ok v' W) ∧ ∀ w', w' = W →
      ∃ bs1 bs2 rv, Fr ((blk v1).toList ++ (blk v3).toList) w w' ∧ jxm w' (fun b => X b ∨ b ∈ bs1 ++ bs2) (jqj [Arg.av (AV.lf (Lf.fresh t xs)), Arg.av (AV.lf (Lf.d (.int .i64 (k : Int)))), Arg.av (AV.lf (Lf.fresh t vs))] [v1, .int .i64 (k : Int), v3]) [] bs1 ∧
       jzr w' (fun b => X b ∨ b ∈ bs1 ++ bs2) [.lf (.fresh t (xs.take k ++ vs ++ xs.drop k))] rv bs2 ∧
       v' = jJ1 rv ∧ (bs1 ++ bs2).Nodup ∧ ∀ b, b ∈ bs1 ++ bs2 → ¬ X b ∧ (b ∈ (blk v1).toList ++ (blk v3).toList ∨ w.heap.size ≤ b) := by
     intro hkn
     obtain ⟨v', W, hr, own, gb, hb⟩ := jxI w T T 0 e e i0 z 4 bt ht ht hi0 hz hzs hzb hzc (by first | exact hbt | decide) v1 xs.length cs ⟨t1, o1⟩ v3 vs.length vcs src hc3 hroom
     refine ⟨v', W, fun ty => hr, fun w' hw' => ?_⟩
     subst hw'
     refine ins_fin h4 (w := w) (w' := w') hk r1 r3 ?_ ⟨gb.os, gb.tape, gb.output, gb.size, fun b hb1 hb2 => gb.block b hb1 fun h => hb2 ?_⟩ hold (fun b hb' => ⟨(hb b hb').1, ?_⟩) hBX _ _ hbb
     ·obtain ⟨e', own⟩ := own
      refine ⟨e', ?_⟩
      rw [hkn, List.take_of_length_le (by omega), List.drop_eq_nil_of_le (by omega), List.append_nil]
      exact own
     ·refine List.mem_append.2 (.inl ?_)
      rcases jxq o1 with ⟨h', _, _⟩ | ⟨g, c, cur, h', _⟩
      ·rw [h'] at h; cases h
      ·rw [h'] at h ⊢; cases h; simp [blk]
     ·rcases (hb b hb').2 with h | h
      ·exact .inl (List.mem_append.2 (.inl (by rw [h]; simp)))
      ·exact .inr h
    rcases jxq o1 with ⟨h, hn, hcs0⟩ | ⟨g, c, cur, h, hg, hnc, hcm, hcur, htake⟩
    ·have hk0 : k = 0 := by omega
     obtain ⟨v', W, hr, fin⟩ := append (by omega)
     subst hk0
     subst h hv3
     exact jqh (he _ _) (R.end0 (some ⟨vb, 0, none⟩) vs.length vc w hm0 v' W hr) fin
    ·have hc63 : c ≤ 9223372036854775807 := by simp only [maxLen] at hcm; omega
     have hcur : cur.size = c * 4 := hcur
     have htake : cur.toList.take (xs.length * 4) = cs := htake
     have hgl : g < w.heap.size := (Array.getElem?_eq_some_iff.1 hg).1
     by_cases hkn : k = xs.length
     ·obtain ⟨v', W, hr, fin⟩ := append hkn
      subst h hv3
      subst hkn
      exact jqh (he _ _) (R.end1 g xs.length c (some ⟨vb, 0, none⟩) vs.length vc w hnc hc63 hm0 v' W hr) fin
     ·have hlt : k < xs.length := by omega
      have hne : vb ≠ g := by
       intro hh
       subst hh
       rw [h, hv3] at hnd
       simp [blk] at hnd
      have hmem : g ∈ (blk v1).toList ++ (blk v3).toList := by rw [h]; simp [blk]
      have hlen : (cs.take (k * 4) ++ vcs ++ cs.drop (k * 4)).length = (xs.length + vs.length) * 4 := by simp only [List.length_append, List.length_take, List.length_drop, hlc, hlv]; omega
      by_cases hr : xs.length + vs.length ≤ c
      ·have key := R.shift g xs.length c k vb vs.length vc cur vcur _ _ w hlt hm0 hr hc63 hne hg hgv hcur (by rw [hvc3]; omega) (by rw [htake]; exact one1) (by rw [hvc4]; exact one3)
       rw [htake, hvc4] at key
       subst h hv3
       refine jqh (he _ _) key fun w' hw' => ?_
       subst hw'
       refine ins_fin h4 (w := w) hk r1 r3 ⟨_, hlen, .inr ⟨g, c, _, rfl, Nat.zero_le _, setRow_heap w.drew g cur _ _ (0, 0) hg, hr, hcm, ?_, ?_⟩⟩ ⟨rfl, rfl, rfl, by simp, fun b hb1 hb2 => setRow_other w.drew g b _ (fun h => hb2 (h ▸ hmem))⟩ hold (fun b hb => ?_) hBX _ _ hbb
       ·simp only [splice, List.size_toArray, List.length_append, List.length_drop, List.length_take, Array.length_toList, hcur, hlc, hlv]; omega
       ·show List.take _ (splice (splice cur.toList ((k + vs.length) * 4) (cs.drop (k * 4))) (k * 4) vcs) = _
        have hfit : xs.length * 4 + vs.length * 4 ≤ cur.toList.length := by have q := Array.length_toList (xs := cur); omega
        exact splice_in cur.toList cs vcs xs.length vs.length k htake hk hlv hfit
       ·cases hb; exact ⟨by simpa using hgl, .inl hmem⟩
      ·obtain ⟨G, ROW, W, hG1, hG2, hG3, hG4, hW1, hW2, hW3, hW4, key⟩ := R.grow g xs.length c k vb vs.length vc cur vcur _ _ w hlt hm0 hnc (by omega) hc63 hroom hg hgv hcur (by rw [hvc3]; omega) (by rw [htake]; exact one1) (by rw [hvc4]; exact one3)
       rw [htake, hvc4] at key
       subst h hv3
       refine jqh (he _ _) key fun w' hw' => ?_
       obtain ⟨k1, k2, k3, k4⟩ := hw'
       have hWn : W.heap[w.heap.size]? = some (.cells ROW e (0, 0)) := by rw [hW4]; simp
       have hsz : w'.heap.size = w.heap.size + 1 := by rw [k4, setRow_size, hW4]; simp
       refine ins_fin h4 (w := w) hk r1 r3 ⟨_, hlen, .inr ⟨w.heap.size, G, _, rfl, Nat.zero_le _, (by rw [k4]; exact setRow_heap W w.heap.size ROW _ _ (0, 0) hWn), hG2, hG1, ?_, ?_⟩⟩ ⟨k1, k2, k3, by omega, fun b hb1 hb2 => ?_⟩ hold (fun b hb => ?_) hBX _ _ hbb
       ·simp only [splice, List.size_toArray, List.length_append, List.length_drop, List.length_take, Array.length_toList, hG3, hlc, hlv]; omega
       ·show List.take _ (splice (splice ROW.toList (k * 4) vcs) ((k + vs.length) * 4) (cs.drop (k * 4))) = _
        have hfit : xs.length * 4 + vs.length * 4 ≤ ROW.toList.length := by have q := Array.length_toList (xs := ROW); omega
        refine splice_new ROW.toList cs vcs xs.length vs.length k ?_ hk hlc hlv hfit
        rw [hG4, ← htake, List.take_take, Nat.min_eq_left (by omega)]
       ·rw [k4, setRow_other W w.heap.size b _ (by omega), hW4]
        have hne : b ≠ w.heap.size := Nat.ne_of_lt hb1
        rw [Array.getElem?_push, if_neg hne]
       ·have hb : some w.heap.size = some b := hb
        cases hb
        exact ⟨by rw [hsz]; exact Nat.lt_succ_self _, .inr (Nat.le_refl _)⟩
theorem run_append_k {P : Program} (w : World) (T e ty : TypeId) (k : Nat) (i : TypeInfo) (ht : P.underlying T = some (.slice e)) (hi : P.info? e = some i) (hk : i.size = k) (g n c : Nat) (a : Addr) (m mc : Nat) (cur : Array Value) (t : TypeId) (news : List Value)
  (hg : w.heap[g]? = some (.cells cur t (0, 0))) (hsrc : ∀ j v, news[j]? = some v → w.cell? (a.add j) = some v) (hl : news.length = m * k) (hroom : n + m ≤ c) (hfit : n * k + news.length ≤ cur.size) (h1 : ∀ v ∈ news, v.oneCell' = true) :
  (Builtin.append_ #[T, T] ty #[.slice (some ⟨g, 0, none⟩) n c, .slice (some a) m mc]).run P w = .ok (.slice (some ⟨g, 0, none⟩) (n + m) c) (w.setRow g (splice cur.toList (n * k) news).toArray) := by
 have hld := run_loadCells_list (P := P) w a news hsrc
 have hst := run_storeCells_at P g (n * k) t news 0 cur w hg (by simpa using hfit) h1
 subst hk
 simp [Builtin.append_, run_underlying ht, Builtin.lenOf, Builtin.firstCells, sizeOf, typeInfo, hi, ← hl, hld, hroom, Addr.add_lit, hst, splice]
theorem zeroCells_len (cs : Array Value) (n : Nat) : (Builtin.zeroCells cs n).toList.length = cs.size * n := by
 simp [Builtin.zeroCells, Nat.mul_comm]
theorem zeroCells_one {cs : Array Value} {n : Nat} (h : ∀ v ∈ cs, v.oneCell' = true) : ∀ v ∈ (Builtin.zeroCells cs n).toList, v.oneCell' = true := by
 intro v hv
 simp [Builtin.zeroCells] at hv
 obtain ⟨i, hi, rfl⟩ := hv
 have hp : 0 < cs.size := by
  rcases Nat.eq_zero_or_pos cs.size with h0 | h0
  ·rw [h0] at hi; simp at hi
  ·exact h0
 rw [getElem!_pos cs (i % cs.size) (Nat.mod_lt _ hp)]
 exact h _ (Array.getElem_mem _)
theorem run_clear_k {P : Program} (w : World) (T e ty : TypeId) (z : Value) (ht : P.underlying T = some (.slice e)) (hv : ∀ w, (zeroValue e).run P w = .ok z w) (g o n c : Nat) (hn : 0 < n) (cur : Array Value) (t : TypeId)
  (hg : w.heap[g]? = some (.cells cur t (0, 0))) (hfit : o + z.cells.size * n ≤ cur.size) (h1 : ∀ v ∈ z.cells, v.oneCell' = true) :
  (Builtin.clear_ #[T] ty #[.slice (some ⟨g, o, none⟩) n c]).run P w = .ok (.tuple #[]) (w.setRow g (splice cur.toList o (Builtin.zeroCells z.cells n).toList).toArray) := by
 have hst := run_storeCells_at P g o t (Builtin.zeroCells z.cells n).toList 0 cur w hg (by rw [zeroCells_len]; simpa using hfit) (zeroCells_one h1)
 obtain ⟨m, rfl⟩ : ∃ m, n = m + 1 := ⟨n - 1, by omega⟩
 simp [Builtin.clear_, run_underlying ht, hv, hst, splice]
theorem step_append_k {P : Program} {ops : Array Oper} {o : Oper} {a : Act} {w : World} {K : Act → World → Prop} {Q : Exit → Act → World → Prop} {E : Prop}
  (hg : o.guard = none) (d x : Operand) (dT sT : TypeId) (hop : o.op = Op.call { callee := Callee.builtin Builtin.append, args := #[d, x], argTypes := #[dT, sT] })
  (v u : Value) (hd : a.eval d = v) (hx : a.eval x = u) {v' : Value} {w' : World} (hr : (Builtin.append_ #[dT, sT] o.type #[v, u]).run P w = .ok v' w') (hK : K (a.put o.dst v') w') :
  if Region.wanted o (yielded ops a.tmps) = true then Oper.wp P o a w K Q else E := by
 have hw : Region.wanted o (yielded ops a.tmps) = true := by simp [Region.wanted, hg]
 rw [if_pos hw]
 unfold Oper.wp execOp
 simp only [hop, resolve, invoke, builtin, Sem.run_bind, Sem.run_pure, Result.andThen_ok, List.map_toArray, List.map_cons, List.map_nil, hd, hx, hr]
 exact hK
theorem wpList_clear_k {P : Program} (w : World) {ops : Array Oper} {rest : List Oper} {o : Oper} {a : Act} {Q : Exit → Act → World → Prop} (hgd : o.guard = none) (d : Operand) (t : TypeId)
  (ho : o.op = .call { callee := .builtin .clear, args := #[d], argTypes := #[t] }) (v : Value) (hd : a.eval d = v) {v' : Value} {w' : World}
  (hr : (Builtin.clear_ #[t] o.type #[v]).run P w = .ok v' w') (h : wpList P ops Q rest (a.put o.dst v') w') : wpList P ops Q (o :: rest) a w :=
 wpList_plain hgd fun _ hK => by
  unfold Oper.wp execOp
  simp only [ho, resolve, invoke, builtin, Sem.run_bind, Sem.run_pure, Result.andThen_ok, List.map_toArray, List.map_cons, List.map_nil, hd, hr]
  exact hK _ _ h
def delArgs (t : Ty) : List Arg → Option (List (den t) × Int × Int)
 | [.av (.lf (.fresh t1 xs)), .av (.lf (.d (.int .i64 i))), .av (.lf (.d (.int .i64 j)))] => if h1 : t1 = t then some (h1 ▸ xs, i, j) else none
 | _ => none
def delL {α : Type} (xs : List α) (i j : Int) : Option (List α) := if 0 ≤ i ∧ i ≤ j ∧ j ≤ xs.length then some (xs.take i.toNat ++ xs.drop j.toNat) else none
def delSumm (t : Ty) : jjF := fun as => match delArgs t as with
 | some (xs, i, j) => ⟨List (den t), delL xs i j, fun _ => [], fun r => [.lf (.fresh t r)]⟩
 | none => .fail
theorem delArgs_inv {t : Ty} {as : List Arg} {xs : List (den t)} {i j : Int} (h : delArgs t as = some (xs, i, j)) : as = [.av (.lf (.fresh t xs)), .av (.lf (.d (.int .i64 i))), .av (.lf (.d (.int .i64 j)))] := by
 unfold delArgs at h
 split at h
 ·split at h
  ·rename_i h1
   subst h1
   cases h
   rfl
  ·cases h
 ·cases h
structure DelRoads (P : Program) (f : FuncId) : Prop where
 none0 : ∀ (w : World), Calls P f #[.slice none 0 0, .int .i64 0, .int .i64 0] w fun e w' => e = .returned (.slice none 0 0) ∧ w' = w
 same : ∀ (g n c i : Nat) (w : World) (hi : i ≤ n) (hnc : n ≤ c) (hc63 : c ≤ 9223372036854775807), Calls P f #[.slice (some ⟨g, 0, none⟩) n c, .int .i64 i, .int .i64 i] w fun e w' => e = .returned (.slice (some ⟨g, 0, none⟩) n c) ∧ w' = w
 cut : ∀ (g n c i j : Nat) (cur : Array Value) (te : TypeId) (w : World) (hij : i < j) (hj : j ≤ n) (hnc : n ≤ c) (hc63 : c ≤ 9223372036854775807) (hg : w.heap[g]? = some (.cells cur te (0, 0))) (hcs : cur.size = c * 4)
  (h1c : ∀ v ∈ cur.toList.take (n * 4), v.oneCell' = true), ∃ ROW : Array Value, ROW.size = c * 4 ∧ ROW.toList.take ((i + (n - j)) * 4) = cur.toList.take (i * 4) ++ (cur.toList.take (n * 4)).drop (j * 4) ∧
  Calls P f #[.slice (some ⟨g, 0, none⟩) n c, .int .i64 i, .int .i64 j] w fun e w' => e = .returned (.slice (some ⟨g, 0, none⟩) (i + (n - j)) c) ∧ w'.os = w.os ∧ w'.tape = w.tape ∧ w'.output = w.output ∧ w'.heap = (w.setRow g ROW).heap
theorem row_fin {t : Ty} {w w' : World} {X : Nat → Prop} {BS : List Nat} {ys : List (den t)} {ccs : List Value} {v' : Value} (hrd : RdsOk w (fun b => X b ∨ b ∈ BS) (jj2 t ys) ccs)
  (hrow : ∃ e, w'.ownsRow 0 e (esz t) v' ys.length ccs) (F : Fr BS w w') (hold : ∀ b, X b → b < w.heap.size) (hv : ∀ b, blk v' = some b → b < w'.heap.size ∧ (b ∈ BS ∨ w.heap.size ≤ b)) (hX : ∀ b, b ∈ BS → ¬ X b)
  (args : List Arg) (jx5 : List Value) (hbb : jqj args jx5 = []) :
  ∃ bs1 bs2 rv, Fr BS w w' ∧ jxm w' (fun b => X b ∨ b ∈ bs1 ++ bs2) (jqj args jx5) [] bs1 ∧ jzr w' (fun b => X b ∨ b ∈ bs1 ++ bs2) [.lf (.fresh t ys)] rv bs2 ∧
   v' = jJ1 rv ∧ (bs1 ++ bs2).Nodup ∧ ∀ b, b ∈ bs1 ++ bs2 → ¬ X b ∧ (b ∈ BS ∨ w.heap.size ≤ b) := by
 have hmem : ∀ b, b ∈ (blk v').toList → blk v' = some b := fun b hb => by
  cases hq : blk v' with
  | none => rw [hq] at hb; simp at hb
  | some c => rw [hq] at hb; simp at hb; rw [hb]
 have hnX : ∀ b, b ∈ BS ∨ w.heap.size ≤ b → ¬ X b := fun b hb hx => by
  rcases hb with hb | hb
  ·exact hX b hb hx
  ·have := hold b hx; omega
 have G : Goes noι noι [] [] w w' (fun b => X b ∨ b ∈ BS) (fun b => X b ∨ b ∈ [] ++ ((blk v').toList ++ [])) := by
  refine ⟨fun _ _ h => (by cases h), fun b hb hlt => F.block b hlt (fun h => hb (.inr h)), fun b hb hlt h => ?_⟩
  rcases h with h | h
  ·exact hb (.inl h)
  ·simp only [List.nil_append, List.append_nil] at h
   rcases (hv b (hmem b h)).2 with h | h
   ·exact hb (.inr h)
   ·omega
 have hlt' : ∀ b, (X b ∨ b ∈ [] ++ ((blk v').toList ++ [])) → b < w'.heap.size := fun b h => by
  rcases h with h | h
  ·exact Nat.lt_of_lt_of_le (hold b h) F.size
  ·simp only [List.nil_append, List.append_nil] at h
   exact (hv b (hmem b h)).1
 obtain ⟨e, hrow⟩ := hrow
 refine ⟨[], (blk v').toList ++ [], [v'], F, by rw [hbb]; rfl, ⟨_, [], rfl, ⟨rfl, e, _, hrow, hrd.1, fun j g1 g2 => (hrd.2 j g1 g2).goes G F.size hlt'⟩, rfl⟩, rfl, ?_, fun b hb => ?_⟩
 ·cases blk v' <;> simp
 ·simp only [List.nil_append, List.append_nil] at hb
  have := (hv b (hmem b hb)).2
  exact ⟨hnX b this, this⟩
theorem delete_ok {P : Program} {f : FuncId} {t : Ty} (h4 : esz t = 4) (R : DelRoads P f) (he : ∀ vs w, (callFunc f vs).run P w = .ok (.enter f vs) w) : jja P f (delSumm t) := by
 intro as
 unfold delSumm
 cases hq : delArgs t as with
 | none => intro y hy; cases hy
 | some q =>
  obtain ⟨xs, i, j⟩ := q
  have has := delArgs_inv hq
  subst has
  intro y hy w X jx5 BS hh hnd hBX hold
  have hy : delL xs i j = some y := hy
  unfold delL at hy
  split at hy
  case isFalse => cases hy
  rename_i hc
  obtain ⟨hc0, hc1, hc2⟩ := hc
  cases hy
  obtain ⟨k, rfl⟩ := Int.eq_ofNat_of_zero_le hc0
  obtain ⟨l, rfl⟩ := Int.eq_ofNat_of_zero_le (Int.le_trans hc0 hc1)
  simp only [Int.ofNat_eq_natCast, Int.toNat_natCast] at *
  have hkl : k ≤ l := by omega
  have hl : l ≤ xs.length := by omega
  match jx5, hh with
  | [v1, v2, v3], ⟨b1, q1, e1, h1, b2, q2, e2, h2, b3, q3, e3, h3, e4⟩ =>
   obtain ⟨z1, t1, cs, o1, r1⟩ := h1
   obtain ⟨z2, r2⟩ := h2
   obtain ⟨z3, r3⟩ := h3
   subst z1 z2 z3 e4
   simp only [List.append_nil, List.nil_append] at e3 e2
   subst e3
   subst e2
   simp only [List.append_nil] at e1
   subst e1
   have r2' := jxa r2
   have r3' := jxa r3
   subst r2' r3'
   have hbb : jqj [Arg.av (AV.lf (Lf.fresh t xs)), Arg.av (AV.lf (Lf.d (.int .i64 (k : Int)))), Arg.av (AV.lf (Lf.d (.int .i64 (l : Int))))] [v1, .int .i64 (k : Int), .int .i64 (l : Int)] = [] := by
    cases v1 <;> rfl
   show Enters P f #[v1, .int .i64 (k : Int), .int .i64 (l : Int)] w _
   have o1' := o1
   rw [h4] at o1'
   have hlc : cs.length = xs.length * 4 := o1'.1
   have hlen : (xs.take k ++ xs.drop l).length = k + (xs.length - l) := by simp only [List.length_append, List.length_take, List.length_drop]; omega
   have hrd : RdsOk w (fun b => X b ∨ b ∈ (blk v1).toList) (jj2 t (xs.take k ++ xs.drop l)) (cs.take (k * 4) ++ cs.drop (l * 4)) := by
    rw [jqE, flat_take, flat_drop, h4]
    exact (r1.take _).app (r1.drop _)
   have hown : ∀ b, blk v1 = some b → b < w.heap.size ∧ (b ∈ (blk v1).toList ∨ w.heap.size ≤ b) := fun b hb => by
    refine ⟨?_, .inl (by rw [hb]; simp)⟩
    rcases jxq o1 with ⟨h, _, _⟩ | ⟨g, c, cur, h, hg, _⟩
    ·rw [h] at hb; cases hb
    ·rw [h] at hb; cases hb; exact (Array.getElem?_eq_some_iff.1 hg).1
   by_cases heq : k = l
   ·subst heq
    have hx : xs.take k ++ xs.drop k = xs := List.take_append_drop _ _
    have fin := row_fin (w := w) (w' := w) (ys := xs.take k ++ xs.drop k) (v' := v1) (ccs := cs) (by rw [hx]; exact r1) ⟨t1, by rw [hx]; exact o1⟩ (Fr.refl _ _) hold hown hBX _ _ hbb
    rcases jxq o1 with ⟨h, hn, _⟩ | ⟨g, c, cur, h, hg, hnc, hcm, _⟩
    ·have hk0 : k = 0 := by omega
     subst hk0
     subst h
     exact jqh (he _ _) (R.none0 w) (fun w' hw' => by rw [hw']; exact fin)
    ·subst h
     exact jqh (he _ _) (R.same g xs.length c k w hl hnc (by simp only [maxLen] at hcm; omega)) (fun w' hw' => by rw [hw']; exact fin)
   ·have hlt : k < l := by omega
    rcases jxq o1' with ⟨h, hn, _⟩ | ⟨g, c, cur, h, hg, hnc, hcm, hcs, hcc⟩
    ·omega
    ·have hgb : g < w.heap.size := (Array.getElem?_eq_some_iff.1 hg).1
     obtain ⟨ROW, hR1, hR2, key⟩ := R.cut g xs.length c k l cur _ w hlt hl hnc (by simp only [maxLen] at hcm; omega) hg hcs (by rw [hcc]; exact r1.one)
     subst h
     have hmem : g ∈ (blk (.slice (some ⟨g, 0, none⟩) xs.length c)).toList := by simp [blk]
     refine jqh (he _ _) key fun w' hw' => ?_
     obtain ⟨k1, k2, k3, k4⟩ := hw'
     have hcells : cur.toList.take (k * 4) ++ (cur.toList.take (xs.length * 4)).drop (l * 4) = cs.take (k * 4) ++ cs.drop (l * 4) := by
      rw [hcc]
      congr 1
      rw [← hcc, List.take_take, Nat.min_eq_left (by omega)]
     have hw'g : w'.heap[g]? = some (.cells ROW t1 (0, 0)) := by rw [k4]; exact setRow_heap w g cur ROW t1 (0, 0) hg
     have hsz0 : w'.heap.size = w.heap.size := by rw [k4]; exact setRow_size w g ROW
     have hsz : w.heap.size ≤ w'.heap.size := Nat.le_of_eq hsz0.symm
     refine row_fin (w := w) (w' := w') (ys := xs.take k ++ xs.drop l) (v' := .slice (some ⟨g, 0, none⟩) (k + (xs.length - l)) c) hrd ⟨t1, ?_⟩ ⟨k1, k2, k3, hsz, fun b hb1 hb2 => ?_⟩ hold (fun b hb => ?_) hBX _ _ hbb
     ·rw [h4, hlen]
      refine ⟨?_, .inr ⟨g, c, ROW, rfl, Nat.zero_le _, hw'g, by omega, hcm, hR1, ?_⟩⟩
      ·simp only [List.length_append, List.length_take, List.length_drop, hlc]; omega
      ·rw [← hcells]; exact hR2
     ·rw [k4]; exact setRow_other w g b ROW (fun h => hb2 (h ▸ hmem))
     ·cases hb
      exact ⟨by rw [hsz0]; exact hgb, .inl hmem⟩
end Go.Jk
