/- It is proved that everything can be removed (FnRootOutAll). (part 5 of 7: JkEFH105, JkEF79, JkEF50, JkEF51, JkEPuI, JkEF100, JkEF150, JkEF140, JkEF121, JkEF93, JkEF69, JkEF36, JkEF74, JkEF41, JkEPuJ, JkEF77v0, JkEF103v0, JkEF44v0, JkEF46v0, JkEF78v0, JkEF48, JkEF47v0, JkEF4) Conditions: none beyond the statement. -/
import Derived.Test.YtbkkbojncgpkkaaGreatDoorZFnRootOutAll3
import Derived.Tactics
import Derived.Deep.RegionLaw
import Derived.Shelf.Abstract
import Derived.Test.YtbkkbojncgpkkaaGreatDoorProg
import Derived.KernelRfl
set_option linter.unusedSimpArgs false
set_option maxRecDepth 100000
set_option linter.unusedVariables false
namespace Go.Proofs
open Go.Jk
theorem ins_shift (g n c i vb m vc : Nat) (cur vcur : Array Value) (te ve : TypeId) (w : World) (hi : i < n) (hm : 0 < m) (hroom : n + m ≤ c) (hc63 : c ≤ 9223372036854775807) (hne : vb ≠ g)
  (hg : w.heap[g]? = some (.cells cur te (0, 0))) (hv : w.heap[vb]? = some (.cells vcur ve (0, 0))) (hcs : cur.size = c * 4) (hvs : m * 4 ≤ vcur.size)
  (h1c : ∀ v ∈ cur.toList.take (n * 4), v.oneCell' = true) (h1v : ∀ v ∈ vcur.toList.take (m * 4), v.oneCell' = true) :
  Calls Pz 105 #[.slice (some ⟨g, 0, none⟩) n c, .int .i64 i, .slice (some ⟨vb, 0, none⟩) m vc] w fun e w' =>
   e = .returned (.slice (some ⟨g, 0, none⟩) (n + m) c) ∧ w' = w.drew.setRow g (splice (splice cur.toList ((i + m) * 4) ((cur.toList.take (n * 4)).drop (i * 4))) (i * 4) (vcur.toList.take (m * 4))).toArray := by
 have t33 : Pz.underlying 33 = some (.slice 100) := by kernel_rfl
 have hsz : (Pz.info? 100).map (·.size) = some 4 := by kernel_rfl
 have hz1 : ¬ ((m : Int) = 0) := by omega
 have hz2 : ¬ ((i : Int) = (n : Int)) := by omega
 have hov : ∀ off lb cb, (callFunc 129 #[.slice (some ⟨vb, 0, none⟩) m vc, .slice (some ⟨g, off, none⟩) lb cb]).run Pz w = .ok (.value (.bool false)) w := fun off lb cb => by
  rw [run_callFunc_extern Tryz.func129 (by kernel_rfl) (by kernel_rfl) (by kernel_rfl) (e := Extern.SlicesOverlaps.overlaps #[33, 33] #[4]) (by kernel_rfl),
   Lib.run_overlaps_apart w 33 4 100 t33 4 (fun w => by kernel_rfl) ⟨vb, 0, none⟩ ⟨g, off, none⟩ m vc lb cb hne ve te vcur.size cur.size (by simp [World.shape?, hv]) (by simp [World.shape?, hg]) (by omega) (by simp [World.frozen?, hv]) (by simp [World.frozen?, hv])]
  rfl
 have hdl : ((cur.toList.take (n * 4)).drop (i * 4)).length = (n - i) * 4 := by simp only [List.length_drop, List.length_take, Array.length_toList, hcs]; rw [Nat.min_eq_left (by omega), Nat.sub_mul]
 have hcl : ∀ j v, (cur.toList.take (n * 4))[j]? = some v → w.cell? ⟨g, j, none⟩ = some v := fun j v h => by
  rw [List.getElem?_take] at h
  split at h
  ·simpa [World.cell?, hg] using h
  ·cases h
 have hcv : ∀ j v, (vcur.toList.take (m * 4))[j]? = some v → w.cell? ⟨vb, j, none⟩ = some v := fun j v h => by
  rw [List.getElem?_take] at h
  split at h
  ·simpa [World.cell?, hv] using h
  ·cases h
 have hcp1 : ∀ ty dc sc, (Builtin.copy_ #[33, 33] ty #[.slice (some ⟨g, (i + m) * 4, none⟩) (n + m - (i + m)) dc, .slice (some ⟨g, i * 4, none⟩) (n + m - i) sc]).run Pz w.drew =
   .ok (goInt (Nat.min (n + m - i) (n + m - (i + m)))) (w.drew.setRow g (splice cur.toList ((i + m) * 4) ((cur.toList.take (n * 4)).drop (i * 4))).toArray) := fun ty dc sc =>
  jJC w.drew _ _ ty 100 4 g ((i + m) * 4) (n + m - (i + m)) dc ⟨g, i * 4, none⟩ (n + m - i) sc cur te _ t33 hsz hg (by rw [hdl]; simp only [Nat.min_def]; split <;> omega)
   (fun j v hj => by rw [Addr.add_lit]; exact hcl (i * 4 + j) v (by rwa [List.getElem?_drop] at hj)) (by rw [hdl, hcs]; omega) (fun v hv => h1c v (List.mem_of_mem_drop hv))
 obtain ⟨cur1, hcur1⟩ : ∃ cur1, cur1 = (splice cur.toList ((i + m) * 4) ((cur.toList.take (n * 4)).drop (i * 4))).toArray := ⟨_, rfl⟩
 rw [← hcur1] at hcp1
 have hc1s : cur1.size = c * 4 := by rw [hcur1]; simp only [splice, List.size_toArray, List.length_append, List.length_drop, List.length_take, Array.length_toList, hcs]; omega
 have hcp2 : ∀ (W : World), W.heap = (w.drew.setRow g cur1).heap → ∀ ty dc, (Builtin.copy_ #[33, 33] ty #[.slice (some ⟨g, i * 4, none⟩) (n + m - i) dc, .slice (some ⟨vb, 0, none⟩) m vc]).run Pz W =
   .ok (goInt (Nat.min m (n + m - i))) (W.setRow g (splice cur1.toList (i * 4) (vcur.toList.take (m * 4))).toArray) := fun W hW ty dc =>
  jJC W _ _ ty 100 4 g (i * 4) (n + m - i) dc ⟨vb, 0, none⟩ m vc cur1 te _ t33 hsz (by rw [hW]; exact setRow_heap w.drew g cur cur1 te (0, 0) hg)
   (by simp only [List.length_take, Array.length_toList, Nat.min_def]; split <;> split <;> omega)
   (fun j v hj => by
    have := hcv j v hj
    rw [Addr.add_lit, Nat.zero_add]
    unfold World.cell? at this ⊢
    rw [hW, show (w.drew.setRow g cur1).heap[vb]? = w.heap[vb]? from setRow_other w.drew g vb cur1 hne]; exact this) (by simp only [List.length_take, Array.length_toList]; omega) h1v
 have hE : w.drew.setRow g (splice (splice cur.toList ((i + m) * 4) ((cur.toList.take (n * 4)).drop (i * 4))) (i * 4) (vcur.toList.take (m * 4))).toArray = (w.drew.setRow g cur1).setRow g (splice cur1.toList (i * 4) (vcur.toList.take (m * 4))).toArray := by
  rw [setRow_setRow, hcur1]
 rw [hE]
 clear hE hcur1
 have hw1 : IntKind.i64.wrap ((i : Int) + (m : Int)) = (i : Int) + (m : Int) := by rw [IntKind.wrap_i64]; omega
 have hb1 : (0 : Int) ≤ (i : Int) + (m : Int) := by omega
 have hin : i ≤ n := by omega
 have htn : ((i : Int) + (m : Int)).toNat = i + m := by omega
 have hb2 : ¬ (c = i + m) := by omega
 have hb3 : (i : Int) ≤ (n : Int) + (m : Int) := by omega
 have hb4 : ¬ (c = i) := by omega
 go_enter Tryz.func105, Tryz.ntmps105
 go_wp2_with (simp only [hov])
 go_region_law (refine step_copy_k rfl _ _ 33 33 rfl (.slice (some ⟨g, (i + m) * 4, none⟩) (n + m - (i + m)) (c - (i + m))) (.slice (some ⟨g, i * 4, none⟩) (n + m - i) (c - i)) (by simp [Act.eval, Act.put]) (by simp [Act.eval, Act.put]) (hcp1 _ _ _) ?_)
 go_wp2_with (at_builtin; refine wpList_copy_k _ rfl _ _ 33 33 rfl _ _ rfl rfl (hcp2 _ rfl _ _) ?_)
 go_ret
 exact ⟨rfl, rfl⟩
theorem ins_none0 (xa : Option Addr) (vc : Nat) (w : World) :
  Calls Pz 105 #[.slice none 0 0, .int .i64 0, .slice xa 0 vc] w fun e w' => e = .returned (.slice none 0 0) ∧ w' = w := by
 go_enter Tryz.func105, Tryz.ntmps105
 go_wp2
 go_ret
 exact ⟨rfl, rfl⟩
theorem ins_none1 (g n c i : Nat) (xa : Option Addr) (vc : Nat) (w : World) (hi : i ≤ n) (hnc : n ≤ c) (hc63 : c ≤ 9223372036854775807) :
  Calls Pz 105 #[.slice (some ⟨g, 0, none⟩) n c, .int .i64 i, .slice xa 0 vc] w fun e w' => e = .returned (.slice (some ⟨g, 0, none⟩) n c) ∧ w' = w := by
 go_enter Tryz.func105, Tryz.ntmps105
 go_wp2
 all_goals (go_ret; exact ⟨rfl, rfl⟩)
theorem ins_end0 (xa : Option Addr) (m vc : Nat) (w : World) (hm : 0 < m) (v' : Value) (W : World) (hr : ∀ ty, (Builtin.append_ #[33, 33] ty #[.slice none 0 0, .slice xa m vc]).run Pz w = .ok v' W) :
  Calls Pz 105 #[.slice none 0 0, .int .i64 0, .slice xa m vc] w fun e w' => e = .returned v' ∧ w' = W := by
 have hz1 : ¬ ((m : Int) = 0) := by omega
 go_enter Tryz.func105, Tryz.ntmps105
 go_wp2_with (at_builtin; refine jxF _ rfl _ _ 33 33 rfl _ _ rfl rfl (hr _) ?_)
 go_ret
 exact ⟨rfl, rfl⟩
theorem ins_end1 (g n c : Nat) (xa : Option Addr) (m vc : Nat) (w : World) (hnc : n ≤ c) (hc63 : c ≤ 9223372036854775807) (hm : 0 < m) (v' : Value) (W : World) (hr : ∀ ty, (Builtin.append_ #[33, 33] ty #[.slice (some ⟨g, 0, none⟩) n c, .slice xa m vc]).run Pz w = .ok v' W) :
  Calls Pz 105 #[.slice (some ⟨g, 0, none⟩) n c, .int .i64 n, .slice xa m vc] w fun e w' => e = .returned v' ∧ w' = W := by
 have hz1 : ¬ ((m : Int) = 0) := by omega
 go_enter Tryz.func105, Tryz.ntmps105
 go_wp2_with (at_builtin; refine jxF _ rfl _ _ 33 33 rfl _ _ rfl rfl (hr _) ?_)
 all_goals (go_ret; exact ⟨rfl, rfl⟩)
theorem ins_grow (g n c i vb m vc : Nat) (cur vcur : Array Value) (te ve : TypeId) (w : World) (hi : i < n) (hm : 0 < m) (hnc : n ≤ c) (hroom : c < n + m) (hc63 : c ≤ 9223372036854775807) (hbig : (n + m) * 48 ≤ 140737488355328)
  (hg : w.heap[g]? = some (.cells cur te (0, 0))) (hv : w.heap[vb]? = some (.cells vcur ve (0, 0))) (hcs : cur.size = c * 4) (hvs : m * 4 ≤ vcur.size)
  (h1c : ∀ v ∈ cur.toList.take (n * 4), v.oneCell' = true) (h1v : ∀ v ∈ vcur.toList.take (m * 4), v.oneCell' = true) :
  ∃ G ROW, ∃ W : World, G ≤ maxLen ∧ n + m ≤ G ∧ ROW.size = G * 4 ∧ ROW.toList.take (i * 4) = cur.toList.take (i * 4) ∧ W.os = w.os ∧ W.tape = w.tape ∧ W.output = w.output ∧ W.heap = w.heap.push (.cells ROW 100 (0, 0)) ∧
  Calls Pz 105 #[.slice (some ⟨g, 0, none⟩) n c, .int .i64 i, .slice (some ⟨vb, 0, none⟩) m vc] w fun e w' =>
   e = .returned (.slice (some ⟨w.heap.size, 0, none⟩) (n + m) G) ∧ w'.os = w.os ∧ w'.tape = w.tape ∧ w'.output = w.output ∧
    w'.heap = (W.setRow w.heap.size (splice (splice ROW.toList (i * 4) (vcur.toList.take (m * 4))) ((i + m) * 4) ((cur.toList.take (n * 4)).drop (i * 4))).toArray).heap := by
 have t33 : Pz.underlying 33 = some (.slice 100) := by kernel_rfl
 have t3 : Pz.underlying 3 = some (.int .i64) := by kernel_rfl
 have hsz : (Pz.info? 100).map (·.size) = some 4 := by kernel_rfl
 have hinfo : (Pz.info? 100).map (fun i => (i.zero.map (·.cells.size), i.size, i.bytes)) = some (some 4, 4, 48) := by kernel_rfl
 obtain ⟨i0, hi0, hzz⟩ := Option.map_eq_some_iff.1 hinfo
 simp only [Prod.mk.injEq] at hzz
 obtain ⟨hz0, hzs, hzb⟩ := hzz
 obtain ⟨z, hz, hzc⟩ := Option.map_eq_some_iff.1 hz0
 have hz1 : ¬ ((m : Int) = 0) := by omega
 have hz2 : ¬ ((i : Int) = (n : Int)) := by omega
 have hz3 : (c : Int) < (n : Int) + (m : Int) := by omega
 have hgw : g < w.heap.size := (Array.getElem?_eq_some_iff.1 hg).1
 have hvw : vb < w.heap.size := (Array.getElem?_eq_some_iff.1 hv).1
 have hkk : (n : Int) + (m : Int) - (i : Int) = ((n + m - i : Nat) : Int) := by omega
 have hik : i + (n + m - i) = n + m := by omega
 have hdl : ((cur.toList.take (n * 4)).drop (i * 4)).length = (n - i) * 4 := by simp only [List.length_drop, List.length_take, Array.length_toList, hcs]; rw [Nat.min_eq_left (by omega), Nat.sub_mul]
 have hcl : ∀ j v, (cur.toList.take (n * 4))[j]? = some v → w.cell? ⟨g, j, none⟩ = some v := fun j v h => by
  rw [List.getElem?_take] at h
  split at h
  ·simpa [World.cell?, hg] using h
  ·cases h
 have hcv : ∀ j v, (vcur.toList.take (m * 4))[j]? = some v → w.cell? ⟨vb, j, none⟩ = some v := fun j v h => by
  rw [List.getElem?_take] at h
  split at h
  ·simpa [World.cell?, hv] using h
  ·cases h
 have hold : (Builtin.firstCells i0.size i (.slice (some ⟨g, 0, none⟩) i c)).run Pz w.drew = .ok (cur.toList.take (i * 4)).toArray w.drew := by
  rw [hzs]
  exact run_firstCells_some w.drew 4 i ⟨g, 0, none⟩ i c (cur.toList.take (i * 4)) (by simp only [List.length_take, Array.length_toList, hcs]; omega) (fun j v hj => by
   rw [Addr.add_lit, Nat.zero_add]
   refine hcl j v ?_
   rw [List.getElem?_take] at hj ⊢
   split at hj
   ·rw [if_pos (by omega)]; exact hj
   ·cases hj)
 have hrz : ∀ ty, (Builtin.append_ #[33, 3] ty #[.slice (some ⟨g, 0, none⟩) i c, .int .i64 ((n : Int) + (m : Int) - (i : Int))]).run Pz w =
   .ok (.slice (some ⟨w.heap.size, 0, none⟩) (n + m) (grownCap w (n + m) c 100)) (w.drew.alloc (.cells ((cur.toList.take (i * 4)).toArray ++ Builtin.zeroCells z.cells (n + m - i) ++ Builtin.zeroCells z.cells (grownCap w (n + m) c 100 - (n + m))) 100)) := fun ty => by
  have h := Lib.run_append_grow_zeros w 33 3 ty 100 i0 z .i64 .i64 t33 t3 hi0 hz (some ⟨g, 0, none⟩) i c (cur.toList.take (i * 4)) hold (n + m - i) (by omega) (by omega) (by omega) (by omega) (by rw [hzb]; omega) (by rw [hzb, hik]; exact growslice_fits hroom hbig)
  rw [hik] at h
  rw [hkk]
  exact h
 obtain ⟨G, hG⟩ : ∃ G, G = grownCap w (n + m) c 100 := ⟨_, rfl⟩
 obtain ⟨ROW, hROW⟩ : ∃ ROW : Array Value, ROW = (cur.toList.take (i * 4)).toArray ++ Builtin.zeroCells z.cells (n + m - i) ++ Builtin.zeroCells z.cells (G - (n + m)) := ⟨_, rfl⟩
 rw [← hG] at hrz
 rw [← hROW] at hrz
 have hGn : n + m ≤ G := by rw [hG]; exact grownCap_ge w _ _ _
 have hGm : G ≤ maxLen := by rw [hG]; exact grownCap_le_maxLen w (n + m) c 100 (by unfold maxLen; omega)
 have hG63 : G ≤ 9223372036854775807 := by unfold maxLen at hGm; omega
 have hRl : ROW.size = G * 4 := by
  rw [hROW]
  simp only [Array.size_append, List.size_toArray, size_zeroCells, hzc, List.length_take, Array.length_toList, hcs]
  omega
 have hRt : ROW.toList.take (i * 4) = cur.toList.take (i * 4) := by
  rw [hROW]
  simp only [Array.toList_append, List.append_assoc]
  have : i * 4 = (cur.toList.take (i * 4)).length := by simp only [List.length_take, Array.length_toList, hcs]; omega
  exact List.take_left' this.symm
 refine ⟨G, ROW, w.drew.alloc (.cells ROW 100), hGm, hGn, hRl, hRt, rfl, rfl, rfl, rfl, ?_⟩
 obtain ⟨W1, hW1⟩ : ∃ W1, W1 = w.drew.alloc (.cells ROW 100) := ⟨_, rfl⟩
 rw [← hW1] at hrz ⊢
 have hNew : W1.heap[w.heap.size]? = some (.cells ROW 100 (0, 0)) := by rw [hW1]; exact heap_alloc_new w.drew _
 have hOld : ∀ b, b < w.heap.size → W1.heap[b]? = w.heap[b]? := fun b hb => by rw [hW1]; exact RowKit.Below.heap_alloc w.drew _ b hb
 have hos : W1.os = w.os ∧ W1.tape = w.tape ∧ W1.output = w.output := by rw [hW1]; exact ⟨rfl, rfl, rfl⟩
 have hgN : g ≠ w.heap.size := by omega
 have hvN : vb ≠ w.heap.size := by omega
 have hcpA : ∀ (W : World), W.heap = W1.heap → ∀ ty dc, (Builtin.copy_ #[33, 33] ty #[.slice (some ⟨w.heap.size, i * 4, none⟩) (n + m - i) dc, .slice (some ⟨vb, 0, none⟩) m vc]).run Pz W =
   .ok (goInt (Nat.min m (n + m - i))) (W.setRow w.heap.size (splice ROW.toList (i * 4) (vcur.toList.take (m * 4))).toArray) := fun W hW ty dc =>
  jJC W _ _ ty 100 4 w.heap.size (i * 4) (n + m - i) dc ⟨vb, 0, none⟩ m vc ROW 100 _ t33 hsz (by rw [hW]; exact hNew)
   (by simp only [List.length_take, Array.length_toList, Nat.min_def]; split <;> split <;> omega)
   (fun j v hj => by
    have := hcv j v hj
    rw [Addr.add_lit, Nat.zero_add]
    unfold World.cell? at this ⊢
    rw [hW, show W1.heap[vb]? = w.heap[vb]? from hOld vb hvw]; exact this) (by simp only [List.length_take, Array.length_toList]; omega) h1v
 obtain ⟨R2, hR2⟩ : ∃ R2, R2 = (splice ROW.toList (i * 4) (vcur.toList.take (m * 4))).toArray := ⟨_, rfl⟩
 have hE : W1.setRow w.heap.size (splice (splice ROW.toList (i * 4) (vcur.toList.take (m * 4))) ((i + m) * 4) ((cur.toList.take (n * 4)).drop (i * 4))).toArray =
   (W1.setRow w.heap.size R2).setRow w.heap.size (splice R2.toList ((i + m) * 4) ((cur.toList.take (n * 4)).drop (i * 4))).toArray := by rw [setRow_setRow, hR2]
 rw [hE]
 have hR2s : R2.size = G * 4 := by rw [hR2]; simp only [splice, List.size_toArray, List.length_append, List.length_drop, List.length_take, Array.length_toList, hRl]; omega
 rw [← hR2] at hcpA
 clear hE hR2
 have hcpB : ∀ (W : World), W.heap = (W1.setRow w.heap.size R2).heap → ∀ ty dc sc, (Builtin.copy_ #[33, 33] ty #[.slice (some ⟨w.heap.size, (i + m) * 4, none⟩) (n + m - (i + m)) dc, .slice (some ⟨g, i * 4, none⟩) (n - i) sc]).run Pz W =
   .ok (goInt (Nat.min (n - i) (n + m - (i + m)))) (W.setRow w.heap.size (splice R2.toList ((i + m) * 4) ((cur.toList.take (n * 4)).drop (i * 4))).toArray) := fun W hW ty dc sc =>
  jJC W _ _ ty 100 4 w.heap.size ((i + m) * 4) (n + m - (i + m)) dc ⟨g, i * 4, none⟩ (n - i) sc R2 100 _ t33 hsz (by rw [hW]; exact setRow_heap W1 w.heap.size ROW R2 100 (0, 0) hNew)
   (by rw [hdl]; simp only [Nat.min_def]; split <;> omega)
   (fun j v hj => by
    have := hcl (i * 4 + j) v (by rwa [List.getElem?_drop] at hj)
    rw [Addr.add_lit]
    unfold World.cell? at this ⊢
    rw [hW, show (W1.setRow w.heap.size R2).heap[g]? = w.heap[g]? from (setRow_other W1 w.heap.size g R2 hgN).trans (hOld g hgw)]; exact this) (by rw [hdl, hR2s]; omega) (fun v hv => h1c v (List.mem_of_mem_drop hv))
 have hGi : ¬ (G = i) := by omega
 have hGim : ¬ (G = i + m) := by omega
 have hci : ¬ (c = i) := by omega
 have hw1 : IntKind.i64.wrap ((i : Int) + (m : Int)) = (i : Int) + (m : Int) := by rw [IntKind.wrap_i64]; omega
 have hb1 : (0 : Int) ≤ (i : Int) + (m : Int) := by omega
 have hin : i ≤ n := by omega
 have htn : ((i : Int) + (m : Int)).toNat = i + m := by omega
 have hb3 : (i : Int) ≤ (n : Int) := by omega
 clear hkk hik hold hROW hG hRl hW1
 go_enter Tryz.func105, Tryz.ntmps105
 go_wp2_with (first
  | (at_builtin; refine jxF _ rfl _ _ 33 3 rfl _ _ rfl rfl (hrz _) ?_)
  | (at_builtin; refine wpList_copy_k _ rfl _ _ 33 33 rfl _ _ rfl rfl (hcpA _ rfl _ _) ?_))
 go_region_law (refine step_copy_k rfl _ _ 33 33 rfl (.slice (some ⟨w.heap.size, (i + m) * 4, none⟩) (n + m - (i + m)) (G - (i + m))) (.slice (some ⟨g, i * 4, none⟩) (n - i) (c - i)) (by simp [Act.eval, Act.put]) (by simp [Act.eval, Act.put]) (hcpB (W1.setRow w.heap.size R2).drew rfl 3 (G - (i + m)) (c - i)) ?_)
 go_wp2
 go_ret
 exact ⟨rfl, hos.1, hos.2.1, hos.2.2, rfl⟩
noncomputable def SH105 : jjF := insSumm .entry 48
theorem zH105 (h : ∀ T, (tt T).ok Pz T) : jja Pz 105 SH105 := insert_ok (t := .entry) (bt := 48) rfl (by decide) (T := 33) (e := 100) ⟨ins_none0, ins_none1, ins_end0, ins_end1, ins_shift, ins_grow⟩ (fun vs w => enters_of Tryz.func105 (by kernel_rfl) rfl _ _) (by kernel_rfl) (by kernel_rfl)
noncomputable def c79 : Ctx := { tt := tt, fs := fun n => match n with | 68 => some S68 | 83 => some S83 | 104 => some S104 | 105 => some SH105 | _ => none, gv := fun n => match n with | 105 => true | _ => false }
theorem k79 (h : ∀ T, (tt T).ok Pz T) (h68 : jja Pz 68 S68) (h83 : jja Pz 83 S83) (h104 : jja Pz 104 S104) (hH105 : jja Pz 105 SH105) : CtxGood Pz c79 := ⟨⟨h⟩, fun g S hg => (by
 simp only [c79] at hg
 split at hg
 ·cases hg; exact h68
 ·cases hg; exact h83
 ·cases hg; exact h104
 ·cases hg; exact hH105
 ·cases hg), jjp, fun _ _ h => (by cases h), fun _ h => (by cases h)⟩
noncomputable def b79 : Code := jji Tryz.f79
@[reducible] noncomputable def s79_12 : Shape := ⟨[(0, .lf (.d (.sl .entry))), (1, .lf (.d (.sl .entry)))], [], 59⟩
@[reducible] noncomputable def t79_12 : List OSh := [(.norm, ⟨[(0, .lf (.d (.sl .entry))), (1, .lf (.d (.sl .entry))), (18, .lf (.d (.bool)))], [], 59⟩)]
noncomputable def g79_12 (y : s79_12.Y) : Option (YS t79_12) :=
(f68 ((y.1.1, ()), ())).bind fun r2472 =>
 bif (!(!r2472.1.1)) then
(f68 ((y.1.2.1, ()), ())).bind fun r2473 =>
 some (((y.1.1, (y.1.2.1, ((!r2473.1.1), ()))), ()))
else
 some (((y.1.1, (y.1.2.1, (true, ()))), ()))
theorem r79_12 : ∀ y, g79_12 y = jjK (jjd c79 []) (jjc b79 1 12) 12 s79_12 t79_12 y := fun y => by kernel_rfl
theorem q79_12 (H : CtxGood Pz c79) : jjn Pz (jjc b79 1 12) (jjb s79_12 t79_12 g79_12) :=
 jjw (fr := []) H (by kernel_rfl) jje r79_12
@[reducible] noncomputable def s79_250678 : Shape := ⟨[(6, .lf (.own 3000384)), (8, .lf (.ptr 8 0)), (9, .lf (.d (.int .i64))), (21, .lf (.d (.sl .entry))), (22, .lf (.d (.int .i64))), (23, .lf (.d (.int .i64)))], [(3000384, .row .entry, .slot 6 0), (8, .box [.d (.str), .d (.int .i64), .d (.int .i64), .d (.str)], .same)], 59⟩
@[reducible] noncomputable def jx8 : List OSh := [(.norm, ⟨[(6, .lf (.own 3000384)), (21, .lf (.d (.sl .entry))), (22, .lf (.d (.int .i64))), (23, .lf (.d (.int .i64))), (42, .lf (.d (.bool))), (43, .lf (.ptr 8 1)), (44, .lf (.d (.int .i64))), (45, .lf (.d (.bool))), (46, .lf (.d (.bool))), (53, .lf (.d (.bool)))], [(3000384, .row .entry, .slot 6 0), (8, .box [.d (.str), .d (.int .i64), .d (.int .i64), .d (.str)], .same)], 59⟩)]
noncomputable def jxA (y : s79_250678.Y) : Option (YS jx8) :=
 bif (y.2.2.1.2.1 != (1 : Int)) then
 some ((((), (y.1.2.2.2.1, (y.1.2.2.2.2.1, (y.1.2.2.2.2.2.1, (true, ((), (y.2.2.1.2.1, ((y.2.2.1.2.1 != (1 : Int)), (true, (true, ())))))))))), (y.2.1, ((y.2.2.1.1, (y.2.2.1.2.1, (y.2.2.1.2.2.1, (y.2.2.1.2.2.2.1, ())))), ()))))
else
(inb y.2.1.length y.1.2.2.1).bind fun x2498 =>
(y.2.1[x2498]?).bind fun x2499 =>
 some ((((), (y.1.2.2.2.1, (y.1.2.2.2.2.1, (y.1.2.2.2.2.2.1, ((!((x2499.path == y.2.2.1.1) && ((x2499.kind == y.2.2.1.2.1) && ((x2499.mode == y.2.2.1.2.2.1) && (x2499.text == y.2.2.1.2.2.2.1))))), ((), (y.2.2.1.2.1, ((y.2.2.1.2.1 != (1 : Int)), (false, ((!((x2499.path == y.2.2.1.1) && ((x2499.kind == y.2.2.1.2.1) && ((x2499.mode == y.2.2.1.2.2.1) && (x2499.text == y.2.2.1.2.2.2.1))))), ())))))))))), (y.2.1, ((y.2.2.1.1, (y.2.2.1.2.1, (y.2.2.1.2.2.1, (y.2.2.1.2.2.2.1, ())))), ()))))
theorem r79_250678 : ∀ y, jxA y = jjK (jjd c79 []) (jjc (jjl (jjc b79 1 122)) 244 250678) 250678 s79_250678 jx8 y := fun y => by kernel_rfl
theorem q79_250678 (H : CtxGood Pz c79) : jjn Pz (jjc (jjl (jjc b79 1 122)) 244 250678) (jjb s79_250678 jx8 jxA) :=
 jjw (fr := []) H (by kernel_rfl) jje r79_250678
@[reducible] noncomputable def s79_122 : Shape := ⟨[(6, .lf (.own 3000384)), (21, .lf (.d (.sl .entry))), (22, .lf (.d (.int .i64))), (23, .lf (.d (.int .i64)))], [(3000384, .row .entry, .slot 6 0)], 59⟩
@[reducible] noncomputable def jxZ : List OSh := [(.ret, ⟨[(4, .lf (.own 3000256)), (5, .lf (.d (.bool)))], [(3000256, .row .entry, .slot 4 0)], 59⟩), (.exit 0, ⟨[(6, .lf (.own 3000384))], [(3000384, .row .entry, .slot 6 0)], 59⟩)]
noncomputable def g79_122 (y : s79_122.Y) : Option (Sum s79_122.Y (YS jxZ)) :=
 bif (decide (y.1.2.2.2.1 < y.1.2.2.1)) then
(ix y.1.2.1 y.1.2.2.2.1).bind fun x2502 =>
(f104 ((y.2.1, (x2502.path, ())), ())).bind fun r2504 =>
 bif (!r2504.1.2.1) then
(insL 48 y.2.1 r2504.1.1 ([x2502] : List Entry)).bind fun r2505 =>
 some (.inl (((), (y.1.2.1, (y.1.2.2.1, ((IntKind.i64.wrap (y.1.2.2.2.1 + (1 : Int))), ())))), (r2505, ())))
else
(jxA (((), ((), (r2504.1.1, (y.1.2.1, (y.1.2.2.1, (y.1.2.2.2.1, ())))))), (y.2.1, ((x2502.path, (x2502.kind, (x2502.mode, (x2502.text, ())))), ())))).bind fun r2506 =>
 bif r2506.1.2.2.2.2.1 then
 some (.inr (.inl (((), (false, ())), (([] : List Entry), ()))))
else
 some (.inl (((), (r2506.1.2.1, (r2506.1.2.2.1, ((IntKind.i64.wrap (r2506.1.2.2.2.1 + (1 : Int))), ())))), (r2506.2.1, ())))
else
 some (.inr (.inr (((), ()), (y.2.1, ()))))
theorem r79_122 : ∀ y, g79_122 y = jjz (jjd c79 [(250678, jjb s79_250678 jx8 jxA)]) (jjl (jjc b79 1 122)) 122 s79_122 jxZ y := fun y => by kernel_rfl
noncomputable def l79_122 : s79_122.Y → Option (YS jxZ) := jjC g79_122
theorem q79_122 (H : CtxGood Pz c79) : jjn Pz (jjc b79 1 122) (jjb s79_122 jxZ l79_122) :=
 jjt (fr := [(250678, jjb s79_250678 jx8 jxA)]) H (by kernel_rfl) (by kernel_rfl) ⟨q79_250678 H, trivial⟩ (fun y => jjh r79_122 y)
@[reducible] noncomputable def i79 : Shape := ⟨[(0, .lf (.d (.sl .entry))), (1, .lf (.d (.sl .entry)))], [], 59⟩
@[reducible] noncomputable def o79 : Shape := ⟨[(4, .lf (.own 3000256)), (5, .lf (.d (.bool)))], [(3000256, .row .entry, .slot 4 0)], 59⟩
noncomputable def f79 (a : i79.Y) : Option o79.Y :=
(g79_12 ((a.1.1, (a.1.2.1, ())), ())).bind fun r2481 =>
 bif r2481.1.2.2.1 then
 some (((), (false, ())), (([] : List Entry), ()))
else
(f83 ((r2481.1.1, ()), ())).bind fun r2483 =>
(l79_122 (((), (r2481.1.2.1, ((r2481.1.2.1.length : Int), ((0 : Int), ())))), (r2483.2.1, ()))).bind fun r2510 =>
(match r2510 with
| .inl r2511 =>
 some (((), (r2511.1.2.1, ())), (r2511.2.1, ()))
| .inr r2512 =>
(f68 ((r2512.2.1, ()), ())).bind fun r2516 =>
 bif (!r2516.1.1) then
 some (((), (false, ())), (([] : List Entry), ()))
else
 some (((), (true, ())), (r2512.2.1, ())))
theorem e79 : ∀ a, f79 a = jjo (jjd c79 [(12, jjb s79_12 t79_12 g79_12), (122, jjb s79_122 jxZ l79_122)]) b79 i79 o79 a := fun a => by kernel_rfl
noncomputable def S79 : jjF := jjf tt 59 i79 o79 [.tmp 4, .tmp 5] [] f79
theorem z79 (h : ∀ T, (tt T).ok Pz T) (h68 : jja Pz 68 S68) (h83 : jja Pz 83 S83) (h104 : jja Pz 104 S104) (hH105 : jja Pz 105 SH105) : jja Pz 79 S79 :=
 have H := k79 h h68 h83 h104 hH105
 jjk (fn := Tryz.f79) (fr := [(12, jjb s79_12 t79_12 g79_12), (122, jjb s79_122 jxZ l79_122)]) H (by kernel_rfl) (by kernel_rfl) (by kernel_rfl) (by kernel_rfl) (by kernel_rfl) ⟨q79_12 H, q79_122 H, trivial⟩ (by kernel_rfl) (fun y => ⟨_, _, rfl, rfl, rfl⟩) e79
noncomputable def c50 : Ctx := { tt := tt, fs := fun n => match n with | 79 => some S79 | _ => none }
theorem k50 (h : ∀ T, (tt T).ok Pz T) (h79 : jja Pz 79 S79) : CtxGood Pz c50 := ⟨⟨h⟩, fun g S hg => (by
 simp only [c50] at hg
 split at hg
 ·cases hg; exact h79
 ·cases hg), jjp, fun _ _ h => (by cases h), fun _ h => (by cases h)⟩
noncomputable def b50 : Code := jji Tryz.f50
@[reducible] noncomputable def s50_58 : Shape := ⟨[(4, .lf (.own 3000256)), (9, .lf (.d (.sl .pack))), (10, .lf (.d (.int .i64))), (11, .lf (.d (.int .i64)))], [(3000256, .row .entry, .slot 4 0)], 27⟩
@[reducible] noncomputable def jJY : List OSh := [(.ret, ⟨[(2, .lf (.own 3000128)), (3, .lf (.d (.bool)))], [(3000128, .row .entry, .slot 2 0)], 27⟩), (.exit 0, ⟨[(4, .lf (.own 3000256))], [(3000256, .row .entry, .slot 4 0)], 27⟩)]
noncomputable def g50_58 (y : s50_58.Y) : Option (Sum s50_58.Y (YS jJY)) :=
 bif (decide (y.1.2.2.2.1 < y.1.2.2.1)) then
(ix y.1.2.1 y.1.2.2.2.1).bind fun x2520 =>
(f79 ((y.2.1, (x2520.tree, ())), ())).bind fun r2522 =>
 bif (!r2522.1.2.1) then
 some (.inr (.inl (((), (false, ())), (([] : List Entry), ()))))
else
 some (.inl (((), (y.1.2.1, (y.1.2.2.1, ((IntKind.i64.wrap (y.1.2.2.2.1 + (1 : Int))), ())))), (r2522.2.1, ())))
else
 some (.inr (.inr (((), ()), (y.2.1, ()))))
theorem r50_58 : ∀ y, g50_58 y = jjz (jjd c50 []) (jjl (jjc b50 1 58)) 58 s50_58 jJY y := fun y => by kernel_rfl
noncomputable def l50_58 : s50_58.Y → Option (YS jJY) := jjC g50_58
theorem q50_58 (H : CtxGood Pz c50) : jjn Pz (jjc b50 1 58) (jjb s50_58 jJY l50_58) :=
 jjt (fr := []) H (by kernel_rfl) (by kernel_rfl) jje (fun y => jjh r50_58 y)
@[reducible] noncomputable def i50 : Shape := ⟨[(0, .lf (.d (.sl .pack)))], [], 27⟩
@[reducible] noncomputable def o50 : Shape := ⟨[(2, .lf (.own 3000128)), (3, .lf (.d (.bool)))], [(3000128, .row .entry, .slot 2 0)], 27⟩
noncomputable def f50 (a : i50.Y) : Option o50.Y :=
(l50_58 (((), (a.1.1, ((a.1.1.length : Int), ((0 : Int), ())))), (([] : List Entry), ()))).bind fun r2532 =>
(match r2532 with
| .inl r2533 =>
 some (((), (r2533.1.2.1, ())), (r2533.2.1, ()))
| .inr r2534 =>
 some (((), (true, ())), (r2534.2.1, ())))
theorem e50 : ∀ a, f50 a = jjo (jjd c50 [(58, jjb s50_58 jJY l50_58)]) b50 i50 o50 a := fun a => by kernel_rfl
noncomputable def S50 : jjF := jjf tt 27 i50 o50 [.tmp 2, .tmp 3] [] f50
theorem z50 (h : ∀ T, (tt T).ok Pz T) (h79 : jja Pz 79 S79) : jja Pz 50 S50 :=
 have H := k50 h h79
 jjk (fn := Tryz.f50) (fr := [(58, jjb s50_58 jJY l50_58)]) H (by kernel_rfl) (by kernel_rfl) (by kernel_rfl) (by kernel_rfl) (by kernel_rfl) ⟨q50_58 H, trivial⟩ (by kernel_rfl) (fun y => ⟨_, _, rfl, rfl, rfl⟩) e50
noncomputable def c51 : Ctx := { tt := tt, fs := fun n => match n with | 80 => some S80 | _ => none }
theorem k51 (h : ∀ T, (tt T).ok Pz T) (h80 : jja Pz 80 S80) : CtxGood Pz c51 := ⟨⟨h⟩, fun g S hg => (by
 simp only [c51] at hg
 split at hg
 ·cases hg; exact h80
 ·cases hg), jjp, fun _ _ h => (by cases h), fun _ h => (by cases h)⟩
noncomputable def b51 : Code := jji Tryz.f51
@[reducible] noncomputable def s51_58 : Shape := ⟨[(0, .lf (.d (.sl .pack))), (4, .lf (.own 3000256)), (5, .lf (.d (.int .i64)))], [(3000256, .row .entry, .slot 4 0)], 30⟩
@[reducible] noncomputable def jJX : List OSh := [(.ret, ⟨[(2, .lf (.own 3000128)), (3, .lf (.d (.bool)))], [(3000128, .row .entry, .slot 2 0)], 30⟩), (.exit 0, ⟨[(4, .lf (.own 3000256))], [(3000256, .row .entry, .slot 4 0)], 30⟩)]
noncomputable def g51_58 (y : s51_58.Y) : Option (Sum s51_58.Y (YS jJX)) :=
 bif (decide (y.1.2.2.1 < (y.1.1.length : Int))) then
(ix y.1.1 y.1.2.2.1).bind fun x2272 =>
(f80 ((y.2.1, (x2272.tree, ())), ())).bind fun r2273 =>
 bif (!r2273.1.2.1) then
 some (.inr (.inl (((), (false, ())), (([] : List Entry), ()))))
else
 some (.inl ((y.1.1, ((), ((IntKind.i64.wrap (y.1.2.2.1 + (1 : Int))), ()))), (r2273.2.1, ())))
else
 some (.inr (.inr (((), ()), (y.2.1, ()))))
theorem r51_58 : ∀ y, g51_58 y = jjz (jjd c51 []) (jjl (jjc b51 1 58)) 58 s51_58 jJX y := fun y => by kernel_rfl
noncomputable def l51_58 : s51_58.Y → Option (YS jJX) := jjC g51_58
theorem q51_58 (H : CtxGood Pz c51) : jjn Pz (jjc b51 1 58) (jjb s51_58 jJX l51_58) :=
 jjt (fr := []) H (by kernel_rfl) (by kernel_rfl) jje (fun y => jjh r51_58 y)
@[reducible] noncomputable def i51 : Shape := ⟨[(0, .lf (.d (.sl .pack)))], [], 30⟩
@[reducible] noncomputable def o51 : Shape := ⟨[(2, .lf (.own 3000128)), (3, .lf (.d (.bool)))], [(3000128, .row .entry, .slot 2 0)], 30⟩
noncomputable def f51 (a : i51.Y) : Option o51.Y :=
(l51_58 ((a.1.1, ((), ((0 : Int), ()))), (([] : List Entry), ()))).bind fun r2283 =>
(match r2283 with
| .inl r2284 =>
 some (((), (r2284.1.2.1, ())), (r2284.2.1, ()))
| .inr r2285 =>
 some (((), (true, ())), (r2285.2.1, ())))
theorem e51 : ∀ a, f51 a = jjo (jjd c51 [(58, jjb s51_58 jJX l51_58)]) b51 i51 o51 a := fun a => by kernel_rfl
noncomputable def S51 : jjF := jjf tt 30 i51 o51 [.tmp 2, .tmp 3] [] f51
theorem z51 (h : ∀ T, (tt T).ok Pz T) (h80 : jja Pz 80 S80) : jja Pz 51 S51 :=
 have H := k51 h h80
 jjk (fn := Tryz.f51) (fr := [(58, jjb s51_58 jJX l51_58)]) H (by kernel_rfl) (by kernel_rfl) (by kernel_rfl) (by kernel_rfl) (by kernel_rfl) ⟨q51_58 H, trivial⟩ (by kernel_rfl) (fun y => ⟨_, _, rfl, rfl, rfl⟩) e51
theorem joinL_mem : ∀ (r : List Entry) (out o : List Entry), (∀ e, e ∈ r → BdE e) → (∀ e, e ∈ out → BdE e) → jq9 out r = some o → o.length ≤ out.length + r.length ∧ ∀ e, e ∈ o → BdE e := by
 intro r
 induction r with
 | nil => intro out o _ h2 h; cases h; exact ⟨Nat.le_refl _, h2⟩
 | cons e r ih =>
  intro out o h1 h2 h
  rw [jqI] at h
  obtain ⟨o1, h3, h4⟩ := Option.bind_eq_some_iff.1 h
  have h5 := ih o1 o (fun x hx => h1 x (List.mem_cons_of_mem _ hx)) (fun x hx => by
   rcases stepJ_mem h3 hx with rfl | h
   ·exact h1 x List.mem_cons_self
   ·exact h2 x h) h4
  have h6 := stepJ_len h3
  exact ⟨by simp only [List.length_cons]; omega, h5.2⟩
theorem jj6 {t : List Entry} (h : jjS t = true) : Asc t := by
 unfold jjS at h
 simp only [Bool.and_eq_true] at h
 exact asc_of h.1.1
theorem jxw {t : List Entry} (h : jjS t = true) : t.length ≤ 16 := by
 unfold jjS at h
 simp only [Bool.and_eq_true, decide_eq_true_eq] at h
 exact h.2
theorem v_CloneE (a) (hs : Bd a.1.1.length) : f83 a = some (((), ()), (a.1.1, ())) := by
 obtain ⟨⟨xs, u⟩, u'⟩ := a
 have hs : xs.length ≤ 2097152 := hs
 have h2 : (apd 48 ([] : List Entry) xs).bind (fun x => some (((), ()), (x, ()))) = (some (((), ()), (xs, ())) : Option o83.Y) := by
  rw [jj0 (by decide) (by unfold Sm; simp only [List.length_nil]; omega)]; rfl
 simp only [f83]
 rw [h2]
 unfold jxn
 split
 ·rfl
 ·rename_i h
  exact absurd (fun he : xs = [] => by subst he; rfl) h
theorem v_TreeJoin (a) (ha : BdEs a.1.1) (hb : BdEs a.1.2.1) (h1 : jjS a.1.1 = true) (h2 : jjS a.1.2.1 = true) : f79 a =
  some (match jq9 a.1.1 a.1.2.1 with | some out => (bif jjS out then (((), (true, ())), (out, ())) else (((), (false, ())), (([] : List Entry), ()))) | none => (((), (false, ())), (([] : List Entry), ()))) := by
 obtain ⟨⟨xs, ys, u⟩, u'⟩ := a
 have h1 : jjS xs = true := h1
 have h2 : jjS ys = true := h2
 have hx16 := jxw h1
 have hy16 := jxw h2
 have e1 := v_iTreeOk ((xs, ()), ()) ha
 have e2 := v_iTreeOk ((ys, ()), ()) hb
 have e3 := v_CloneE ((xs, ()), ()) (show xs.length ≤ 2097152 by omega)
 have key : l79_122 (((), (ys, ((ys.length : Int), ((0 : Int), ())))), (xs, ())) = _ := jq4 g79_122 ys (fun i (out : List Entry) => (((), (ys, ((ys.length : Int), ((i : Int), ())))), (out, ())))
  (fun i e out => some (match jxH out e with | some o => .inl o | none => .inr ((.inl (((), (false, ())), (([] : List Entry), ()))) : YS jxZ))) (fun out => ((.inr (((), ()), (out, ()))) : YS jxZ))
  (fun i out => out.length ≤ xs.length + i ∧ Asc out) xs ⟨Nat.le_refl _, jj6 h1⟩ (fun i x out hx hI => ?_) (fun out _ => ?_)
 ·have fold : ∀ (r : List Entry) (k : Nat) (out : List Entry), jqD (fun i e out => some (match jxH out e with | some o => .inl o | none => .inr ((.inl (((), (false, ())), (([] : List Entry), ()))) : YS jxZ))) (fun out => ((.inr (((), ()), (out, ()))) : YS jxZ)) k r out =
    some (match jq9 out r with | some o => .inr (((), ()), (o, ())) | none => .inl (((), (false, ())), (([] : List Entry), ()))) := by
   intro r
   induction r with
   | nil => intro k out; rfl
   | cons e r ih =>
    intro k out
    rw [jqI]
    simp only [jqD]
    cases jxH out e with
    | none => rfl
    | some o => simp only [Option.bind_some]; exact ih _ _
  rw [fold] at key
  simp only [f79, g79_12, e1, e2, h1, h2, e3, Bool.not_true, Bool.not_false, cond_true, cond_false, Option.bind_some, key]
  cases hj : jq9 xs ys with
  | none => rfl
  | some o =>
   have hm := joinL_mem ys xs o hb.2 ha.2 hj
   simp only [Option.bind_some]
   rw [v_iTreeOk _ ⟨show o.length ≤ 2097152 by omega, hm.2⟩]
   simp only [Option.bind_some]
   cases jjS o <;> rfl
 ·have hi := jjv hx
  have hw : Sm i := by unfold Sm; omega
  refine ⟨?_, fun s' h' => ?_⟩
  ·have hat := v_findEntry ((out, (x.path, ())), ()) (show out.length ≤ 2097152 by omega) hI.2
   have hpl := jJ7 out x.path
   simp only [g79_122, jjA hi, cond_true, jjs, hx, Option.bind_some, hat, jxR, jxH]
   have grow : insL 48 out (jj4 out x.path : Int) [x] = some (jQd out (jj4 out x.path) x) := by
    unfold insL
    rw [if_pos ⟨by omega, by omega, by unfold room; simp only [List.length_cons, List.length_nil]; omega, by unfold maxLen; simp only [List.length_cons, List.length_nil]; omega⟩, Int.toNat_natCast]
    rfl
   cases hq : out[jj4 out x.path]? with
   | none => simp only [Bool.not_false, cond_true, grow, Option.bind_some, jjj hw]; rfl
   | some q =>
    have hin := jqQ (jjv hq)
    simp only
    cases hp : (q.path == x.path) with
    | false => simp only [Bool.not_false, cond_true, grow, Option.bind_some, jjj hw, cond_false]; rfl
    | true =>
     have hce : ((q.path == x.path) && ((q.kind == x.kind) && ((q.mode == x.mode) && (q.text == x.text)))) = eqE q x := rfl
     simp only [Bool.not_true, cond_false, cond_true, jxA, hin, hq, Option.bind_some, conf, eqE_comm x q]
     cases hk : (x.kind != 1) with
     | true => rfl
     | false =>
      have hce2 : (eqE q x) = ((q.path == x.path) && ((q.kind == x.kind) && ((q.mode == x.mode) && (q.text == x.text)))) := rfl
      rw [hce2]
      cases ((q.path == x.path) && ((q.kind == x.kind) && ((q.mode == x.mode) && (q.text == x.text)))) with
      | false => rfl
      | true => simp only [Bool.not_true, Bool.false_or, cond_false, Option.bind_some, jjj hw]; rfl
  ·simp only [Option.some.injEq] at h'
   cases hs : jxH out x with
   | none => rw [hs] at h'; cases h'
   | some o =>
    rw [hs] at h'
    cases h'
    have h6 := stepJ_len hs
    exact ⟨by omega, stepJ_asc hI.2 hs⟩
 ·simp only [g79_122, jjI, cond_false]
def jj8 (out : List Entry) : List Pack → Option (List Entry)
 | [] => some out
 | p :: r => match jq9 out p.tree with
  | some o => bif jjS o then jj8 o r else none
  | none => none
def jJT (out : List Entry) (p : Pack) : Option (List Entry) := match jq9 out p.tree with
 | some o => bif jjS o then some o else none
 | none => none
theorem jqW (out : List Entry) (p : Pack) (r : List Pack) : jj8 out (p :: r) = (jJT out p).bind fun o => jj8 o r := by
 unfold jJT
 rw [jj8]
 cases jq9 out p.tree with
 | none => rfl
 | some o => simp only; cases jjS o <;> rfl
theorem stepT_ok {out o : List Entry} {p : Pack} (h : jJT out p = some o) : jjS o = true ∧ jq9 out p.tree = some o := by
 unfold jJT at h
 split at h
 ·rename_i o' ho
  cases ht : jjS o' with
  | true => rw [ht] at h; cases h; exact ⟨ht, ho⟩
  | false => rw [ht] at h; cases h
 ·cases h
theorem v_l9TreeV (a) (hb : BdPs a.1.1) (hk : a.1.1.all jxP = true) : f51 a = some (((), ((jj8 [] a.1.1).isSome, ())), ((jj8 [] a.1.1).getD [], ())) := by
 obtain ⟨⟨ps, u⟩, u'⟩ := a
 have hl : ps.length ≤ 2097152 := hb.1
 have htr : ∀ p, p ∈ ps → jjS p.tree = true ∧ BdEs p.tree := by
  intro p hp
  have := List.all_eq_true.1 hk p hp
  unfold jxP at this
  simp only [Bool.and_eq_true] at this
  exact ⟨this.2, (hb.2 p hp).2.2.2⟩
 have key : l51_58 ((ps, ((), ((0 : Int), ()))), (([] : List Entry), ())) = _ := jq4 g51_58 ps (fun i (out : List Entry) => ((ps, ((), ((i : Int), ()))), (out, ())))
  (fun i p out => some (match jJT out p with | some o => .inl o | none => .inr ((.inl (((), (false, ())), (([] : List Entry), ()))) : YS jJX))) (fun out => ((.inr (((), ()), (out, ()))) : YS jJX))
  (fun i out => out.length ≤ 16 ∧ ∀ e, e ∈ out → BdE e) [] ⟨Nat.zero_le _, fun e h => by cases h⟩ (fun i x out hx hI => ?_) (fun out _ => ?_)
 ·have fold : ∀ (r : List Pack) (k : Nat) (out : List Entry), jqD (fun i p out => some (match jJT out p with | some o => .inl o | none => .inr ((.inl (((), (false, ())), (([] : List Entry), ()))) : YS jJX))) (fun out => ((.inr (((), ()), (out, ()))) : YS jJX)) k r out =
    some (match jj8 out r with | some o => .inr (((), ()), (o, ())) | none => .inl (((), (false, ())), (([] : List Entry), ()))) := by
   intro r
   induction r with
   | nil => intro k out; rfl
   | cons p r ih =>
    intro k out
    rw [jqW]
    simp only [jqD]
    cases jJT out p with
    | none => rfl
    | some o => simp only [Option.bind_some]; exact ih _ _
  rw [fold] at key
  simp only [f51, key, Option.bind_some]
  cases jj8 [] ps with
  | none => rfl
  | some o => rfl
 ·have hi := jjv hx
  have hw : Sm i := by unfold Sm; omega
  obtain ⟨hto, hbe⟩ := htr x (List.mem_of_getElem? hx)
  have h16 := jxw hto
  have hO : BdEs out := ⟨show out.length ≤ 2097152 by omega, hI.2⟩
  refine ⟨?_, fun s' h' => ?_⟩
  ·have hj := v_l2Join ((out, (x.tree, ())), ()) hO hbe (show out.length + x.tree.length ≤ 2097152 by omega)
   simp only [g51_58, jjA hi, cond_true, jjs, hx, Option.bind_some, hj, jJT]
   cases jq9 out x.tree with
   | none => rfl
   | some o =>
    simp only
    cases jjS o with
    | false => rfl
    | true => simp only [Bool.not_true, cond_false, cond_true, jjj hw]; rfl
  ·simp only [Option.some.injEq] at h'
   cases hs : jJT out x with
   | none => rw [hs] at h'; cases h'
   | some o =>
    rw [hs] at h'
    cases h'
    obtain ⟨h5, h6⟩ := stepT_ok hs
    exact ⟨jxw h5, (joinL_mem _ _ _ hbe.2 hI.2 h6).2⟩
 ·simp only [g51_58, jjI, cond_false]
theorem v_l9Tree (a) (hb : BdPs a.1.1) (hk : a.1.1.all jxP = true) : ∃ out, f51 a = some (((), ((jj8 [] a.1.1).isSome, ())), (out, ())) := ⟨_, v_l9TreeV a hb hk⟩
theorem v_joinTreesV (a) (hb : BdPs a.1.1) (hk : a.1.1.all jxP = true) : f50 a = some (((), ((jj8 [] a.1.1).isSome, ())), ((jj8 [] a.1.1).getD [], ())) := by
 obtain ⟨⟨ps, u⟩, u'⟩ := a
 have hl : ps.length ≤ 2097152 := hb.1
 have htr : ∀ p, p ∈ ps → jjS p.tree = true ∧ BdEs p.tree := by
  intro p hp
  have := List.all_eq_true.1 hk p hp
  unfold jxP at this
  simp only [Bool.and_eq_true] at this
  exact ⟨this.2, (hb.2 p hp).2.2.2⟩
 have key : l50_58 (((), (ps, ((ps.length : Int), ((0 : Int), ())))), (([] : List Entry), ())) = _ := jq4 g50_58 ps (fun i (out : List Entry) => (((), (ps, ((ps.length : Int), ((i : Int), ())))), (out, ())))
  (fun i p out => some (match jJT out p with | some o => .inl o | none => .inr ((.inl (((), (false, ())), (([] : List Entry), ()))) : YS jJY))) (fun out => ((.inr (((), ()), (out, ()))) : YS jJY))
  (fun i out => jjS out = true ∧ ∀ e, e ∈ out → BdE e) [] ⟨rfl, fun e h => by cases h⟩ (fun i x out hx hI => ?_) (fun out _ => ?_)
 ·have fold : ∀ (r : List Pack) (k : Nat) (out : List Entry), jqD (fun i p out => some (match jJT out p with | some o => .inl o | none => .inr ((.inl (((), (false, ())), (([] : List Entry), ()))) : YS jJY))) (fun out => ((.inr (((), ()), (out, ()))) : YS jJY)) k r out =
    some (match jj8 out r with | some o => .inr (((), ()), (o, ())) | none => .inl (((), (false, ())), (([] : List Entry), ()))) := by
   intro r
   induction r with
   | nil => intro k out; rfl
   | cons p r ih =>
    intro k out
    rw [jqW]
    simp only [jqD]
    cases jJT out p with
    | none => rfl
    | some o => simp only [Option.bind_some]; exact ih _ _
  rw [fold] at key
  simp only [f50, key, Option.bind_some]
  cases jj8 [] ps with
  | none => rfl
  | some o => rfl
 ·have hi := jjv hx
  have hw : Sm i := by unfold Sm; omega
  obtain ⟨hto, hbe⟩ := htr x (List.mem_of_getElem? hx)
  have h16 := jxw hI.1
  have hO : BdEs out := ⟨show out.length ≤ 2097152 by omega, hI.2⟩
  refine ⟨?_, fun s' h' => ?_⟩
  ·have hj := v_TreeJoin ((out, (x.tree, ())), ()) hO hbe hI.1 hto
   simp only [g50_58, jjA hi, cond_true, jjs, hx, Option.bind_some, hj, jJT]
   cases jq9 out x.tree with
   | none => rfl
   | some o =>
    simp only
    cases jjS o with
    | false => rfl
    | true => simp only [Bool.not_true, cond_false, cond_true, jjj hw]; rfl
  ·simp only [Option.some.injEq] at h'
   cases hs : jJT out x with
   | none => rw [hs] at h'; cases h'
   | some o =>
    rw [hs] at h'
    cases h'
    obtain ⟨h5, h6⟩ := stepT_ok hs
    exact ⟨h5, (joinL_mem _ _ _ hbe.2 hI.2 h6).2⟩
 ·simp only [g50_58, jjI, cond_false]
theorem v_joinTrees (a) (hb : BdPs a.1.1) (hk : a.1.1.all jxP = true) : ∃ out, f50 a = some (((), ((jj8 [] a.1.1).isSome, ())), (out, ())) := ⟨_, v_joinTreesV a hb hk⟩
noncomputable def c100 : Ctx := { tt := tt, fs := fun n => match n with | _ => none }
theorem k100 (h : ∀ T, (tt T).ok Pz T) : CtxGood Pz c100 := ⟨⟨h⟩, fun g S hg => (by cases hg), jjp, fun _ _ h => (by cases h), fun _ h => (by cases h)⟩
noncomputable def b100 : Code := jji Tryz.f100
@[reducible] noncomputable def s100_104 : Shape := ⟨[(0, .lf (.d (.sl .i64))), (1, .lf (.d (.sl .i64))), (5, .lf (.d (.int .i64)))], [], 42⟩
@[reducible] noncomputable def t100_104 : List OSh := [(.norm, ⟨[(0, .lf (.d (.sl .i64))), (1, .lf (.d (.sl .i64))), (5, .lf (.d (.int .i64)))], [], 42⟩), (.exit 0, ⟨[], [], 42⟩)]
noncomputable def jxt (y : s100_104.Y) : Option (YS t100_104) :=
 bif (!(decide (y.1.2.2.1 < (y.1.1.length : Int)))) then
 bif (decide (y.1.2.2.1 < (y.1.2.1.length : Int))) then
 some (.inl ((y.1.1, (y.1.2.1, (y.1.2.2.1, ()))), ()))
else
 some (.inr ((), ()))
else
 some (.inl ((y.1.1, (y.1.2.1, (y.1.2.2.1, ()))), ()))
theorem r100_104 : ∀ y, jxt y = jjK (jjd c100 []) (jjc (jjl (jjc b100 1 26)) 52 104) 104 s100_104 t100_104 y := fun y => by kernel_rfl
theorem q100_104 (H : CtxGood Pz c100) : jjn Pz (jjc (jjl (jjc b100 1 26)) 52 104) (jjb s100_104 t100_104 jxt) :=
 jjw (fr := []) H (by kernel_rfl) jje r100_104
@[reducible] noncomputable def s100_3366 : Shape := ⟨[(0, .lf (.d (.sl .i64))), (1, .lf (.d (.sl .i64))), (5, .lf (.d (.int .i64))), (6, .lf (.d (.int .i64))), (7, .lf (.d (.int .i64)))], [], 42⟩
@[reducible] noncomputable def jJc : List OSh := [(.norm, ⟨[(0, .lf (.d (.sl .i64))), (1, .lf (.d (.sl .i64))), (5, .lf (.d (.int .i64))), (6, .lf (.d (.int .i64))), (7, .lf (.d (.int .i64)))], [], 42⟩)]
noncomputable def jxd (y : s100_3366.Y) : Option (YS jJc) :=
 bif (decide (y.1.2.2.1 < (y.1.1.length : Int))) then
(ix y.1.1 y.1.2.2.1).bind fun x1703 =>
 some (((y.1.1, (y.1.2.1, (y.1.2.2.1, (x1703, (y.1.2.2.2.2.1, ()))))), ()))
else
 some (((y.1.1, (y.1.2.1, (y.1.2.2.1, (y.1.2.2.2.1, (y.1.2.2.2.2.1, ()))))), ()))
theorem r100_3366 : ∀ y, jxd y = jjK (jjd c100 []) (jjc (jjl (jjc b100 1 26)) 52 3366) 3366 s100_3366 jJc y := fun y => by kernel_rfl
theorem q100_3366 (H : CtxGood Pz c100) : jjn Pz (jjc (jjl (jjc b100 1 26)) 52 3366) (jjb s100_3366 jJc jxd) :=
 jjw (fr := []) H (by kernel_rfl) jje r100_3366
@[reducible] noncomputable def s100_6734 : Shape := ⟨[(0, .lf (.d (.sl .i64))), (1, .lf (.d (.sl .i64))), (5, .lf (.d (.int .i64))), (6, .lf (.d (.int .i64))), (7, .lf (.d (.int .i64)))], [], 42⟩
@[reducible] noncomputable def jJb : List OSh := [(.norm, ⟨[(0, .lf (.d (.sl .i64))), (1, .lf (.d (.sl .i64))), (5, .lf (.d (.int .i64))), (6, .lf (.d (.int .i64))), (7, .lf (.d (.int .i64)))], [], 42⟩)]
noncomputable def jxc (y : s100_6734.Y) : Option (YS jJb) :=
 bif (decide (y.1.2.2.1 < (y.1.2.1.length : Int))) then
(ix y.1.2.1 y.1.2.2.1).bind fun x1711 =>
 some (((y.1.1, (y.1.2.1, (y.1.2.2.1, (y.1.2.2.2.1, (x1711, ()))))), ()))
else
 some (((y.1.1, (y.1.2.1, (y.1.2.2.1, (y.1.2.2.2.1, (y.1.2.2.2.2.1, ()))))), ()))
theorem r100_6734 : ∀ y, jxc y = jjK (jjd c100 []) (jjc (jjl (jjc b100 1 26)) 52 6734) 6734 s100_6734 jJb y := fun y => by kernel_rfl
theorem q100_6734 (H : CtxGood Pz c100) : jjn Pz (jjc (jjl (jjc b100 1 26)) 52 6734) (jjb s100_6734 jJb jxc) :=
 jjw (fr := []) H (by kernel_rfl) jje r100_6734
@[reducible] noncomputable def s100_26 : Shape := ⟨[(0, .lf (.d (.sl .i64))), (1, .lf (.d (.sl .i64))), (5, .lf (.d (.int .i64)))], [], 42⟩
@[reducible] noncomputable def t100_26 : List OSh := [(.ret, ⟨[(4, .lf (.d (.int .i64)))], [], 42⟩), (.exit 0, ⟨[], [], 42⟩)]
noncomputable def jQg (y : s100_26.Y) : Option (Sum s100_26.Y (YS t100_26)) :=
(jxt ((y.1.1, (y.1.2.1, (y.1.2.2.1, ()))), ())).bind fun r1713 =>
(match r1713 with
| .inl r1714 =>
(jxd ((r1714.1.1, (r1714.1.2.1, (r1714.1.2.2.1, (((-1) : Int), (((-1) : Int), ()))))), ())).bind fun r1716 =>
(jxc ((r1716.1.1, (r1716.1.2.1, (r1716.1.2.2.1, (r1716.1.2.2.2.1, (r1716.1.2.2.2.2.1, ()))))), ())).bind fun r1717 =>
 bif (decide (r1717.1.2.2.2.1 < r1717.1.2.2.2.2.1)) then
 some (.inr (.inl ((((-1) : Int), ()), ())))
else
 bif (decide (r1717.1.2.2.2.1 > r1717.1.2.2.2.2.1)) then
 some (.inr (.inl (((1 : Int), ()), ())))
else
 some (.inl ((r1717.1.1, (r1717.1.2.1, ((IntKind.i64.wrap (r1717.1.2.2.1 + (1 : Int))), ()))), ()))
| .inr r1715 =>
 some (.inr (.inr ((), ()))))
theorem r100_26 : ∀ y, jQg y = jjz (jjd c100 [(104, jjb s100_104 t100_104 jxt), (3366, jjb s100_3366 jJc jxd), (6734, jjb s100_6734 jJb jxc)]) (jjl (jjc b100 1 26)) 26 s100_26 t100_26 y := fun y => by kernel_rfl
noncomputable def jxL : s100_26.Y → Option (YS t100_26) := jjC jQg
theorem q100_26 (H : CtxGood Pz c100) : jjn Pz (jjc b100 1 26) (jjb s100_26 t100_26 jxL) :=
 jjt (fr := [(104, jjb s100_104 t100_104 jxt), (3366, jjb s100_3366 jJc jxd), (6734, jjb s100_6734 jJb jxc)]) H (by kernel_rfl) (by kernel_rfl) ⟨q100_104 H, q100_3366 H, q100_6734 H, trivial⟩ (fun y => jjh r100_26 y)
@[reducible] noncomputable def i100 : Shape := ⟨[(0, .lf (.d (.sl .i64))), (1, .lf (.d (.sl .i64)))], [], 42⟩
@[reducible] noncomputable def o100 : Shape := ⟨[(4, .lf (.d (.int .i64)))], [], 42⟩
noncomputable def f100 (a : i100.Y) : Option o100.Y :=
(jxL ((a.1.1, (a.1.2.1, ((0 : Int), ()))), ())).bind fun r1721 =>
(match r1721 with
| .inl r1722 =>
 some ((r1722.1.1, ()), ())
| .inr r1723 =>
 some (((0 : Int), ()), ()))
theorem e100 : ∀ a, f100 a = jjo (jjd c100 [(26, jjb s100_26 t100_26 jxL)]) b100 i100 o100 a := fun a => by kernel_rfl
noncomputable def S100 : jjF := jjf tt 42 i100 o100 [.tmp 4] [] f100
theorem z100 (h : ∀ T, (tt T).ok Pz T) : jja Pz 100 S100 :=
 have H := k100 h
 jjk (fn := Tryz.f100) (fr := [(26, jjb s100_26 t100_26 jxL)]) H (by kernel_rfl) (by kernel_rfl) (by kernel_rfl) (by kernel_rfl) (by kernel_rfl) ⟨q100_26 H, trivial⟩ (by kernel_rfl) (fun y => ⟨_, _, rfl, rfl, rfl⟩) e100
noncomputable def c150 : Ctx := { tt := tt, fs := fun n => match n with | _ => none }
theorem k150 (h : ∀ T, (tt T).ok Pz T) : CtxGood Pz c150 := ⟨⟨h⟩, fun g S hg => (by cases hg), jjp, fun _ _ h => (by cases h), fun _ h => (by cases h)⟩
noncomputable def b150 : Code := jji Tryz.f150
@[reducible] noncomputable def i150 : Shape := ⟨[(0, .lf (.d (.int .i64)))], [], 6⟩
@[reducible] noncomputable def o150 : Shape := ⟨[(2, .lf (.d (.bool)))], [], 6⟩
noncomputable def f150 (a : i150.Y) : Option o150.Y :=
 some (((a.1.1 != a.1.1), ()), ())
theorem e150 : ∀ a, f150 a = jjo (jjd c150 []) b150 i150 o150 a := fun a => by kernel_rfl
noncomputable def S150 : jjF := jjf tt 6 i150 o150 [.tmp 2] [] f150
theorem z150 (h : ∀ T, (tt T).ok Pz T) : jja Pz 150 S150 :=
 have H := k150 h
 jjk (fn := Tryz.f150) (fr := []) H (by kernel_rfl) (by kernel_rfl) (by kernel_rfl) (by kernel_rfl) (by kernel_rfl) jje (by kernel_rfl) (fun y => ⟨_, _, rfl, rfl, rfl⟩) e150
noncomputable def c140 : Ctx := { tt := tt, fs := fun n => match n with | 150 => some S150 | _ => none }
theorem k140 (h : ∀ T, (tt T).ok Pz T) (h150 : jja Pz 150 S150) : CtxGood Pz c140 := ⟨⟨h⟩, fun g S hg => (by
 simp only [c140] at hg
 split at hg
 ·cases hg; exact h150
 ·cases hg), jjp, fun _ _ h => (by cases h), fun _ h => (by cases h)⟩
noncomputable def b140 : Code := jji Tryz.f140
@[reducible] noncomputable def i140 : Shape := ⟨[(0, .lf (.d (.int .i64))), (1, .lf (.d (.int .i64)))], [], 20⟩
@[reducible] noncomputable def o140 : Shape := ⟨[(4, .lf (.d (.int .i64)))], [], 20⟩
noncomputable def f140 (a : i140.Y) : Option o140.Y :=
(f150 ((a.1.1, ()), ())).bind fun r1339 =>
(f150 ((a.1.2.1, ()), ())).bind fun r1341 =>
 bif r1339.1.1 then
 bif r1341.1.1 then
 some (((0 : Int), ()), ())
else
 some ((((-1) : Int), ()), ())
else
 bif r1341.1.1 then
 some (((1 : Int), ()), ())
else
 bif (decide (a.1.1 < a.1.2.1)) then
 some ((((-1) : Int), ()), ())
else
 bif (decide (a.1.1 > a.1.2.1)) then
 some (((1 : Int), ()), ())
else
 some (((0 : Int), ()), ())
theorem e140 : ∀ a, f140 a = jjo (jjd c140 []) b140 i140 o140 a := fun a => by kernel_rfl
noncomputable def S140 : jjF := jjf tt 20 i140 o140 [.tmp 4] [] f140
theorem z140 (h : ∀ T, (tt T).ok Pz T) (h150 : jja Pz 150 S150) : jja Pz 140 S140 :=
 have H := k140 h h150
 jjk (fn := Tryz.f140) (fr := []) H (by kernel_rfl) (by kernel_rfl) (by kernel_rfl) (by kernel_rfl) (by kernel_rfl) jje (by kernel_rfl) (fun y => ⟨_, _, rfl, rfl, rfl⟩) e140
noncomputable def c121 : Ctx := { tt := tt, fs := fun n => match n with | 140 => some S140 | _ => none }
theorem k121 (h : ∀ T, (tt T).ok Pz T) (h140 : jja Pz 140 S140) : CtxGood Pz c121 := ⟨⟨h⟩, fun g S hg => (by
 simp only [c121] at hg
 split at hg
 ·cases hg; exact h140
 ·cases hg), jjp, fun _ _ h => (by cases h), fun _ h => (by cases h)⟩
noncomputable def b121 : Code := jji Tryz.f121
@[reducible] noncomputable def s121_26 : Shape := ⟨[(0, .lf (.d (.sl .i64))), (1, .lf (.d (.sl .i64))), (9, .lf (.d (.sl .i64))), (10, .lf (.d (.int .i64))), (11, .lf (.d (.int .i64)))], [], 36⟩
@[reducible] noncomputable def t121_26 : List OSh := [(.ret, ⟨[(4, .lf (.d (.int .i64)))], [], 36⟩), (.exit 0, ⟨[(0, .lf (.d (.sl .i64))), (1, .lf (.d (.sl .i64)))], [], 36⟩)]
noncomputable def g121_26 (y : s121_26.Y) : Option (Sum s121_26.Y (YS t121_26)) :=
 bif (decide (y.1.2.2.2.2.1 < y.1.2.2.2.1)) then
(ix y.1.2.2.1 y.1.2.2.2.2.1).bind fun x1345 =>
 bif (decide (y.1.2.2.2.2.1 ≥ (y.1.2.1.length : Int))) then
 some (.inr (.inl (((1 : Int), ()), ())))
else
(ix y.1.2.1 y.1.2.2.2.2.1).bind fun x1347 =>
(f140 ((x1345, (x1347, ())), ())).bind fun r1349 =>
 bif (r1349.1.1 != (0 : Int)) then
 some (.inr (.inl ((r1349.1.1, ()), ())))
else
 some (.inl ((y.1.1, (y.1.2.1, (y.1.2.2.1, (y.1.2.2.2.1, ((IntKind.i64.wrap (y.1.2.2.2.2.1 + (1 : Int))), ()))))), ()))
else
 some (.inr (.inr ((y.1.1, (y.1.2.1, ())), ())))
theorem r121_26 : ∀ y, g121_26 y = jjz (jjd c121 []) (jjl (jjc b121 1 26)) 26 s121_26 t121_26 y := fun y => by kernel_rfl
noncomputable def jx1 : s121_26.Y → Option (YS t121_26) := jjC g121_26
theorem q121_26 (H : CtxGood Pz c121) : jjn Pz (jjc b121 1 26) (jjb s121_26 t121_26 jx1) :=
 jjt (fr := []) H (by kernel_rfl) (by kernel_rfl) jje (fun y => jjh r121_26 y)
@[reducible] noncomputable def i121 : Shape := ⟨[(0, .lf (.d (.sl .i64))), (1, .lf (.d (.sl .i64)))], [], 36⟩
@[reducible] noncomputable def o121 : Shape := ⟨[(4, .lf (.d (.int .i64)))], [], 36⟩
noncomputable def f121 (a : i121.Y) : Option o121.Y :=
(jx1 ((a.1.1, (a.1.2.1, (a.1.1, ((a.1.1.length : Int), ((0 : Int), ()))))), ())).bind fun r1359 =>
(match r1359 with
| .inl r1360 =>
 some ((r1360.1.1, ()), ())
| .inr r1361 =>
 bif (decide ((r1361.1.1.length : Int) < (r1361.1.2.1.length : Int))) then
 some ((((-1) : Int), ()), ())
else
 some (((0 : Int), ()), ()))
theorem e121 : ∀ a, f121 a = jjo (jjd c121 [(26, jjb s121_26 t121_26 jx1)]) b121 i121 o121 a := fun a => by kernel_rfl
noncomputable def S121 : jjF := jjf tt 36 i121 o121 [.tmp 4] [] f121
theorem z121 (h : ∀ T, (tt T).ok Pz T) (h140 : jja Pz 140 S140) : jja Pz 121 S121 :=
 have H := k121 h h140
 jjk (fn := Tryz.f121) (fr := [(26, jjb s121_26 t121_26 jx1)]) H (by kernel_rfl) (by kernel_rfl) (by kernel_rfl) (by kernel_rfl) (by kernel_rfl) ⟨q121_26 H, trivial⟩ (by kernel_rfl) (fun y => ⟨_, _, rfl, rfl, rfl⟩) e121
noncomputable def c93 : Ctx := { tt := tt, fs := fun n => match n with | 121 => some S121 | _ => none }
theorem k93 (h : ∀ T, (tt T).ok Pz T) (h121 : jja Pz 121 S121) : CtxGood Pz c93 := ⟨⟨h⟩, fun g S hg => (by
 simp only [c93] at hg
 split at hg
 ·cases hg; exact h121
 ·cases hg), jjp, fun _ _ h => (by cases h), fun _ h => (by cases h)⟩
noncomputable def b93 : Code := jji Tryz.f93
@[reducible] noncomputable def i93 : Shape := ⟨[(0, .lf (.d (.sl .i64))), (1, .lf (.d (.sl .i64)))], [], 8⟩
@[reducible] noncomputable def o93 : Shape := ⟨[(4, .lf (.d (.int .i64)))], [], 8⟩
noncomputable def f93 (a : i93.Y) : Option o93.Y :=
(f121 ((a.1.1, (a.1.2.1, ())), ())).bind fun r1363 =>
 some ((r1363.1.1, ()), ())
theorem e93 : ∀ a, f93 a = jjo (jjd c93 []) b93 i93 o93 a := fun a => by kernel_rfl
noncomputable def S93 : jjF := jjf tt 8 i93 o93 [.tmp 4] [] f93
theorem z93 (h : ∀ T, (tt T).ok Pz T) (h121 : jja Pz 121 S121) : jja Pz 93 S93 :=
 have H := k93 h h121
 jjk (fn := Tryz.f93) (fr := []) H (by kernel_rfl) (by kernel_rfl) (by kernel_rfl) (by kernel_rfl) (by kernel_rfl) jje (by kernel_rfl) (fun y => ⟨_, _, rfl, rfl, rfl⟩) e93
noncomputable def c69 : Ctx := { tt := tt, fs := fun n => match n with | 88 => some S88 | 93 => some S93 | _ => none }
theorem k69 (h : ∀ T, (tt T).ok Pz T) (h88 : jja Pz 88 S88) (h93 : jja Pz 93 S93) : CtxGood Pz c69 := ⟨⟨h⟩, fun g S hg => (by
 simp only [c69] at hg
 split at hg
 ·cases hg; exact h88
 ·cases hg; exact h93
 ·cases hg), jjp, fun _ _ h => (by cases h), fun _ h => (by cases h)⟩
noncomputable def b69 : Code := jji Tryz.f69
@[reducible] noncomputable def s69_60 : Shape := ⟨[(5, .lf (.own 3000320)), (6, .lf (.d (.bool))), (7, .lf (.own 3000448)), (8, .lf (.d (.bool)))], [(3000320, .row .i64, .slot 5 0), (3000448, .row .i64, .slot 7 0)], 28⟩
@[reducible] noncomputable def t69_60 : List OSh := [(.norm, ⟨[(5, .lf (.own 3000320)), (7, .lf (.own 3000448)), (24, .lf (.d (.bool)))], [(3000320, .row .i64, .slot 5 0), (3000448, .row .i64, .slot 7 0)], 28⟩)]
noncomputable def g69_60 (y : s69_60.Y) : Option (YS t69_60) :=
 bif (!(!y.1.2.1)) then
 some ((((), ((), ((!y.1.2.2.2.1), ()))), (y.2.1, (y.2.2.1, ()))))
else
 some ((((), ((), (true, ()))), (y.2.1, (y.2.2.1, ()))))
theorem r69_60 : ∀ y, g69_60 y = jjK (jjd c69 []) (jjc b69 1 60) 60 s69_60 t69_60 y := fun y => by kernel_rfl
theorem q69_60 (H : CtxGood Pz c69) : jjn Pz (jjc b69 1 60) (jjb s69_60 t69_60 g69_60) :=
 jjw (fr := []) H (by kernel_rfl) jje r69_60
@[reducible] noncomputable def i69 : Shape := ⟨[(0, .lf (.d (.str))), (1, .lf (.d (.str)))], [], 28⟩
@[reducible] noncomputable def o69 : Shape := ⟨[(4, .lf (.d (.int .i64)))], [], 28⟩
noncomputable def f69 (a : i69.Y) : Option o69.Y :=
(f88 ((a.1.1, ()), ())).bind fun r1366 =>
(f88 ((a.1.2.1, ()), ())).bind fun r1368 =>
(g69_60 (((), (r1366.2.2.2.1.1, ((), (r1368.2.2.2.1.1, ())))), (r1366.2.1, (r1368.2.1, ())))).bind fun r1370 =>
 bif r1370.1.2.2.1 then
 some (((0 : Int), ()), ())
else
(f93 ((r1370.2.1, (r1370.2.2.1, ())), ())).bind fun r1371 =>
 some ((r1371.1.1, ()), ())
theorem e69 : ∀ a, f69 a = jjo (jjd c69 [(60, jjb s69_60 t69_60 g69_60)]) b69 i69 o69 a := fun a => by kernel_rfl
noncomputable def S69 : jjF := jjf tt 28 i69 o69 [.tmp 4] [] f69
theorem z69 (h : ∀ T, (tt T).ok Pz T) (h88 : jja Pz 88 S88) (h93 : jja Pz 93 S93) : jja Pz 69 S69 :=
 have H := k69 h h88 h93
 jjk (fn := Tryz.f69) (fr := [(60, jjb s69_60 t69_60 g69_60)]) H (by kernel_rfl) (by kernel_rfl) (by kernel_rfl) (by kernel_rfl) (by kernel_rfl) ⟨q69_60 H, trivial⟩ (by kernel_rfl) (fun y => ⟨_, _, rfl, rfl, rfl⟩) e69
noncomputable def c36 : Ctx := { tt := tt, fs := fun n => match n with | 63 => some S63 | 65 => some S65 | 69 => some S69 | _ => none }
theorem k36 (h : ∀ T, (tt T).ok Pz T) (h63 : jja Pz 63 S63) (h65 : jja Pz 65 S65) (h69 : jja Pz 69 S69) : CtxGood Pz c36 := ⟨⟨h⟩, fun g S hg => (by
 simp only [c36] at hg
 split at hg
 ·cases hg; exact h63
 ·cases hg; exact h65
 ·cases hg; exact h69
 ·cases hg), jjp, fun _ _ h => (by cases h), fun _ h => (by cases h)⟩
noncomputable def b36 : Code := jji Tryz.f36
@[reducible] noncomputable def s36_12 : Shape := ⟨[(1, .lf (.d (.str))), (2, .lf (.d (.str))), (3, .lf (.ptr 3 0))], [(3, .box [.d (.str), .d (.int .i64), .d (.str)], .same)], 44⟩
@[reducible] noncomputable def t36_12 : List OSh := [(.norm, ⟨[(2, .lf (.d (.str))), (3, .lf (.ptr 3 0)), (20, .lf (.d (.bool)))], [(3, .box [.d (.str), .d (.int .i64), .d (.str)], .same)], 44⟩)]
noncomputable def g36_12 (y : s36_12.Y) : Option (YS t36_12) :=
(f65 (((y.2.1.1, (y.2.1.2.1, (y.2.1.2.2.1, ()))), ()), ())).bind fun r1316 =>
 bif (!(!r1316.1.1)) then
(f63 ((y.1.2.1, ()), ())).bind fun r1317 =>
 bif (!(!r1317.1.1)) then
 some (((y.1.2.1, ((), ((!(y.1.1 == y.2.1.1)), ()))), ((y.2.1.1, (y.2.1.2.1, (y.2.1.2.2.1, ()))), ())))
else
 some (((y.1.2.1, ((), (true, ()))), ((y.2.1.1, (y.2.1.2.1, (y.2.1.2.2.1, ()))), ())))
else
 some (((y.1.2.1, ((), (true, ()))), ((y.2.1.1, (y.2.1.2.1, (y.2.1.2.2.1, ()))), ())))
theorem r36_12 : ∀ y, g36_12 y = jjK (jjd c36 []) (jjc b36 1 12) 12 s36_12 t36_12 y := fun y => by kernel_rfl
theorem q36_12 (H : CtxGood Pz c36) : jjn Pz (jjc b36 1 12) (jjb s36_12 t36_12 g36_12) :=
 jjw (fr := []) H (by kernel_rfl) jje r36_12
@[reducible] noncomputable def i36 : Shape := ⟨[(0, .agg [.d (.str), .d (.int .i64), .d (.str)]), (1, .lf (.d (.str))), (2, .lf (.d (.str)))], [], 44⟩
@[reducible] noncomputable def o36 : Shape := ⟨[(6, .lf (.d (.bool)))], [], 44⟩
noncomputable def f36 (a : i36.Y) : Option o36.Y :=
(g36_12 ((a.1.2.1, (a.1.2.2.1, ((), ()))), ((a.1.1.1, (a.1.1.2.1, (a.1.1.2.2.1, ()))), ()))).bind fun r1376 =>
 bif r1376.1.2.2.1 then
 some ((false, ()), ())
else
 bif (r1376.2.1.2.1 == (1 : Int)) then
(f69 ((r1376.1.1, (r1376.2.1.2.2.1, ())), ())).bind fun r1377 =>
 some (((r1377.1.1 == (0 : Int)), ()), ())
else
 bif (r1376.2.1.2.1 == (2 : Int)) then
(f69 ((r1376.1.1, (r1376.2.1.2.2.1, ())), ())).bind fun r1378 =>
 some (((decide (r1378.1.1 ≥ (0 : Int))), ()), ())
else
 bif (r1376.2.1.2.1 == (3 : Int)) then
(f69 ((r1376.1.1, (r1376.2.1.2.2.1, ())), ())).bind fun r1379 =>
 some (((decide (r1379.1.1 < (0 : Int))), ()), ())
else
 some ((true, ()), ())
theorem e36 : ∀ a, f36 a = jjo (jjd c36 [(12, jjb s36_12 t36_12 g36_12)]) b36 i36 o36 a := fun a => by kernel_rfl
noncomputable def S36 : jjF := jjf tt 44 i36 o36 [.tmp 6] [] f36
theorem z36 (h : ∀ T, (tt T).ok Pz T) (h63 : jja Pz 63 S63) (h65 : jja Pz 65 S65) (h69 : jja Pz 69 S69) : jja Pz 36 S36 :=
 have H := k36 h h63 h65 h69
 jjk (fn := Tryz.f36) (fr := [(12, jjb s36_12 t36_12 g36_12)]) H (by kernel_rfl) (by kernel_rfl) (by kernel_rfl) (by kernel_rfl) (by kernel_rfl) ⟨q36_12 H, trivial⟩ (by kernel_rfl) (fun y => ⟨_, _, rfl, rfl, rfl⟩) e36
noncomputable def c74 : Ctx := { tt := tt, fs := fun n => match n with | 95 => some S95 | 100 => some S100 | _ => none }
theorem k74 (h : ∀ T, (tt T).ok Pz T) (h95 : jja Pz 95 S95) (h100 : jja Pz 100 S100) : CtxGood Pz c74 := ⟨⟨h⟩, fun g S hg => (by
 simp only [c74] at hg
 split at hg
 ·cases hg; exact h95
 ·cases hg; exact h100
 ·cases hg), jjp, fun _ _ h => (by cases h), fun _ h => (by cases h)⟩
noncomputable def b74 : Code := jji Tryz.f74
@[reducible] noncomputable def s74_60 : Shape := ⟨[(5, .lf (.own 3000320)), (6, .lf (.d (.bool))), (7, .lf (.own 3000448)), (8, .lf (.d (.bool)))], [(3000320, .row .i64, .slot 5 0), (3000448, .row .i64, .slot 7 0)], 28⟩
@[reducible] noncomputable def t74_60 : List OSh := [(.norm, ⟨[(5, .lf (.own 3000320)), (7, .lf (.own 3000448)), (24, .lf (.d (.bool)))], [(3000320, .row .i64, .slot 5 0), (3000448, .row .i64, .slot 7 0)], 28⟩)]
noncomputable def g74_60 (y : s74_60.Y) : Option (YS t74_60) :=
 bif (!(!y.1.2.1)) then
 some ((((), ((), ((!y.1.2.2.2.1), ()))), (y.2.1, (y.2.2.1, ()))))
else
 some ((((), ((), (true, ()))), (y.2.1, (y.2.2.1, ()))))
theorem r74_60 : ∀ y, g74_60 y = jjK (jjd c74 []) (jjc b74 1 60) 60 s74_60 t74_60 y := fun y => by kernel_rfl
theorem q74_60 (H : CtxGood Pz c74) : jjn Pz (jjc b74 1 60) (jjb s74_60 t74_60 g74_60) :=
 jjw (fr := []) H (by kernel_rfl) jje r74_60
@[reducible] noncomputable def i74 : Shape := ⟨[(0, .lf (.d (.str))), (1, .lf (.d (.str)))], [], 28⟩
@[reducible] noncomputable def o74 : Shape := ⟨[(4, .lf (.d (.int .i64)))], [], 28⟩
noncomputable def f74 (a : i74.Y) : Option o74.Y :=
(f95 ((a.1.1, ()), ())).bind fun r1726 =>
(f95 ((a.1.2.1, ()), ())).bind fun r1728 =>
(g74_60 (((), (r1726.1.2.1, ((), (r1728.1.2.1, ())))), (r1726.2.1, (r1728.2.1, ())))).bind fun r1730 =>
 bif r1730.1.2.2.1 then
 some (((0 : Int), ()), ())
else
(f100 ((r1730.2.1, (r1730.2.2.1, ())), ())).bind fun r1731 =>
 some ((r1731.1.1, ()), ())
theorem e74 : ∀ a, f74 a = jjo (jjd c74 [(60, jjb s74_60 t74_60 g74_60)]) b74 i74 o74 a := fun a => by kernel_rfl
noncomputable def S74 : jjF := jjf tt 28 i74 o74 [.tmp 4] [] f74
theorem z74 (h : ∀ T, (tt T).ok Pz T) (h95 : jja Pz 95 S95) (h100 : jja Pz 100 S100) : jja Pz 74 S74 :=
 have H := k74 h h95 h100
 jjk (fn := Tryz.f74) (fr := [(60, jjb s74_60 t74_60 g74_60)]) H (by kernel_rfl) (by kernel_rfl) (by kernel_rfl) (by kernel_rfl) (by kernel_rfl) ⟨q74_60 H, trivial⟩ (by kernel_rfl) (fun y => ⟨_, _, rfl, rfl, rfl⟩) e74
noncomputable def c41 : Ctx := { tt := tt, fs := fun n => match n with | 74 => some S74 | _ => none }
theorem k41 (h : ∀ T, (tt T).ok Pz T) (h74 : jja Pz 74 S74) : CtxGood Pz c41 := ⟨⟨h⟩, fun g S hg => (by
 simp only [c41] at hg
 split at hg
 ·cases hg; exact h74
 ·cases hg), jjp, fun _ _ h => (by cases h), fun _ h => (by cases h)⟩
noncomputable def b41 : Code := jji Tryz.f41
@[reducible] noncomputable def i41 : Shape := ⟨[(0, .agg [.d (.str), .d (.int .i64), .d (.str)]), (1, .lf (.d (.str))), (2, .lf (.d (.str)))], [], 30⟩
@[reducible] noncomputable def o41 : Shape := ⟨[(6, .lf (.d (.bool)))], [], 30⟩
noncomputable def f41 (a : i41.Y) : Option o41.Y :=
 bif (!(a.1.1.1 == a.1.2.1)) then
 some ((false, ()), ())
else
(f74 ((a.1.2.2.1, (a.1.1.2.2.1, ())), ())).bind fun r1735 =>
 bif (a.1.1.2.1 == (1 : Int)) then
 some (((r1735.1.1 == (0 : Int)), ()), ())
else
 bif (a.1.1.2.1 == (2 : Int)) then
 some (((decide (r1735.1.1 ≥ (0 : Int))), ()), ())
else
 bif (a.1.1.2.1 == (3 : Int)) then
 some (((decide (r1735.1.1 < (0 : Int))), ()), ())
else
 some ((true, ()), ())
theorem e41 : ∀ a, f41 a = jjo (jjd c41 []) b41 i41 o41 a := fun a => by kernel_rfl
noncomputable def S41 : jjF := jjf tt 30 i41 o41 [.tmp 6] [] f41
theorem z41 (h : ∀ T, (tt T).ok Pz T) (h74 : jja Pz 74 S74) : jja Pz 41 S41 :=
 have H := k41 h h74
 jjk (fn := Tryz.f41) (fr := []) H (by kernel_rfl) (by kernel_rfl) (by kernel_rfl) (by kernel_rfl) (by kernel_rfl) jje (by kernel_rfl) (fun y => ⟨_, _, rfl, rfl, rfl⟩) e41
def ordL : List Int → List Int → Int
 | [], [] => 0
 | [], _ :: _ => -1
 | _ :: _, [] => 1
 | x :: a, y :: b => bif decide (x < y) then -1 else bif decide (x > y) then 1 else ordL a b
theorem jqg {α : Type} {xs : List α} {k : Nat} {x : α} {r : List α} (h : xs.drop k = x :: r) : xs[k]? = some x ∧ xs.drop (k + 1) = r ∧ k < xs.length := by
 have h1 : xs[k]? = some x := by
  have := congrArg (fun l => l[0]?) h
  simpa using this
 refine ⟨h1, ?_, jjv h1⟩
 have := congrArg List.tail h
 simpa using this
theorem drop_nil {α : Type} {xs : List α} {k : Nat} (h : xs.drop k = []) : xs.length ≤ k := by
 have := congrArg List.length h
 simp at this; omega
theorem v_l3Order (a) (h1 : Bd a.1.1.length) (h2 : Bd a.1.2.1.length) (p1 : ∀ x, x ∈ a.1.1 → 0 ≤ x) (p2 : ∀ x, x ∈ a.1.2.1 → 0 ≤ x) : f100 a = some ((ordL a.1.1 a.1.2.1, ()), ()) := by
 obtain ⟨⟨xs, ys, u⟩, u'⟩ := a
 have h1 : xs.length ≤ 2097152 := h1
 have h2 : ys.length ≤ 2097152 := h2
 have p1 : ∀ x : Int, x ∈ xs → 0 ≤ x := p1
 have p2 : ∀ x : Int, x ∈ ys → 0 ≤ x := p2
 have key : ∀ (n : Nat) (us ws : List Int) (k : Nat), us.length + ws.length = n → xs.drop k = us → ys.drop k = ws → k ≤ 2097152 →
   (jxL ((xs, (ys, ((k : Int), ()))), ())).bind (fun r625 => (match r625 with | .inl r626 => some ((r626.1.1, ()), ()) | .inr r627 => some (((0 : Int), ()), ()) : Option o100.Y)) = some ((ordL us ws, ()), ()) := by
  intro n
  induction n using Nat.strongRecOn with
  | _ n ih =>
   intro us ws k hn ha hb hk
   have hw : Sm k := by unfold Sm; omega
   match us, ws with
   | [], [] =>
    have c1 := drop_nil ha
    have c2 := drop_nil hb
    have d1 : decide ((k : Int) < (xs.length : Int)) = false := by simp only [decide_eq_false_iff_not]; omega
    have d2 : decide ((k : Int) < (ys.length : Int)) = false := by simp only [decide_eq_false_iff_not]; omega
    have : jxL ((xs, (ys, ((k : Int), ()))), ()) = some (.inr ((), ())) := by
     refine jjE ?_
     simp only [jQg, jxt, d1, d2, Bool.not_false, cond_true, cond_false, Option.bind_some]
    rw [this]; rfl
   | [], y :: ws =>
    have c1 := drop_nil ha
    obtain ⟨c2, c3, c4⟩ := jqg hb
    have hy := p2 y (List.mem_of_getElem? c2)
    have d1 : decide ((k : Int) < (xs.length : Int)) = false := by simp only [decide_eq_false_iff_not]; omega
    have d3 : decide ((-1 : Int) < y) = true := by simp only [decide_eq_true_eq]; omega
    have : jxL ((xs, (ys, ((k : Int), ()))), ()) = some (.inl ((((-1) : Int), ()), ())) := by
     refine jjE ?_
     simp only [jQg, jxt, jxd, jxc, d1, jjA c4, jjs, c2, Bool.not_false, cond_true, cond_false, Option.bind_some, d3]
    rw [this]; rfl
   | x :: us, [] =>
    have c1 := drop_nil hb
    obtain ⟨c2, c3, c4⟩ := jqg ha
    have hx := p1 x (List.mem_of_getElem? c2)
    have d1 : decide ((k : Int) < (ys.length : Int)) = false := by simp only [decide_eq_false_iff_not]; omega
    have d3 : decide (x < (-1 : Int)) = false := by simp only [decide_eq_false_iff_not]; omega
    have d4 : decide (x > (-1 : Int)) = true := by simp only [decide_eq_true_eq]; omega
    have : jxL ((xs, (ys, ((k : Int), ()))), ()) = some (.inl (((1 : Int), ()), ())) := by
     refine jjE ?_
     simp only [jQg, jxt, jxd, jxc, d1, jjA c4, jjs, c2, Bool.not_true, cond_true, cond_false, Option.bind_some, d3, d4]
    rw [this]; rfl
   | x :: us, y :: ws =>
    obtain ⟨c2, c3, c4⟩ := jqg ha
    obtain ⟨e2, e3, e4⟩ := jqg hb
    have step : jQg ((xs, (ys, ((k : Int), ()))), ()) = some (bif decide (x < y) then .inr (.inl ((((-1) : Int), ()), ())) else bif decide (x > y) then .inr (.inl (((1 : Int), ()), ())) else .inl ((xs, (ys, (((k + 1 : Nat) : Int), ()))), ())) := by
     simp only [jQg, jxt, jxd, jxc, jjA c4, jjA e4, jjs, c2, e2, Bool.not_true, cond_true, cond_false, Option.bind_some, jjj hw]
     cases decide (x < y) <;> cases decide (x > y) <;> rfl
    rw [ordL]
    cases hlt : decide (x < y) with
    | true => rw [hlt, cond_true] at step; rw [show jxL ((xs, (ys, ((k : Int), ()))), ()) = _ from jjE step]; rfl
    | false =>
     rw [hlt, cond_false] at step
     cases hgt : decide (x > y) with
     | true => rw [hgt, cond_true] at step; rw [show jxL ((xs, (ys, ((k : Int), ()))), ()) = _ from jjE step]; rfl
     | false =>
      rw [hgt, cond_false] at step
      rw [show jxL ((xs, (ys, ((k : Int), ()))), ()) = _ from jqc step]
      exact ih (us.length + ws.length) (by simp only [List.length_cons] at hn; omega) us ws (k + 1) rfl c3 e3 (by omega)
 have := key _ xs ys 0 rfl rfl rfl (Nat.zero_le _)
 simp only [f100]
 exact this
theorem v_cmpInt (a) : f140 a = some ((bif decide (a.1.1 < a.1.2.1) then -1 else bif decide (a.1.1 > a.1.2.1) then 1 else 0, ()), ()) := by
 obtain ⟨⟨x, y, u⟩, u'⟩ := a
 have hx : (x != x) = false := by simp
 have hy : (y != y) = false := by simp
 simp only [f140, f150, Option.bind_some, hx, hy, cond_false]
 cases decide (x < y) <;> cases decide (x > y) <;> rfl
theorem v_Compare (a) (h1 : Bd a.1.1.length) (h2 : Bd a.1.2.1.length) : f121 a = some ((ordL a.1.1 a.1.2.1, ()), ()) := by
 obtain ⟨⟨xs, ys, u⟩, u'⟩ := a
 have h1 : xs.length ≤ 2097152 := h1
 have h2 : ys.length ≤ 2097152 := h2
 have key : ∀ (us ws : List Int) (k : Nat), xs.drop k = us → ys.drop k = ws → k ≤ xs.length →
   (jx1 ((xs, (ys, (xs, ((xs.length : Int), ((k : Int), ()))))), ())).bind (fun r1113 => (match r1113 with
    | .inl r1114 => some ((r1114.1.1, ()), ())
    | .inr r1115 => bif (decide ((r1115.1.1.length : Int) < (r1115.1.2.1.length : Int))) then some ((((-1) : Int), ()), ()) else some (((0 : Int), ()), ()) : Option o121.Y)) = some ((ordL us ws, ()), ()) := by
  intro us
  induction us with
  | nil =>
   intro ws k ha hb hk
   have c1 := drop_nil ha
   have d1 : decide ((k : Int) < (xs.length : Int)) = false := by simp only [decide_eq_false_iff_not]; omega
   have : jx1 ((xs, (ys, (xs, ((xs.length : Int), ((k : Int), ()))))), ()) = some (.inr ((xs, (ys, ())), ())) := by
    refine jjE ?_
    simp only [g121_26, d1, cond_false]
   rw [this]
   simp only [Option.bind_some]
   cases ws with
   | nil =>
    have c2 := drop_nil hb
    have : decide ((xs.length : Int) < (ys.length : Int)) = false := by simp only [decide_eq_false_iff_not]; omega
    rw [this]; rfl
   | cons y ws =>
    obtain ⟨_, _, c4⟩ := jqg hb
    rw [jjA (show xs.length < ys.length by omega)]; rfl
  | cons x us ih =>
   intro ws k ha hb hk
   obtain ⟨c2, c3, c4⟩ := jqg ha
   have hw : Sm k := by unfold Sm; omega
   cases ws with
   | nil =>
    have c1 := drop_nil hb
    have d1 : decide ((k : Int) ≥ (ys.length : Int)) = true := by simp only [decide_eq_true_eq]; omega
    have : jx1 ((xs, (ys, (xs, ((xs.length : Int), ((k : Int), ()))))), ()) = some (.inl (((1 : Int), ()), ())) := by
     refine jjE ?_
     simp only [g121_26, jjA c4, cond_true, jjs, c2, Option.bind_some, d1]
    rw [this]; rfl
   | cons y ws =>
    obtain ⟨e2, e3, e4⟩ := jqg hb
    have d1 : decide ((k : Int) ≥ (ys.length : Int)) = false := by simp only [decide_eq_false_iff_not]; omega
    have step : g121_26 ((xs, (ys, (xs, ((xs.length : Int), ((k : Int), ()))))), ()) = some (bif decide (x < y) then .inr (.inl ((((-1) : Int), ()), ())) else bif decide (x > y) then .inr (.inl (((1 : Int), ()), ())) else .inl ((xs, (ys, (xs, ((xs.length : Int), (((k + 1 : Nat) : Int), ()))))), ())) := by
     simp only [g121_26, jjA c4, jjs, c2, e2, d1, cond_true, cond_false, Option.bind_some, v_cmpInt, jjj hw]
     cases decide (x < y) <;> cases decide (x > y) <;> rfl
    rw [ordL]
    cases hlt : decide (x < y) with
    | true => rw [hlt, cond_true] at step; rw [show jx1 ((xs, (ys, (xs, ((xs.length : Int), ((k : Int), ()))))), ()) = _ from jjE step]; rfl
    | false =>
     rw [hlt, cond_false] at step
     cases hgt : decide (x > y) with
     | true => rw [hgt, cond_true] at step; rw [show jx1 ((xs, (ys, (xs, ((xs.length : Int), ((k : Int), ()))))), ()) = _ from jjE step]; rfl
     | false =>
      rw [hgt, cond_false] at step
      rw [show jx1 ((xs, (ys, (xs, ((xs.length : Int), ((k : Int), ()))))), ()) = _ from jqc step]
      exact ih ws (k + 1) c3 e3 (by omega)
 have := key xs ys 0 rfl rfl (Nat.zero_le _)
 simp only [f121]
 exact this
def ordV (a b : Str) : Int := bif jqb a && jqb b then ordL (jx4 a) (jx4 b) else 0
theorem versL_nonneg {s : Str} (h : jqb s = true) : ∀ x, x ∈ jx4 s → 0 ≤ x := by
 intro x hx
 unfold jx4 at hx
 obtain ⟨p, hp, rfl⟩ := List.mem_map.1 hx
 unfold jqb at h
 simp only [Bool.and_eq_true] at h
 have := List.all_eq_true.1 h.1 p hp
 unfold numB at this
 simp only [Bool.and_eq_true] at this
 exact val_nonneg p 0 this.1.1.1.1 (Int.le_refl _)
theorem versL_len (s : Str) : (jx4 s).length ≤ s.length + 1 := by
 unfold jx4 jqU
 rw [List.length_map]
 exact jqY 46 s
theorem v_VersionOrder (a) (h1 : a.1.1.length ≤ 2097151) (h2 : a.1.2.1.length ≤ 2097151) : f74 a = some ((ordV a.1.1 a.1.2.1, ()), ()) := by
 obtain ⟨⟨x, y, u⟩, u'⟩ := a
 have h1 : x.length ≤ 2097151 := h1
 have h2 : y.length ≤ 2097151 := h2
 obtain ⟨o1, e1, q1⟩ := v_l3Parts ((x, ()), ()) (show x.length ≤ 2097152 by omega)
 obtain ⟨o2, e2, q2⟩ := v_l3Parts ((y, ()), ()) (show y.length ≤ 2097152 by omega)
 simp only [f74, e1, e2, Option.bind_some, g74_60, ordV, Bool.not_not]
 cases hx : jqb x with
 | false => rfl
 | true =>
  cases hy : jqb y with
  | false => rfl
  | true =>
   have hx1 := versL_len x
   have hy1 := versL_len y
   have w1 : o1 = jx4 x := q1 hx
   have w2 : o2 = jx4 y := q2 hy
   subst w1 w2
   have e3 := v_l3Order ((jx4 x, (jx4 y, ())), ()) (show (jx4 x).length ≤ 2097152 by omega) (show (jx4 y).length ≤ 2097152 by omega) (versL_nonneg hx) (versL_nonneg hy)
   simp only [cond_true, Bool.not_true, Option.bind_some, cond_false, e3, Bool.and_self]
theorem v_iVersionOrder (a) (h1 : a.1.1.length ≤ 2097151) (h2 : a.1.2.1.length ≤ 2097151) : f69 a = some ((ordV a.1.1 a.1.2.1, ()), ()) := by
 obtain ⟨⟨x, y, u⟩, u'⟩ := a
 have h1 : x.length ≤ 2097151 := h1
 have h2 : y.length ≤ 2097151 := h2
 have e1 := jzt ((x, ()), ()) (show x.length ≤ 2097152 by omega)
 have e2 := jzt ((y, ()), ()) (show y.length ≤ 2097152 by omega)
 simp only [f69, e1, e2, Option.bind_some, g69_60, ordV, Bool.not_not]
 cases hx : jqb x with
 | false => rfl
 | true =>
  cases hy : jqb y with
  | false => rfl
  | true =>
   have hx1 := versL_len x
   have hy1 := versL_len y
   have e3 := v_Compare ((jx4 x, (jx4 y, ())), ()) (show (jx4 x).length ≤ 2097152 by omega) (show (jx4 y).length ≤ 2097152 by omega)
   simp only [cond_true, Bool.not_true, Option.bind_some, cond_false, f93, e3, Bool.and_self]
def jJV (n : Need) (v : Str) : Bool := bif n.kind == 1 then ordV v n.version == 0 else bif n.kind == 2 then decide (ordV v n.version ≥ 0) else bif n.kind == 3 then decide (ordV v n.version < 0) else true
theorem v_l3Fits (a) (h1 : a.1.1.2.2.1.length ≤ 2097151) (h2 : a.1.2.2.1.length ≤ 2097151) (hn : a.1.2.1 = a.1.1.1) : f41 a = some ((jJV ⟨a.1.1.1, a.1.1.2.1, a.1.1.2.2.1⟩ a.1.2.2.1, ()), ()) := by
 obtain ⟨⟨⟨n, k, v, u⟩, m, w, u'⟩, u''⟩ := a
 obtain rfl : m = n := hn
 have e1 := v_VersionOrder ((w, (v, ())), ()) h2 h1
 have e0 : (m == m) = true := by simp
 simp only [f41, e0, e1, Bool.not_true, cond_false, Option.bind_some, jJV]
 cases (k == 1) <;> cases (k == 2) <;> cases (k == 3) <;> rfl
def fitsB (n : Need) (name v : Str) : Bool := jqH n && jqb v && (name == n.name) && jJV n v
theorem v_NeedFits (a) (h0 : Bd a.1.1.1.length) (h1 : a.1.1.2.2.1.length ≤ 2097151) (h2 : a.1.2.2.1.length ≤ 2097151) : f36 a = some ((fitsB ⟨a.1.1.1, a.1.1.2.1, a.1.1.2.2.1⟩ a.1.2.1 a.1.2.2.1, ()), ()) := by
 obtain ⟨⟨⟨n, k, v, u⟩, m, w, u'⟩, u''⟩ := a
 have h1 : v.length ≤ 2097151 := h1
 have h2 : w.length ≤ 2097151 := h2
 have e1 := v_iVersionOrder ((w, (v, ())), ()) h2 h1
 have e2 := v_iNeedOk (((n, (k, (v, ()))), ()), ()) h0 (show v.length ≤ 2097152 by omega)
 have e3 := jz5 ((w, ()), ()) (show w.length ≤ 2097152 by omega)
 simp only [f36, g36_12, e1, e2, e3, Bool.not_not, Option.bind_some, fitsB, jJV]
 cases jqH ⟨n, k, v⟩ with
 | false => rfl
 | true =>
  cases jqb w with
  | false => rfl
  | true =>
   cases (m == n) with
   | false => rfl
   | true =>
    simp only [cond_true, Bool.not_true, Option.bind_some, cond_false, Bool.true_and]
    cases (k == 1) <;> cases (k == 2) <;> cases (k == 3) <;> simp only [cond_true, cond_false, Option.bind_some, e1]
noncomputable def c77v0 : Ctx := { tt := tt, fs := fun n => match n with | 36 => some S36 | _ => none }
theorem k77v0 (h : ∀ T, (tt T).ok Pz T) (h36 : jja Pz 36 S36) : CtxGood Pz c77v0 := ⟨⟨h⟩, fun g S hg => (by
 simp only [c77v0] at hg
 split at hg
 ·cases hg; exact h36
 ·cases hg), jjp, fun _ _ h => (by cases h), fun _ h => (by cases h)⟩
noncomputable def b77v0 : Code := jji Tryz.f77
@[reducible] noncomputable def i77v0 : Shape := ⟨[(0, .agg [.d (.str), .d (.str), .d (.sl .need), .d (.sl .entry)]), (1, .lf (.rptr [.str, .int .i64, .str] 0))], [], 10⟩
@[reducible] noncomputable def o77v0 : Shape := ⟨[(3, .lf (.d (.bool)))], [], 10⟩
noncomputable def f77v0 (a : i77v0.Y) : Option o77v0.Y :=
(f36 (((a.1.2.1.1, (a.1.2.1.2.1, (a.1.2.1.2.2.1, ()))), (a.1.1.1, (a.1.1.2.1, ()))), ())).bind fun r2426 =>
 some ((r2426.1.1, ()), ())
theorem e77v0 : ∀ a, f77v0 a = jjo (jjd c77v0 []) b77v0 i77v0 o77v0 a := fun a => by kernel_rfl
noncomputable def S77v0 : jjF := jjf tt 10 i77v0 o77v0 [.tmp 3] [] f77v0
theorem z77v0 (h : ∀ T, (tt T).ok Pz T) (h36 : jja Pz 36 S36) : jja Pz 77 S77v0 :=
 have H := k77v0 h h36
 jjk (fn := Tryz.f77) (fr := []) H (by kernel_rfl) (by kernel_rfl) (by kernel_rfl) (by kernel_rfl) (by kernel_rfl) jje (by kernel_rfl) (fun y => ⟨_, _, rfl, rfl, rfl⟩) e77v0
noncomputable def c103v0 : Ctx := { tt := tt, fs := fun n => match n with | 77 => some S77v0 | _ => none }
theorem k103v0 (h : ∀ T, (tt T).ok Pz T) (h77v0 : jja Pz 77 S77v0) : CtxGood Pz c103v0 := ⟨⟨h⟩, fun g S hg => (by
 simp only [c103v0] at hg
 split at hg
 ·cases hg; exact h77v0
 ·cases hg), jjp, fun _ _ h => (by cases h), fun _ h => (by cases h)⟩
noncomputable def b103v0 : Code := jji Tryz.f103
@[reducible] noncomputable def s103v0_26 : Shape := ⟨[(0, .lf (.d (.sl .pack))), (1, .lf (.fn 77 [[.str, .int .i64, .str]])), (7, .lf (.d (.int .i64))), (8, .lf (.d (.int .i64)))], [], 19⟩
@[reducible] noncomputable def jze : List OSh := [(.ret, ⟨[(4, .lf (.d (.int .i64)))], [], 19⟩), (.exit 0, ⟨[], [], 19⟩)]
noncomputable def jJo (y : s103v0_26.Y) : Option (Sum s103v0_26.Y (YS jze)) :=
 bif (decide (y.1.2.2.2.1 < y.1.2.2.1)) then
(ix y.1.1 y.1.2.2.2.1).bind fun x2432 =>
(f77v0 (((x2432.name, (x2432.version, (x2432.needs, (x2432.tree, ())))), ((y.1.2.1.1.1, (y.1.2.1.1.2.1, (y.1.2.1.1.2.2.1, ()))), ())), ())).bind fun r2433 =>
 bif r2433.1.1 then
 some (.inr (.inl ((y.1.2.2.2.1, ()), ())))
else
 some (.inl ((y.1.1, (((y.1.2.1.1.1, (y.1.2.1.1.2.1, (y.1.2.1.1.2.2.1, ()))), ()), (y.1.2.2.1, ((IntKind.i64.wrap (y.1.2.2.2.1 + (1 : Int))), ())))), ()))
else
 some (.inr (.inr ((), ())))
theorem r103v0_26 : ∀ y, jJo y = jjz (jjd c103v0 []) (jjl (jjc b103v0 1 26)) 26 s103v0_26 jze y := fun y => by kernel_rfl
noncomputable def jq8 : s103v0_26.Y → Option (YS jze) := jjC jJo
theorem q103v0_26 (H : CtxGood Pz c103v0) : jjn Pz (jjc b103v0 1 26) (jjb s103v0_26 jze jq8) :=
 jjt (fr := []) H (by kernel_rfl) (by kernel_rfl) jje (fun y => jjh r103v0_26 y)
@[reducible] noncomputable def i103v0 : Shape := ⟨[(0, .lf (.d (.sl .pack))), (1, .lf (.fn 77 [[.str, .int .i64, .str]]))], [], 19⟩
@[reducible] noncomputable def o103v0 : Shape := ⟨[(4, .lf (.d (.int .i64)))], [], 19⟩
noncomputable def f103v0 (a : i103v0.Y) : Option o103v0.Y :=
(jq8 ((a.1.1, (((a.1.2.1.1.1, (a.1.2.1.1.2.1, (a.1.2.1.1.2.2.1, ()))), ()), ((a.1.1.length : Int), ((0 : Int), ())))), ())).bind fun r2437 =>
(match r2437 with
| .inl r2438 =>
 some ((r2438.1.1, ()), ())
| .inr r2439 =>
 some ((((-1) : Int), ()), ()))
theorem e103v0 : ∀ a, f103v0 a = jjo (jjd c103v0 [(26, jjb s103v0_26 jze jq8)]) b103v0 i103v0 o103v0 a := fun a => by kernel_rfl
noncomputable def S103v0 : jjF := jjf tt 19 i103v0 o103v0 [.tmp 4] [] f103v0
theorem z103v0 (h : ∀ T, (tt T).ok Pz T) (h77v0 : jja Pz 77 S77v0) : jja Pz 103 S103v0 :=
 have H := k103v0 h h77v0
 jjk (fn := Tryz.f103) (fr := [(26, jjb s103v0_26 jze jq8)]) H (by kernel_rfl) (by kernel_rfl) (by kernel_rfl) (by kernel_rfl) (by kernel_rfl) ⟨q103v0_26 H, trivial⟩ (by kernel_rfl) (fun y => ⟨_, _, rfl, rfl, rfl⟩) e103v0
noncomputable def c44v0 : Ctx := { tt := tt, fs := fun n => match n with | 34 => some S34v0 | 45 => some S45 | _ => none }
theorem k44v0 (h : ∀ T, (tt T).ok Pz T) (h34v0 : jja Pz 34 S34v0) (h45 : jja Pz 45 S45) : CtxGood Pz c44v0 := ⟨⟨h⟩, fun g S hg => (by
 simp only [c44v0] at hg
 split at hg
 ·cases hg; exact h34v0
 ·cases hg; exact h45
 ·cases hg), jjp, fun _ _ h => (by cases h), fun _ h => (by cases h)⟩
noncomputable def b44v0 : Code := jji Tryz.f44
@[reducible] noncomputable def s44v0_12 : Shape := ⟨[(0, .lf (.rptr [.sl .pack] 0))], [], 10⟩
@[reducible] noncomputable def t44v0_12 : List OSh := [(.norm, ⟨[(9, .lf (.d (.bool)))], [], 10⟩)]
noncomputable def jJM (y : s44v0_12.Y) : Option (YS t44v0_12) :=
(f34v0 ((y.1.1.1, ((), ())), ())).bind fun r2414 =>
 bif (!(!r2414.1.1)) then
(f45 ((y.1.1.1, ()), ())).bind fun r2415 =>
 some ((((!r2415.1.1), ()), ()))
else
 some (((true, ()), ()))
theorem r44v0_12 : ∀ y, jJM y = jjK (jjd c44v0 []) (jjc b44v0 1 12) 12 s44v0_12 t44v0_12 y := fun y => by kernel_rfl
theorem q44v0_12 (H : CtxGood Pz c44v0) : jjn Pz (jjc b44v0 1 12) (jjb s44v0_12 t44v0_12 jJM) :=
 jjw (fr := []) H (by kernel_rfl) jje r44v0_12
@[reducible] noncomputable def i44v0 : Shape := ⟨[(0, .lf (.rptr [.sl .pack] 0))], [], 10⟩
@[reducible] noncomputable def o44v0 : Shape := ⟨[(1, .lf (.d (.int .i64)))], [], 10⟩
noncomputable def f44v0 (a : i44v0.Y) : Option o44v0.Y :=
(jJM (((a.1.1.1, ()), ()), ())).bind fun r2417 =>
 bif r2417.1.1 then
 some (((1 : Int), ()), ())
else
 some (((0 : Int), ()), ())
theorem e44v0 : ∀ a, f44v0 a = jjo (jjd c44v0 [(12, jjb s44v0_12 t44v0_12 jJM)]) b44v0 i44v0 o44v0 a := fun a => by kernel_rfl
noncomputable def S44v0 : jjF := jjf tt 10 i44v0 o44v0 [.tmp 1] [] f44v0
theorem z44v0 (h : ∀ T, (tt T).ok Pz T) (h34v0 : jja Pz 34 S34v0) (h45 : jja Pz 45 S45) : jja Pz 44 S44v0 :=
 have H := k44v0 h h34v0 h45
 jjk (fn := Tryz.f44) (fr := [(12, jjb s44v0_12 t44v0_12 jJM)]) H (by kernel_rfl) (by kernel_rfl) (by kernel_rfl) (by kernel_rfl) (by kernel_rfl) ⟨q44v0_12 H, trivial⟩ (by kernel_rfl) (fun y => ⟨_, _, rfl, rfl, rfl⟩) e44v0
noncomputable def c46v0 : Ctx := { tt := tt, fs := fun n => match n with | _ => none }
theorem k46v0 (h : ∀ T, (tt T).ok Pz T) : CtxGood Pz c46v0 := ⟨⟨h⟩, fun g S hg => (by cases hg), jjp, fun _ _ h => (by cases h), fun _ h => (by cases h)⟩
noncomputable def b46v0 : Code := jji Tryz.f46
@[reducible] noncomputable def i46v0 : Shape := ⟨[(0, .lf (.rptr [.sl .pack] 0))], [], 5⟩
@[reducible] noncomputable def o46v0 : Shape := ⟨[(1, .lf (.d (.int .i64)))], [], 5⟩
noncomputable def f46v0 (a : i46v0.Y) : Option o46v0.Y :=
 bif (decide ((a.1.1.1.length : Int) > (5 : Int))) then
 some (((6 : Int), ()), ())
else
 some (((0 : Int), ()), ())
theorem e46v0 : ∀ a, f46v0 a = jjo (jjd c46v0 []) b46v0 i46v0 o46v0 a := fun a => by kernel_rfl
noncomputable def S46v0 : jjF := jjf tt 5 i46v0 o46v0 [.tmp 1] [] f46v0
theorem z46v0 (h : ∀ T, (tt T).ok Pz T) : jja Pz 46 S46v0 :=
 have H := k46v0 h
 jjk (fn := Tryz.f46) (fr := []) H (by kernel_rfl) (by kernel_rfl) (by kernel_rfl) (by kernel_rfl) (by kernel_rfl) jje (by kernel_rfl) (fun y => ⟨_, _, rfl, rfl, rfl⟩) e46v0
noncomputable def c78v0 : Ctx := { tt := tt, fs := fun n => match n with | 103 => some S103v0 | _ => none }
theorem k78v0 (h : ∀ T, (tt T).ok Pz T) (h103v0 : jja Pz 103 S103v0) : CtxGood Pz c78v0 := ⟨⟨h⟩, fun g S hg => (by
 simp only [c78v0] at hg
 split at hg
 ·cases hg; exact h103v0
 ·cases hg), jjp, fun _ _ h => (by cases h), fun _ h => (by cases h)⟩
noncomputable def b78v0 : Code := jji Tryz.f78
@[reducible] noncomputable def i78v0 : Shape := ⟨[(0, .lf (.d (.sl .pack))), (1, .lf (.fn 77 [[.str, .int .i64, .str]]))], [], 9⟩
@[reducible] noncomputable def o78v0 : Shape := ⟨[(4, .lf (.d (.bool)))], [], 9⟩
noncomputable def f78v0 (a : i78v0.Y) : Option o78v0.Y :=
(f103v0 ((a.1.1, (((a.1.2.1.1.1, (a.1.2.1.1.2.1, (a.1.2.1.1.2.2.1, ()))), ()), ())), ())).bind fun r2441 =>
 some (((decide (r2441.1.1 ≥ (0 : Int))), ()), ())
theorem e78v0 : ∀ a, f78v0 a = jjo (jjd c78v0 []) b78v0 i78v0 o78v0 a := fun a => by kernel_rfl
noncomputable def S78v0 : jjF := jjf tt 9 i78v0 o78v0 [.tmp 4] [] f78v0
theorem z78v0 (h : ∀ T, (tt T).ok Pz T) (h103v0 : jja Pz 103 S103v0) : jja Pz 78 S78v0 :=
 have H := k78v0 h h103v0
 jjk (fn := Tryz.f78) (fr := []) H (by kernel_rfl) (by kernel_rfl) (by kernel_rfl) (by kernel_rfl) (by kernel_rfl) jje (by kernel_rfl) (fun y => ⟨_, _, rfl, rfl, rfl⟩) e78v0
noncomputable def c48 : Ctx := { tt := tt, fs := fun n => match n with | 78 => some S78v0 | _ => none }
theorem k48 (h : ∀ T, (tt T).ok Pz T) (h78v0 : jja Pz 78 S78v0) : CtxGood Pz c48 := ⟨⟨h⟩, fun g S hg => (by
 simp only [c48] at hg
 split at hg
 ·cases hg; exact h78v0
 ·cases hg), jjp, fun _ _ h => (by cases h), fun _ h => (by cases h)⟩
noncomputable def b48 : Code := jji Tryz.f48
@[reducible] noncomputable def s48_6758 : Shape := ⟨[(0, .lf (.d (.sl .pack))), (8, .lf (.d (.sl .pack))), (9, .lf (.d (.int .i64))), (10, .lf (.d (.int .i64))), (15, .lf (.d (.sl .need))), (16, .lf (.d (.int .i64))), (17, .lf (.d (.int .i64)))], [], 28⟩
@[reducible] noncomputable def jJv : List OSh := [(.ret, ⟨[(2, .lf (.d (.bool)))], [], 28⟩), (.exit 2, ⟨[(0, .lf (.d (.sl .pack))), (8, .lf (.d (.sl .pack))), (9, .lf (.d (.int .i64))), (10, .lf (.d (.int .i64)))], [], 28⟩)]
noncomputable def g48_6758 (y : s48_6758.Y) : Option (Sum s48_6758.Y (YS jJv)) :=
 bif (decide (y.1.2.2.2.2.2.2.1 < y.1.2.2.2.2.2.1)) then
(ix y.1.2.2.2.2.1 y.1.2.2.2.2.2.2.1).bind fun x2445 =>
(f78v0 ((y.1.1, (((x2445.name, (x2445.kind, (x2445.version, ()))), ()), ())), ())).bind fun r2447 =>
 bif (!r2447.1.1) then
 some (.inr (.inl ((false, ()), ())))
else
 some (.inl ((y.1.1, (y.1.2.1, (y.1.2.2.1, (y.1.2.2.2.1, (y.1.2.2.2.2.1, (y.1.2.2.2.2.2.1, ((IntKind.i64.wrap (y.1.2.2.2.2.2.2.1 + (1 : Int))), ()))))))), ()))
else
 some (.inr (.inr ((y.1.1, (y.1.2.1, (y.1.2.2.1, (y.1.2.2.2.1, ())))), ())))
theorem r48_6758 : ∀ y, g48_6758 y = jjz (jjd c48 []) (jjl (jjc (jjl (jjc b48 1 26)) 52 6758)) 6758 s48_6758 jJv y := fun y => by kernel_rfl
noncomputable def l48_6758 : s48_6758.Y → Option (YS jJv) := jjC g48_6758
theorem q48_6758 (H : CtxGood Pz c48) : jjn Pz (jjc (jjl (jjc b48 1 26)) 52 6758) (jjb s48_6758 jJv l48_6758) :=
 jjt (fr := []) H (by kernel_rfl) (by kernel_rfl) jje (fun y => jjh r48_6758 y)
@[reducible] noncomputable def s48_26 : Shape := ⟨[(0, .lf (.d (.sl .pack))), (8, .lf (.d (.sl .pack))), (9, .lf (.d (.int .i64))), (10, .lf (.d (.int .i64)))], [], 28⟩
@[reducible] noncomputable def t48_26 : List OSh := [(.ret, ⟨[(2, .lf (.d (.bool)))], [], 28⟩), (.exit 0, ⟨[], [], 28⟩)]
noncomputable def g48_26 (y : s48_26.Y) : Option (Sum s48_26.Y (YS t48_26)) :=
 bif (decide (y.1.2.2.2.1 < y.1.2.2.1)) then
(ix y.1.2.1 y.1.2.2.2.1).bind fun x2452 =>
(l48_6758 ((y.1.1, (y.1.2.1, (y.1.2.2.1, (y.1.2.2.2.1, (x2452.needs, ((x2452.needs.length : Int), ((0 : Int), ()))))))), ())).bind fun r2453 =>
(match r2453 with
| .inl r2454 =>
 some (.inr (.inl ((r2454.1.1, ()), ())))
| .inr r2455 =>
 some (.inl ((r2455.1.1, (r2455.1.2.1, (r2455.1.2.2.1, ((IntKind.i64.wrap (r2455.1.2.2.2.1 + (1 : Int))), ())))), ())))
else
 some (.inr (.inr ((), ())))
theorem r48_26 : ∀ y, g48_26 y = jjz (jjd c48 [(6758, jjb s48_6758 jJv l48_6758)]) (jjl (jjc b48 1 26)) 26 s48_26 t48_26 y := fun y => by kernel_rfl
noncomputable def l48_26 : s48_26.Y → Option (YS t48_26) := jjC g48_26
theorem q48_26 (H : CtxGood Pz c48) : jjn Pz (jjc b48 1 26) (jjb s48_26 t48_26 l48_26) :=
 jjt (fr := [(6758, jjb s48_6758 jJv l48_6758)]) H (by kernel_rfl) (by kernel_rfl) ⟨q48_6758 H, trivial⟩ (fun y => jjh r48_26 y)
@[reducible] noncomputable def i48 : Shape := ⟨[(0, .lf (.d (.sl .pack)))], [], 28⟩
@[reducible] noncomputable def o48 : Shape := ⟨[(2, .lf (.d (.bool)))], [], 28⟩
noncomputable def f48 (a : i48.Y) : Option o48.Y :=
(l48_26 ((a.1.1, (a.1.1, ((a.1.1.length : Int), ((0 : Int), ())))), ())).bind fun r2459 =>
(match r2459 with
| .inl r2460 =>
 some ((r2460.1.1, ()), ())
| .inr r2461 =>
 some ((true, ()), ()))
theorem e48 : ∀ a, f48 a = jjo (jjd c48 [(26, jjb s48_26 t48_26 l48_26)]) b48 i48 o48 a := fun a => by kernel_rfl
noncomputable def S48 : jjF := jjf tt 28 i48 o48 [.tmp 2] [] f48
theorem z48 (h : ∀ T, (tt T).ok Pz T) (h78v0 : jja Pz 78 S78v0) : jja Pz 48 S48 :=
 have H := k48 h h78v0
 jjk (fn := Tryz.f48) (fr := [(26, jjb s48_26 t48_26 l48_26)]) H (by kernel_rfl) (by kernel_rfl) (by kernel_rfl) (by kernel_rfl) (by kernel_rfl) ⟨q48_26 H, trivial⟩ (by kernel_rfl) (fun y => ⟨_, _, rfl, rfl, rfl⟩) e48
noncomputable def c47v0 : Ctx := { tt := tt, fs := fun n => match n with | 48 => some S48 | _ => none }
theorem k47v0 (h : ∀ T, (tt T).ok Pz T) (h48 : jja Pz 48 S48) : CtxGood Pz c47v0 := ⟨⟨h⟩, fun g S hg => (by
 simp only [c47v0] at hg
 split at hg
 ·cases hg; exact h48
 ·cases hg), jjp, fun _ _ h => (by cases h), fun _ h => (by cases h)⟩
noncomputable def b47v0 : Code := jji Tryz.f47
@[reducible] noncomputable def i47v0 : Shape := ⟨[(0, .lf (.rptr [.sl .pack] 0))], [], 5⟩
@[reducible] noncomputable def o47v0 : Shape := ⟨[(1, .lf (.d (.int .i64)))], [], 5⟩
noncomputable def f47v0 (a : i47v0.Y) : Option o47v0.Y :=
(f48 ((a.1.1.1, ()), ())).bind fun r2465 =>
 bif (!r2465.1.1) then
 some (((4 : Int), ()), ())
else
 some (((0 : Int), ()), ())
theorem e47v0 : ∀ a, f47v0 a = jjo (jjd c47v0 []) b47v0 i47v0 o47v0 a := fun a => by kernel_rfl
noncomputable def S47v0 : jjF := jjf tt 5 i47v0 o47v0 [.tmp 1] [] f47v0
theorem z47v0 (h : ∀ T, (tt T).ok Pz T) (h48 : jja Pz 48 S48) : jja Pz 47 S47v0 :=
 have H := k47v0 h h48
 jjk (fn := Tryz.f47) (fr := []) H (by kernel_rfl) (by kernel_rfl) (by kernel_rfl) (by kernel_rfl) (by kernel_rfl) jje (by kernel_rfl) (fun y => ⟨_, _, rfl, rfl, rfl⟩) e47v0
noncomputable def c49v0 : Ctx := { tt := tt, fs := fun n => match n with | 50 => some S50 | _ => none }
theorem k49v0 (h : ∀ T, (tt T).ok Pz T) (h50 : jja Pz 50 S50) : CtxGood Pz c49v0 := ⟨⟨h⟩, fun g S hg => (by
 simp only [c49v0] at hg
 split at hg
 ·cases hg; exact h50
 ·cases hg), jjp, fun _ _ h => (by cases h), fun _ h => (by cases h)⟩
noncomputable def b49v0 : Code := jji Tryz.f49
@[reducible] noncomputable def i49v0 : Shape := ⟨[(0, .lf (.rptr [.sl .pack] 0))], [], 11⟩
@[reducible] noncomputable def o49v0 : Shape := ⟨[(1, .lf (.d (.int .i64)))], [], 11⟩
noncomputable def f49v0 (a : i49v0.Y) : Option o49v0.Y :=
(f50 ((a.1.1.1, ()), ())).bind fun r2538 =>
 bif (!r2538.1.2.1) then
 some (((5 : Int), ()), ())
else
 some (((0 : Int), ()), ())
theorem e49v0 : ∀ a, f49v0 a = jjo (jjd c49v0 []) b49v0 i49v0 o49v0 a := fun a => by kernel_rfl
noncomputable def S49v0 : jjF := jjf tt 11 i49v0 o49v0 [.tmp 1] [] f49v0
theorem z49v0 (h : ∀ T, (tt T).ok Pz T) (h50 : jja Pz 50 S50) : jja Pz 49 S49v0 :=
 have H := k49v0 h h50
 jjk (fn := Tryz.f49) (fr := []) H (by kernel_rfl) (by kernel_rfl) (by kernel_rfl) (by kernel_rfl) (by kernel_rfl) jje (by kernel_rfl) (fun y => ⟨_, _, rfl, rfl, rfl⟩) e49v0
noncomputable def c25 : Ctx := { tt := tt, fs := fun n => match n with | 44 => some S44v0 | 46 => some S46v0 | 47 => some S47v0 | 49 => some S49v0 | _ => none }
theorem k25 (h : ∀ T, (tt T).ok Pz T) (h44v0 : jja Pz 44 S44v0) (h46v0 : jja Pz 46 S46v0) (h47v0 : jja Pz 47 S47v0) (h49v0 : jja Pz 49 S49v0) : CtxGood Pz c25 := ⟨⟨h⟩, fun g S hg => (by
 simp only [c25] at hg
 split at hg
 ·cases hg; exact h44v0
 ·cases hg; exact h46v0
 ·cases hg; exact h47v0
 ·cases hg; exact h49v0
 ·cases hg), jjp, fun _ _ h => (by cases h), fun _ h => (by cases h)⟩
noncomputable def b25 : Code := jji Tryz.f25
@[reducible] noncomputable def s25_3 : Shape := ⟨[(1, .lf (.ptr 1 0))], [(1, .box [.d (.sl .pack)], .same)], 24⟩
@[reducible] noncomputable def t25_3 : List OSh := [(.ret, ⟨[(2, .lf (.d (.int .i64)))], [], 24⟩)]
noncomputable def m25_3 (c : Int) : YS t25_3 := ((c, ()), ())
noncomputable def g25_3 (y : s25_3.Y) : Option (YS t25_3) := restC y.2.1.1 m25_3 [fun ps => f44v0 (((ps, ()), ()), ()), fun ps => f46v0 (((ps, ()), ()), ()), fun ps => f47v0 (((ps, ()), ()), ()), fun ps => f49v0 (((ps, ()), ()), ())]
theorem x25_0 : ∀ ps k i, jJP (jjd c25 []) (jjc (jjl (jjc b25 1 58)) 116 3737) 3737 (((shL 24).st (yL 24 ps k i)).set 5 (lfv (.clo 44 [(1, 0)]))) (kBody 24 t25_3) = ((fun ps => f44v0 (((ps, ()), ()), ())) ps).bind fun r => bif (r.1.1 != 0) then some (.inr (m25_3 r.1.1)) else some (.inl (yL 24 ps k i)) := fun ps k i => by kernel_rfl
theorem x25_1 : ∀ ps k i, jJP (jjd c25 []) (jjc (jjl (jjc b25 1 58)) 116 3737) 3737 (((shL 24).st (yL 24 ps k i)).set 5 (lfv (.clo 46 [(1, 0)]))) (kBody 24 t25_3) = ((fun ps => f46v0 (((ps, ()), ()), ())) ps).bind fun r => bif (r.1.1 != 0) then some (.inr (m25_3 r.1.1)) else some (.inl (yL 24 ps k i)) := fun ps k i => by kernel_rfl
theorem x25_2 : ∀ ps k i, jJP (jjd c25 []) (jjc (jjl (jjc b25 1 58)) 116 3737) 3737 (((shL 24).st (yL 24 ps k i)).set 5 (lfv (.clo 47 [(1, 0)]))) (kBody 24 t25_3) = ((fun ps => f47v0 (((ps, ()), ()), ())) ps).bind fun r => bif (r.1.1 != 0) then some (.inr (m25_3 r.1.1)) else some (.inl (yL 24 ps k i)) := fun ps k i => by kernel_rfl
theorem x25_3 : ∀ ps k i, jJP (jjd c25 []) (jjc (jjl (jjc b25 1 58)) 116 3737) 3737 (((shL 24).st (yL 24 ps k i)).set 5 (lfv (.clo 49 [(1, 0)]))) (kBody 24 t25_3) = ((fun ps => f49v0 (((ps, ()), ()), ())) ps).bind fun r => bif (r.1.1 != 0) then some (.inr (m25_3 r.1.1)) else some (.inl (yL 24 ps k i)) := fun ps k i => by kernel_rfl
theorem q25_3 (H : CtxGood Pz c25) : jjn Pz (jjc b25 1 3) (jjb s25_3 t25_3 g25_3) :=
 checks_frag (C := jjd c25 []) (os := t25_3) (nt := 24) (T := 79) (e := 76) (m0 := ((jJ9 (jjc b25 1 6)).getD 0 default)) (m1 := ((jJ9 (jjc b25 1 6)).getD 1 default)) (m2 := ((jJ9 (jjc b25 1 6)).getD 2 default)) (m3 := ((jJ9 (jjc b25 1 6)).getD 3 default)) (m4 := ((jJ9 (jjc b25 1 6)).getD 4 default)) (m5 := ((jJ9 (jjc b25 1 6)).getD 5 default)) (n0 := ((jJ9 (jjc b25 1 28)).getD 0 default)) (n1 := ((jJ9 (jjc b25 1 28)).getD 1 default)) (n2 := ((jJ9 (jjc b25 1 28)).getD 2 default)) (q0 := ((jJ9 (jjc (jjl (jjc b25 1 58)) 116 232)).getD 0 default)) (r0 := ((jJ9 (jjc (jjl (jjc b25 1 58)) 116 3736)).getD 0 default)) (r1 := ((jJ9 (jjc (jjl (jjc b25 1 58)) 116 3736)).getD 1 default)) (r2 := ((jJ9 (jjc (jjl (jjc b25 1 58)) 116 3736)).getD 2 default))
  (i1 := ridOf (jjc b25 1 6)) (i2 := ridOf (jjc b25 1 28)) (i3 := ridOf (jjc (jjl (jjc b25 1 58)) 116 232)) (i4 := ridOf (jjc (jjl (jjc b25 1 58)) 116 3736)) (BB := (jjc (jjl (jjc b25 1 58)) 116 3737)) (r8 := (jjc (jjl (jjc b25 1 58)) 116 935)) (E := (jjc b25 1 15)) (p3 := 232) (pB := 3737) (p8 := 935) (pE := 15) (g0 := 44) (g1 := 46) (g2 := 47) (g3 := 49) (c0 := fun ps => f44v0 (((ps, ()), ()), ())) (c1 := fun ps => f46v0 (((ps, ()), ()), ())) (c2 := fun ps => f47v0 (((ps, ()), ()), ())) (c3 := fun ps => f49v0 (((ps, ()), ()), ())) (mk := m25_3) H
  {und := (by kernel_rfl), tye := (by kernel_rfl), gd := ⟨(by kernel_rfl), (by kernel_rfl), (by kernel_rfl), (by kernel_rfl), (by kernel_rfl), (by kernel_rfl), (by kernel_rfl), (by kernel_rfl), (by kernel_rfl), (by kernel_rfl), (by kernel_rfl), (by kernel_rfl)⟩, om := ⟨(by kernel_rfl), (by kernel_rfl)⟩, on := ⟨(by kernel_rfl), (by kernel_rfl), (by kernel_rfl)⟩, ors := ⟨(by kernel_rfl), (by kernel_rfl), (by kernel_rfl)⟩, dst := ⟨(by kernel_rfl), (by kernel_rfl), (by kernel_rfl), (by kernel_rfl), (by kernel_rfl), (by kernel_rfl), (by kernel_rfl), (by kernel_rfl)⟩, nt20 := (by decide), nrB := (by kernel_rfl), nr8 := (by kernel_rfl), nrE := (by kernel_rfl), wr := (by kernel_rfl), wrE := (by kernel_rfl),
   orcs := ⟨(fun f hf => by cases hf), jqd (by kernel_rfl) jje, jqd (by kernel_rfl) jje, jqd (by kernel_rfl) jje⟩, hos := (fun _ _ => rfl), h4 := (fun ps => by kernel_rfl), hset := (fun ps k i => by kernel_rfl), hlt := (fun ps k i => by kernel_rfl),
   hB := (fun gc h => by
    simp only [List.mem_cons, List.not_mem_nil, or_false] at h
    rcases h with rfl | rfl | rfl | rfl
    ·exact x25_0
    ·exact x25_1
    ·exact x25_2
    ·exact x25_3),
   h8 := (fun ps k i => by kernel_rfl), hE := (fun ps k i => by kernel_rfl) } (fun ps => rfl) (by kernel_rfl)
@[reducible] noncomputable def i25 : Shape := ⟨[(0, .lf (.d (.sl .pack)))], [], 24⟩
@[reducible] noncomputable def o25 : Shape := ⟨[(2, .lf (.d (.int .i64)))], [], 24⟩
noncomputable def f25 (a : i25.Y) : Option o25.Y :=
(g25_3 (((), ()), ((a.1.1, ()), ()))).bind fun r2540 =>
 some ((r2540.1.1, ()), ())
theorem e25 : ∀ a, f25 a = jjo (jjd c25 [(3, jjb s25_3 t25_3 g25_3)]) b25 i25 o25 a := fun a => by kernel_rfl
noncomputable def S25 : jjF := jjf tt 24 i25 o25 [.tmp 2] [] f25
theorem z25 (h : ∀ T, (tt T).ok Pz T) (h44v0 : jja Pz 44 S44v0) (h46v0 : jja Pz 46 S46v0) (h47v0 : jja Pz 47 S47v0) (h49v0 : jja Pz 49 S49v0) : jja Pz 25 S25 :=
 have H := k25 h h44v0 h46v0 h47v0 h49v0
 jjk (fn := Tryz.f25) (fr := [(3, jjb s25_3 t25_3 g25_3)]) H (by kernel_rfl) (by kernel_rfl) (by kernel_rfl) (by kernel_rfl) (by kernel_rfl) ⟨q25_3 H, trivial⟩ (by kernel_rfl) (fun y => ⟨_, _, rfl, rfl, rfl⟩) e25
noncomputable def c13 : Ctx := { tt := tt, fs := fun n => match n with | 25 => some S25 | _ => none }
theorem k13 (h : ∀ T, (tt T).ok Pz T) (h25 : jja Pz 25 S25) : CtxGood Pz c13 := ⟨⟨h⟩, fun g S hg => (by
 simp only [c13] at hg
 split at hg
 ·cases hg; exact h25
 ·cases hg), jjp, fun _ _ h => (by cases h), fun _ h => (by cases h)⟩
noncomputable def b13 : Code := jji Tryz.f13
@[reducible] noncomputable def i13 : Shape := ⟨[(0, .agg [.d (.sl .pack)])], [], 7⟩
@[reducible] noncomputable def o13 : Shape := ⟨[(2, .lf (.d (.bool)))], [], 7⟩
noncomputable def f13 (a : i13.Y) : Option o13.Y :=
(f25 ((a.1.1.1, ()), ())).bind fun r2542 =>
 some (((r2542.1.1 == (0 : Int)), ()), ())
theorem e13 : ∀ a, f13 a = jjo (jjd c13 []) b13 i13 o13 a := fun a => by kernel_rfl
noncomputable def S13 : jjF := jjf tt 7 i13 o13 [.tmp 2] [] f13
theorem z13 (h : ∀ T, (tt T).ok Pz T) (h25 : jja Pz 25 S25) : jja Pz 13 S13 :=
 have H := k13 h h25
 jjk (fn := Tryz.f13) (fr := []) H (by kernel_rfl) (by kernel_rfl) (by kernel_rfl) (by kernel_rfl) (by kernel_rfl) jje (by kernel_rfl) (fun y => ⟨_, _, rfl, rfl, rfl⟩) e13
noncomputable def c39 : Ctx := { tt := tt, fs := fun n => match n with | _ => none }
theorem k39 (h : ∀ T, (tt T).ok Pz T) : CtxGood Pz c39 := ⟨⟨h⟩, fun g S hg => (by cases hg), jjp, fun _ _ h => (by cases h), fun _ h => (by cases h)⟩
noncomputable def b39 : Code := jji Tryz.f39
@[reducible] noncomputable def s39_26 : Shape := ⟨[(0, .lf (.d (.sl .pack))), (1, .lf (.d (.str))), (5, .lf (.d (.int .i64)))], [], 20⟩
@[reducible] noncomputable def t39_26 : List OSh := [(.ret, ⟨[(4, .lf (.d (.int .i64)))], [], 20⟩), (.exit 0, ⟨[], [], 20⟩)]
noncomputable def g39_26 (y : s39_26.Y) : Option (Sum s39_26.Y (YS t39_26)) :=
 bif (decide (y.1.2.2.1 < (y.1.1.length : Int))) then
(ix y.1.1 y.1.2.2.1).bind fun x1639 =>
 bif (x1639.name == y.1.2.1) then
 some (.inr (.inl ((y.1.2.2.1, ()), ())))
else
 some (.inl ((y.1.1, (y.1.2.1, ((IntKind.i64.wrap (y.1.2.2.1 + (1 : Int))), ()))), ()))
else
 some (.inr (.inr ((), ())))
theorem r39_26 : ∀ y, g39_26 y = jjz (jjd c39 []) (jjl (jjc b39 1 26)) 26 s39_26 t39_26 y := fun y => by kernel_rfl
noncomputable def l39_26 : s39_26.Y → Option (YS t39_26) := jjC g39_26
theorem q39_26 (H : CtxGood Pz c39) : jjn Pz (jjc b39 1 26) (jjb s39_26 t39_26 l39_26) :=
 jjt (fr := []) H (by kernel_rfl) (by kernel_rfl) jje (fun y => jjh r39_26 y)
@[reducible] noncomputable def i39 : Shape := ⟨[(0, .lf (.d (.sl .pack))), (1, .lf (.d (.str)))], [], 20⟩
@[reducible] noncomputable def o39 : Shape := ⟨[(4, .lf (.d (.int .i64)))], [], 20⟩
noncomputable def f39 (a : i39.Y) : Option o39.Y :=
(l39_26 ((a.1.1, (a.1.2.1, ((0 : Int), ()))), ())).bind fun r1643 =>
(match r1643 with
| .inl r1644 =>
 some ((r1644.1.1, ()), ())
| .inr r1645 =>
 some ((((-1) : Int), ()), ()))
theorem e39 : ∀ a, f39 a = jjo (jjd c39 [(26, jjb s39_26 t39_26 l39_26)]) b39 i39 o39 a := fun a => by kernel_rfl
noncomputable def S39 : jjF := jjf tt 20 i39 o39 [.tmp 4] [] f39
theorem z39 (h : ∀ T, (tt T).ok Pz T) : jja Pz 39 S39 :=
 have H := k39 h
 jjk (fn := Tryz.f39) (fr := [(26, jjb s39_26 t39_26 l39_26)]) H (by kernel_rfl) (by kernel_rfl) (by kernel_rfl) (by kernel_rfl) (by kernel_rfl) ⟨q39_26 H, trivial⟩ (by kernel_rfl) (fun y => ⟨_, _, rfl, rfl, rfl⟩) e39
noncomputable def c52 : Ctx := { tt := tt, fs := fun n => match n with | 39 => some S39 | 41 => some S41 | _ => none }
theorem k52 (h : ∀ T, (tt T).ok Pz T) (h39 : jja Pz 39 S39) (h41 : jja Pz 41 S41) : CtxGood Pz c52 := ⟨⟨h⟩, fun g S hg => (by
 simp only [c52] at hg
 split at hg
 ·cases hg; exact h39
 ·cases hg; exact h41
 ·cases hg), jjp, fun _ _ h => (by cases h), fun _ h => (by cases h)⟩
noncomputable def b52 : Code := jji Tryz.f52
@[reducible] noncomputable def s52_215334 : Shape := ⟨[(0, .lf (.d (.sl .pack))), (3, .lf (.d (.int .i64))), (4, .lf (.d (.int .i64))), (5, .lf (.ptr 5 0)), (6, .lf (.d (.int .i64)))], [(5, .box [.d (.str), .d (.int .i64), .d (.str)], .same)], 49⟩
@[reducible] noncomputable def jza : List OSh := [(.norm, ⟨[(0, .lf (.d (.sl .pack))), (3, .lf (.d (.int .i64))), (4, .lf (.d (.int .i64))), (35, .lf (.d (.int .i64))), (36, .lf (.d (.bool))), (37, .lf (.d (.bool))), (48, .lf (.d (.bool)))], [], 49⟩)]
noncomputable def jq2 (y : s52_215334.Y) : Option (YS jza) :=
 bif (decide (y.1.2.2.2.2.1 < (0 : Int))) then
 some (((y.1.1, (y.1.2.1, (y.1.2.2.1, (y.1.2.2.2.2.1, ((decide (y.1.2.2.2.2.1 < (0 : Int))), (true, (true, ()))))))), ()))
else
(ix y.1.1 y.1.2.2.2.2.1).bind fun x2308 =>
(f41 (((y.2.1.1, (y.2.1.2.1, (y.2.1.2.2.1, ()))), (y.2.1.1, (x2308.version, ()))), ())).bind fun r2309 =>
 some (((y.1.1, (y.1.2.1, (y.1.2.2.1, (y.1.2.2.2.2.1, ((decide (y.1.2.2.2.2.1 < (0 : Int))), (false, ((!r2309.1.1), ()))))))), ()))
theorem r52_215334 : ∀ y, jq2 y = jjK (jjd c52 []) (jjc (jjl (jjc (jjl (jjc b52 1 26)) 52 1682)) 3364 215334) 215334 s52_215334 jza y := fun y => by kernel_rfl
theorem q52_215334 (H : CtxGood Pz c52) : jjn Pz (jjc (jjl (jjc (jjl (jjc b52 1 26)) 52 1682)) 3364 215334) (jjb s52_215334 jza jq2) :=
 jjw (fr := []) H (by kernel_rfl) jje r52_215334
@[reducible] noncomputable def s52_1682 : Shape := ⟨[(0, .lf (.d (.sl .pack))), (3, .lf (.d (.int .i64))), (4, .lf (.d (.int .i64)))], [], 49⟩
@[reducible] noncomputable def jJu : List OSh := [(.ret, ⟨[(2, .lf (.d (.bool)))], [], 49⟩), (.exit 2, ⟨[(0, .lf (.d (.sl .pack))), (3, .lf (.d (.int .i64)))], [], 49⟩)]
noncomputable def g52_1682 (y : s52_1682.Y) : Option (Sum s52_1682.Y (YS jJu)) :=
(ix y.1.1 y.1.2.1).bind fun x2312 =>
 bif (decide (y.1.2.2.1 < (x2312.needs.length : Int))) then
(ix y.1.1 y.1.2.1).bind fun x2315 =>
(ix x2315.needs y.1.2.2.1).bind fun x2316 =>
(f39 ((y.1.1, (x2316.name, ())), ())).bind fun r2318 =>
(jq2 ((y.1.1, (y.1.2.1, (y.1.2.2.1, ((), (r2318.1.1, ()))))), ((x2316.name, (x2316.kind, (x2316.version, ()))), ()))).bind fun r2319 =>
 bif r2319.1.2.2.2.2.2.2.1 then
 some (.inr (.inl ((false, ()), ())))
else
 some (.inl ((r2319.1.1, (r2319.1.2.1, ((IntKind.i64.wrap (r2319.1.2.2.1 + (1 : Int))), ()))), ()))
else
 some (.inr (.inr ((y.1.1, (y.1.2.1, ())), ())))
theorem r52_1682 : ∀ y, g52_1682 y = jjz (jjd c52 [(215334, jjb s52_215334 jza jq2)]) (jjl (jjc (jjl (jjc b52 1 26)) 52 1682)) 1682 s52_1682 jJu y := fun y => by kernel_rfl
noncomputable def l52_1682 : s52_1682.Y → Option (YS jJu) := jjC g52_1682
theorem q52_1682 (H : CtxGood Pz c52) : jjn Pz (jjc (jjl (jjc b52 1 26)) 52 1682) (jjb s52_1682 jJu l52_1682) :=
 jjt (fr := [(215334, jjb s52_215334 jza jq2)]) H (by kernel_rfl) (by kernel_rfl) ⟨q52_215334 H, trivial⟩ (fun y => jjh r52_1682 y)
@[reducible] noncomputable def s52_26 : Shape := ⟨[(0, .lf (.d (.sl .pack))), (3, .lf (.d (.int .i64)))], [], 49⟩
@[reducible] noncomputable def t52_26 : List OSh := [(.ret, ⟨[(2, .lf (.d (.bool)))], [], 49⟩), (.exit 0, ⟨[], [], 49⟩)]
noncomputable def g52_26 (y : s52_26.Y) : Option (Sum s52_26.Y (YS t52_26)) :=
 bif (decide (y.1.2.1 < (y.1.1.length : Int))) then
(l52_1682 ((y.1.1, (y.1.2.1, ((0 : Int), ()))), ())).bind fun r2323 =>
(match r2323 with
| .inl r2324 =>
 some (.inr (.inl ((r2324.1.1, ()), ())))
| .inr r2325 =>
 some (.inl ((r2325.1.1, ((IntKind.i64.wrap (r2325.1.2.1 + (1 : Int))), ())), ())))
else
 some (.inr (.inr ((), ())))
theorem r52_26 : ∀ y, g52_26 y = jjz (jjd c52 [(1682, jjb s52_1682 jJu l52_1682)]) (jjl (jjc b52 1 26)) 26 s52_26 t52_26 y := fun y => by kernel_rfl
noncomputable def l52_26 : s52_26.Y → Option (YS t52_26) := jjC g52_26
theorem q52_26 (H : CtxGood Pz c52) : jjn Pz (jjc b52 1 26) (jjb s52_26 t52_26 l52_26) :=
 jjt (fr := [(1682, jjb s52_1682 jJu l52_1682)]) H (by kernel_rfl) (by kernel_rfl) ⟨q52_1682 H, trivial⟩ (fun y => jjh r52_26 y)
@[reducible] noncomputable def i52 : Shape := ⟨[(0, .lf (.d (.sl .pack)))], [], 49⟩
@[reducible] noncomputable def o52 : Shape := ⟨[(2, .lf (.d (.bool)))], [], 49⟩
noncomputable def f52 (a : i52.Y) : Option o52.Y :=
(l52_26 ((a.1.1, ((0 : Int), ())), ())).bind fun r2329 =>
(match r2329 with
| .inl r2330 =>
 some ((r2330.1.1, ()), ())
| .inr r2331 =>
 some ((true, ()), ()))
theorem e52 : ∀ a, f52 a = jjo (jjd c52 [(26, jjb s52_26 t52_26 l52_26)]) b52 i52 o52 a := fun a => by kernel_rfl
noncomputable def S52 : jjF := jjf tt 49 i52 o52 [.tmp 2] [] f52
theorem z52 (h : ∀ T, (tt T).ok Pz T) (h39 : jja Pz 39 S39) (h41 : jja Pz 41 S41) : jja Pz 52 S52 :=
 have H := k52 h h39 h41
 jjk (fn := Tryz.f52) (fr := [(26, jjb s52_26 t52_26 l52_26)]) H (by kernel_rfl) (by kernel_rfl) (by kernel_rfl) (by kernel_rfl) (by kernel_rfl) ⟨q52_26 H, trivial⟩ (by kernel_rfl) (fun y => ⟨_, _, rfl, rfl, rfl⟩) e52
noncomputable def c26 : Ctx := { tt := tt, fs := fun n => match n with | 37 => some S37 | 51 => some S51 | 52 => some S52 | _ => none }
theorem k26 (h : ∀ T, (tt T).ok Pz T) (h37 : jja Pz 37 S37) (h51 : jja Pz 51 S51) (h52 : jja Pz 52 S52) : CtxGood Pz c26 := ⟨⟨h⟩, fun g S hg => (by
 simp only [c26] at hg
 split at hg
 ·cases hg; exact h37
 ·cases hg; exact h51
 ·cases hg; exact h52
 ·cases hg), jjp, fun _ _ h => (by cases h), fun _ h => (by cases h)⟩
noncomputable def b26 : Code := jji Tryz.f26
@[reducible] noncomputable def s26_840 : Shape := ⟨[(0, .lf (.d (.sl .pack))), (3, .lf (.d (.int .i64)))], [], 52⟩
@[reducible] noncomputable def t26_840 : List OSh := [(.norm, ⟨[(0, .lf (.d (.sl .pack))), (3, .lf (.d (.int .i64))), (12, .lf (.d (.sl .pack))), (13, .lf (.d (.int .i64))), (14, .lf (.rptr [.str, .str, .sl .need, .sl .entry] 0)), (15, .agg [.d (.str), .d (.str), .d (.sl .need), .d (.sl .entry)]), (16, .lf (.d (.bool))), (17, .lf (.d (.bool))), (18, .lf (.d (.bool))), (35, .lf (.d (.bool)))], [], 52⟩)]
noncomputable def jQf (y : s26_840.Y) : Option (YS t26_840) :=
(ix y.1.1 y.1.2.1).bind fun x2191 =>
(f37 (((x2191.name, (x2191.version, (x2191.needs, (x2191.tree, ())))), ()), ())).bind fun r2192 =>
 bif (!r2192.1.1) then
 some (((y.1.1, (y.1.2.1, (y.1.1, (y.1.2.1, ((x2191.name, (x2191.version, (x2191.needs, (x2191.tree, ())))), ((x2191.name, (x2191.version, (x2191.needs, (x2191.tree, ())))), (r2192.1.1, ((!r2192.1.1), (true, (true, ())))))))))), ()))
else
 bif (decide (y.1.2.1 > (0 : Int))) then
(ix y.1.1 (IntKind.i64.wrap (y.1.2.1 - (1 : Int)))).bind fun x2193 =>
(ix y.1.1 y.1.2.1).bind fun x2194 =>
 some (((y.1.1, (y.1.2.1, (y.1.1, (y.1.2.1, ((x2191.name, (x2191.version, (x2191.needs, (x2191.tree, ())))), ((x2191.name, (x2191.version, (x2191.needs, (x2191.tree, ())))), (r2192.1.1, ((!r2192.1.1), (false, ((!(Op.bytesLess x2193.name x2194.name)), ())))))))))), ()))
else
 some (((y.1.1, (y.1.2.1, (y.1.1, (y.1.2.1, ((x2191.name, (x2191.version, (x2191.needs, (x2191.tree, ())))), ((x2191.name, (x2191.version, (x2191.needs, (x2191.tree, ())))), (r2192.1.1, ((!r2192.1.1), (false, (false, ())))))))))), ()))
theorem r26_840 : ∀ y, jQf y = jjK (jjd c26 []) (jjc (jjl (jjc b26 1 26)) 52 840) 840 s26_840 t26_840 y := fun y => by kernel_rfl
theorem q26_840 (H : CtxGood Pz c26) : jjn Pz (jjc (jjl (jjc b26 1 26)) 52 840) (jjb s26_840 t26_840 jQf) :=
 jjw (fr := []) H (by kernel_rfl) jje r26_840
@[reducible] noncomputable def s26_26 : Shape := ⟨[(0, .lf (.d (.sl .pack))), (3, .lf (.d (.int .i64)))], [], 52⟩
@[reducible] noncomputable def t26_26 : List OSh := [(.ret, ⟨[(2, .lf (.d (.int .i64)))], [], 52⟩), (.exit 0, ⟨[(0, .lf (.d (.sl .pack)))], [], 52⟩)]
noncomputable def g26_26 (y : s26_26.Y) : Option (Sum s26_26.Y (YS t26_26)) :=
 bif (decide (y.1.2.1 < (y.1.1.length : Int))) then
(jQf ((y.1.1, (y.1.2.1, ())), ())).bind fun r2196 =>
 bif r2196.1.2.2.2.2.2.2.2.2.2.1 then
 some (.inr (.inl (((1 : Int), ()), ())))
else
 some (.inl ((r2196.1.1, ((IntKind.i64.wrap (r2196.1.2.1 + (1 : Int))), ())), ()))
else
 some (.inr (.inr ((y.1.1, ()), ())))
theorem r26_26 : ∀ y, g26_26 y = jjz (jjd c26 [(840, jjb s26_840 t26_840 jQf)]) (jjl (jjc b26 1 26)) 26 s26_26 t26_26 y := fun y => by kernel_rfl
noncomputable def l26_26 : s26_26.Y → Option (YS t26_26) := jjC g26_26
theorem q26_26 (H : CtxGood Pz c26) : jjn Pz (jjc b26 1 26) (jjb s26_26 t26_26 l26_26) :=
 jjt (fr := [(840, jjb s26_840 t26_840 jQf)]) H (by kernel_rfl) (by kernel_rfl) ⟨q26_840 H, trivial⟩ (fun y => jjh r26_26 y)
@[reducible] noncomputable def i26 : Shape := ⟨[(0, .lf (.d (.sl .pack)))], [], 52⟩
@[reducible] noncomputable def o26 : Shape := ⟨[(2, .lf (.d (.int .i64)))], [], 52⟩
noncomputable def f26 (a : i26.Y) : Option o26.Y :=
(l26_26 ((a.1.1, ((0 : Int), ())), ())).bind fun r2337 =>
(match r2337 with
| .inl r2338 =>
 some ((r2338.1.1, ()), ())
| .inr r2339 =>
(f51 ((r2339.1.1, ()), ())).bind fun r2341 =>
 bif (decide ((r2339.1.1.length : Int) > (5 : Int))) then
 some (((6 : Int), ()), ())
else
(f52 ((r2339.1.1, ()), ())).bind fun r2343 =>
 bif (!r2343.1.1) then
 some (((4 : Int), ()), ())
else
 bif (!r2341.1.2.1) then
 some (((5 : Int), ()), ())
else
 some (((0 : Int), ()), ()))
theorem e26 : ∀ a, f26 a = jjo (jjd c26 [(26, jjb s26_26 t26_26 l26_26)]) b26 i26 o26 a := fun a => by kernel_rfl
noncomputable def S26 : jjF := jjf tt 52 i26 o26 [.tmp 2] [] f26
theorem z26 (h : ∀ T, (tt T).ok Pz T) (h37 : jja Pz 37 S37) (h51 : jja Pz 51 S51) (h52 : jja Pz 52 S52) : jja Pz 26 S26 :=
 have H := k26 h h37 h51 h52
 jjk (fn := Tryz.f26) (fr := [(26, jjb s26_26 t26_26 l26_26)]) H (by kernel_rfl) (by kernel_rfl) (by kernel_rfl) (by kernel_rfl) (by kernel_rfl) ⟨q26_26 H, trivial⟩ (by kernel_rfl) (fun y => ⟨_, _, rfl, rfl, rfl⟩) e26
noncomputable def c14 : Ctx := { tt := tt, fs := fun n => match n with | 26 => some S26 | _ => none }
theorem k14 (h : ∀ T, (tt T).ok Pz T) (h26 : jja Pz 26 S26) : CtxGood Pz c14 := ⟨⟨h⟩, fun g S hg => (by
 simp only [c14] at hg
 split at hg
 ·cases hg; exact h26
 ·cases hg), jjp, fun _ _ h => (by cases h), fun _ h => (by cases h)⟩
noncomputable def b14 : Code := jji Tryz.f14
@[reducible] noncomputable def i14 : Shape := ⟨[(0, .agg [.d (.sl .pack)])], [], 7⟩
@[reducible] noncomputable def o14 : Shape := ⟨[(2, .lf (.d (.bool)))], [], 7⟩
noncomputable def f14 (a : i14.Y) : Option o14.Y :=
(f26 ((a.1.1.1, ()), ())).bind fun r2546 =>
 some (((r2546.1.1 == (0 : Int)), ()), ())
theorem e14 : ∀ a, f14 a = jjo (jjd c14 []) b14 i14 o14 a := fun a => by kernel_rfl
noncomputable def S14 : jjF := jjf tt 7 i14 o14 [.tmp 2] [] f14
theorem z14 (h : ∀ T, (tt T).ok Pz T) (h26 : jja Pz 26 S26) : jja Pz 14 S14 :=
 have H := k14 h h26
 jjk (fn := Tryz.f14) (fr := []) H (by kernel_rfl) (by kernel_rfl) (by kernel_rfl) (by kernel_rfl) (by kernel_rfl) jje (by kernel_rfl) (fun y => ⟨_, _, rfl, rfl, rfl⟩) e14
theorem v_l8Pack (a) (hs : Bd a.1.1.length) : (∃ (k : Nat) (q : Pack), f39 a = some (((k : Int), ()), ()) ∧ a.1.1[k]? = some q ∧ a.1.1.find? (fun p => p.name == a.1.2.1) = some q) ∨
  (f39 a = some ((((-1) : Int), ()), ()) ∧ a.1.1.find? (fun p => p.name == a.1.2.1) = none) := by
 obtain ⟨⟨ps, name, u⟩, u'⟩ := a
 have hs : ps.length ≤ 2097152 := hs
 have key : ∀ (r : List Pack) (k : Nat), ps.drop k = r → k ≤ ps.length → (∃ (j : Nat) (q : Pack), l39_26 ((ps, (name, ((k : Int), ()))), ()) = some (.inl (((j : Int), ()), ())) ∧ ps[j]? = some q ∧ r.find? (fun p => p.name == name) = some q) ∨
   (l39_26 ((ps, (name, ((k : Int), ()))), ()) = some (.inr ((), ())) ∧ r.find? (fun p => p.name == name) = none) := by
  intro r
  induction r with
  | nil =>
   intro k hr hk
   have := drop_nil hr
   have d1 : decide ((k : Int) < (ps.length : Int)) = false := by simp only [decide_eq_false_iff_not]; omega
   refine .inr ⟨jjE ?_, rfl⟩
   simp only [g39_26, d1, cond_false]
  | cons q r ih =>
   intro k hr hk
   obtain ⟨c1, c2, c3⟩ := jqg hr
   have hw : Sm k := by unfold Sm; omega
   have step : g39_26 ((ps, (name, ((k : Int), ()))), ()) = some (bif q.name == name then .inr (.inl (((k : Int), ()), ())) else .inl ((ps, (name, (((k + 1 : Nat) : Int), ()))), ())) := by
    simp only [g39_26, jjA c3, cond_true, jjs, c1, Option.bind_some, jjj hw]
    cases (q.name == name) <;> rfl
   cases hq : (q.name == name) with
   | true =>
    rw [hq, cond_true] at step
    exact .inl ⟨k, q, jjE step, c1, by simp [List.find?_cons, hq]⟩
   | false =>
    rw [hq, cond_false] at step
    rcases ih (k + 1) c2 c3 with ⟨j, q', h1, h2, h3⟩ | ⟨h1, h2⟩
    ·exact .inl ⟨j, q', (jqc step).trans h1, h2, by simp [List.find?_cons, hq]; exact h3⟩
    ·exact .inr ⟨(jqc step).trans h1, by simp only [List.find?_cons, hq]; exact h2⟩
 rcases key ps 0 rfl (Nat.zero_le _) with ⟨j, q, h1, h2, h3⟩ | ⟨h1, h2⟩
 ·have h1 : l39_26 ((ps, (name, ((0 : Int), ()))), ()) = some (.inl (((j : Int), ()), ())) := h1
  exact .inl ⟨j, q, by simp only [f39, h1, Option.bind_some], h2, h3⟩
 ·have h1 : l39_26 ((ps, (name, ((0 : Int), ()))), ()) = some (.inr ((), ())) := h1
  exact .inr ⟨by simp only [f39, h1, Option.bind_some], h2⟩
abbrev VS (ps : List Pack) : Prop := ∀ p, p ∈ ps → p.version.length ≤ 2097151 ∧ ∀ n, n ∈ p.needs → n.version.length ≤ 2097151
def jxr (ps : List Pack) (n : Need) : Bool := match ps.find? (fun q => q.name == n.name) with
 | some q => jJV n q.version
 | none => false
def jQc (ps : List Pack) (n : Need) : Bool := ps.any fun q => fitsB n q.name q.version
theorem v_l9Needs (a) (hb : BdPs a.1.1) (hv : VS a.1.1) : f52 a = some ((a.1.1.all (fun p => p.needs.all (jxr a.1.1)), ()), ()) := by
 obtain ⟨⟨ps, u⟩, u'⟩ := a
 have hl : ps.length ≤ 2097152 := hb.1
 have inner : ∀ (i : Nat) (p : Pack), ps[i]? = some p → l52_1682 ((ps, ((i : Int), ((0 : Int), ()))), ()) = some (bif p.needs.all (jxr ps) then .inr ((ps, ((i : Int), ())), ()) else .inl ((false, ()), ())) := by
  intro i p hp
  have hpm := List.mem_of_getElem? hp
  have hnl : p.needs.length ≤ 2097152 := (hb.2 p hpm).2.2.1.1
  have := jjU g52_1682 p.needs (fun k => ((ps, ((i : Int), ((k : Int), ()))), ())) (fun _ n => jxr ps n) (.inl ((false, ()), ())) (.inr ((ps, ((i : Int), ())), ())) (fun k n hn => ?_) ?_
  ·have := this
   rw [jjW] at this
   exact this
  ·have hk := jjv hn
   have hw : Sm k := by unfold Sm; omega
   have hnm := List.mem_of_getElem? hn
   have h8 := v_l8Pack ((ps, (n.name, ())), ()) hl
   simp only [g52_1682, jjs, hp, Option.bind_some, jjA hk, cond_true, hn]
   rcases h8 with ⟨j, q, h1, h2, h3⟩ | ⟨h1, h2⟩
   ·have h2 : ps[j]? = some q := h2
    have h3 : ps.find? (fun p => p.name == n.name) = some q := h3
    have hq := hv q (List.mem_of_getElem? h2)
    have hf := v_l3Fits (((n.name, (n.kind, (n.version, ()))), (n.name, (q.version, ()))), ()) ((hv p hpm).2 n hnm) hq.1 rfl
    have hj : decide ((j : Int) < 0) = false := by simp only [decide_eq_false_iff_not]; omega
    simp only [h1, Option.bind_some, jq2, hj, cond_false, jjs, h2, hf, jxr, h3, jjj hw]
    cases jJV n q.version <;> rfl
   ·have h2 : ps.find? (fun p => p.name == n.name) = none := h2
    have hj : decide ((-1 : Int) < 0) = true := rfl
    simp only [h1, Option.bind_some, jq2, hj, cond_true, jxr, h2, cond_false]
  ·simp only [g52_1682, jjs, hp, Option.bind_some, jjI, cond_false]
 have key : l52_26 ((ps, ((0 : Int), ())), ()) = some (bif jqz (fun _ p => p.needs.all (jxr ps)) 0 ps then .inr ((), ()) else .inl ((false, ()), ())) := by
  refine jjU g52_26 ps (fun i => ((ps, ((i : Int), ())), ())) _ _ _ (fun i x hx => ?_) ?_
  ·have hi := jjv hx
   have hw : Sm i := by unfold Sm; omega
   simp only [g52_26, jjA hi, cond_true, inner i x hx, Option.bind_some]
   cases x.needs.all (jxr ps)
   ·rfl
   ·simp only [cond_true, jjj hw]
  ·simp only [g52_26, jjI, cond_false]
 rw [jjW] at key
 simp only [f52, key, Option.bind_some]
 cases List.all ps (fun p => p.needs.all (jxr ps)) <;> rfl
theorem v_needsThere (a) (hb : BdPs a.1.1) (hv : VS a.1.1) : f48 a = some ((a.1.1.all (fun p => p.needs.all (jQc a.1.1)), ()), ()) := by
 obtain ⟨⟨ps, u⟩, u'⟩ := a
 have hl : ps.length ≤ 2097152 := hb.1
 have hcon : ∀ n : Need, Bd n.name.length → n.version.length ≤ 2097151 → f78v0 ((ps, (((n.name, (n.kind, (n.version, ()))), ()), ())), ()) = some ((jQc ps n, ()), ()) := by
  intro n hn1 hn2
  have key : ∀ (r : List Pack) (k : Nat), ps.drop k = r → k ≤ ps.length → ∃ z : Int, (jq8 ((ps, (((n.name, (n.kind, (n.version, ()))), ()), ((ps.length : Int), ((k : Int), ())))), ())).bind (fun r1146 => (match r1146 with
    | .inl r1147 => some ((r1147.1.1, ()), ())
    | .inr r1148 => some ((((-1) : Int), ()), ()) : Option o103v0.Y)) = some ((z, ()), ()) ∧ decide (z ≥ 0) = r.any (fun q => fitsB n q.name q.version) := by
   intro r
   induction r with
   | nil =>
    intro k hr hk
    have := drop_nil hr
    have d1 : decide ((k : Int) < (ps.length : Int)) = false := by simp only [decide_eq_false_iff_not]; omega
    have : jq8 ((ps, (((n.name, (n.kind, (n.version, ()))), ()), ((ps.length : Int), ((k : Int), ())))), ()) = some (.inr ((), ())) := by
     refine jjE ?_
     simp only [jJo, d1, cond_false]
    exact ⟨-1, by rw [this]; rfl, rfl⟩
   | cons q r ih =>
    intro k hr hk
    obtain ⟨c1, c2, c3⟩ := jqg hr
    have hw : Sm k := by unfold Sm; omega
    have hq := hv q (List.mem_of_getElem? c1)
    have hf := v_NeedFits (((n.name, (n.kind, (n.version, ()))), (q.name, (q.version, ()))), ()) hn1 hn2 hq.1
    have step : jJo ((ps, (((n.name, (n.kind, (n.version, ()))), ()), ((ps.length : Int), ((k : Int), ())))), ()) = some (bif fitsB n q.name q.version then .inr (.inl (((k : Int), ()), ())) else .inl ((ps, (((n.name, (n.kind, (n.version, ()))), ()), ((ps.length : Int), (((k + 1 : Nat) : Int), ())))), ())) := by
     simp only [jJo, jjA c3, cond_true, jjs, c1, Option.bind_some, f77v0, hf, jjj hw]
     cases fitsB n q.name q.version <;> rfl
    rw [List.any_cons]
    cases hfq : fitsB n q.name q.version with
    | true =>
     rw [hfq, cond_true] at step
     exact ⟨k, by rw [show jq8 _ = _ from jjE step]; rfl, by simp⟩
    | false =>
     rw [hfq, cond_false] at step
     obtain ⟨z, h1, h2⟩ := ih (k + 1) c2 c3
     exact ⟨z, by rw [show jq8 _ = _ from jqc step]; exact h1, by rw [h2]; rfl⟩
  obtain ⟨z, h1, h2⟩ := key ps 0 rfl (Nat.zero_le _)
  have h3 : f103v0 ((ps, (((n.name, (n.kind, (n.version, ()))), ()), ())), ()) = some ((z, ()), ()) := by
   simp only [f103v0]
   exact h1
  simp only [f78v0, h3, Option.bind_some, h2, jQc]
 have inner : ∀ (i : Nat) (p : Pack), ps[i]? = some p → l48_6758 ((ps, (ps, ((ps.length : Int), ((i : Int), (p.needs, ((p.needs.length : Int), ((0 : Int), ()))))))), ()) = some (bif p.needs.all (jQc ps) then .inr ((ps, (ps, ((ps.length : Int), ((i : Int), ())))), ()) else .inl ((false, ()), ())) := by
  intro i p hp
  have hpm := List.mem_of_getElem? hp
  have hnl : p.needs.length ≤ 2097152 := (hb.2 p hpm).2.2.1.1
  have := jjU g48_6758 p.needs (fun k => ((ps, (ps, ((ps.length : Int), ((i : Int), (p.needs, ((p.needs.length : Int), ((k : Int), ()))))))), ())) (fun _ n => jQc ps n) (.inl ((false, ()), ())) (.inr ((ps, (ps, ((ps.length : Int), ((i : Int), ())))), ())) (fun k n hn => ?_) ?_
  ·have := this
   rw [jjW] at this
   exact this
  ·have hk := jjv hn
   have hw : Sm k := by unfold Sm; omega
   have hnm := List.mem_of_getElem? hn
   have hc := hcon n ((hb.2 p hpm).2.2.1.2 n hnm).1 ((hv p hpm).2 n hnm)
   simp only [g48_6758, jjA hk, cond_true, jjs, hn, Option.bind_some, hc, jjj hw]
   cases jQc ps n <;> rfl
  ·simp only [g48_6758, jjI, cond_false]
 have key : l48_26 ((ps, (ps, ((ps.length : Int), ((0 : Int), ())))), ()) = some (bif jqz (fun _ p => p.needs.all (jQc ps)) 0 ps then .inr ((), ()) else .inl ((false, ()), ())) := by
  refine jjU g48_26 ps (fun i => ((ps, (ps, ((ps.length : Int), ((i : Int), ())))), ())) _ _ _ (fun i x hx => ?_) ?_
  ·have hi := jjv hx
   have hw : Sm i := by unfold Sm; omega
   simp only [g48_26, jjA hi, cond_true, jjs, hx, inner i x hx, Option.bind_some]
   cases x.needs.all (jQc ps)
   ·rfl
   ·simp only [cond_true, jjj hw]
  ·simp only [g48_26, jjI, cond_false]
 rw [jjW] at key
 simp only [f48, key, Option.bind_some]
 cases List.all ps (fun p => p.needs.all (jQc ps)) <;> rfl
theorem ascP_pair : ∀ ps : List Pack, (∀ i y, ps[i + 1]? = some y → lessP ps i y = true) → ps.Pairwise fun p q => Op.bytesLess p.name q.name = true := by
 intro ps
 induction ps with
 | nil => intro _; exact List.Pairwise.nil
 | cons x r ih =>
  intro h
  have hr := ih (fun i y hy => by
   have := h (i + 1) y (by simpa using hy)
   unfold lessP at this ⊢
   simpa using this)
  refine List.pairwise_cons.2 ⟨fun y hy => ?_, hr⟩
  cases r with
  | nil => cases hy
  | cons z r =>
   have hz : Op.bytesLess x.name z.name = true := by
    have := h 0 z rfl
    unfold lessP at this
    simpa using this
   rcases List.mem_cons.1 hy with rfl | hy
   ·exact hz
   ·exact jJR _ _ _ hz ((List.pairwise_cons.1 hr).1 y hy)
theorem ascP_of {ps : List Pack} (h : ascP ps = true) : ps.Pairwise fun p q => Op.bytesLess p.name q.name = true := by
 refine ascP_pair ps (fun i y hy => ?_)
 have := allI_get ps.tail 0 h i y (by rw [List.getElem?_tail]; exact hy)
 rwa [Nat.zero_add] at this
theorem needs_agree : ∀ (ps : List Pack) (n : Need), (∀ p, p ∈ ps → jqb p.version = true) → jqH n = true → ps.Pairwise (fun p q => Op.bytesLess p.name q.name = true) → jQc ps n = jxr ps n := by
 intro ps n
 induction ps with
 | nil => intro _ _ _; rfl
 | cons q r ih =>
  intro hv hn hp
  have hp' := List.pairwise_cons.1 hp
  have ih := ih (fun p h => hv p (List.mem_cons_of_mem _ h)) hn hp'.2
  unfold jQc jxr at ih ⊢
  rw [List.any_cons, List.find?_cons]
  cases hq : (q.name == n.name) with
  | true =>
   have hno : r.any (fun q => fitsB n q.name q.version) = false := by
    rw [List.any_eq_false]
    intro p hpr
    have h1 := hp'.1 p hpr
    rw [eq_of_beq hq] at h1
    have : (p.name == n.name) = false := by
     cases h : (p.name == n.name) with
     | false => rfl
     | true => rw [eq_of_beq h, jzm] at h1; cases h1
    unfold fitsB
    rw [this]; simp
   rw [hno]
   unfold fitsB
   rw [hv q List.mem_cons_self, hn, hq]
   simp
  | false =>
   have : fitsB n q.name q.version = false := by unfold fitsB; rw [hq]; simp
   rw [this, Bool.false_or]
   exact ih
def jqA (ps : List Pack) : Bool := ps.all jxP && ascP ps && decide (ps.length ≤ 5) && ps.all (fun p => p.needs.all (jxr ps)) && (jj8 [] ps).isSome
def jxj (ps : List Pack) : Int := bif ps.all jxP && ascP ps then (bif decide (ps.length ≤ 5) then (bif ps.all (fun p => p.needs.all (jxr ps)) then (bif (jj8 [] ps).isSome then 0 else 5) else 4) else 6) else 1
theorem rootOk_code (ps : List Pack) : jqA ps = (jxj ps == 0) := by
 unfold jqA jxj
 cases ps.all jxP <;> cases ascP ps <;> cases decide (ps.length ≤ 5) <;> cases ps.all (fun p => p.needs.all (jxr ps)) <;> cases (jj8 [] ps).isSome <;> rfl
theorem allI_shift {α : Type} (ok : Nat → α → Bool) : ∀ (xs : List α) (j : Nat), jqz ok (j + 1) xs = jqz (fun i => ok (i + 1)) j xs := by
 intro xs
 induction xs with
 | nil => intro j; rfl
 | cons x r ih => intro j; simp only [jqz, ih]
def okP (ps : List Pack) (i : Nat) (x : Pack) : Bool := jxP x && (i == 0 || lessP ps (i - 1) x)
theorem okP_all (ps : List Pack) : jqz (okP ps) 0 ps = (ps.all jxP && ascP ps) := by
 unfold okP
 rw [allI_and, jjW]
 congr 1
 unfold ascP
 cases ps with
 | nil => rfl
 | cons x r =>
  simp only [jqz, beq_self_eq_true, Bool.true_or, Bool.true_and, List.tail_cons]
  rw [allI_shift]
  refine allI_congr r 0 (fun i y _ _ => ?_)
  have : (i + 1 == 0) = false := rfl
  rw [this, Bool.false_or, Nat.add_sub_cancel]
theorem v_RootOk (a) (hb : BdPs a.1.1.1) (hv : VS a.1.1.1) : f14 a = some ((jqA a.1.1.1, ()), ()) := by
 obtain ⟨⟨⟨ps, u⟩, u'⟩, u''⟩ := a
 have hl : ps.length ≤ 2097152 := hb.1
 have key : l26_26 ((ps, ((0 : Int), ())), ()) = some (bif jqz (okP ps) 0 ps then .inr ((ps, ()), ()) else .inl (((1 : Int), ()), ())) := by
  refine jjU g26_26 ps (fun i => ((ps, ((i : Int), ())), ())) _ _ _ (fun i x hx => ?_) ?_
  ·have hi := jjv hx
   have hw : Sm i := by unfold Sm; omega
   have hbx := hb.2 x (List.mem_of_getElem? hx)
   simp only [g26_26, jjA hi, cond_true, jQf, jjs, hx, Option.bind_some]
   rw [v_PackOk _ hbx]
   simp only [Option.bind_some, okP, dgt0]
   cases jxP x with
   | false => rfl
   | true =>
    simp only [Bool.not_true, cond_false, Bool.true_and, lessP]
    cases i with
    | zero => simp only [beq_self_eq_true, Bool.not_true, cond_false, Option.bind_some, Bool.true_or, cond_true, jjj hw]
    | succ i =>
     have h0 : (i + 1 == 0) = false := rfl
     have hi' : i < ps.length := by omega
     obtain ⟨q, hq⟩ : ∃ q, ps[i]? = some q := ⟨ps[i], List.getElem?_eq_getElem hi'⟩
     simp only [h0, Bool.not_false, cond_true, jz2 (i := i) (by unfold Sm; omega), jjs, hq, hx, Option.bind_some, Bool.false_or, Nat.add_sub_cancel]
     cases Op.bytesLess q.name x.name with
     | false => rfl
     | true => simp only [Bool.not_true, cond_false, cond_true, jjj hw]
  ·simp only [g26_26, jjI, cond_false]
 rw [okP_all] at key
 have h5 : decide ((ps.length : Int) > 5) = !decide (ps.length ≤ 5) := by by_cases h : ps.length ≤ 5 <;> simp only [h, decide_true, decide_false, Bool.not_true, Bool.not_false, decide_eq_true_eq, decide_eq_false_iff_not] <;> omega
 simp only [f14, f26, key, Option.bind_some, jqA]
 cases hA : (ps.all jxP && ascP ps) with
 | false => rfl
 | true =>
  have hk : ps.all jxP = true := by simp only [Bool.and_eq_true] at hA; exact hA.1
  obtain ⟨out, ht⟩ := v_l9Tree ((ps, ()), ()) hb hk
  have hn := v_l9Needs ((ps, ()), ()) hb hv
  simp only [cond_true, Option.bind_some, ht, h5, Bool.true_and]
  cases decide (ps.length ≤ 5) with
  | false => rfl
  | true =>
   simp only [Bool.not_true, cond_false, hn, Option.bind_some, Bool.true_and]
   cases ps.all (fun p => p.needs.all (jxr ps)) <;> cases (jj8 [] ps).isSome <;> rfl
theorem v_rootCode (a) (hb : BdPs a.1.1) (hv : VS a.1.1) : f25 a = some ((jxj a.1.1, ()), ()) := by
 obtain ⟨⟨ps, u⟩, u'⟩ := a
 have hl : ps.length ≤ 2097152 := hb.1
 have e1 := v_allPack ((ps, ((), ())), ()) hb
 have e2 := v_packsAscend ((ps, ()), ()) hl
 have e3 := v_needsThere ((ps, ()), ()) hb hv
 have h5 : decide ((ps.length : Int) > 5) = !decide (ps.length ≤ 5) := by by_cases h : ps.length ≤ 5 <;> simp only [h, decide_true, decide_false, Bool.not_true, Bool.not_false, decide_eq_true_eq, decide_eq_false_iff_not] <;> omega
 have c0 : f44v0 (((ps, ()), ()), ()) = some (((bif ps.all jxP && ascP ps then (0 : Int) else 1), ()), ()) := by
  simp only [f44v0, jJM, e1, Bool.not_not, Option.bind_some]
  cases ps.all jxP with
  | false => rfl
  | true => simp only [cond_true, e2, Option.bind_some, Bool.true_and]; cases ascP ps <;> rfl
 have c1 : f46v0 (((ps, ()), ()), ()) = some (((bif decide (ps.length ≤ 5) then (0 : Int) else 6), ()), ()) := by
  simp only [f46v0, h5]
  cases decide (ps.length ≤ 5) <;> rfl
 have c2 : f47v0 (((ps, ()), ()), ()) = some (((bif ps.all (fun p => p.needs.all (jQc ps)) then (0 : Int) else 4), ()), ()) := by
  simp only [f47v0, e3, Option.bind_some]
  cases ps.all (fun p => p.needs.all (jQc ps)) <;> rfl
 have c3 : ps.all jxP = true → f49v0 (((ps, ()), ()), ()) = some (((bif (jj8 [] ps).isSome then (0 : Int) else 5), ()), ()) := by
  intro hk
  obtain ⟨out, ht⟩ := v_joinTrees ((ps, ()), ()) hb hk
  simp only [f49v0, ht, Option.bind_some]
  cases (jj8 [] ps).isSome <;> rfl
 have z : ∀ n : Int, ((n : Int) != 0) = !(n == 0) := fun n => rfl
 simp only [f25, g25_3, restC, c0, c1, c2, m25_3, Option.bind_some, jxj]
 cases hA : (ps.all jxP && ascP ps) with
 | false => rfl
 | true =>
  simp only [Bool.and_eq_true] at hA
  have hagree : ps.all (fun p => p.needs.all (jQc ps)) = ps.all (fun p => p.needs.all (jxr ps)) := by
   rw [Bool.eq_iff_iff]
   simp only [List.all_eq_true]
   have hvs : ∀ p, p ∈ ps → jqb p.version = true := fun p hp => by
    have := List.all_eq_true.1 hA.1 p hp
    unfold jxP at this
    simp only [Bool.and_eq_true] at this
    exact this.1.1.2
   have hns : ∀ p, p ∈ ps → ∀ n, n ∈ p.needs → jQc ps n = jxr ps n := fun p hp n hn => by
    have := List.all_eq_true.1 hA.1 p hp
    unfold jxP jQb at this
    simp only [Bool.and_eq_true] at this
    exact needs_agree ps n hvs (List.all_eq_true.1 this.1.2.1.1 n hn) (ascP_of hA.2)
   constructor
   ·intro h p hp n hn; rw [← hns p hp n hn]; exact h p hp n hn
   ·intro h p hp n hn; rw [hns p hp n hn]; exact h p hp n hn
  rw [hagree, c3 hA.1]
  cases decide (ps.length ≤ 5) <;> cases ps.all (fun p => p.needs.all (jxr ps)) <;> cases (jj8 [] ps).isSome <;> rfl
theorem v_iRootOk (a) (hb : BdPs a.1.1.1) (hv : VS a.1.1.1) : f13 a = some ((jqA a.1.1.1, ()), ()) := by
 obtain ⟨⟨⟨ps, u⟩, u'⟩, u''⟩ := a
 have e := v_rootCode ((ps, ()), ()) hb hv
 simp only [f13, e, Option.bind_some, rootOk_code]
noncomputable def c109 : Ctx := { tt := tt, fs := fun n => match n with | 86 => some S86 | 97 => some S97 | 98 => some S98 | 99 => some S99 | 106 => some S106 | _ => none }
theorem k109 (h : ∀ T, (tt T).ok Pz T) (h86 : jja Pz 86 S86) (h97 : jja Pz 97 S97) (h98 : jja Pz 98 S98) (h99 : jja Pz 99 S99) (h106 : jja Pz 106 S106) : CtxGood Pz c109 := ⟨⟨h⟩, fun g S hg => (by
 simp only [c109] at hg
 split at hg
 ·cases hg; exact h86
 ·cases hg; exact h97
 ·cases hg; exact h98
 ·cases hg; exact h99
 ·cases hg; exact h106
 ·cases hg), jjp, fun _ _ h => (by cases h), fun _ h => (by cases h)⟩
noncomputable def b109 : Code := jji Tryz.f109
@[reducible] noncomputable def s109_120 : Shape := ⟨[(0, .lf (.d (.sl .entry))), (3, .lf (.ptr 3 0)), (4, .lf (.own 3000256)), (5, .lf (.d (.bool))), (6, .lf (.d (.int .i64))), (7, .lf (.d (.bool))), (8, .lf (.own 3000512))], [(3, .box [.d (.str), .d (.int .i64), .d (.int .i64), .d (.str)], .same), (3000256, .row .entry, .slot 4 0), (3000512, .row .entry, .slot 8 0)], 68⟩
@[reducible] noncomputable def t109_120 : List OSh := [(.norm, ⟨[(0, .lf (.d (.sl .entry))), (3, .lf (.ptr 3 0)), (4, .lf (.own 3000256)), (5, .lf (.d (.bool))), (6, .lf (.d (.int .i64))), (7, .lf (.d (.bool))), (8, .lf (.own 3000512)), (18, .lf (.d (.bool)))], [(3, .box [.d (.str), .d (.int .i64), .d (.int .i64), .d (.str)], .same), (3000256, .row .entry, .slot 4 0), (3000512, .row .entry, .slot 8 0)], 68⟩)]
noncomputable def jzJ (y : s109_120.Y) : Option (YS t109_120) :=
(f97 (((y.2.1.1, (y.2.1.2.1, (y.2.1.2.2.1, (y.2.1.2.2.2.1, ())))), ()), ())).bind fun r275 =>
 bif (!(!r275.1.1)) then
(f99 ((y.2.1.1, ()), ())).bind fun r276 =>
(f98 ((y.1.1, (r276.1.1, ())), ())).bind fun r277 =>
 some (((y.1.1, ((), ((), (y.1.2.2.2.1, (y.1.2.2.2.2.1, (y.1.2.2.2.2.2.1, ((), ((!r277.1.1), ())))))))), ((y.2.1.1, (y.2.1.2.1, (y.2.1.2.2.1, (y.2.1.2.2.2.1, ())))), (y.2.2.1, (y.2.2.2.1, ())))))
else
 some (((y.1.1, ((), ((), (y.1.2.2.2.1, (y.1.2.2.2.2.1, (y.1.2.2.2.2.2.1, ((), (true, ())))))))), ((y.2.1.1, (y.2.1.2.1, (y.2.1.2.2.1, (y.2.1.2.2.2.1, ())))), (y.2.2.1, (y.2.2.2.1, ())))))
theorem r109_120 : ∀ y, jzJ y = jjK (jjd c109 []) (jjc b109 1 120) 120 s109_120 t109_120 y := fun y => by kernel_rfl
theorem q109_120 (H : CtxGood Pz c109) : jjn Pz (jjc b109 1 120) (jjb s109_120 t109_120 jzJ) :=
 jjw (fr := []) H (by kernel_rfl) jje r109_120
@[reducible] noncomputable def s109_486 : Shape := ⟨[(0, .lf (.d (.sl .entry))), (3, .lf (.ptr 3 0)), (4, .lf (.own 3000256)), (5, .lf (.d (.bool))), (6, .lf (.d (.int .i64))), (7, .lf (.d (.bool))), (8, .lf (.own 3000512))], [(3, .box [.d (.str), .d (.int .i64), .d (.int .i64), .d (.str)], .same), (3000256, .row .entry, .slot 4 0), (3000512, .row .entry, .slot 8 0)], 68⟩
@[reducible] noncomputable def t109_486 : List OSh := [(.norm, ⟨[(0, .lf (.d (.sl .entry))), (3, .lf (.ptr 3 0)), (4, .lf (.own 3000256)), (5, .lf (.d (.bool))), (6, .lf (.d (.int .i64))), (7, .lf (.d (.bool))), (8, .lf (.own 3000512)), (31, .lf (.d (.bool)))], [(3, .box [.d (.str), .d (.int .i64), .d (.int .i64), .d (.str)], .same), (3000256, .row .entry, .slot 4 0), (3000512, .row .entry, .slot 8 0)], 68⟩)]
noncomputable def jzI (y : s109_486.Y) : Option (YS t109_486) :=
 bif y.1.2.2.2.2.2.1 then
(ix y.1.1 y.1.2.2.2.2.1).bind fun x286 =>
 some (((y.1.1, ((), ((), (y.1.2.2.2.1, (y.1.2.2.2.2.1, (y.1.2.2.2.2.2.1, ((), ((x286.kind != y.2.1.2.1), ())))))))), ((y.2.1.1, (y.2.1.2.1, (y.2.1.2.2.1, (y.2.1.2.2.2.1, ())))), (y.2.2.1, (y.2.2.2.1, ())))))
else
 some (((y.1.1, ((), ((), (y.1.2.2.2.1, (y.1.2.2.2.2.1, (y.1.2.2.2.2.2.1, ((), (false, ())))))))), ((y.2.1.1, (y.2.1.2.1, (y.2.1.2.2.1, (y.2.1.2.2.2.1, ())))), (y.2.2.1, (y.2.2.2.1, ())))))
theorem r109_486 : ∀ y, jzI y = jjK (jjd c109 []) (jjc b109 1 486) 486 s109_486 t109_486 y := fun y => by kernel_rfl
theorem q109_486 (H : CtxGood Pz c109) : jjn Pz (jjc b109 1 486) (jjb s109_486 t109_486 jzI) :=
 jjw (fr := []) H (by kernel_rfl) jje r109_486
@[reducible] noncomputable def i109 : Shape := ⟨[(0, .lf (.d (.sl .entry))), (1, .agg [.d (.str), .d (.int .i64), .d (.int .i64), .d (.str)])], [], 68⟩
@[reducible] noncomputable def o109 : Shape := ⟨[(4, .lf (.own 3000256)), (5, .lf (.d (.bool)))], [(3000256, .row .entry, .slot 4 0)], 68⟩
noncomputable def f109 (a : i109.Y) : Option o109.Y :=
(f106 ((a.1.1, (a.1.2.1.1, ())), ())).bind fun r281 =>
(f86 ((a.1.1, ()), ())).bind fun r283 =>
(jzJ ((a.1.1, ((), ((), (false, (r281.1.1, (r281.1.2.1, ((), ()))))))), ((a.1.2.1.1, (a.1.2.1.2.1, (a.1.2.1.2.2.1, (a.1.2.1.2.2.2.1, ())))), (([] : List Entry), (r283.2.1, ()))))).bind fun r284 =>
 bif r284.1.2.2.2.2.2.2.2.1 then
 some (((), (false, ())), (r284.2.2.2.1, ()))
else
(jzI ((r284.1.1, ((), ((), (r284.1.2.2.2.1, (r284.1.2.2.2.2.1, (r284.1.2.2.2.2.2.1, ((), ()))))))), ((r284.2.1.1, (r284.2.1.2.1, (r284.2.1.2.2.1, (r284.2.1.2.2.2.1, ())))), (r284.2.2.1, (r284.2.2.2.1, ()))))).bind fun r287 =>
 bif r287.1.2.2.2.2.2.2.2.1 then
 some (((), (false, ())), (r287.2.2.2.1, ()))
else
 bif r287.1.2.2.2.2.2.1 then
(inb r287.2.2.2.1.length r287.1.2.2.2.2.1).bind fun x290 =>
((r287.2.2.2.1[x290]?).bind fun q => some (Entry.mk r287.2.1.1 r287.2.1.2.1 r287.2.1.2.2.1 r287.2.1.2.2.2.1)).bind fun x291 =>
 some (((), (true, ())), ((r287.2.2.2.1.set x290 x291), ()))
else
 bif (decide ((r287.1.1.length : Int) ≥ (16 : Int))) then
 some (((), (false, ())), (r287.2.2.2.1, ()))
else
(jqJ r287.1.1 (0 : Int) r287.1.2.2.2.2.1).bind fun x292 =>
(apd 48 ([] : List Entry) x292).bind fun x293 =>
(apd 48 x293 ([(Entry.mk r287.2.1.1 r287.2.1.2.1 r287.2.1.2.2.1 r287.2.1.2.2.2.1)] : List Entry)).bind fun x294 =>
(jqJ r287.1.1 r287.1.2.2.2.2.1 (r287.1.1.length : Int)).bind fun x295 =>
(apd 48 x294 x295).bind fun x296 =>
 some (((), (true, ())), (x296, ()))
theorem e109 : ∀ a, f109 a = jjo (jjd c109 [(120, jjb s109_120 t109_120 jzJ), (486, jjb s109_486 t109_486 jzI)]) b109 i109 o109 a := fun a => by kernel_rfl
noncomputable def S109 : jjF := jjf tt 68 i109 o109 [.tmp 4, .tmp 5] [] f109
theorem z109 (h : ∀ T, (tt T).ok Pz T) (h86 : jja Pz 86 S86) (h97 : jja Pz 97 S97) (h98 : jja Pz 98 S98) (h99 : jja Pz 99 S99) (h106 : jja Pz 106 S106) : jja Pz 109 S109 :=
 have H := k109 h h86 h97 h98 h99 h106
 jjk (fn := Tryz.f109) (fr := [(120, jjb s109_120 t109_120 jzJ), (486, jjb s109_486 t109_486 jzI)]) H (by kernel_rfl) (by kernel_rfl) (by kernel_rfl) (by kernel_rfl) (by kernel_rfl) ⟨q109_120 H, q109_486 H, trivial⟩ (by kernel_rfl) (fun y => ⟨_, _, rfl, rfl, rfl⟩) e109
noncomputable def c17v0 : Ctx := { tt := tt, fs := fun n => match n with | _ => none }
theorem k17v0 (h : ∀ T, (tt T).ok Pz T) : CtxGood Pz c17v0 := ⟨⟨h⟩, fun g S hg => (by cases hg), jjp, fun _ _ h => (by cases h), fun _ h => (by cases h)⟩
noncomputable def b17v0 : Code := jji Tryz.f17
@[reducible] noncomputable def s17v0_28 : Shape := ⟨[(0, .lf (.ptr 500000 0)), (1, .lf (.d (.int .i64)))], [(500000, .box [.d (.sl .u8), .d (.int .i64)], .same)], 99⟩
@[reducible] noncomputable def t17v0_28 : List OSh := [(.norm, ⟨[(0, .lf (.ptr 500000 0)), (1, .lf (.d (.int .i64))), (24, .lf (.d (.bool)))], [(500000, .box [.d (.sl .u8), .d (.int .i64)], .same)], 99⟩)]
noncomputable def jzF (y : s17v0_28.Y) : Option (YS t17v0_28) :=
 bif (!(decide (y.1.2.1 < (1 : Int)))) then
 some ((((), (y.1.2.1, (((y.2.1.1.length : Int) == (0 : Int)), ()))), ((y.2.1.1, (y.2.1.2.1, ())), ())))
else
 some ((((), (y.1.2.1, (true, ()))), ((y.2.1.1, (y.2.1.2.1, ())), ())))
theorem r17v0_28 : ∀ y, jzF y = jjK (jjd c17v0 []) (jjc b17v0 1 28) 28 s17v0_28 t17v0_28 y := fun y => by kernel_rfl
theorem q17v0_28 (H : CtxGood Pz c17v0) : jjn Pz (jjc b17v0 1 28) (jjb s17v0_28 t17v0_28 jzF) :=
 jjw (fr := []) H (by kernel_rfl) jje r17v0_28
@[reducible] noncomputable def i17v0 : Shape := ⟨[(0, .lf (.ptr 500000 0)), (1, .lf (.d (.int .i64)))], [(500000, .box [.d (.sl .u8), .d (.int .i64)], .same)], 99⟩
@[reducible] noncomputable def o17v0 : Shape := ⟨[(0, .lf (.ptr 500000 0)), (4, .lf (.d (.int .i64)))], [(500000, .box [.d (.sl .u8), .d (.int .i64)], .same)], 99⟩
noncomputable def jq3 (a : i17v0.Y) : Option o17v0.Y :=
(jzF (((), (a.1.2.1, ())), ((a.2.1.1, ((IntKind.i64.wrap (a.2.1.2.1 + (1 : Int))), ())), ()))).bind fun r21 =>
 bif r21.1.2.2.1 then
 some (((), ((0 : Int), ())), ((r21.2.1.1, (r21.2.1.2.1, ())), ()))
else
 bif (decide ((IntKind.i64.wrap (r21.2.1.2.1 - (1 : Int))) < (r21.2.1.1.length : Int))) then
(ix r21.2.1.1 (IntKind.i64.wrap (r21.2.1.2.1 - (1 : Int)))).bind fun x24 =>
(remI (IntKind.i64.wrap x24) r21.1.2.1).bind fun x25 =>
 some (((), (x25, ())), ((r21.2.1.1, (r21.2.1.2.1, ())), ()))
else
(remI (IntKind.i64.wrap (r21.2.1.2.1 - (1 : Int))) (r21.2.1.1.length : Int)).bind fun x31 =>
(ix r21.2.1.1 x31).bind fun x32 =>
(remI (IntKind.i64.wrap ((IntKind.i64.wrap ((IntKind.i64.wrap (r21.2.1.2.1 - (1 : Int))) * (7 : Int))) + (3 : Int))) (r21.2.1.1.length : Int)).bind fun x33 =>
(ix r21.2.1.1 x33).bind fun x34 =>
(quoI .i64 (IntKind.i64.wrap (r21.2.1.2.1 - (1 : Int))) (r21.2.1.1.length : Int)).bind fun x35 =>
(quoI .i64 (IntKind.i64.wrap ((IntKind.i64.wrap ((IntKind.i64.wrap ((IntKind.i64.wrap ((IntKind.i64.wrap x32) * (131 : Int))) + (IntKind.i64.wrap ((IntKind.i64.wrap x34) * (1117 : Int))))) + (IntKind.i64.wrap ((IntKind.i64.wrap (r21.2.1.2.1 - (1 : Int))) * (29 : Int))))) + (IntKind.i64.wrap (x35 * (53 : Int))))) (64 : Int)).bind fun x37 =>
(remI (xorI .i64 (IntKind.i64.wrap ((IntKind.i64.wrap ((IntKind.i64.wrap ((IntKind.i64.wrap ((IntKind.i64.wrap x32) * (131 : Int))) + (IntKind.i64.wrap ((IntKind.i64.wrap x34) * (1117 : Int))))) + (IntKind.i64.wrap ((IntKind.i64.wrap (r21.2.1.2.1 - (1 : Int))) * (29 : Int))))) + (IntKind.i64.wrap (x35 * (53 : Int))))) x37) r21.1.2.1).bind fun x38 =>
 some (((), (x38, ())), ((r21.2.1.1, (r21.2.1.2.1, ())), ()))
theorem e17v0 : ∀ a, jq3 a = jjo (jjd c17v0 [(28, jjb s17v0_28 t17v0_28 jzF)]) b17v0 i17v0 o17v0 a := fun a => by kernel_rfl
noncomputable def jqa : jjF := jjf tt 99 i17v0 o17v0 [.tmp 4] [0] jq3
theorem z17v0 (h : ∀ T, (tt T).ok Pz T) : jja Pz 17 jqa :=
 have H := k17v0 h
 jjk (fn := Tryz.f17) (fr := [(28, jjb s17v0_28 t17v0_28 jzF)]) H (by kernel_rfl) (by kernel_rfl) (by kernel_rfl) (by kernel_rfl) (by kernel_rfl) ⟨q17v0_28 H, trivial⟩ (by kernel_rfl) (fun y => ⟨_, _, rfl, rfl, rfl⟩) e17v0
noncomputable def c113v0 : Ctx := { tt := tt, fs := fun n => match n with | 17 => some jqa | _ => none }
theorem k113v0 (h : ∀ T, (tt T).ok Pz T) (h17v0 : jja Pz 17 jqa) : CtxGood Pz c113v0 := ⟨⟨h⟩, fun g S hg => (by
 simp only [c113v0] at hg
 split at hg
 ·cases hg; exact h17v0
 ·cases hg), jjp, fun _ _ h => (by cases h), fun _ h => (by cases h)⟩
noncomputable def b113v0 : Code := jji Tryz.f113
@[reducible] noncomputable def i113v0 : Shape := ⟨[(0, .lf (.ptr 500000 0)), (1, .lf (.d (.sl .i64)))], [(500000, .box [.d (.sl .u8), .d (.int .i64)], .same)], 12⟩
@[reducible] noncomputable def o113v0 : Shape := ⟨[(0, .lf (.ptr 500000 0)), (4, .lf (.d (.int .i64)))], [(500000, .box [.d (.sl .u8), .d (.int .i64)], .same)], 12⟩
noncomputable def f113v0 (a : i113v0.Y) : Option o113v0.Y :=
(jq3 (((), ((a.1.2.1.length : Int), ())), ((a.2.1.1, (a.2.1.2.1, ())), ()))).bind fun r316 =>
(ix a.1.2.1 r316.1.2.1).bind fun x317 =>
 some (((), (x317, ())), ((r316.2.1.1, (r316.2.1.2.1, ())), ()))
theorem e113v0 : ∀ a, f113v0 a = jjo (jjd c113v0 []) b113v0 i113v0 o113v0 a := fun a => by kernel_rfl
noncomputable def S113v0 : jjF := jjf tt 12 i113v0 o113v0 [.tmp 4] [0] f113v0
theorem z113v0 (h : ∀ T, (tt T).ok Pz T) (h17v0 : jja Pz 17 jqa) : jja Pz 113 S113v0 :=
 have H := k113v0 h h17v0
 jjk (fn := Tryz.f113) (fr := []) H (by kernel_rfl) (by kernel_rfl) (by kernel_rfl) (by kernel_rfl) (by kernel_rfl) jje (by kernel_rfl) (fun y => ⟨_, _, rfl, rfl, rfl⟩) e113v0
noncomputable def c18v0 : Ctx := { tt := tt, fs := fun n => match n with | 17 => some jqa | _ => none }
theorem k18v0 (h : ∀ T, (tt T).ok Pz T) (h17v0 : jja Pz 17 jqa) : CtxGood Pz c18v0 := ⟨⟨h⟩, fun g S hg => (by
 simp only [c18v0] at hg
 split at hg
 ·cases hg; exact h17v0
 ·cases hg), jjp, fun _ _ h => (by cases h), fun _ h => (by cases h)⟩
noncomputable def b18v0 : Code := jji Tryz.f18
@[reducible] noncomputable def i18v0 : Shape := ⟨[(0, .lf (.ptr 500000 0)), (1, .lf (.d (.sl .str)))], [(500000, .box [.d (.sl .u8), .d (.int .i64)], .same)], 12⟩
@[reducible] noncomputable def o18v0 : Shape := ⟨[(0, .lf (.ptr 500000 0)), (4, .lf (.d (.str)))], [(500000, .box [.d (.sl .u8), .d (.int .i64)], .same)], 12⟩
noncomputable def jzZ (a : i18v0.Y) : Option o18v0.Y :=
(jq3 (((), ((a.1.2.1.length : Int), ())), ((a.2.1.1, (a.2.1.2.1, ())), ()))).bind fun r45 =>
(ix a.1.2.1 r45.1.2.1).bind fun x46 =>
 some (((), (x46, ())), ((r45.2.1.1, (r45.2.1.2.1, ())), ()))
theorem e18v0 : ∀ a, jzZ a = jjo (jjd c18v0 []) b18v0 i18v0 o18v0 a := fun a => by kernel_rfl
noncomputable def jqt : jjF := jjf tt 12 i18v0 o18v0 [.tmp 4] [0] jzZ
theorem z18v0 (h : ∀ T, (tt T).ok Pz T) (h17v0 : jja Pz 17 jqa) : jja Pz 18 jqt :=
 have H := k18v0 h h17v0
 jjk (fn := Tryz.f18) (fr := []) H (by kernel_rfl) (by kernel_rfl) (by kernel_rfl) (by kernel_rfl) (by kernel_rfl) jje (by kernel_rfl) (fun y => ⟨_, _, rfl, rfl, rfl⟩) e18v0
noncomputable def c134v0 : Ctx := { tt := tt, fs := fun n => match n with | 18 => some jqt | _ => none }
theorem k134v0 (h : ∀ T, (tt T).ok Pz T) (h18v0 : jja Pz 18 jqt) : CtxGood Pz c134v0 := ⟨⟨h⟩, fun g S hg => (by
 simp only [c134v0] at hg
 split at hg
 ·cases hg; exact h18v0
 ·cases hg), jjp, fun _ _ h => (by cases h), fun _ h => (by cases h)⟩
noncomputable def b134v0 : Code := jji Tryz.f134
@[reducible] noncomputable def i134v0 : Shape := ⟨[(0, .lf (.ptr 500000 0))], [(500000, .box [.d (.sl .u8), .d (.int .i64)], .same)], 6⟩
@[reducible] noncomputable def o134v0 : Shape := ⟨[(0, .lf (.ptr 500000 0)), (2, .lf (.d (.str)))], [(500000, .box [.d (.sl .u8), .d (.int .i64)], .same)], 6⟩
noncomputable def f134v0 (a : i134v0.Y) : Option o134v0.Y :=
(jzZ (((), (([([97] : Str), ([98] : Str), ([97, 47, 98] : Str), ([97, 47, 99] : Str), ([97, 47, 98, 47, 99] : Str), ([108, 105, 98] : Str), ([108, 105, 98, 47, 120] : Str), ([108, 105, 98, 47, 120, 46, 99] : Str), ([100, 111, 99, 47, 121] : Str), ([98, 105, 110] : Str), ([98, 105, 110, 47, 122] : Str), ([97, 47, 98, 47, 99, 47, 100, 47, 101] : Str)] : List Str), ())), ((a.2.1.1, (a.2.1.2.1, ())), ()))).bind fun r312 =>
 some (((), (r312.1.2.1, ())), ((r312.2.1.1, (r312.2.1.2.1, ())), ()))
theorem e134v0 : ∀ a, f134v0 a = jjo (jjd c134v0 []) b134v0 i134v0 o134v0 a := fun a => by kernel_rfl
noncomputable def S134v0 : jjF := jjf tt 6 i134v0 o134v0 [.tmp 2] [0] f134v0
theorem z134v0 (h : ∀ T, (tt T).ok Pz T) (h18v0 : jja Pz 18 jqt) : jja Pz 134 S134v0 :=
 have H := k134v0 h h18v0
 jjk (fn := Tryz.f134) (fr := []) H (by kernel_rfl) (by kernel_rfl) (by kernel_rfl) (by kernel_rfl) (by kernel_rfl) jje (by kernel_rfl) (fun y => ⟨_, _, rfl, rfl, rfl⟩) e134v0
noncomputable def c114 : Ctx := { tt := tt, fs := fun n => match n with | _ => none }
theorem k114 (h : ∀ T, (tt T).ok Pz T) : CtxGood Pz c114 := ⟨⟨h⟩, fun g S hg => (by cases hg), jjp, fun _ _ h => (by cases h), fun _ h => (by cases h)⟩
noncomputable def b114 : Code := jji Tryz.f114
@[reducible] noncomputable def s114_452 : Shape := ⟨[(0, .lf (.d (.str))), (1, .lf (.d (.int .i64))), (5, .lf (.d (.str)))], [], 20⟩
@[reducible] noncomputable def t114_452 : List OSh := [(.norm, ⟨[(0, .lf (.d (.str))), (1, .lf (.d (.int .i64))), (5, .lf (.d (.str)))], [], 20⟩)]
noncomputable def jzH (y : s114_452.Y) : Option (YS t114_452) :=
(remI y.1.2.1 (2 : Int)).bind fun x330 =>
 bif (x330 == (1 : Int)) then
(cat y.1.2.2.1 y.1.1).bind fun x331 =>
 some (((y.1.1, (y.1.2.1, (x331, ()))), ()))
else
 some (((y.1.1, (y.1.2.1, (y.1.2.2.1, ()))), ()))
theorem r114_452 : ∀ y, jzH y = jjK (jjd c114 []) (jjc (jjl (jjc b114 1 28)) 56 452) 452 s114_452 t114_452 y := fun y => by kernel_rfl
theorem q114_452 (H : CtxGood Pz c114) : jjn Pz (jjc (jjl (jjc b114 1 28)) 56 452) (jjb s114_452 t114_452 jzH) :=
 jjw (fr := []) H (by kernel_rfl) jje r114_452
@[reducible] noncomputable def s114_28 : Shape := ⟨[(0, .lf (.d (.str))), (1, .lf (.d (.int .i64))), (5, .lf (.d (.str)))], [], 20⟩
@[reducible] noncomputable def t114_28 : List OSh := [(.exit 0, ⟨[(5, .lf (.d (.str)))], [], 20⟩)]
noncomputable def g114_28 (y : s114_28.Y) : Option (Sum s114_28.Y (YS t114_28)) :=
 bif (decide (y.1.2.1 > (0 : Int))) then
(jzH ((y.1.1, (y.1.2.1, (y.1.2.2.1, ()))), ())).bind fun r336 =>
(cat r336.1.1 r336.1.1).bind fun x338 =>
(quoI .i64 r336.1.2.1 (2 : Int)).bind fun x339 =>
 some (.inl ((x338, (x339, (r336.1.2.2.1, ()))), ()))
else
 some (.inr (((y.1.2.2.1, ()), ())))
theorem r114_28 : ∀ y, g114_28 y = jjz (jjd c114 [(452, jjb s114_452 t114_452 jzH)]) (jjl (jjc b114 1 28)) 28 s114_28 t114_28 y := fun y => by kernel_rfl
noncomputable def l114_28 : s114_28.Y → Option (YS t114_28) := jjC g114_28
theorem q114_28 (H : CtxGood Pz c114) : jjn Pz (jjc b114 1 28) (jjb s114_28 t114_28 l114_28) :=
 jjt (fr := [(452, jjb s114_452 t114_452 jzH)]) H (by kernel_rfl) (by kernel_rfl) ⟨q114_452 H, trivial⟩ (fun y => jjh r114_28 y)
@[reducible] noncomputable def i114 : Shape := ⟨[(0, .lf (.d (.str))), (1, .lf (.d (.int .i64)))], [], 20⟩
@[reducible] noncomputable def o114 : Shape := ⟨[(4, .lf (.d (.str)))], [], 20⟩
noncomputable def f114 (a : i114.Y) : Option o114.Y :=
(l114_28 ((a.1.1, (a.1.2.1, (([] : Str), ()))), ())).bind fun r341 =>
 some ((r341.1.1, ()), ())
theorem e114 : ∀ a, f114 a = jjo (jjd c114 [(28, jjb s114_28 t114_28 l114_28)]) b114 i114 o114 a := fun a => by kernel_rfl
noncomputable def S114 : jjF := jjf tt 20 i114 o114 [.tmp 4] [] f114
theorem z114 (h : ∀ T, (tt T).ok Pz T) : jja Pz 114 S114 :=
 have H := k114 h
 jjk (fn := Tryz.f114) (fr := [(28, jjb s114_28 t114_28 l114_28)]) H (by kernel_rfl) (by kernel_rfl) (by kernel_rfl) (by kernel_rfl) (by kernel_rfl) ⟨q114_28 H, trivial⟩ (by kernel_rfl) (fun y => ⟨_, _, rfl, rfl, rfl⟩) e114
noncomputable def c135v0 : Ctx := { tt := tt, fs := fun n => match n with | 18 => some jqt | 114 => some S114 | _ => none }
theorem k135v0 (h : ∀ T, (tt T).ok Pz T) (h18v0 : jja Pz 18 jqt) (h114 : jja Pz 114 S114) : CtxGood Pz c135v0 := ⟨⟨h⟩, fun g S hg => (by
 simp only [c135v0] at hg
 split at hg
 ·cases hg; exact h18v0
 ·cases hg; exact h114
 ·cases hg), jjp, fun _ _ h => (by cases h), fun _ h => (by cases h)⟩
noncomputable def b135v0 : Code := jji Tryz.f135
@[reducible] noncomputable def i135v0 : Shape := ⟨[(0, .lf (.ptr 500000 0))], [(500000, .box [.d (.sl .u8), .d (.int .i64)], .same)], 7⟩
@[reducible] noncomputable def o135v0 : Shape := ⟨[(0, .lf (.ptr 500000 0)), (2, .lf (.d (.str)))], [(500000, .box [.d (.sl .u8), .d (.int .i64)], .same)], 7⟩
noncomputable def f135v0 (a : i135v0.Y) : Option o135v0.Y :=
(f114 ((([116] : Str), ((80 : Int), ())), ())).bind fun r344 =>
(jzZ (((), (([([] : Str), ([111, 110, 101, 10] : Str), ([111, 110, 101, 10, 116, 119, 111, 10, 116, 104, 114, 101, 101, 10] : Str), ([110, 111, 32, 101, 110, 100] : Str), ([97, 10, 98, 10, 99, 10, 100, 10, 101, 10, 102, 10, 103, 10] : Str), r344.1.1] : List Str), ())), ((a.2.1.1, (a.2.1.2.1, ())), ()))).bind fun r345 =>
 some (((), (r345.1.2.1, ())), ((r345.2.1.1, (r345.2.1.2.1, ())), ()))
theorem e135v0 : ∀ a, f135v0 a = jjo (jjd c135v0 []) b135v0 i135v0 o135v0 a := fun a => by kernel_rfl
noncomputable def S135v0 : jjF := jjf tt 7 i135v0 o135v0 [.tmp 2] [0] f135v0
theorem z135v0 (h : ∀ T, (tt T).ok Pz T) (h18v0 : jja Pz 18 jqt) (h114 : jja Pz 114 S114) : jja Pz 135 S135v0 :=
 have H := k135v0 h h18v0 h114
 jjk (fn := Tryz.f135) (fr := []) H (by kernel_rfl) (by kernel_rfl) (by kernel_rfl) (by kernel_rfl) (by kernel_rfl) jje (by kernel_rfl) (fun y => ⟨_, _, rfl, rfl, rfl⟩) e135v0
noncomputable def c110v0 : Ctx := { tt := tt, fs := fun n => match n with | 17 => some jqa | 113 => some S113v0 | 134 => some S134v0 | 135 => some S135v0 | _ => none }
theorem k110v0 (h : ∀ T, (tt T).ok Pz T) (h17v0 : jja Pz 17 jqa) (h113v0 : jja Pz 113 S113v0) (h134v0 : jja Pz 134 S134v0) (h135v0 : jja Pz 135 S135v0) : CtxGood Pz c110v0 := ⟨⟨h⟩, fun g S hg => (by
 simp only [c110v0] at hg
 split at hg
 ·cases hg; exact h17v0
 ·cases hg; exact h113v0
 ·cases hg; exact h134v0
 ·cases hg; exact h135v0
 ·cases hg), jjp, fun _ _ h => (by cases h), fun _ h => (by cases h)⟩
noncomputable def b110v0 : Code := jji Tryz.f110
@[reducible] noncomputable def i110v0 : Shape := ⟨[(0, .lf (.ptr 500000 0))], [(500000, .box [.d (.sl .u8), .d (.int .i64)], .same)], 26⟩
@[reducible] noncomputable def o110v0 : Shape := ⟨[(0, .lf (.ptr 500000 0)), (2, .lf (.ptr 2 0))], [(500000, .box [.d (.sl .u8), .d (.int .i64)], .same), (2, .box [.d (.str), .d (.int .i64), .d (.int .i64), .d (.str)], .same)], 26⟩
noncomputable def f110v0 (a : i110v0.Y) : Option o110v0.Y :=
(f134v0 (((), ()), ((a.2.1.1, (a.2.1.2.1, ())), ()))).bind fun r351 =>
(f113v0 (((), (([(1 : Int), (1 : Int), (2 : Int), (2 : Int), (3 : Int)] : List Int), ())), ((r351.2.1.1, (r351.2.1.2.1, ())), ()))).bind fun r352 =>
(jq3 (((), ((8 : Int), ())), ((r352.2.1.1, (r352.2.1.2.1, ())), ()))).bind fun r353 =>
 bif (r352.1.2.1 == (2 : Int)) then
(f135v0 (((), ()), ((r353.2.1.1, (r353.2.1.2.1, ())), ()))).bind fun r354 =>
 some (((), ((), ())), ((r354.2.1.1, (r354.2.1.2.1, ())), ((r351.1.2.1, (r352.1.2.1, (r353.1.2.1, (r354.1.2.1, ())))), ())))
else
 bif (r352.1.2.1 == (3 : Int)) then
(f134v0 (((), ()), ((r353.2.1.1, (r353.2.1.2.1, ())), ()))).bind fun r355 =>
 some (((), ((), ())), ((r355.2.1.1, (r355.2.1.2.1, ())), ((r351.1.2.1, (r352.1.2.1, ((0 : Int), (r355.1.2.1, ())))), ())))
else
 some (((), ((), ())), ((r353.2.1.1, (r353.2.1.2.1, ())), ((r351.1.2.1, (r352.1.2.1, (r353.1.2.1, (([] : Str), ())))), ())))
theorem e110v0 : ∀ a, f110v0 a = jjo (jjd c110v0 []) b110v0 i110v0 o110v0 a := fun a => by kernel_rfl
noncomputable def S110v0 : jjF := jjf tt 26 i110v0 o110v0 [.cell 2 100] [0] f110v0
theorem z110v0 (h : ∀ T, (tt T).ok Pz T) (h17v0 : jja Pz 17 jqa) (h113v0 : jja Pz 113 S113v0) (h134v0 : jja Pz 134 S134v0) (h135v0 : jja Pz 135 S135v0) : jja Pz 110 S110v0 :=
 have H := k110v0 h h17v0 h113v0 h134v0 h135v0
 jjk (fn := Tryz.f110) (fr := []) H (by kernel_rfl) (by kernel_rfl) (by kernel_rfl) (by kernel_rfl) (by kernel_rfl) jje (by kernel_rfl) (fun y => ⟨_, _, rfl, rfl, rfl⟩) e110v0
noncomputable def c32v0 : Ctx := { tt := tt, fs := fun n => match n with | 18 => some jqt | _ => none }
theorem k32v0 (h : ∀ T, (tt T).ok Pz T) (h18v0 : jja Pz 18 jqt) : CtxGood Pz c32v0 := ⟨⟨h⟩, fun g S hg => (by
 simp only [c32v0] at hg
 split at hg
 ·cases hg; exact h18v0
 ·cases hg), jjp, fun _ _ h => (by cases h), fun _ h => (by cases h)⟩
noncomputable def b32v0 : Code := jji Tryz.f32
@[reducible] noncomputable def i32v0 : Shape := ⟨[(0, .lf (.ptr 500000 0))], [(500000, .box [.d (.sl .u8), .d (.int .i64)], .same)], 6⟩
@[reducible] noncomputable def o32v0 : Shape := ⟨[(0, .lf (.ptr 500000 0)), (2, .lf (.d (.str)))], [(500000, .box [.d (.sl .u8), .d (.int .i64)], .same)], 6⟩
noncomputable def f32v0 (a : i32v0.Y) : Option o32v0.Y :=
(jzZ (((), (([([49] : Str), ([49, 46, 48] : Str), ([49, 46, 49] : Str), ([49, 46, 50] : Str), ([50] : Str), ([48, 46, 57, 46, 57] : Str), ([49, 46, 49, 48] : Str), ([57, 57, 57, 46, 57, 57, 57, 46, 57, 57, 57, 46, 57, 57, 57] : Str)] : List Str), ())), ((a.2.1.1, (a.2.1.2.1, ())), ()))).bind fun r60 =>
 some (((), (r60.1.2.1, ())), ((r60.2.1.1, (r60.2.1.2.1, ())), ()))
theorem e32v0 : ∀ a, f32v0 a = jjo (jjd c32v0 []) b32v0 i32v0 o32v0 a := fun a => by kernel_rfl
noncomputable def S32v0 : jjF := jjf tt 6 i32v0 o32v0 [.tmp 2] [0] f32v0
theorem z32v0 (h : ∀ T, (tt T).ok Pz T) (h18v0 : jja Pz 18 jqt) : jja Pz 32 S32v0 :=
 have H := k32v0 h h18v0
 jjk (fn := Tryz.f32) (fr := []) H (by kernel_rfl) (by kernel_rfl) (by kernel_rfl) (by kernel_rfl) (by kernel_rfl) jje (by kernel_rfl) (fun y => ⟨_, _, rfl, rfl, rfl⟩) e32v0
theorem jqK (a) (m : Nat) (h : RD a.2.1.1 a.2.1.2.1 m) (hm : 1 ≤ m) : Ev (jq3 a) (fun r => RD r.2.1.1 r.2.1.2.1 (m - 1) ∧ (0 : Int) ≤ r.1.2.1 ∧ ((1 : Int) ≤ a.1.2.1 → (r.1.2.1 : Int) < a.1.2.1)) := by
 obtain ⟨⟨u1, (n : Int), u2⟩, ⟨⟨(b : List Int), (p : Int), u3⟩, u4⟩⟩ := a
 have h : RD b p m := h
 obtain ⟨h1, h2, h3, h4⟩ := h
 have e1 : IntKind.i64.wrap (p + 1) = p + 1 := jjG (by omega) (by omega)
 have e2 : IntKind.i64.wrap (p + 1 - 1) = p := by rw [show p + 1 - 1 = p by omega]; exact jjG (by omega) (by omega)
 have R : RD b (p + 1) (m - 1) := ⟨h1, h2, by omega, by omega⟩
 unfold jq3
 simp only [e1]
 have hg : jzF (((), (n, ())), ((b, (p + 1, ())), ())) = some ((((), (n, ((decide (n < 1) || (b.length : Int) == 0), ()))), ((b, (p + 1, ())), ()))) := by
  unfold jzF
  cases decide (n < 1) <;> rfl
 refine Ev.eq hg ?_
 refine Ev.ite (fun hc => Ev.ret ⟨R, Int.le_refl _, fun hn => hn⟩) fun hc => ?_
 have hc : (decide (n < 1) || (b.length : Int) == 0) = false := hc
 simp only [Bool.or_eq_false_iff, decide_eq_false_iff_not, beq_eq_false_iff_ne, ne_eq] at hc
 have hn : 1 ≤ n := by omega
 have hb : 0 < b.length := by omega
 simp only [e2]
 refine Ev.ite (fun hd => ?_) fun hd => ?_
 ·have hd : p < (b.length : Int) := of_decide_eq_true hd
  obtain ⟨x, k1, k2⟩ := ix_in (xs := b) h3 hd
  obtain ⟨k3, k4⟩ := h2 x k2
  refine Ev.eq k1 ?_
  have e3 : IntKind.i64.wrap x = x := jjG (by omega) (by omega)
  refine Ev.eq (x := x % n) (by show remI (IntKind.i64.wrap x) n = _; rw [e3]; exact rem_nn k3 (by omega)) ?_
  exact Ev.ret ⟨R, Int.emod_nonneg _ (by omega), fun _ => Int.emod_lt_of_pos _ (by omega)⟩
 ·have hl : 0 < (b.length : Int) := by omega
  have m7 : IntKind.i64.wrap (IntKind.i64.wrap (p * 7) + 3) = p * 7 + 3 := by rw [jjG (n := p * 7) (by omega) (by omega)]; exact jjG (by omega) (by omega)
  obtain ⟨x, k1, k2⟩ := ix_in (xs := b) (Int.emod_nonneg p (b := (b.length : Int)) (by omega)) (Int.emod_lt_of_pos p hl)
  obtain ⟨k3, k4⟩ := h2 x k2
  obtain ⟨y, l1, l2⟩ := ix_in (xs := b) (Int.emod_nonneg (p * 7 + 3) (b := (b.length : Int)) (by omega)) (Int.emod_lt_of_pos (p * 7 + 3) hl)
  obtain ⟨l3, l4⟩ := h2 y l2
  have q0 : 0 ≤ p / (b.length : Int) := Int.ediv_nonneg h3 (by omega)
  have q1 : p / (b.length : Int) ≤ p := Int.ediv_le_self _ h3
  refine Ev.eq (x := p % (b.length : Int)) (rem_nn h3 hl) ?_
  refine Ev.eq k1 ?_
  refine Ev.eq (x := (p * 7 + 3) % (b.length : Int)) (by show remI (IntKind.i64.wrap (IntKind.i64.wrap (p * 7) + 3)) (b.length : Int) = _; rw [m7]; exact rem_nn (by omega) hl) ?_
  refine Ev.eq l1 ?_
  refine Ev.eq (x := p / (b.length : Int)) (quo_nn rfl h3 (by omega) hl) ?_
  have w1 : IntKind.i64.wrap x = x := jjG (by omega) (by omega)
  have w2 : IntKind.i64.wrap y = y := jjG (by omega) (by omega)
  have w3 : IntKind.i64.wrap (x * 131) = x * 131 := jjG (by omega) (by omega)
  have w4 : IntKind.i64.wrap (y * 1117) = y * 1117 := jjG (by omega) (by omega)
  have w5 : IntKind.i64.wrap (x * 131 + y * 1117) = x * 131 + y * 1117 := jjG (by omega) (by omega)
  have w6 : IntKind.i64.wrap (p * 29) = p * 29 := jjG (by omega) (by omega)
  have w7 : IntKind.i64.wrap (x * 131 + y * 1117 + p * 29) = x * 131 + y * 1117 + p * 29 := jjG (by omega) (by omega)
  have w8 : IntKind.i64.wrap (p / (b.length : Int) * 53) = p / (b.length : Int) * 53 := jjG (by omega) (by omega)
  have w9 : IntKind.i64.wrap (x * 131 + y * 1117 + p * 29 + p / (b.length : Int) * 53) = x * 131 + y * 1117 + p * 29 + p / (b.length : Int) * 53 := jjG (by omega) (by omega)
  simp only [w1, w2, w3, w4, w5, w6, w7, w8, w9]
  have n0 : 0 ≤ x * 131 + y * 1117 + p * 29 + p / (b.length : Int) * 53 := by omega
  have n1 : x * 131 + y * 1117 + p * 29 + p / (b.length : Int) * 53 < 4611686018427387904 := by omega
  generalize x * 131 + y * 1117 + p * 29 + p / (b.length : Int) * 53 = X at n0 n1
  refine Ev.eq (x := X / 64) (quo_nn rfl n0 (by omega) (by decide)) ?_
  have hx := xor_nn n0 n1 (Int.ediv_nonneg n0 (by decide : (0 : Int) ≤ 64)) (Int.lt_of_le_of_lt (Int.ediv_le_self 64 n0) n1)
  refine Ev.eq (x := xorI .i64 X (X / 64) % n) (rem_nn hx (by omega)) ?_
  exact Ev.ret ⟨R, Int.emod_nonneg _ (by omega), fun _ => Int.emod_lt_of_pos _ (by omega)⟩
theorem v_of (a) (m : Nat) (h : RD a.2.1.1 a.2.1.2.1 m) (hm : 1 ≤ m) (hl : (1 : Int) ≤ (a.1.2.1 : List Str).length) : Ev (jzZ a) (fun r => RD r.2.1.1 r.2.1.2.1 (m - 1) ∧ r.1.2.1 ∈ (a.1.2.1 : List Str)) := by
 unfold jzZ
 refine Ev.bind (jqK _ m h hm) fun r hr => ?_
 obtain ⟨x, k1, k2⟩ := ix_in (xs := (a.1.2.1 : List Str)) hr.2.1 (hr.2.2 hl)
 exact Ev.eq k1 (Ev.ret ⟨hr.1, k2⟩)
theorem v_one (a) (m : Nat) (h : RD a.2.1.1 a.2.1.2.1 m) (hm : 1 ≤ m) (hl : (1 : Int) ≤ (a.1.2.1 : List Int).length) : Ev (f113v0 a) (fun r => RD r.2.1.1 r.2.1.2.1 (m - 1) ∧ r.1.2.1 ∈ (a.1.2.1 : List Int)) := by
 unfold f113v0
 refine Ev.bind (jqK _ m h hm) fun r hr => ?_
 obtain ⟨x, k1, k2⟩ := ix_in (xs := (a.1.2.1 : List Int)) hr.2.1 (hr.2.2 hl)
 exact Ev.eq k1 (Ev.ret ⟨hr.1, k2⟩)
abbrev Sh (s : Str) : Prop := s.length ≤ 200
theorem sh_all {L : List Str} (h : L.all (fun s => decide (s.length ≤ 200)) = true) {s : Str} (hs : s ∈ L) : Sh s := of_decide_eq_true (List.all_eq_true.1 h s hs)
theorem jz3 (a) (m : Nat) (h : RD a.2.1.1 a.2.1.2.1 m) (hm : 1 ≤ m) : Ev (f32v0 a) (fun r => RD r.2.1.1 r.2.1.2.1 (m - 1) ∧ Sh r.1.2.1) := by
 unfold f32v0
 refine Ev.bind (v_of _ m h hm (by simp)) fun r hr => Ev.ret ⟨hr.1, sh_all (by rfl) hr.2⟩
theorem v_l11Path (a) (m : Nat) (h : RD a.2.1.1 a.2.1.2.1 m) (hm : 1 ≤ m) : Ev (f134v0 a) (fun r => RD r.2.1.1 r.2.1.2.1 (m - 1) ∧ Sh r.1.2.1) := by
 unfold f134v0
 refine Ev.bind (v_of _ m h hm (by simp)) fun r hr => Ev.ret ⟨hr.1, sh_all (by rfl) hr.2⟩
theorem v_l1Many (a) (hs : (a.1.1 : Str).length ≤ 1) (h0 : (0 : Int) ≤ a.1.2.1) (h1 : (a.1.2.1 : Int) ≤ 127) : Ev (f114 a) (fun r => Sh r.1.1) := by
 obtain ⟨⟨(s : Str), (n : Int), u⟩, u'⟩ := a
 unfold f114
 have key : Ev (l114_28 ((s, (n, (([] : Str), ()))), ())) (fun r => Sh r.1.1) := by
  refine Ev.loop (fun (k : Nat) y => (0 : Int) ≤ y.1.2.1 ∧ (y.1.2.1 : Int).toNat = k ∧ (y.1.2.1 : Int).toNat * (y.1.1 : Str).length + (y.1.2.2.1 : Str).length ≤ 127 ∧ (y.1.1 : Str).length ≤ 256 ∧ (y.1.2.1 : Int) ≤ 127) (fun k y hy => ?_) n.toNat _ ⟨h0, rfl, ?_, by show s.length ≤ 256; have : s.length ≤ 1 := hs; omega, h1⟩
  ·obtain ⟨⟨(s : Str), (n : Int), (out : Str), u⟩, u'⟩ := y
   obtain ⟨y1, y2, y3, y4, y5⟩ := hy
   have y5 : n ≤ 127 := y5
   have y1 : 0 ≤ n := y1
   have y3 : n.toNat * s.length + out.length ≤ 127 := y3
   have y4 : s.length ≤ 256 := y4
   unfold g114_28
   refine Ev.ite (fun hc => ?_) fun hc => ?_
   ·have hc : n > 0 := of_decide_eq_true hc
    have hN : 1 ≤ n.toNat := by omega
    have hsl : s.length ≤ 127 := by have := Nat.mul_le_mul_right s.length hN; omega
    have piece : Ev (jzH ((s, (n, (out, ()))), ())) (fun r => r.1.1 = s ∧ r.1.2.1 = n ∧ (n % 2 = 1 ∧ (r.1.2.2.1 : Str).length = out.length + s.length ∨ n % 2 = 0 ∧ (r.1.2.2.1 : Str).length = out.length)) := by
     unfold jzH
     refine Ev.eq (x := n % 2) (rem_nn y1 (by decide)) ?_
     refine Ev.ite (fun hd => ?_) fun hd => ?_
     ·have hd : n % 2 = 1 := by simpa using hd
      exact Ev.eq (ev_cat (s := out) (t := s) (by omega)) (Ev.ret ⟨rfl, rfl, .inl ⟨hd, by simp⟩⟩)
     ·have hd : ¬ n % 2 = 1 := by simpa using hd
      exact Ev.ret ⟨rfl, rfl, .inr ⟨by omega, rfl⟩⟩
    refine Ev.bind piece fun r hr => ?_
    obtain ⟨⟨(s' : Str), (n' : Int), (out' : Str), v⟩, v'⟩ := r
    obtain ⟨r1, r2, r3⟩ := hr
    have r1 : s' = s := r1
    have r2 : n' = n := r2
    subst r1 r2
    refine Ev.eq (ev_cat (s := s') (t := s') (by omega)) ?_
    refine Ev.eq (x := n' / 2) (quo_nn (x := n') rfl y1 (by omega) (by decide)) ?_
    refine Ev.ret ⟨(n' / 2).toNat, ?_, ?_⟩
    ·show (n' / 2).toNat < k
     have : n'.toNat = k := y2
     omega
    ·refine ⟨by show 0 ≤ n' / 2; omega, rfl, ?_, by show (s' ++ s').length ≤ 256; simp; omega, by show n' / 2 ≤ 127; omega⟩
     show (n' / 2).toNat * (s' ++ s').length + out'.length ≤ 127
     have r3 : n' % 2 = 1 ∧ out'.length = out.length + s'.length ∨ n' % 2 = 0 ∧ out'.length = out.length := r3
     obtain ⟨q, hq⟩ : ∃ q : Nat, (n' / 2).toNat = q := ⟨_, rfl⟩
     rw [hq, List.length_append]
     rcases r3 with ⟨r3, r4⟩ | ⟨r3, r4⟩
     ·have e : n'.toNat = 2 * q + 1 := by omega
      rw [e] at y3
      rw [r4]
      have : (2 * q + 1) * s'.length = q * (s'.length + s'.length) + s'.length := by rw [Nat.add_mul, Nat.one_mul, Nat.mul_assoc, Nat.mul_add]; omega
      omega
     ·have e : n'.toNat = 2 * q := by omega
      rw [e] at y3
      rw [r4]
      have : 2 * q * s'.length = q * (s'.length + s'.length) := by rw [Nat.mul_add, Nat.mul_assoc]; omega
      omega
   ·exact Ev.ret (show out.length ≤ 200 by omega)
  ·show n.toNat * s.length + 0 ≤ 127
   have hs : s.length ≤ 1 := hs
   have h1 : n ≤ 127 := h1
   have : n.toNat * s.length ≤ n.toNat * 1 := Nat.mul_le_mul_left _ hs
   omega
 exact Ev.bind key fun r hr => Ev.ret hr
theorem v_l11Text (a) (m : Nat) (h : RD a.2.1.1 a.2.1.2.1 m) (hm : 1 ≤ m) : Ev (f135v0 a) (fun r => RD r.2.1.1 r.2.1.2.1 (m - 1) ∧ Sh r.1.2.1) := by
 unfold f135v0
 refine Ev.bind (v_l1Many _ (by simp) (by show (0 : Int) ≤ 80; decide) (by show (80 : Int) ≤ 127; decide)) fun q hq => ?_
 refine Ev.bind (v_of _ m h hm (by simp)) fun r hr => Ev.ret ⟨hr.1, ?_⟩
 have := hr.2
 simp only [List.mem_cons, List.not_mem_nil, or_false] at this
 rcases this with e | e | e | e | e | e
 ·show (r.1.2.1 : Str).length ≤ 200; rw [e]; decide
 ·show (r.1.2.1 : Str).length ≤ 200; rw [e]; decide
 ·show (r.1.2.1 : Str).length ≤ 200; rw [e]; decide
 ·show (r.1.2.1 : Str).length ≤ 200; rw [e]; decide
 ·show (r.1.2.1 : Str).length ≤ 200; rw [e]; decide
 ·show (r.1.2.1 : Str).length ≤ 200; rw [e]; exact hq
abbrev ShE (e : Entry) : Prop := Sh e.path ∧ Sh e.text
theorem v_l11Entry (a) (m : Nat) (h : RD a.2.1.1 a.2.1.2.1 m) (hm : 4 ≤ m) : Ev (f110v0 a) (fun r => RD r.2.1.1 r.2.1.2.1 (m - 4) ∧ ShE ⟨r.2.2.1.1, r.2.2.1.2.1, r.2.2.1.2.2.1, r.2.2.1.2.2.2.1⟩) := by
 unfold f110v0
 refine Ev.bind (v_l11Path _ m h (by omega)) fun r1 h1 => ?_
 refine Ev.bind (v_one _ (m - 1) h1.1 (by omega) (by simp)) fun r2 h2 => ?_
 refine Ev.bind (jqK _ (m - 1 - 1) h2.1 (by omega)) fun r3 h3 => ?_
 refine Ev.ite (fun _ => ?_) fun _ => Ev.ite (fun _ => ?_) fun _ => ?_
 ·exact Ev.bind (v_l11Text _ _ h3.1 (by omega)) fun r4 h4 => Ev.ret ⟨h4.1.less (by omega), h1.2, h4.2⟩
 ·exact Ev.bind (v_l11Path _ _ h3.1 (by omega)) fun r4 h4 => Ev.ret ⟨h4.1.less (by omega), h1.2, h4.2⟩
 ·exact Ev.ret ⟨h3.1.less (by omega), h1.2, show (0 : Nat) ≤ 200 by decide⟩
theorem v_l2Copy (a) (h : Bd a.1.1.length) : f86 a = some (((), ()), (a.1.1, ())) := by
 obtain ⟨⟨t, u⟩, u'⟩ := a
 have h : t.length ≤ 2097152 := h
 simp only [f86, jj0 (show (48 : Nat) ≤ 100 by decide) (show Sm (([] : List Entry).length + t.length) by unfold Sm; simp; omega), List.nil_append, Option.bind_some]
abbrev ShT (t : List Entry) : Prop := t.length ≤ 16 ∧ ∀ e, e ∈ t → ShE e
theorem shE_set {t : List Entry} {k : Nat} {e : Entry} (h : ∀ e, e ∈ t → ShE e) (he : ShE e) : ∀ x, x ∈ t.set k e → ShE x := by
 intro x hx
 rcases List.mem_or_eq_of_mem_set hx with hx | hx
 ·exact h x hx
 ·rw [hx]; exact he
theorem v_l2Put (a) (ht : ShT a.1.1) (he : ShE ⟨a.1.2.1.1, a.1.2.1.2.1, a.1.2.1.2.2.1, a.1.2.1.2.2.2.1⟩) : Ev (f109 a) (fun r => ShT r.2.1) := by
 obtain ⟨⟨t, ⟨path, kind, mode, text, u0⟩, u⟩, u'⟩ := a
 obtain ⟨h1, h2⟩ := ht
 have h1 : t.length ≤ 16 := h1
 have he : ShE ⟨path, kind, mode, text⟩ := he
 have hb : Bd t.length := by unfold Bd; omega
 unfold f109
 refine Ev.eq (v_l2At ((t, (path, ())), ()) hb) ?_
 refine Ev.eq (v_l2Copy ((t, ()), ()) hb) ?_
 have hp := jJ7 t path
 have e1 := v_l2Entry (((path, (kind, (mode, (text, ())))), ()), ()) (Nat.le_trans he.1 (by decide)) (Nat.le_trans he.2 (by decide))
 have e2 := v_l1Up ((path, ()), ()) (Nat.le_trans he.1 (by decide))
 have e3 := v_l2Dir ((t, (upL path, ())), ()) hb
 obtain ⟨c, hc⟩ : ∃ c : Bool, jzJ ((t, ((), ((), (false, ((jj4 t path : Int), (jxR t path, ((), ()))))))), ((path, (kind, (mode, (text, ())))), (([] : List Entry), (t, ())))) =
   some ((t, ((), ((), (false, ((jj4 t path : Int), (jxR t path, ((), (c, ())))))))), ((path, (kind, (mode, (text, ())))), (([] : List Entry), (t, ())))) := by
  unfold jzJ
  simp only [e1, Option.bind_some, Bool.not_not]
  cases entOk ⟨path, kind, mode, text⟩ with
  | false => exact ⟨true, rfl⟩
  | true => simp only [cond_true, e2, Option.bind_some, e3]; exact ⟨_, rfl⟩
 refine Ev.eq hc ?_
 refine Ev.ite (fun _ => Ev.ret ⟨h1, h2⟩) fun _ => ?_
 obtain ⟨d, hd⟩ : ∃ d : Bool, jzI ((t, ((), ((), (false, ((jj4 t path : Int), (jxR t path, ((), ()))))))), ((path, (kind, (mode, (text, ())))), (([] : List Entry), (t, ())))) =
   some ((t, ((), ((), (false, ((jj4 t path : Int), (jxR t path, ((), (d, ())))))))), ((path, (kind, (mode, (text, ())))), (([] : List Entry), (t, ())))) := by
  unfold jzI
  cases hh : jxR t path with
  | false => exact ⟨false, rfl⟩
  | true =>
   unfold jxR at hh
   cases hq : t[jj4 t path]? with
   | none => rw [hq] at hh; cases hh
   | some e => simp only [cond_true, jjs, hq, Option.bind_some]; exact ⟨_, rfl⟩
 refine Ev.eq hd ?_
 refine Ev.ite (fun _ => Ev.ret ⟨h1, h2⟩) fun _ => ?_
 refine Ev.ite (fun hh => ?_) fun _ => Ev.ite (fun _ => Ev.ret ⟨h1, h2⟩) fun hl => ?_
 ·have hh : jxR t path = true := hh
  unfold jxR at hh
  cases hq : t[jj4 t path]? with
  | none => rw [hq] at hh; cases hh
  | some e =>
   refine Ev.eq (jqQ (jjv hq)) ?_
   refine Ev.eq (x := Entry.mk path kind mode text) (by show (t[jj4 t path]?).bind _ = _; rw [hq]; rfl) ?_
   exact Ev.ret ⟨by show (t.set _ _).length ≤ 16; rw [List.length_set]; exact h1, shE_set h2 he⟩
 ·have hl : ¬ ((t.length : Int) ≥ 16) := of_decide_eq_false hl
  refine Ev.eq (jzw hp) ?_
  refine Ev.eq (jj0 (by decide) (by unfold Sm; simp; omega)) ?_
  refine Ev.eq (jj0 (by decide) (by unfold Sm; simp; omega)) ?_
  refine Ev.eq (jxG hp) ?_
  refine Ev.eq (jj0 (by decide) (by unfold Sm; simp; omega)) ?_
  refine Ev.ret ⟨?_, fun x hx => ?_⟩
  ·show (([] ++ t.take (jj4 t path) ++ [Entry.mk path kind mode text]) ++ t.drop (jj4 t path)).length ≤ 16
   simp; omega
  ·have hx : x ∈ ([] ++ t.take (jj4 t path) ++ [Entry.mk path kind mode text]) ++ t.drop (jj4 t path) := hx
   simp only [List.nil_append, List.mem_append, List.mem_singleton] at hx
   rcases hx with (hx | hx) | hx
   ·exact h2 x (List.mem_of_mem_take hx)
   ·rw [hx]; exact he
   ·exact h2 x (List.mem_of_mem_drop hx)
noncomputable def c153 : Ctx := { tt := tt, fs := fun n => match n with | 151 => some S151 | _ => none }
theorem k153 (h : ∀ T, (tt T).ok Pz T) (h151 : jja Pz 151 S151) : CtxGood Pz c153 := ⟨⟨h⟩, fun g S hg => (by
 simp only [c153] at hg
 split at hg
 ·cases hg; exact h151
 ·cases hg), jjp, fun _ _ h => (by cases h), fun _ h => (by cases h)⟩
noncomputable def b153 : Code := jji Tryz.f153
@[reducible] noncomputable def s153_28 : Shape := ⟨[(0, .lf (.d (.str))), (3, .lf (.d (.int .i64)))], [], 43⟩
@[reducible] noncomputable def t153_28 : List OSh := [(.norm, ⟨[(0, .lf (.d (.str))), (3, .lf (.d (.int .i64))), (12, .lf (.d (.bool)))], [], 43⟩)]
noncomputable def g153_28 (y : s153_28.Y) : Option (YS t153_28) :=
 bif (decide ((y.1.1.length : Int) > (1 : Int))) then
(ix y.1.1 (1 : Int)).bind fun x470 =>
 some (((y.1.1, (y.1.2.1, (((x470.toNat : Int) == (33 : Int)), ()))), ()))
else
 some (((y.1.1, (y.1.2.1, (false, ()))), ()))
theorem r153_28 : ∀ y, g153_28 y = jjK (jjd c153 []) (jjc (jjc b153 1 14) 14 28) 28 s153_28 t153_28 y := fun y => by kernel_rfl
theorem q153_28 (H : CtxGood Pz c153) : jjn Pz (jjc (jjc b153 1 14) 14 28) (jjb s153_28 t153_28 g153_28) :=
 jjw (fr := []) H (by kernel_rfl) jje r153_28
@[reducible] noncomputable def s153_14 : Shape := ⟨[(0, .lf (.d (.str))), (3, .lf (.d (.int .i64)))], [], 43⟩
@[reducible] noncomputable def t153_14 : List OSh := [(.norm, ⟨[(0, .lf (.d (.str))), (3, .lf (.d (.int .i64)))], [], 43⟩)]
noncomputable def g153_14 (y : s153_14.Y) : Option (YS t153_14) :=
(g153_28 ((y.1.1, (y.1.2.1, ())), ())).bind fun r473 =>
 bif r473.1.2.2.1 then
 some (((r473.1.1, ((2 : Int), ())), ()))
else
 some (((r473.1.1, (r473.1.2.1, ())), ()))
theorem r153_14 : ∀ y, g153_14 y = jjK (jjd c153 [(28, jjb s153_28 t153_28 g153_28)]) (jjc b153 1 14) 14 s153_14 t153_14 y := fun y => by kernel_rfl
theorem q153_14 (H : CtxGood Pz c153) : jjn Pz (jjc b153 1 14) (jjb s153_14 t153_14 g153_14) :=
 jjw (fr := [(28, jjb s153_28 t153_28 g153_28)]) H (by kernel_rfl) ⟨q153_28 H, trivial⟩ r153_14
@[reducible] noncomputable def s153_124 : Shape := ⟨[(0, .lf (.d (.str))), (3, .lf (.d (.int .i64))), (4, .lf (.d (.int .i64)))], [], 43⟩
@[reducible] noncomputable def jJz : List OSh := [(.exit 0, ⟨[(0, .lf (.d (.str))), (3, .lf (.d (.int .i64))), (4, .lf (.d (.int .i64)))], [], 43⟩)]
noncomputable def g153_124 (y : s153_124.Y) : Option (Sum s153_124.Y (YS jJz)) :=
 bif (decide (y.1.2.1 < (y.1.1.length : Int))) then
(ix y.1.1 y.1.2.1).bind fun x482 =>
(f151 (((x482.toNat : Int), ()), ())).bind fun r483 =>
 bif r483.1.1 then
 some (.inl ((y.1.1, ((IntKind.i64.wrap (y.1.2.1 + (1 : Int))), (y.1.2.2.1, ()))), ()))
else
 some (.inr (((y.1.1, (y.1.2.1, (y.1.2.2.1, ()))), ())))
else
 some (.inr (((y.1.1, (y.1.2.1, (y.1.2.2.1, ()))), ())))
theorem r153_124 : ∀ y, g153_124 y = jjz (jjd c153 []) (jjl (jjc b153 1 124)) 124 s153_124 jJz y := fun y => by kernel_rfl
noncomputable def l153_124 : s153_124.Y → Option (YS jJz) := jjC g153_124
theorem q153_124 (H : CtxGood Pz c153) : jjn Pz (jjc b153 1 124) (jjb s153_124 jJz l153_124) :=
 jjt (fr := []) H (by kernel_rfl) (by kernel_rfl) jje (fun y => jjh r153_124 y)
@[reducible] noncomputable def s153_252 : Shape := ⟨[(0, .lf (.d (.str))), (3, .lf (.d (.int .i64))), (4, .lf (.d (.int .i64)))], [], 43⟩
@[reducible] noncomputable def t153_252 : List OSh := [(.norm, ⟨[(3, .lf (.d (.int .i64))), (40, .lf (.d (.bool)))], [], 43⟩)]
noncomputable def g153_252 (y : s153_252.Y) : Option (YS t153_252) :=
 bif (!(y.1.2.1 == y.1.2.2.1)) then
 bif (!(y.1.2.1 == (y.1.1.length : Int))) then
(ix y.1.1 y.1.2.1).bind fun x489 =>
 some (((y.1.2.1, (((x489.toNat : Int) != (93 : Int)), ())), ()))
else
 some (((y.1.2.1, (true, ())), ()))
else
 some (((y.1.2.1, (true, ())), ()))
theorem r153_252 : ∀ y, g153_252 y = jjK (jjd c153 []) (jjc b153 1 252) 252 s153_252 t153_252 y := fun y => by kernel_rfl
theorem q153_252 (H : CtxGood Pz c153) : jjn Pz (jjc b153 1 252) (jjb s153_252 t153_252 g153_252) :=
 jjw (fr := []) H (by kernel_rfl) jje r153_252
@[reducible] noncomputable def i153 : Shape := ⟨[(0, .lf (.d (.str)))], [], 43⟩
@[reducible] noncomputable def o153 : Shape := ⟨[(2, .lf (.d (.int .i64)))], [], 43⟩
noncomputable def f153 (a : i153.Y) : Option o153.Y :=
(g153_14 ((a.1.1, ((1 : Int), ())), ())).bind fun r492 =>
(l153_124 ((r492.1.1, (r492.1.2.1, (r492.1.2.1, ()))), ())).bind fun r493 =>
(g153_252 ((r493.1.1, (r493.1.2.1, (r493.1.2.2.1, ()))), ())).bind fun r495 =>
 bif r495.1.2.1 then
 some (((0 : Int), ()), ())
else
 some (((IntKind.i64.wrap (r495.1.1 + (1 : Int))), ()), ())
theorem e153 : ∀ a, f153 a = jjo (jjd c153 [(14, jjb s153_14 t153_14 g153_14), (124, jjb s153_124 jJz l153_124), (252, jjb s153_252 t153_252 g153_252)]) b153 i153 o153 a := fun a => by kernel_rfl
noncomputable def S153 : jjF := jjf tt 43 i153 o153 [.tmp 2] [] f153
theorem z153 (h : ∀ T, (tt T).ok Pz T) (h151 : jja Pz 151 S151) : jja Pz 153 S153 :=
 have H := k153 h h151
 jjk (fn := Tryz.f153) (fr := [(14, jjb s153_14 t153_14 g153_14), (124, jjb s153_124 jJz l153_124), (252, jjb s153_252 t153_252 g153_252)]) H (by kernel_rfl) (by kernel_rfl) (by kernel_rfl) (by kernel_rfl) (by kernel_rfl) ⟨q153_14 H, q153_124 H, q153_252 H, trivial⟩ (by kernel_rfl) (fun y => ⟨_, _, rfl, rfl, rfl⟩) e153
noncomputable def c143 : Ctx := { tt := tt, fs := fun n => match n with | 151 => some S151 | 153 => some S153 | _ => none }
theorem k143 (h : ∀ T, (tt T).ok Pz T) (h151 : jja Pz 151 S151) (h153 : jja Pz 153 S153) : CtxGood Pz c143 := ⟨⟨h⟩, fun g S hg => (by
 simp only [c143] at hg
 split at hg
 ·cases hg; exact h151
 ·cases hg; exact h153
 ·cases hg), jjp, fun _ _ h => (by cases h), fun _ h => (by cases h)⟩
noncomputable def b143 : Code := jji Tryz.f143
@[reducible] noncomputable def s143_6726 : Shape := ⟨[(0, .lf (.d (.str))), (3, .lf (.d (.int .i64)))], [], 45⟩
@[reducible] noncomputable def jz8 : List OSh := [(.norm, ⟨[(0, .lf (.d (.str))), (3, .lf (.d (.int .i64))), (26, .lf (.d (.bool)))], [], 45⟩)]
noncomputable def jxM (y : s143_6726.Y) : Option (YS jz8) :=
(ix y.1.1 y.1.2.1).bind fun x509 =>
 bif (!((x509.toNat : Int) == (42 : Int))) then
(ix y.1.1 y.1.2.1).bind fun x510 =>
 some (((y.1.1, (y.1.2.1, (((x510.toNat : Int) == (63 : Int)), ()))), ()))
else
 some (((y.1.1, (y.1.2.1, (true, ()))), ()))
theorem r143_6726 : ∀ y, jxM y = jjK (jjd c143 []) (jjc (jjl (jjc b143 1 26)) 52 6726) 6726 s143_6726 jz8 y := fun y => by kernel_rfl
theorem q143_6726 (H : CtxGood Pz c143) : jjn Pz (jjc (jjl (jjc b143 1 26)) 52 6726) (jjb s143_6726 jz8 jxM) :=
 jjw (fr := []) H (by kernel_rfl) jje r143_6726
@[reducible] noncomputable def s143_26 : Shape := ⟨[(0, .lf (.d (.str))), (3, .lf (.d (.int .i64)))], [], 45⟩
@[reducible] noncomputable def t143_26 : List OSh := [(.ret, ⟨[(2, .lf (.d (.bool)))], [], 45⟩), (.exit 0, ⟨[(0, .lf (.d (.str)))], [], 45⟩)]
noncomputable def g143_26 (y : s143_26.Y) : Option (Sum s143_26.Y (YS t143_26)) :=
 bif (decide (y.1.2.1 < (y.1.1.length : Int))) then
(ix y.1.1 y.1.2.1).bind fun x517 =>
 bif ((x517.toNat : Int) == (91 : Int)) then
(jqJ y.1.1 y.1.2.1 (y.1.1.length : Int)).bind fun x520 =>
(f153 ((x520, ()), ())).bind fun r521 =>
 bif (r521.1.1 == (0 : Int)) then
 some (.inr (.inl ((false, ()), ())))
else
 some (.inl ((y.1.1, ((IntKind.i64.wrap ((IntKind.i64.wrap ((IntKind.i64.wrap (y.1.2.1 + r521.1.1)) - (1 : Int))) + (1 : Int))), ())), ()))
else
(jxM ((y.1.1, (y.1.2.1, ())), ())).bind fun r522 =>
 bif r522.1.2.2.1 then
 some (.inl ((r522.1.1, ((IntKind.i64.wrap (r522.1.2.1 + (1 : Int))), ())), ()))
else
(ix r522.1.1 r522.1.2.1).bind fun x525 =>
(f151 (((x525.toNat : Int), ()), ())).bind fun r526 =>
 bif (!r526.1.1) then
 some (.inr (.inl ((false, ()), ())))
else
 some (.inl ((r522.1.1, ((IntKind.i64.wrap (r522.1.2.1 + (1 : Int))), ())), ()))
else
 some (.inr (.inr ((y.1.1, ()), ())))
theorem r143_26 : ∀ y, g143_26 y = jjz (jjd c143 [(6726, jjb s143_6726 jz8 jxM)]) (jjl (jjc b143 1 26)) 26 s143_26 t143_26 y := fun y => by kernel_rfl
noncomputable def l143_26 : s143_26.Y → Option (YS t143_26) := jjC g143_26
theorem q143_26 (H : CtxGood Pz c143) : jjn Pz (jjc b143 1 26) (jjb s143_26 t143_26 l143_26) :=
 jjt (fr := [(6726, jjb s143_6726 jz8 jxM)]) H (by kernel_rfl) (by kernel_rfl) ⟨q143_6726 H, trivial⟩ (fun y => jjh r143_26 y)
@[reducible] noncomputable def i143 : Shape := ⟨[(0, .lf (.d (.str)))], [], 45⟩
@[reducible] noncomputable def o143 : Shape := ⟨[(2, .lf (.d (.bool)))], [], 45⟩
noncomputable def f143 (a : i143.Y) : Option o143.Y :=
(l143_26 ((a.1.1, ((0 : Int), ())), ())).bind fun r536 =>
(match r536 with
| .inl r537 =>
 some ((r537.1.1, ()), ())
| .inr r538 =>
 some (((!(r538.1.1 == ([] : Str))), ()), ()))
theorem e143 : ∀ a, f143 a = jjo (jjd c143 [(26, jjb s143_26 t143_26 l143_26)]) b143 i143 o143 a := fun a => by kernel_rfl
noncomputable def S143 : jjF := jjf tt 45 i143 o143 [.tmp 2] [] f143
theorem z143 (h : ∀ T, (tt T).ok Pz T) (h151 : jja Pz 151 S151) (h153 : jja Pz 153 S153) : jja Pz 143 S143 :=
 have H := k143 h h151 h153
 jjk (fn := Tryz.f143) (fr := [(26, jjb s143_26 t143_26 l143_26)]) H (by kernel_rfl) (by kernel_rfl) (by kernel_rfl) (by kernel_rfl) (by kernel_rfl) ⟨q143_26 H, trivial⟩ (by kernel_rfl) (fun y => ⟨_, _, rfl, rfl, rfl⟩) e143
noncomputable def c131 : Ctx := { tt := tt, fs := fun n => match n with | 122 => some S122 | 143 => some S143 | _ => none }
theorem k131 (h : ∀ T, (tt T).ok Pz T) (h122 : jja Pz 122 S122) (h143 : jja Pz 143 S143) : CtxGood Pz c131 := ⟨⟨h⟩, fun g S hg => (by
 simp only [c131] at hg
 split at hg
 ·cases hg; exact h122
 ·cases hg; exact h143
 ·cases hg), jjp, fun _ _ h => (by cases h), fun _ h => (by cases h)⟩
noncomputable def b131 : Code := jji Tryz.f131
@[reducible] noncomputable def s131_58 : Shape := ⟨[(0, .lf (.d (.str))), (3, .lf (.own 3000192)), (4, .lf (.d (.int .i64)))], [(3000192, .row .str, .slot 3 0)], 30⟩
@[reducible] noncomputable def t131_58 : List OSh := [(.ret, ⟨[(2, .lf (.d (.bool)))], [], 30⟩), (.exit 0, ⟨[(0, .lf (.d (.str))), (3, .lf (.own 3000192))], [(3000192, .row .str, .slot 3 0)], 30⟩)]
noncomputable def g131_58 (y : s131_58.Y) : Option (Sum s131_58.Y (YS t131_58)) :=
 bif (decide (y.1.2.2.1 < (y.2.1.length : Int))) then
(inb y.2.1.length y.1.2.2.1).bind fun x546 =>
(y.2.1[x546]?).bind fun x547 =>
(f143 ((x547, ()), ())).bind fun r548 =>
 bif (!r548.1.1) then
 some (.inr (.inl ((false, ()), ())))
else
 some (.inl ((y.1.1, ((), ((IntKind.i64.wrap (y.1.2.2.1 + (1 : Int))), ()))), (y.2.1, ())))
else
 some (.inr (.inr ((y.1.1, ((), ())), (y.2.1, ()))))
theorem r131_58 : ∀ y, g131_58 y = jjz (jjd c131 []) (jjl (jjc b131 1 58)) 58 s131_58 t131_58 y := fun y => by kernel_rfl
noncomputable def l131_58 : s131_58.Y → Option (YS t131_58) := jjC g131_58
theorem q131_58 (H : CtxGood Pz c131) : jjn Pz (jjc b131 1 58) (jjb s131_58 t131_58 l131_58) :=
 jjt (fr := []) H (by kernel_rfl) (by kernel_rfl) jje (fun y => jjh r131_58 y)
@[reducible] noncomputable def i131 : Shape := ⟨[(0, .lf (.d (.str)))], [], 30⟩
@[reducible] noncomputable def o131 : Shape := ⟨[(2, .lf (.d (.bool)))], [], 30⟩
noncomputable def f131 (a : i131.Y) : Option o131.Y :=
(f122 ((a.1.1, ((47 : Int), ((IntKind.i64.wrap ((a.1.1.length : Int) + (1 : Int))), ()))), ())).bind fun r556 =>
(l131_58 ((a.1.1, ((), ((0 : Int), ()))), (r556.2.1, ()))).bind fun r560 =>
(match r560 with
| .inl r561 =>
 some ((r561.1.1, ()), ())
| .inr r562 =>
 bif (decide ((r562.2.1.length : Int) ≤ (5 : Int))) then
 some (((decide ((r562.1.1.length : Int) ≤ (40 : Int))), ()), ())
else
 some ((false, ()), ()))
theorem e131 : ∀ a, f131 a = jjo (jjd c131 [(58, jjb s131_58 t131_58 l131_58)]) b131 i131 o131 a := fun a => by kernel_rfl
noncomputable def S131 : jjF := jjf tt 30 i131 o131 [.tmp 2] [] f131
theorem z131 (h : ∀ T, (tt T).ok Pz T) (h122 : jja Pz 122 S122) (h143 : jja Pz 143 S143) : jja Pz 131 S131 :=
 have H := k131 h h122 h143
 jjk (fn := Tryz.f131) (fr := [(58, jjb s131_58 t131_58 l131_58)]) H (by kernel_rfl) (by kernel_rfl) (by kernel_rfl) (by kernel_rfl) (by kernel_rfl) ⟨q131_58 H, trivial⟩ (by kernel_rfl) (fun y => ⟨_, _, rfl, rfl, rfl⟩) e131
noncomputable def c154 : Ctx := { tt := tt, fs := fun n => match n with | _ => none }
theorem k154 (h : ∀ T, (tt T).ok Pz T) : CtxGood Pz c154 := ⟨⟨h⟩, fun g S hg => (by cases hg), jjp, fun _ _ h => (by cases h), fun _ h => (by cases h)⟩
noncomputable def b154 : Code := jji Tryz.f154
@[reducible] noncomputable def s154_1864 : Shape := ⟨[(0, .lf (.d (.str))), (1, .lf (.d (.int .u8))), (5, .lf (.d (.bool))), (6, .lf (.d (.int .i64)))], [], 33⟩
@[reducible] noncomputable def jz7 : List OSh := [(.norm, ⟨[(0, .lf (.d (.str))), (1, .lf (.d (.int .u8))), (5, .lf (.d (.bool))), (6, .lf (.d (.int .i64))), (29, .lf (.d (.bool)))], [], 33⟩)]
noncomputable def jJm (y : s154_1864.Y) : Option (YS jz7) :=
(ix y.1.1 y.1.2.2.2.1).bind fun x608 =>
 bif ((x608.toNat : Int) == y.1.2.1) then
 bif (!(decide (y.1.2.2.2.1 > (1 : Int)))) then
 some (((y.1.1, (y.1.2.1, (y.1.2.2.1, (y.1.2.2.2.1, ((!y.1.2.2.1), ()))))), ()))
else
 some (((y.1.1, (y.1.2.1, (y.1.2.2.1, (y.1.2.2.2.1, (true, ()))))), ()))
else
 some (((y.1.1, (y.1.2.1, (y.1.2.2.1, (y.1.2.2.2.1, (false, ()))))), ()))
theorem r154_1864 : ∀ y, jJm y = jjK (jjd c154 []) (jjc (jjl (jjc b154 1 58)) 116 1864) 1864 s154_1864 jz7 y := fun y => by kernel_rfl
theorem q154_1864 (H : CtxGood Pz c154) : jjn Pz (jjc (jjl (jjc b154 1 58)) 116 1864) (jjb s154_1864 jz7 jJm) :=
 jjw (fr := []) H (by kernel_rfl) jje r154_1864
@[reducible] noncomputable def s154_58 : Shape := ⟨[(0, .lf (.d (.str))), (1, .lf (.d (.int .u8))), (5, .lf (.d (.bool))), (6, .lf (.d (.int .i64)))], [], 33⟩
@[reducible] noncomputable def t154_58 : List OSh := [(.ret, ⟨[(4, .lf (.d (.bool)))], [], 33⟩), (.exit 0, ⟨[(5, .lf (.d (.bool)))], [], 33⟩)]
noncomputable def g154_58 (y : s154_58.Y) : Option (Sum s154_58.Y (YS t154_58)) :=
 bif (decide (y.1.2.2.2.1 < (IntKind.i64.wrap ((y.1.1.length : Int) - (1 : Int))))) then
(jJm ((y.1.1, (y.1.2.1, (y.1.2.2.1, (y.1.2.2.2.1, ())))), ())).bind fun r610 =>
 bif r610.1.2.2.2.2.1 then
 some (.inr (.inl (((!r610.1.2.2.1), ()), ())))
else
 some (.inl ((r610.1.1, (r610.1.2.1, (r610.1.2.2.1, ((IntKind.i64.wrap (r610.1.2.2.2.1 + (1 : Int))), ())))), ()))
else
 some (.inr (.inr ((y.1.2.2.1, ()), ())))
theorem r154_58 : ∀ y, g154_58 y = jjz (jjd c154 [(1864, jjb s154_1864 jz7 jJm)]) (jjl (jjc b154 1 58)) 58 s154_58 t154_58 y := fun y => by kernel_rfl
noncomputable def l154_58 : s154_58.Y → Option (YS t154_58) := jjC g154_58
theorem q154_58 (H : CtxGood Pz c154) : jjn Pz (jjc b154 1 58) (jjb s154_58 t154_58 l154_58) :=
 jjt (fr := [(1864, jjb s154_1864 jz7 jJm)]) H (by kernel_rfl) (by kernel_rfl) ⟨q154_1864 H, trivial⟩ (fun y => jjh r154_58 y)
@[reducible] noncomputable def i154 : Shape := ⟨[(0, .lf (.d (.str))), (1, .lf (.d (.int .u8)))], [], 33⟩
@[reducible] noncomputable def o154 : Shape := ⟨[(4, .lf (.d (.bool)))], [], 33⟩
noncomputable def f154 (a : i154.Y) : Option o154.Y :=
(ix a.1.1 (1 : Int)).bind fun x615 =>
(l154_58 ((a.1.1, (a.1.2.1, (((x615.toNat : Int) == (33 : Int)), ((1 : Int), ())))), ())).bind fun r616 =>
(match r616 with
| .inl r617 =>
 some ((r617.1.1, ()), ())
| .inr r618 =>
 some ((r618.1.1, ()), ()))
theorem e154 : ∀ a, f154 a = jjo (jjd c154 [(58, jjb s154_58 t154_58 l154_58)]) b154 i154 o154 a := fun a => by kernel_rfl
noncomputable def S154 : jjF := jjf tt 33 i154 o154 [.tmp 4] [] f154
theorem z154 (h : ∀ T, (tt T).ok Pz T) : jja Pz 154 S154 :=
 have H := k154 h
 jjk (fn := Tryz.f154) (fr := [(58, jjb s154_58 t154_58 l154_58)]) H (by kernel_rfl) (by kernel_rfl) (by kernel_rfl) (by kernel_rfl) (by kernel_rfl) ⟨q154_58 H, trivial⟩ (by kernel_rfl) (fun y => ⟨_, _, rfl, rfl, rfl⟩) e154
@[reducible] noncomputable def i144 : Shape := ⟨[(0, .lf (.d (.str))), (1, .lf (.d (.str)))], [], 68⟩
@[reducible] noncomputable def o144 : Shape := ⟨[(4, .lf (.d (.bool)))], [], 68⟩
noncomputable def SF144 (F : i144.Y → Option o144.Y) : jjF := jjf tt 68 i144 o144 [.tmp 4] [] F
noncomputable def c144 (F : i144.Y → Option o144.Y) : Ctx := { tt := tt, fs := fun n => match n with | 144 => some (SF144 F) | 153 => some S153 | 154 => some S154 | _ => none }
theorem k144 (F : i144.Y → Option o144.Y) (h : ∀ T, (tt T).ok Pz T) (h153 : jja Pz 153 S153) (h154 : jja Pz 154 S154) (hF : jja Pz 144 (SF144 F)) : CtxGood Pz (c144 F) := ⟨⟨h⟩, fun g S hg => (by
 simp only [c144] at hg
 split at hg
 ·cases hg; exact hF
 ·cases hg; exact h153
 ·cases hg; exact h154
 ·cases hg), jjp, fun _ _ h => (by cases h), fun _ h => (by cases h)⟩
noncomputable def b144 : Code := jji Tryz.f144
noncomputable def ff144 (F : i144.Y → Option o144.Y) (a : i144.Y) : Option o144.Y :=
 bif (a.1.1 == ([] : Str)) then
 some (((a.1.2.1 == ([] : Str)), ()), ())
else
(ix a.1.1 (0 : Int)).bind fun x648 =>
 bif ((x648.toNat : Int) == (42 : Int)) then
(jqJ a.1.1 (1 : Int) (a.1.1.length : Int)).bind fun x649 =>
(F ((x649, (a.1.2.1, ())), ())).bind fun r650 =>
 bif (!r650.1.1) then
 bif (!(a.1.2.1 == ([] : Str))) then
(jqJ a.1.2.1 (1 : Int) (a.1.2.1.length : Int)).bind fun x651 =>
(F ((a.1.1, (x651, ())), ())).bind fun r652 =>
 some ((r652.1.1, ()), ())
else
 some ((false, ()), ())
else
 some ((true, ()), ())
else
 bif (a.1.2.1 == ([] : Str)) then
 some ((false, ()), ())
else
(ix a.1.1 (0 : Int)).bind fun x667 =>
 bif ((x667.toNat : Int) == (63 : Int)) then
(jqJ a.1.1 (1 : Int) (a.1.1.length : Int)).bind fun x668 =>
(jqJ a.1.2.1 (1 : Int) (a.1.2.1.length : Int)).bind fun x669 =>
(F ((x668, (x669, ())), ())).bind fun r670 =>
 some ((r670.1.1, ()), ())
else
 bif ((x667.toNat : Int) == (91 : Int)) then
(f153 ((a.1.1, ()), ())).bind fun r672 =>
(jqJ a.1.1 (0 : Int) r672.1.1).bind fun x673 =>
(ix a.1.2.1 (0 : Int)).bind fun x674 =>
(f154 ((x673, ((x674.toNat : Int), ())), ())).bind fun r675 =>
 bif r675.1.1 then
(jqJ a.1.1 r672.1.1 (a.1.1.length : Int)).bind fun x676 =>
(jqJ a.1.2.1 (1 : Int) (a.1.2.1.length : Int)).bind fun x677 =>
(F ((x676, (x677, ())), ())).bind fun r678 =>
 some ((r678.1.1, ()), ())
else
 some ((false, ()), ())
else
(ix a.1.1 (0 : Int)).bind fun x679 =>
(ix a.1.2.1 (0 : Int)).bind fun x680 =>
 bif ((x679.toNat : Int) == (x680.toNat : Int)) then
(jqJ a.1.1 (1 : Int) (a.1.1.length : Int)).bind fun x681 =>
(jqJ a.1.2.1 (1 : Int) (a.1.2.1.length : Int)).bind fun x682 =>
(F ((x681, (x682, ())), ())).bind fun r683 =>
 some ((r683.1.1, ()), ())
else
 some ((false, ()), ())
theorem e144 (F : i144.Y → Option o144.Y) : ∀ a, (ff144 F) a = jjo (jjd (c144 F) []) b144 i144 o144 a := fun a => by kernel_rfl
theorem zz144 (F : i144.Y → Option o144.Y) (h : ∀ T, (tt T).ok Pz T) (h153 : jja Pz 153 S153) (h154 : jja Pz 154 S154) (hF : jja Pz 144 (SF144 F)) : jja Pz 144 (jjf tt 68 i144 o144 [.tmp 4] [] (ff144 F)) :=
 have H := (k144 F) h h153 h154 hF
 jjk (fn := Tryz.f144) (fr := []) H (by kernel_rfl) (by kernel_rfl) (by kernel_rfl) (by kernel_rfl) (by kernel_rfl) jje (by kernel_rfl) (fun y => ⟨_, _, rfl, rfl, rfl⟩) (e144 F)
noncomputable def f144 : i144.Y → Option o144.Y := jxi ff144 jzL
noncomputable def S144 : jjF := jjf tt 68 i144 o144 [.tmp 4] [] f144
theorem z144 (h : ∀ T, (tt T).ok Pz T) (h153 : jja Pz 153 S153) (h154 : jja Pz 154 S154) : jja Pz 144 S144 := rec_ok (ff := ff144) (fun F hF => zz144 F h h153 h154 hF) jzL
@[reducible] noncomputable def i132 : Shape := ⟨[(0, .lf (.d (.sl .str))), (1, .lf (.d (.sl .str)))], [], 49⟩
@[reducible] noncomputable def o132 : Shape := ⟨[(4, .lf (.d (.bool)))], [], 49⟩
noncomputable def SF132 (F : i132.Y → Option o132.Y) : jjF := jjf tt 49 i132 o132 [.tmp 4] [] F
noncomputable def c132 (F : i132.Y → Option o132.Y) : Ctx := { tt := tt, fs := fun n => match n with | 132 => some (SF132 F) | 144 => some S144 | _ => none }
theorem k132 (F : i132.Y → Option o132.Y) (h : ∀ T, (tt T).ok Pz T) (h144 : jja Pz 144 S144) (hF : jja Pz 132 (SF132 F)) : CtxGood Pz (c132 F) := ⟨⟨h⟩, fun g S hg => (by
 simp only [c132] at hg
 split at hg
 ·cases hg; exact hF
 ·cases hg; exact h144
 ·cases hg), jjp, fun _ _ h => (by cases h), fun _ h => (by cases h)⟩
noncomputable def b132 : Code := jji Tryz.f132
noncomputable def ff132 (F : i132.Y → Option o132.Y) (a : i132.Y) : Option o132.Y :=
 bif ((a.1.1.length : Int) == (0 : Int)) then
 some ((((a.1.2.1.length : Int) == (0 : Int)), ()), ())
else
(ix a.1.1 (0 : Int)).bind fun x695 =>
 bif (x695 == ([42, 42] : Str)) then
(jqJ a.1.1 (1 : Int) (a.1.1.length : Int)).bind fun x696 =>
(F ((x696, (a.1.2.1, ())), ())).bind fun r697 =>
 bif (!r697.1.1) then
 bif (decide ((a.1.2.1.length : Int) > (0 : Int))) then
(jqJ a.1.2.1 (1 : Int) (a.1.2.1.length : Int)).bind fun x698 =>
(F ((a.1.1, (x698, ())), ())).bind fun r699 =>
 some ((r699.1.1, ()), ())
else
 some ((false, ()), ())
else
 some ((true, ()), ())
else
 bif (decide ((a.1.2.1.length : Int) > (0 : Int))) then
(ix a.1.1 (0 : Int)).bind fun x700 =>
(ix a.1.2.1 (0 : Int)).bind fun x701 =>
(f144 ((x700, (x701, ())), ())).bind fun r702 =>
 bif r702.1.1 then
(jqJ a.1.1 (1 : Int) (a.1.1.length : Int)).bind fun x703 =>
(jqJ a.1.2.1 (1 : Int) (a.1.2.1.length : Int)).bind fun x704 =>
(F ((x703, (x704, ())), ())).bind fun r705 =>
 some ((r705.1.1, ()), ())
else
 some ((false, ()), ())
else
 some ((false, ()), ())
theorem e132 (F : i132.Y → Option o132.Y) : ∀ a, (ff132 F) a = jjo (jjd (c132 F) []) b132 i132 o132 a := fun a => by kernel_rfl
theorem zz132 (F : i132.Y → Option o132.Y) (h : ∀ T, (tt T).ok Pz T) (h144 : jja Pz 144 S144) (hF : jja Pz 132 (SF132 F)) : jja Pz 132 (jjf tt 49 i132 o132 [.tmp 4] [] (ff132 F)) :=
 have H := (k132 F) h h144 hF
 jjk (fn := Tryz.f132) (fr := []) H (by kernel_rfl) (by kernel_rfl) (by kernel_rfl) (by kernel_rfl) (by kernel_rfl) jje (by kernel_rfl) (fun y => ⟨_, _, rfl, rfl, rfl⟩) (e132 F)
noncomputable def f132 : i132.Y → Option o132.Y := jxi ff132 jzL
noncomputable def S132 : jjF := jjf tt 49 i132 o132 [.tmp 4] [] f132
theorem z132 (h : ∀ T, (tt T).ok Pz T) (h144 : jja Pz 144 S144) : jja Pz 132 S132 := rec_ok (ff := ff132) (fun F hF => zz132 F h h144 hF) jzL
noncomputable def c107 : Ctx := { tt := tt, fs := fun n => match n with | 122 => some S122 | 125 => some S125 | 131 => some S131 | 132 => some S132 | _ => none }
theorem k107 (h : ∀ T, (tt T).ok Pz T) (h122 : jja Pz 122 S122) (h125 : jja Pz 125 S125) (h131 : jja Pz 131 S131) (h132 : jja Pz 132 S132) : CtxGood Pz c107 := ⟨⟨h⟩, fun g S hg => (by
 simp only [c107] at hg
 split at hg
 ·cases hg; exact h122
 ·cases hg; exact h125
 ·cases hg; exact h131
 ·cases hg; exact h132
 ·cases hg), jjp, fun _ _ h => (by cases h), fun _ h => (by cases h)⟩
noncomputable def b107 : Code := jji Tryz.f107
@[reducible] noncomputable def i107 : Shape := ⟨[(0, .lf (.d (.str))), (1, .lf (.d (.str)))], [], 24⟩
@[reducible] noncomputable def o107 : Shape := ⟨[(4, .lf (.d (.bool)))], [], 24⟩
noncomputable def f107 (a : i107.Y) : Option o107.Y :=
(f131 ((a.1.1, ()), ())).bind fun r707 =>
 bif r707.1.1 then
(f125 ((a.1.2.1, ()), ())).bind fun r708 =>
 bif r708.1.1 then
(f122 ((a.1.1, ((47 : Int), ((IntKind.i64.wrap ((a.1.1.length : Int) + (1 : Int))), ()))), ())).bind fun r709 =>
(f122 ((a.1.2.1, ((47 : Int), ((IntKind.i64.wrap ((a.1.2.1.length : Int) + (1 : Int))), ()))), ())).bind fun r710 =>
(f132 ((r709.2.1, (r710.2.1, ())), ())).bind fun r711 =>
 some ((r711.1.1, ()), ())
else
 some ((false, ()), ())
else
 some ((false, ()), ())
theorem e107 : ∀ a, f107 a = jjo (jjd c107 []) b107 i107 o107 a := fun a => by kernel_rfl
noncomputable def S107 : jjF := jjf tt 24 i107 o107 [.tmp 4] [] f107
theorem z107 (h : ∀ T, (tt T).ok Pz T) (h122 : jja Pz 122 S122) (h125 : jja Pz 125 S125) (h131 : jja Pz 131 S131) (h132 : jja Pz 132 S132) : jja Pz 107 S107 :=
 have H := k107 h h122 h125 h131 h132
 jjk (fn := Tryz.f107) (fr := []) H (by kernel_rfl) (by kernel_rfl) (by kernel_rfl) (by kernel_rfl) (by kernel_rfl) jje (by kernel_rfl) (fun y => ⟨_, _, rfl, rfl, rfl⟩) e107
noncomputable def c133 : Ctx := { tt := tt, fs := fun n => match n with | _ => none }
theorem k133 (h : ∀ T, (tt T).ok Pz T) : CtxGood Pz c133 := ⟨⟨h⟩, fun g S hg => (by cases hg), jjp, fun _ _ h => (by cases h), fun _ h => (by cases h)⟩
noncomputable def b133 : Code := jji Tryz.f133
@[reducible] noncomputable def i133 : Shape := ⟨[(0, .lf (.d (.str))), (1, .lf (.d (.str)))], [], 30⟩
@[reducible] noncomputable def o133 : Shape := ⟨[(4, .lf (.d (.bool)))], [], 30⟩
noncomputable def f133 (a : i133.Y) : Option o133.Y :=
 bif (!(a.1.2.1 == a.1.1)) then
 bif (decide ((a.1.2.1.length : Int) > (a.1.1.length : Int))) then
(jqJ a.1.2.1 (0 : Int) (a.1.1.length : Int)).bind fun x718 =>
 bif (x718 == a.1.1) then
(ix a.1.2.1 (a.1.1.length : Int)).bind fun x719 =>
 some ((((x719.toNat : Int) == (47 : Int)), ()), ())
else
 some ((false, ()), ())
else
 some ((false, ()), ())
else
 some ((true, ()), ())
theorem e133 : ∀ a, f133 a = jjo (jjd c133 []) b133 i133 o133 a := fun a => by kernel_rfl
noncomputable def S133 : jjF := jjf tt 30 i133 o133 [.tmp 4] [] f133
theorem z133 (h : ∀ T, (tt T).ok Pz T) : jja Pz 133 S133 :=
 have H := k133 h
 jjk (fn := Tryz.f133) (fr := []) H (by kernel_rfl) (by kernel_rfl) (by kernel_rfl) (by kernel_rfl) (by kernel_rfl) jje (by kernel_rfl) (fun y => ⟨_, _, rfl, rfl, rfl⟩) e133
noncomputable def c108 : Ctx := { tt := tt, fs := fun n => match n with | 107 => some S107 | 133 => some S133 | _ => none }
theorem k108 (h : ∀ T, (tt T).ok Pz T) (h107 : jja Pz 107 S107) (h133 : jja Pz 133 S133) : CtxGood Pz c108 := ⟨⟨h⟩, fun g S hg => (by
 simp only [c108] at hg
 split at hg
 ·cases hg; exact h107
 ·cases hg; exact h133
 ·cases hg), jjp, fun _ _ h => (by cases h), fun _ h => (by cases h)⟩
noncomputable def b108 : Code := jji Tryz.f108
@[reducible] noncomputable def s108_840 : Shape := ⟨[(0, .lf (.d (.sl .entry))), (1, .lf (.d (.str))), (2, .lf (.d (.str))), (7, .lf (.d (.int .i64)))], [], 30⟩
@[reducible] noncomputable def t108_840 : List OSh := [(.norm, ⟨[(0, .lf (.d (.sl .entry))), (1, .lf (.d (.str))), (2, .lf (.d (.str))), (7, .lf (.d (.int .i64))), (29, .lf (.d (.bool)))], [], 30⟩)]
noncomputable def jzK (y : s108_840.Y) : Option (YS t108_840) :=
(ix y.1.1 y.1.2.2.2.1).bind fun x727 =>
(f133 ((y.1.2.2.1, (x727.path, ())), ())).bind fun r728 =>
 bif r728.1.1 then
(ix y.1.1 y.1.2.2.2.1).bind fun x729 =>
(f107 ((y.1.2.1, (x729.path, ())), ())).bind fun r730 =>
 some (((y.1.1, (y.1.2.1, (y.1.2.2.1, (y.1.2.2.2.1, (r730.1.1, ()))))), ()))
else
 some (((y.1.1, (y.1.2.1, (y.1.2.2.1, (y.1.2.2.2.1, (false, ()))))), ()))
theorem r108_840 : ∀ y, jzK y = jjK (jjd c108 []) (jjc (jjl (jjc b108 1 26)) 52 840) 840 s108_840 t108_840 y := fun y => by kernel_rfl
theorem q108_840 (H : CtxGood Pz c108) : jjn Pz (jjc (jjl (jjc b108 1 26)) 52 840) (jjb s108_840 t108_840 jzK) :=
 jjw (fr := []) H (by kernel_rfl) jje r108_840
@[reducible] noncomputable def s108_26 : Shape := ⟨[(0, .lf (.d (.sl .entry))), (1, .lf (.d (.str))), (2, .lf (.d (.str))), (7, .lf (.d (.int .i64)))], [], 30⟩
@[reducible] noncomputable def t108_26 : List OSh := [(.ret, ⟨[(6, .lf (.d (.bool)))], [], 30⟩), (.exit 0, ⟨[], [], 30⟩)]
noncomputable def g108_26 (y : s108_26.Y) : Option (Sum s108_26.Y (YS t108_26)) :=
 bif (decide (y.1.2.2.2.1 < (y.1.1.length : Int))) then
(jzK ((y.1.1, (y.1.2.1, (y.1.2.2.1, (y.1.2.2.2.1, ())))), ())).bind fun r732 =>
 bif r732.1.2.2.2.2.1 then
 some (.inr (.inl ((true, ()), ())))
else
 some (.inl ((r732.1.1, (r732.1.2.1, (r732.1.2.2.1, ((IntKind.i64.wrap (r732.1.2.2.2.1 + (1 : Int))), ())))), ()))
else
 some (.inr (.inr ((), ())))
theorem r108_26 : ∀ y, g108_26 y = jjz (jjd c108 [(840, jjb s108_840 t108_840 jzK)]) (jjl (jjc b108 1 26)) 26 s108_26 t108_26 y := fun y => by kernel_rfl
noncomputable def l108_26 : s108_26.Y → Option (YS t108_26) := jjC g108_26
theorem q108_26 (H : CtxGood Pz c108) : jjn Pz (jjc b108 1 26) (jjb s108_26 t108_26 l108_26) :=
 jjt (fr := [(840, jjb s108_840 t108_840 jzK)]) H (by kernel_rfl) (by kernel_rfl) ⟨q108_840 H, trivial⟩ (fun y => jjh r108_26 y)
@[reducible] noncomputable def i108 : Shape := ⟨[(0, .lf (.d (.sl .entry))), (1, .lf (.d (.str))), (2, .lf (.d (.str)))], [], 30⟩
@[reducible] noncomputable def o108 : Shape := ⟨[(6, .lf (.d (.bool)))], [], 30⟩
noncomputable def f108 (a : i108.Y) : Option o108.Y :=
(l108_26 ((a.1.1, (a.1.2.1, (a.1.2.2.1, ((0 : Int), ())))), ())).bind fun r736 =>
(match r736 with
| .inl r737 =>
 some ((r737.1.1, ()), ())
| .inr r738 =>
 some ((false, ()), ()))
theorem e108 : ∀ a, f108 a = jjo (jjd c108 [(26, jjb s108_26 t108_26 l108_26)]) b108 i108 o108 a := fun a => by kernel_rfl
noncomputable def S108 : jjF := jjf tt 30 i108 o108 [.tmp 6] [] f108
theorem z108 (h : ∀ T, (tt T).ok Pz T) (h107 : jja Pz 107 S107) (h133 : jja Pz 133 S133) : jja Pz 108 S108 :=
 have H := k108 h h107 h133
 jjk (fn := Tryz.f108) (fr := [(26, jjb s108_26 t108_26 l108_26)]) H (by kernel_rfl) (by kernel_rfl) (by kernel_rfl) (by kernel_rfl) (by kernel_rfl) ⟨q108_26 H, trivial⟩ (by kernel_rfl) (fun y => ⟨_, _, rfl, rfl, rfl⟩) e108
@[reducible] noncomputable def i111 : Shape := ⟨[(0, .lf (.d (.int .i64)))], [], 28⟩
@[reducible] noncomputable def o111 : Shape := ⟨[(2, .lf (.d (.str)))], [], 28⟩
noncomputable def SF111 (F : i111.Y → Option o111.Y) : jjF := jjf tt 28 i111 o111 [.tmp 2] [] F
noncomputable def c111 (F : i111.Y → Option o111.Y) : Ctx := { tt := tt, fs := fun n => match n with | 111 => some (SF111 F) | _ => none }
theorem k111 (F : i111.Y → Option o111.Y) (h : ∀ T, (tt T).ok Pz T) (hF : jja Pz 111 (SF111 F)) : CtxGood Pz (c111 F) := ⟨⟨h⟩, fun g S hg => (by
 simp only [c111] at hg
 split at hg
 ·cases hg; exact hF
 ·cases hg), jjp, fun _ _ h => (by cases h), fun _ h => (by cases h)⟩
noncomputable def b111 : Code := jji Tryz.f111
noncomputable def ff111 (F : i111.Y → Option o111.Y) (a : i111.Y) : Option o111.Y :=
 bif (decide (a.1.1 < ((-9223372036854775807) : Int))) then
 some ((([45, 57, 50, 50, 51, 51, 55, 50, 48, 51, 54, 56, 53, 52, 55, 55, 53, 56, 48, 56] : Str), ()), ())
else
 bif (decide (a.1.1 < (0 : Int))) then
(F (((IntKind.i64.wrap (0 - a.1.1)), ()), ())).bind fun r386 =>
(cat ([45] : Str) r386.1.1).bind fun x387 =>
 some ((x387, ()), ())
else
 bif (decide (a.1.1 < (10 : Int))) then
 some (((strOf ([(IntKind.u8.wrap (IntKind.i64.wrap ((48 : Int) + a.1.1)))] : List Int)), ()), ())
else
(quoI .i64 a.1.1 (10 : Int)).bind fun x388 =>
(F ((x388, ()), ())).bind fun r389 =>
(remI a.1.1 (10 : Int)).bind fun x390 =>
(cat r389.1.1 (strOf ([(IntKind.u8.wrap (IntKind.i64.wrap ((48 : Int) + x390)))] : List Int))).bind fun x391 =>
 some ((x391, ()), ())
theorem e111 (F : i111.Y → Option o111.Y) : ∀ a, (ff111 F) a = jjo (jjd (c111 F) []) b111 i111 o111 a := fun a => by kernel_rfl
theorem zz111 (F : i111.Y → Option o111.Y) (h : ∀ T, (tt T).ok Pz T) (hF : jja Pz 111 (SF111 F)) : jja Pz 111 (jjf tt 28 i111 o111 [.tmp 2] [] (ff111 F)) :=
 have H := (k111 F) h hF
 jjk (fn := Tryz.f111) (fr := []) H (by kernel_rfl) (by kernel_rfl) (by kernel_rfl) (by kernel_rfl) (by kernel_rfl) jje (by kernel_rfl) (fun y => ⟨_, _, rfl, rfl, rfl⟩) (e111 F)
noncomputable def f111 : i111.Y → Option o111.Y := jxi ff111 jzL
noncomputable def S111 : jjF := jjf tt 28 i111 o111 [.tmp 2] [] f111
theorem z111 (h : ∀ T, (tt T).ok Pz T) : jja Pz 111 S111 := rec_ok (ff := ff111) (fun F hF => zz111 F h hF) jzL
noncomputable def c84 : Ctx := { tt := tt, fs := fun n => match n with | 73 => some S73 | 107 => some S107 | 108 => some S108 | _ => none }
theorem k84 (h : ∀ T, (tt T).ok Pz T) (h73 : jja Pz 73 S73) (h107 : jja Pz 107 S107) (h108 : jja Pz 108 S108) : CtxGood Pz c84 := ⟨⟨h⟩, fun g S hg => (by
 simp only [c84] at hg
 split at hg
 ·cases hg; exact h73
 ·cases hg; exact h107
 ·cases hg; exact h108
 ·cases hg), jjp, fun _ _ h => (by cases h), fun _ h => (by cases h)⟩
noncomputable def b84 : Code := jji Tryz.f84
@[reducible] noncomputable def s84_1864 : Shape := ⟨[(0, .lf (.d (.sl .entry))), (1, .lf (.d (.str))), (5, .lf (.own 3000320)), (6, .lf (.d (.int .i64)))], [(3000320, .row .entry, .slot 5 0)], 51⟩
@[reducible] noncomputable def t84_1864 : List OSh := [(.norm, ⟨[(0, .lf (.d (.sl .entry))), (1, .lf (.d (.str))), (5, .lf (.own 3000320)), (6, .lf (.d (.int .i64))), (42, .lf (.d (.bool)))], [(3000320, .row .entry, .slot 5 0)], 51⟩)]
noncomputable def jzD (y : s84_1864.Y) : Option (YS t84_1864) :=
(ix y.1.1 y.1.2.2.2.1).bind fun x747 =>
(f107 ((y.1.2.1, (x747.path, ())), ())).bind fun r748 =>
 bif (!r748.1.1) then
(ix y.1.1 y.1.2.2.2.1).bind fun x749 =>
 bif (x749.kind == (1 : Int)) then
(ix y.1.1 y.1.2.2.2.1).bind fun x750 =>
(f108 ((y.1.1, (y.1.2.1, (x750.path, ()))), ())).bind fun r751 =>
 some (((y.1.1, (y.1.2.1, ((), (y.1.2.2.2.1, (r751.1.1, ()))))), (y.2.1, ())))
else
 some (((y.1.1, (y.1.2.1, ((), (y.1.2.2.2.1, (false, ()))))), (y.2.1, ())))
else
 some (((y.1.1, (y.1.2.1, ((), (y.1.2.2.2.1, (true, ()))))), (y.2.1, ())))
theorem r84_1864 : ∀ y, jzD y = jjK (jjd c84 []) (jjc (jjl (jjc b84 1 58)) 116 1864) 1864 s84_1864 t84_1864 y := fun y => by kernel_rfl
theorem q84_1864 (H : CtxGood Pz c84) : jjn Pz (jjc (jjl (jjc b84 1 58)) 116 1864) (jjb s84_1864 t84_1864 jzD) :=
 jjw (fr := []) H (by kernel_rfl) jje r84_1864
@[reducible] noncomputable def s84_58 : Shape := ⟨[(0, .lf (.d (.sl .entry))), (1, .lf (.d (.str))), (5, .lf (.own 3000320)), (6, .lf (.d (.int .i64)))], [(3000320, .row .entry, .slot 5 0)], 51⟩
@[reducible] noncomputable def t84_58 : List OSh := [(.exit 0, ⟨[(5, .lf (.own 3000320))], [(3000320, .row .entry, .slot 5 0)], 51⟩)]
noncomputable def g84_58 (y : s84_58.Y) : Option (Sum s84_58.Y (YS t84_58)) :=
 bif (decide (y.1.2.2.2.1 < (y.1.1.length : Int))) then
(f73 ((y.1.1, ()), ())).bind fun r756 =>
 bif r756.1.1 then
(jzD ((y.1.1, (y.1.2.1, ((), (y.1.2.2.2.1, ())))), (y.2.1, ()))).bind fun r757 =>
 bif r757.1.2.2.2.2.1 then
(ix r757.1.1 r757.1.2.2.2.1).bind fun x758 =>
(apd 48 r757.2.1 ([x758] : List Entry)).bind fun x759 =>
 some (.inl ((r757.1.1, (r757.1.2.1, ((), ((IntKind.i64.wrap (r757.1.2.2.2.1 + (1 : Int))), ())))), (x759, ())))
else
 some (.inl ((r757.1.1, (r757.1.2.1, ((), ((IntKind.i64.wrap (r757.1.2.2.2.1 + (1 : Int))), ())))), (r757.2.1, ())))
else
 some (.inr ((((), ()), (y.2.1, ()))))
else
 some (.inr ((((), ()), (y.2.1, ()))))
theorem r84_58 : ∀ y, g84_58 y = jjz (jjd c84 [(1864, jjb s84_1864 t84_1864 jzD)]) (jjl (jjc b84 1 58)) 58 s84_58 t84_58 y := fun y => by kernel_rfl
noncomputable def l84_58 : s84_58.Y → Option (YS t84_58) := jjC g84_58
theorem q84_58 (H : CtxGood Pz c84) : jjn Pz (jjc b84 1 58) (jjb s84_58 t84_58 l84_58) :=
 jjt (fr := [(1864, jjb s84_1864 t84_1864 jzD)]) H (by kernel_rfl) (by kernel_rfl) ⟨q84_1864 H, trivial⟩ (fun y => jjh r84_58 y)
@[reducible] noncomputable def i84 : Shape := ⟨[(0, .lf (.d (.sl .entry))), (1, .lf (.d (.str)))], [], 51⟩
@[reducible] noncomputable def o84 : Shape := ⟨[(4, .lf (.own 3000256))], [(3000256, .row .entry, .slot 4 0)], 51⟩
noncomputable def f84 (a : i84.Y) : Option o84.Y :=
(l84_58 ((a.1.1, (a.1.2.1, ((), ((0 : Int), ())))), (([] : List Entry), ()))).bind fun r761 =>
 some (((), ()), (r761.2.1, ()))
theorem e84 : ∀ a, f84 a = jjo (jjd c84 [(58, jjb s84_58 t84_58 l84_58)]) b84 i84 o84 a := fun a => by kernel_rfl
noncomputable def S84 : jjF := jjf tt 51 i84 o84 [.tmp 4] [] f84
theorem z84 (h : ∀ T, (tt T).ok Pz T) (h73 : jja Pz 73 S73) (h107 : jja Pz 107 S107) (h108 : jja Pz 108 S108) : jja Pz 84 S84 :=
 have H := k84 h h73 h107 h108
 jjk (fn := Tryz.f84) (fr := [(58, jjb s84_58 t84_58 l84_58)]) H (by kernel_rfl) (by kernel_rfl) (by kernel_rfl) (by kernel_rfl) (by kernel_rfl) ⟨q84_58 H, trivial⟩ (by kernel_rfl) (fun y => ⟨_, _, rfl, rfl, rfl⟩) e84
noncomputable def c85v0 : Ctx := { tt := tt, fs := fun n => match n with | 17 => some jqa | 109 => some S109 | 110 => some S110v0 | 111 => some S111 | _ => none }
theorem k85v0 (h : ∀ T, (tt T).ok Pz T) (h17v0 : jja Pz 17 jqa) (h109 : jja Pz 109 S109) (h110v0 : jja Pz 110 S110v0) (h111 : jja Pz 111 S111) : CtxGood Pz c85v0 := ⟨⟨h⟩, fun g S hg => (by
 simp only [c85v0] at hg
 split at hg
 ·cases hg; exact h17v0
 ·cases hg; exact h109
 ·cases hg; exact h110v0
 ·cases hg; exact h111
 ·cases hg), jjp, fun _ _ h => (by cases h), fun _ h => (by cases h)⟩
noncomputable def b85v0 : Code := jji Tryz.f85
@[reducible] noncomputable def s85v0_122 : Shape := ⟨[(0, .lf (.ptr 500000 0)), (3, .lf (.own 3000192)), (4, .lf (.own 3000256)), (5, .lf (.d (.int .i64)))], [(500000, .box [.d (.sl .u8), .d (.int .i64)], .same), (3000192, .row .entry, .slot 3 0), (3000256, .row .str, .slot 4 0)], 59⟩
@[reducible] noncomputable def jx7 : List OSh := [(.exit 0, ⟨[(0, .lf (.ptr 500000 0)), (3, .lf (.own 3000192))], [(500000, .box [.d (.sl .u8), .d (.int .i64)], .same), (3000192, .row .entry, .slot 3 0)], 59⟩)]
noncomputable def g85v0_122 (y : s85v0_122.Y) : Option (Sum s85v0_122.Y (YS jx7)) :=
 bif (decide (y.1.2.2.2.1 < (y.2.2.2.1.length : Int))) then
(jq3 (((), ((2 : Int), ())), ((y.2.1.1, (y.2.1.2.1, ())), ()))).bind fun r299 =>
 bif (r299.1.2.1 == (0 : Int)) then
(inb y.2.2.2.1.length y.1.2.2.2.1).bind fun x300 =>
(y.2.2.2.1[x300]?).bind fun x301 =>
(f109 ((y.2.2.1, ((x301, ((1 : Int), ((7 : Int), (([] : Str), ())))), ())), ())).bind fun r302 =>
 some (.inl (((), ((), ((), ((IntKind.i64.wrap (y.1.2.2.2.1 + (1 : Int))), ())))), ((r299.2.1.1, (r299.2.1.2.1, ())), (r302.2.1, (y.2.2.2.1, ())))))
else
 some (.inl (((), ((), ((), ((IntKind.i64.wrap (y.1.2.2.2.1 + (1 : Int))), ())))), ((r299.2.1.1, (r299.2.1.2.1, ())), (y.2.2.1, (y.2.2.2.1, ())))))
else
 some (.inr ((((), ((), ())), ((y.2.1.1, (y.2.1.2.1, ())), (y.2.2.1, ())))))
theorem r85v0_122 : ∀ y, g85v0_122 y = jjz (jjd c85v0 []) (jjl (jjc b85v0 1 122)) 122 s85v0_122 jx7 y := fun y => by kernel_rfl
noncomputable def l85v0_122 : s85v0_122.Y → Option (YS jx7) := jjC g85v0_122
theorem q85v0_122 (H : CtxGood Pz c85v0) : jjn Pz (jjc b85v0 1 122) (jjb s85v0_122 jx7 l85v0_122) :=
 jjt (fr := []) H (by kernel_rfl) (by kernel_rfl) jje (fun y => jjh r85v0_122 y)
@[reducible] noncomputable def s85v0_250 : Shape := ⟨[(0, .lf (.ptr 500000 0)), (3, .lf (.own 3000192)), (6, .lf (.d (.int .i64)))], [(500000, .box [.d (.sl .u8), .d (.int .i64)], .same), (3000192, .row .entry, .slot 3 0)], 59⟩
@[reducible] noncomputable def jx6 : List OSh := [(.exit 2, ⟨[(0, .lf (.ptr 500000 0)), (3, .lf (.own 3000192))], [(500000, .box [.d (.sl .u8), .d (.int .i64)], .same), (3000192, .row .entry, .slot 3 0)], 59⟩)]
noncomputable def g85v0_250 (y : s85v0_250.Y) : Option (Sum s85v0_250.Y (YS jx6)) :=
 bif (decide (y.1.2.2.1 > (0 : Int))) then
(f110v0 (((), ()), ((y.2.1.1, (y.2.1.2.1, ())), ()))).bind fun r358 =>
(f109 ((y.2.2.1, ((r358.2.2.1.1, (r358.2.2.1.2.1, (r358.2.2.1.2.2.1, (r358.2.2.1.2.2.2.1, ())))), ())), ())).bind fun r359 =>
 some (.inl (((), ((), ((IntKind.i64.wrap (y.1.2.2.1 - (1 : Int))), ()))), ((r358.2.1.1, (r358.2.1.2.1, ())), (r359.2.1, ()))))
else
 some (.inr ((((), ((), ())), ((y.2.1.1, (y.2.1.2.1, ())), (y.2.2.1, ())))))
theorem r85v0_250 : ∀ y, g85v0_250 y = jjz (jjd c85v0 []) (jjl (jjc b85v0 1 250)) 250 s85v0_250 jx6 y := fun y => by kernel_rfl
noncomputable def l85v0_250 : s85v0_250.Y → Option (YS jx6) := jjC g85v0_250
theorem q85v0_250 (H : CtxGood Pz c85v0) : jjn Pz (jjc b85v0 1 250) (jjb s85v0_250 jx6 l85v0_250) :=
 jjt (fr := []) H (by kernel_rfl) (by kernel_rfl) jje (fun y => jjh r85v0_250 y)
@[reducible] noncomputable def s85v0_2026 : Shape := ⟨[(0, .lf (.ptr 500000 0)), (3, .lf (.own 3000192)), (7, .lf (.d (.int .i64)))], [(500000, .box [.d (.sl .u8), .d (.int .i64)], .same), (3000192, .row .entry, .slot 3 0)], 59⟩
@[reducible] noncomputable def jxx : List OSh := [(.exit 4, ⟨[(0, .lf (.ptr 500000 0)), (3, .lf (.own 3000192))], [(500000, .box [.d (.sl .u8), .d (.int .i64)], .same), (3000192, .row .entry, .slot 3 0)], 59⟩)]
noncomputable def g85v0_2026 (y : s85v0_2026.Y) : Option (Sum s85v0_2026.Y (YS jxx)) :=
 bif (decide (y.1.2.2.1 < (16 : Int))) then
(f111 ((y.1.2.2.1, ()), ())).bind fun r395 =>
(cat ([102] : Str) r395.1.1).bind fun x396 =>
(f109 ((y.2.2.1, ((x396, ((2 : Int), ((0 : Int), (([] : Str), ())))), ())), ())).bind fun r397 =>
 some (.inl (((), ((), ((IntKind.i64.wrap (y.1.2.2.1 + (1 : Int))), ()))), ((y.2.1.1, (y.2.1.2.1, ())), (r397.2.1, ()))))
else
 some (.inr ((((), ((), ())), ((y.2.1.1, (y.2.1.2.1, ())), (y.2.2.1, ())))))
theorem r85v0_2026 : ∀ y, g85v0_2026 y = jjz (jjd c85v0 []) (jjl (jjc b85v0 1 2026)) 2026 s85v0_2026 jxx y := fun y => by kernel_rfl
noncomputable def jJD : s85v0_2026.Y → Option (YS jxx) := jjC g85v0_2026
theorem q85v0_2026 (H : CtxGood Pz c85v0) : jjn Pz (jjc b85v0 1 2026) (jjb s85v0_2026 jxx jJD) :=
 jjt (fr := []) H (by kernel_rfl) (by kernel_rfl) jje (fun y => jjh r85v0_2026 y)
@[reducible] noncomputable def i85v0 : Shape := ⟨[(0, .lf (.ptr 500000 0))], [(500000, .box [.d (.sl .u8), .d (.int .i64)], .same)], 59⟩
@[reducible] noncomputable def o85v0 : Shape := ⟨[(0, .lf (.ptr 500000 0)), (2, .lf (.own 3000128))], [(500000, .box [.d (.sl .u8), .d (.int .i64)], .same), (3000128, .row .entry, .slot 2 0)], 59⟩
noncomputable def f85v0 (a : i85v0.Y) : Option o85v0.Y :=
(l85v0_122 (((), ((), ((), ((0 : Int), ())))), ((a.2.1.1, (a.2.1.2.1, ())), (([] : List Entry), (([([97] : Str), ([108, 105, 98] : Str), ([98, 105, 110] : Str), ([100, 111, 99] : Str), ([97, 47, 98] : Str)] : List Str), ()))))).bind fun r400 =>
(jq3 (((), ((7 : Int), ())), ((r400.2.1.1, (r400.2.1.2.1, ())), ()))).bind fun r405 =>
(l85v0_250 (((), ((), (r405.1.2.1, ()))), ((r405.2.1.1, (r405.2.1.2.1, ())), (r400.2.2.1, ())))).bind fun r406 =>
(jq3 (((), ((30 : Int), ())), ((r406.2.1.1, (r406.2.1.2.1, ())), ()))).bind fun r408 =>
 bif (r408.1.2.1 == (0 : Int)) then
(jJD (((), ((), ((0 : Int), ()))), ((r408.2.1.1, (r408.2.1.2.1, ())), (r406.2.2.1, ())))).bind fun r409 =>
 some (((), ((), ())), ((r409.2.1.1, (r409.2.1.2.1, ())), (r409.2.2.1, ())))
else
 some (((), ((), ())), ((r408.2.1.1, (r408.2.1.2.1, ())), (r406.2.2.1, ())))
theorem e85v0 : ∀ a, f85v0 a = jjo (jjd c85v0 [(122, jjb s85v0_122 jx7 l85v0_122), (250, jjb s85v0_250 jx6 l85v0_250), (2026, jjb s85v0_2026 jxx jJD)]) b85v0 i85v0 o85v0 a := fun a => by kernel_rfl
noncomputable def S85v0 : jjF := jjf tt 59 i85v0 o85v0 [.tmp 2] [0] f85v0
theorem z85v0 (h : ∀ T, (tt T).ok Pz T) (h17v0 : jja Pz 17 jqa) (h109 : jja Pz 109 S109) (h110v0 : jja Pz 110 S110v0) (h111 : jja Pz 111 S111) : jja Pz 85 S85v0 :=
 have H := k85v0 h h17v0 h109 h110v0 h111
 jjk (fn := Tryz.f85) (fr := [(122, jjb s85v0_122 jx7 l85v0_122), (250, jjb s85v0_250 jx6 l85v0_250), (2026, jjb s85v0_2026 jxx jJD)]) H (by kernel_rfl) (by kernel_rfl) (by kernel_rfl) (by kernel_rfl) (by kernel_rfl) ⟨q85v0_122 H, q85v0_250 H, q85v0_2026 H, trivial⟩ (by kernel_rfl) (fun y => ⟨_, _, rfl, rfl, rfl⟩) e85v0
abbrev NoBr (g : Str) : Prop := ∀ b, b ∈ g → b.toNat ≠ 91
theorem ix_str {s : Str} {i : Int} (h0 : 0 ≤ i) (h1 : i < (s.length : Int)) : ∃ x, ix s i = some x ∧ x ∈ s := ix_in h0 h1
theorem v_l1Globbed (a) (hs : Bd a.1.1.length) (hn : NoBr a.1.1) : Ev (f143 a) (fun _ => True) := by
 obtain ⟨⟨(s : Str), u⟩, u'⟩ := a
 have hs : s.length ≤ 2097152 := hs
 unfold f143
 refine Ev.bind (P := fun _ => True) ?_ fun r _ => ?_
 ·refine Ev.loop (fun (k : Nat) y => y.1.1 = s ∧ (0 : Int) ≤ y.1.2.1 ∧ (y.1.2.1 : Int) + k = s.length) (fun k y hy => ?_) s.length _ ⟨rfl, Int.le_refl _, by show (0 : Int) + s.length = s.length; omega⟩
  obtain ⟨⟨(s1 : Str), (i : Int), u⟩, u'⟩ := y
  obtain ⟨y1, y2, y3⟩ := hy
  have y1 : s1 = s := y1
  subst y1
  have y2 : 0 ≤ i := y2
  have y3 : i + k = s1.length := y3
  unfold g143_26
  refine Ev.ite (fun hc => ?_) fun _ => Ev.ret trivial
  have hc : i < (s1.length : Int) := of_decide_eq_true hc
  obtain ⟨x, k1, k2⟩ := ix_str y2 hc
  have hx : ((x.toNat : Int) == 91) = false := by
   have := hn x k2
   simp only [beq_eq_false_iff_ne, ne_eq]; omega
  have hw : IntKind.i64.wrap (i + 1) = i + 1 := jjG (by omega) (by omega)
  refine Ev.eq k1 ?_
  refine Ev.ite (fun hd => by rw [hx] at hd; cases hd) fun _ => ?_
  have piece : Ev (jxM ((s1, (i, ())), ())) (fun r => r.1.1 = s1 ∧ r.1.2.1 = i) := by
   unfold jxM
   refine Ev.eq k1 ?_
   exact Ev.ite (fun _ => Ev.eq k1 (Ev.ret ⟨rfl, rfl⟩)) fun _ => Ev.ret ⟨rfl, rfl⟩
  refine Ev.bind piece fun r hr => ?_
  obtain ⟨⟨(s2 : Str), (i2 : Int), (c : Bool), v⟩, v'⟩ := r
  obtain ⟨r1, r2⟩ := hr
  have r1 : s2 = s1 := r1
  have r2 : i2 = i := r2
  subst r1 r2
  refine Ev.ite (fun _ => ?_) fun _ => ?_
  ·refine Ev.ret ⟨k - 1, by omega, rfl, ?_, ?_⟩
   ·show 0 ≤ IntKind.i64.wrap (i2 + 1); rw [hw]; omega
   ·show IntKind.i64.wrap (i2 + 1) + ((k - 1 : Nat) : Int) = _; rw [hw]; omega
  ·refine Ev.eq k1 ?_
   refine Ev.eq (v_l1Small (((x.toNat : Int), ()), ())) ?_
   refine Ev.ite (fun _ => Ev.ret trivial) fun _ => ?_
   refine Ev.ret ⟨k - 1, by omega, rfl, ?_, ?_⟩
   ·show 0 ≤ IntKind.i64.wrap (i2 + 1); rw [hw]; omega
   ·show IntKind.i64.wrap (i2 + 1) + ((k - 1 : Nat) : Int) = _; rw [hw]; omega
 ·cases r with
  | inl r => exact Ev.ret trivial
  | inr r => exact Ev.ret trivial
theorem splitL_nobr {g : Str} (h : NoBr g) : ∀ x, x ∈ jjy 47 g → NoBr x := by
 induction g with
 | nil =>
  intro x hx b hb
  simp [jjy] at hx
  subst hx; cases hb
 | cons c g ih =>
  have ih := ih fun b hb => h b (List.mem_cons_of_mem _ hb)
  intro x hx b hb
  simp only [jjy] at hx
  cases hc : (c == 47) with
  | true =>
   simp only [hc, cond_true, List.mem_cons] at hx
   rcases hx with rfl | hx
   ·cases hb
   ·exact ih x hx b hb
  | false =>
   simp only [hc, cond_false] at hx
   cases hL : jjy 47 g with
   | nil => exact absurd hL (jJe 47 g)
   | cons y L =>
    rw [hL] at hx ih
    simp only [List.mem_cons] at hx
    rcases hx with rfl | hx
    ·rcases List.mem_cons.1 hb with rfl | hb
     ·exact h _ List.mem_cons_self
     ·exact ih y List.mem_cons_self b hb
    ·exact ih x (List.mem_cons_of_mem _ hx) b hb
theorem v_GlobOk (a) (hs : a.1.1.length ≤ 200) (hn : NoBr a.1.1) : Ev (f131 a) (fun _ => True) := by
 obtain ⟨⟨(g : Str), u⟩, u'⟩ := a
 have hs : g.length ≤ 200 := hs
 unfold f131
 have hw : IntKind.i64.wrap ((g.length : Int) + 1) = ((g.length + 1 : Nat) : Int) := jjj (by unfold Sm; omega)
 refine Ev.eq (v_l1Cut 47 ((g, ((47 : Int), (IntKind.i64.wrap ((g.length : Int) + 1), ()))), ()) (by show g.length ≤ 2097152; omega) rfl hw) ?_
 have hL : (jjy 47 g).length ≤ 201 := by have := jqY 47 g; omega
 refine Ev.bind (P := fun _ => True) ?_ fun r _ => ?_
 ·refine Ev.loop (fun (k : Nat) y => y.2.1 = jjy 47 g ∧ (0 : Int) ≤ y.1.2.2.1 ∧ (y.1.2.2.1 : Int) + k = (jjy 47 g).length) (fun k y hy => ?_) (jjy 47 g).length _ ⟨rfl, Int.le_refl _, by show (0 : Int) + _ = _; omega⟩
  obtain ⟨⟨(g1 : Str), u1, (i : Int), u⟩, (L : List Str), u'⟩ := y
  obtain ⟨y1, y2, y3⟩ := hy
  have y1 : L = jjy 47 g := y1
  have y2 : 0 ≤ i := y2
  have y3 : i + k = (jjy 47 g).length := y3
  subst y1
  unfold g131_58
  refine Ev.ite (fun hc => ?_) fun _ => Ev.ret trivial
  have hc : i < ((jjy 47 g).length : Int) := of_decide_eq_true hc
  obtain ⟨j, rfl⟩ := Int.eq_ofNat_of_zero_le y2
  have hj : j < (jjy 47 g).length := by omega
  have hw : IntKind.i64.wrap ((j : Int) + 1) = (j : Int) + 1 := jjG (by omega) (by omega)
  refine Ev.eq (jqQ hj) ?_
  refine Ev.eq (List.getElem?_eq_getElem hj) ?_
  have hm := List.getElem_mem hj
  refine Ev.bind (v_l1Globbed (((jjy 47 g)[j], ()), ()) (by have := jqX 47 g _ hm; show ((jjy 47 g)[j]).length ≤ 2097152; omega) (splitL_nobr hn _ hm)) fun r _ => ?_
  refine Ev.ite (fun _ => Ev.ret trivial) fun _ => ?_
  refine Ev.ret ⟨k - 1, by omega, rfl, ?_, ?_⟩
  ·show 0 ≤ IntKind.i64.wrap ((j : Int) + 1); rw [hw]; omega
  ·show IntKind.i64.wrap ((j : Int) + 1) + ((k - 1 : Nat) : Int) = _; rw [hw]; omega
 ·cases r with
  | inl r => exact Ev.ret trivial
  | inr r => exact Ev.ite (fun _ => Ev.ret trivial) fun _ => Ev.ret trivial
theorem subl1 {s : Str} (h : s ≠ []) : jqJ s (1 : Int) (s.length : Int) = some (s.drop 1) := jxG (a := 1) (by have := List.length_pos_iff.2 h; omega)
theorem subl1L {s : List Str} (h : 0 < s.length) : jqJ s (1 : Int) (s.length : Int) = some (s.drop 1) := jxG (a := 1) h
theorem ne_of_beq {s : Str} (h : (s == ([] : Str)) = false) : s ≠ [] := by simpa using h
theorem fits_ev : ∀ (n : Nat) (g s : Str), NoBr g → g.length + s.length < n → Ev (jxi ff144 n ((g, (s, ())), ())) (fun _ => True) := by
 intro n
 induction n with
 | zero => intro g s _ h; omega
 | succ n ih =>
  intro g s hn hl
  show Ev (ff144 (jxi ff144 n) _) _
  unfold ff144
  refine Ev.ite (fun _ => Ev.ret trivial) fun hg => ?_
  have hg : g ≠ [] := ne_of_beq hg
  have hgp := List.length_pos_iff.2 hg
  obtain ⟨x, k1, k2⟩ := ix_str (s := g) (i := 0) (by omega) (by omega)
  refine Ev.eq k1 ?_
  have hd1 : NoBr (g.drop 1) := fun b hb => hn b (List.mem_of_mem_drop hb)
  have hdl : (g.drop 1).length + 1 = g.length := by rw [List.length_drop]; omega
  refine Ev.ite (fun _ => ?_) fun _ => ?_
  ·refine Ev.eq (subl1 hg) ?_
   refine Ev.bind (ih (g.drop 1) s hd1 (by omega)) fun r _ => ?_
   refine Ev.ite (fun _ => ?_) fun _ => Ev.ret trivial
   refine Ev.ite (fun hs => ?_) fun _ => Ev.ret trivial
   have hs : s ≠ [] := by
    have hs : (!(s == ([] : Str))) = true := hs
    intro e; subst e; cases hs
   have hsp := List.length_pos_iff.2 hs
   refine Ev.eq (subl1 hs) ?_
   exact Ev.bind (ih g (s.drop 1) hn (by rw [List.length_drop]; omega)) fun r _ => Ev.ret trivial
  ·refine Ev.ite (fun _ => Ev.ret trivial) fun hs => ?_
   have hs : s ≠ [] := ne_of_beq hs
   have hsp := List.length_pos_iff.2 hs
   have step : Ev (jxi ff144 n ((g.drop 1, (s.drop 1, ())), ())) (fun _ => True) := ih _ _ hd1 (by rw [List.length_drop]; rw [List.length_drop]; omega)
   refine Ev.eq k1 ?_
   refine Ev.ite (fun _ => ?_) fun _ => ?_
   ·refine Ev.eq (subl1 hg) ?_
    refine Ev.eq (subl1 hs) ?_
    exact Ev.bind step fun r _ => Ev.ret trivial
   ·have hx : ((x.toNat : Int) == 91) = false := by
     have := hn x k2
     simp only [beq_eq_false_iff_ne, ne_eq]; omega
    refine Ev.ite (fun hd => by rw [hx] at hd; cases hd) fun _ => ?_
    refine Ev.eq k1 ?_
    obtain ⟨y, l1, l2⟩ := ix_str (s := s) (i := 0) (by omega) (by omega)
    refine Ev.eq l1 ?_
    refine Ev.ite (fun _ => ?_) fun _ => Ev.ret trivial
    refine Ev.eq (subl1 hg) ?_
    refine Ev.eq (subl1 hs) ?_
    exact Ev.bind step fun r _ => Ev.ret trivial
theorem v_l1Fits (a) (h1 : Bd a.1.1.length) (h2 : Bd a.1.2.1.length) (hn : NoBr a.1.1) : Ev (f144 a) (fun _ => True) := by
 obtain ⟨⟨(g : Str), (s : Str), u⟩, u'⟩ := a
 have h1 : g.length ≤ 2097152 := h1
 have h2 : s.length ≤ 2097152 := h2
 exact fits_ev jzL g s hn (by unfold jzL; omega)
theorem match_ev : ∀ (n : Nat) (g s : List Str), (∀ x, x ∈ g → NoBr x ∧ Bd x.length) → (∀ x, x ∈ s → Bd x.length) → g.length + s.length < n → Ev (jxi ff132 n ((g, (s, ())), ())) (fun _ => True) := by
 intro n
 induction n with
 | zero => intro g s _ _ h; omega
 | succ n ih =>
  intro g s hn hs hl
  show Ev (ff132 (jxi ff132 n) _) _
  unfold ff132
  refine Ev.ite (fun _ => Ev.ret trivial) fun hg => ?_
  have hgp : 0 < g.length := by
   have hg : ((g.length : Int) == 0) = false := hg
   simp only [beq_eq_false_iff_ne, ne_eq] at hg; omega
  obtain ⟨x, k1, k2⟩ := ix_in (xs := g) (i := 0) (by omega) (by omega)
  refine Ev.eq k1 ?_
  have hd1 : ∀ x, x ∈ g.drop 1 → NoBr x ∧ Bd x.length := fun b hb => hn b (List.mem_of_mem_drop hb)
  have hs1 : ∀ x, x ∈ s.drop 1 → Bd x.length := fun b hb => hs b (List.mem_of_mem_drop hb)
  have hdl : (g.drop 1).length + 1 = g.length := by rw [List.length_drop]; omega
  refine Ev.ite (fun _ => ?_) fun _ => ?_
  ·refine Ev.eq (subl1L hgp) ?_
   refine Ev.bind (ih (g.drop 1) s hd1 hs (by omega)) fun r _ => ?_
   refine Ev.ite (fun _ => ?_) fun _ => Ev.ret trivial
   refine Ev.ite (fun hc => ?_) fun _ => Ev.ret trivial
   have hc : (s.length : Int) > 0 := of_decide_eq_true hc
   refine Ev.eq (subl1L (s := s) (by omega)) ?_
   exact Ev.bind (ih g (s.drop 1) hn hs1 (by rw [List.length_drop]; omega)) fun r _ => Ev.ret trivial
  ·refine Ev.ite (fun hc => ?_) fun _ => Ev.ret trivial
   have hc : (s.length : Int) > 0 := of_decide_eq_true hc
   refine Ev.eq k1 ?_
   obtain ⟨y, l1, l2⟩ := ix_in (xs := s) (i := 0) (by omega) (by omega)
   refine Ev.eq l1 ?_
   refine Ev.bind (v_l1Fits ((x, (y, ())), ()) (hn x k2).2 (hs y l2) (hn x k2).1) fun r _ => ?_
   refine Ev.ite (fun _ => ?_) fun _ => Ev.ret trivial
   refine Ev.eq (subl1L hgp) ?_
   refine Ev.eq (subl1L (s := s) (by omega)) ?_
   exact Ev.bind (ih (g.drop 1) (s.drop 1) hd1 hs1 (by rw [List.length_drop]; rw [List.length_drop]; omega)) fun r _ => Ev.ret trivial
theorem v_GlobHas (a) (h1 : a.1.1.length ≤ 200) (h2 : a.1.2.1.length ≤ 1048576) (hn : NoBr a.1.1) : Ev (f107 a) (fun _ => True) := by
 obtain ⟨⟨(g : Str), (s : Str), u⟩, u'⟩ := a
 have h1 : g.length ≤ 200 := h1
 have h2 : s.length ≤ 1048576 := h2
 unfold f107
 refine Ev.bind (v_GlobOk ((g, ()), ()) h1 hn) fun r _ => ?_
 refine Ev.ite (fun _ => ?_) fun _ => Ev.ret trivial
 refine Ev.eq (v_l1Path ((s, ()), ()) (by show s.length ≤ 2097152; omega)) ?_
 refine Ev.ite (fun _ => ?_) fun _ => Ev.ret trivial
 refine Ev.eq (v_l1Cut 47 ((g, ((47 : Int), (IntKind.i64.wrap ((g.length : Int) + 1), ()))), ()) (by show g.length ≤ 2097152; omega) rfl (jjj (by unfold Sm; omega))) ?_
 refine Ev.eq (v_l1Cut 47 ((s, ((47 : Int), (IntKind.i64.wrap ((s.length : Int) + 1), ()))), ()) (by show s.length ≤ 2097152; omega) rfl (jjj (by unfold Sm; omega))) ?_
 have g1 := jqY 47 g
 have s1 := jqY 47 s
 refine Ev.bind (P := fun _ => True) ?_ fun r _ => Ev.ret trivial
 exact match_ev jzL (jjy 47 g) (jjy 47 s) (fun x hx => ⟨splitL_nobr hn x hx, by have := jqX 47 g x hx; unfold Bd; omega⟩) (fun x hx => by have := jqX 47 s x hx; unfold Bd; omega) (by unfold jzL; omega)
theorem v_l1Below (a) (h1 : Bd a.1.1.length) : Ev (f133 a) (fun _ => True) := by
 obtain ⟨⟨(g : Str), (s : Str), u⟩, u'⟩ := a
 unfold f133
 refine Ev.ite (fun _ => ?_) fun _ => Ev.ret trivial
 refine Ev.ite (fun hc => ?_) fun _ => Ev.ret trivial
 have hc : (s.length : Int) > (g.length : Int) := of_decide_eq_true hc
 refine Ev.eq (jzw (xs := s) (b := g.length) (by omega)) ?_
 refine Ev.ite (fun _ => ?_) fun _ => Ev.ret trivial
 obtain ⟨x, k1, _⟩ := ix_str (s := s) (i := (g.length : Int)) (by omega) (by omega)
 exact Ev.eq k1 (Ev.ret trivial)
theorem v_l2Needed (a) (ht : ShT a.1.1) (hg : a.1.2.1.length ≤ 200) (hn : NoBr a.1.2.1) (hd : Sh a.1.2.2.1) : Ev (f108 a) (fun _ => True) := by
 obtain ⟨⟨(t : List Entry), (g : Str), (d : Str), u⟩, u'⟩ := a
 obtain ⟨ht1, ht2⟩ := ht
 have ht1 : t.length ≤ 16 := ht1
 have hd : d.length ≤ 200 := hd
 unfold f108
 refine Ev.bind (P := fun _ => True) ?_ fun r _ => ?_
 ·refine Ev.loop (fun (k : Nat) y => y.1.1 = t ∧ y.1.2.1 = g ∧ y.1.2.2.1 = d ∧ (0 : Int) ≤ y.1.2.2.2.1 ∧ (y.1.2.2.2.1 : Int) + k = t.length) (fun k y hy => ?_) t.length _ ⟨rfl, rfl, rfl, Int.le_refl _, by show (0 : Int) + _ = _; omega⟩
  obtain ⟨⟨(t1 : List Entry), (g1 : Str), (d1 : Str), (i : Int), u⟩, u'⟩ := y
  obtain ⟨y1, y2, y3, y4, y5⟩ := hy
  have y1 : t1 = t := y1
  have y2 : g1 = g := y2
  have y3 : d1 = d := y3
  subst y1 y2 y3
  have y4 : 0 ≤ i := y4
  have y5 : i + k = t1.length := y5
  unfold g108_26
  refine Ev.ite (fun hc => ?_) fun _ => Ev.ret trivial
  have hc : i < (t1.length : Int) := of_decide_eq_true hc
  have hw : IntKind.i64.wrap (i + 1) = i + 1 := jjG (by omega) (by omega)
  obtain ⟨x, k1, k2⟩ := ix_in (xs := t1) y4 hc
  have piece : Ev (jzK ((t1, (g1, (d1, (i, ())))), ())) (fun r => r.1.1 = t1 ∧ r.1.2.1 = g1 ∧ r.1.2.2.1 = d1 ∧ r.1.2.2.2.1 = i) := by
   unfold jzK
   refine Ev.eq k1 ?_
   refine Ev.bind (v_l1Below ((d1, (x.path, ())), ()) (by show d1.length ≤ 2097152; omega)) fun r _ => ?_
   refine Ev.ite (fun _ => ?_) fun _ => Ev.ret ⟨rfl, rfl, rfl, rfl⟩
   refine Ev.eq k1 ?_
   exact Ev.bind (v_GlobHas ((g1, (x.path, ())), ()) hg (Nat.le_trans (ht2 x k2).1 (by decide)) hn) fun r _ => Ev.ret ⟨rfl, rfl, rfl, rfl⟩
  refine Ev.bind piece fun r hr => ?_
  obtain ⟨⟨(t2' : List Entry), (g2 : Str), (d2 : Str), (i2 : Int), (c : Bool), v⟩, v'⟩ := r
  obtain ⟨r1, r2, r3, r4⟩ := hr
  have r1 : t2' = t1 := r1
  have r2 : g2 = g1 := r2
  have r3 : d2 = d1 := r3
  have r4 : i2 = i := r4
  subst r1 r2 r3 r4
  refine Ev.ite (fun _ => Ev.ret trivial) fun _ => ?_
  refine Ev.ret ⟨k - 1, by omega, rfl, rfl, rfl, ?_, ?_⟩
  ·show 0 ≤ IntKind.i64.wrap (i2 + 1); rw [hw]; omega
  ·show IntKind.i64.wrap (i2 + 1) + ((k - 1 : Nat) : Int) = _; rw [hw]; omega
 ·cases r with
  | inl r => exact Ev.ret trivial
  | inr r => exact Ev.ret trivial
theorem v_TreePart (a) (ht : ShT a.1.1) (hg : a.1.2.1.length ≤ 200) (hn : NoBr a.1.2.1) : Ev (f84 a) (fun r => ShT r.2.1) := by
 obtain ⟨⟨(t : List Entry), (g : Str), u⟩, u'⟩ := a
 obtain ⟨ht1, ht2⟩ := ht
 have ht1 : t.length ≤ 16 := ht1
 have hg : g.length ≤ 200 := hg
 have hbE : BdEs t := ⟨by show t.length ≤ 2097152; omega, fun e he => ⟨Nat.le_trans (ht2 e he).1 (by decide), Nat.le_trans (ht2 e he).2 (by decide)⟩⟩
 unfold f84
 refine Ev.bind (P := fun r => ShT r.2.1) ?_ fun r hr => Ev.ret hr
 refine Ev.loop (fun (k : Nat) y => y.1.1 = t ∧ y.1.2.1 = g ∧ (0 : Int) ≤ y.1.2.2.2.1 ∧ (y.1.2.2.2.1 : Int) + k = t.length ∧ ((y.2.1 : List Entry).length : Int) ≤ y.1.2.2.2.1 ∧ ∀ e, e ∈ (y.2.1 : List Entry) → ShE e) (fun k y hy => ?_) t.length _
  ⟨rfl, rfl, Int.le_refl _, by show (0 : Int) + _ = _; omega, by show (0 : Int) ≤ 0; omega, fun e he => by cases he⟩
 obtain ⟨⟨(t1 : List Entry), (g1 : Str), u1, (i : Int), u⟩, (out : List Entry), u'⟩ := y
 obtain ⟨y1, y2, y3, y4, y5, y6⟩ := hy
 have y1 : t1 = t := y1
 have y2 : g1 = g := y2
 subst y1 y2
 have y3 : 0 ≤ i := y3
 have y4 : i + k = t1.length := y4
 have y5 : (out.length : Int) ≤ i := y5
 unfold g84_58
 refine Ev.ite (fun hc => ?_) fun _ => Ev.ret ⟨by show out.length ≤ 16; omega, y6⟩
 have hc : i < (t1.length : Int) := of_decide_eq_true hc
 have hw : IntKind.i64.wrap (i + 1) = i + 1 := jjG (by omega) (by omega)
 obtain ⟨x, k1, k2⟩ := ix_in (xs := t1) y3 hc
 refine Ev.eq (v_TreeOk ((t1, ()), ()) hbE) ?_
 refine Ev.ite (fun _ => ?_) fun _ => Ev.ret ⟨by show out.length ≤ 16; omega, y6⟩
 have piece : Ev (jzD ((t1, (g1, ((), (i, ())))), (out, ()))) (fun r => r.1.1 = t1 ∧ r.1.2.1 = g1 ∧ r.1.2.2.2.1 = i ∧ r.2.1 = out) := by
  unfold jzD
  refine Ev.eq k1 ?_
  refine Ev.bind (v_GlobHas ((g1, (x.path, ())), ()) hg (Nat.le_trans (ht2 x k2).1 (by decide)) hn) fun r _ => ?_
  refine Ev.ite (fun _ => ?_) fun _ => Ev.ret ⟨rfl, rfl, rfl, rfl⟩
  refine Ev.eq k1 ?_
  refine Ev.ite (fun _ => ?_) fun _ => Ev.ret ⟨rfl, rfl, rfl, rfl⟩
  refine Ev.eq k1 ?_
  exact Ev.bind (v_l2Needed ((t1, (g1, (x.path, ()))), ()) ⟨ht1, ht2⟩ hg hn (ht2 x k2).1) fun r _ => Ev.ret ⟨rfl, rfl, rfl, rfl⟩
 refine Ev.bind piece fun r hr => ?_
 obtain ⟨⟨(t2' : List Entry), (g2 : Str), w1, (i2 : Int), (c : Bool), v⟩, (out2 : List Entry), v'⟩ := r
 obtain ⟨r1, r2, r3, r4⟩ := hr
 have r1 : t2' = t1 := r1
 have r2 : g2 = g1 := r2
 have r3 : i2 = i := r3
 have r4 : out2 = out := r4
 subst r1 r2 r3 r4
 refine Ev.ite (fun _ => ?_) fun _ => ?_
 ·refine Ev.eq k1 ?_
  refine Ev.eq (jj0 (by decide) (by unfold Sm; simp; omega)) ?_
  refine Ev.ret ⟨k - 1, by omega, rfl, rfl, ?_, ?_, ?_, fun e he => ?_⟩
  ·show 0 ≤ IntKind.i64.wrap (i2 + 1); rw [hw]; omega
  ·show IntKind.i64.wrap (i2 + 1) + ((k - 1 : Nat) : Int) = _; rw [hw]; omega
  ·show ((out2 ++ [x]).length : Int) ≤ IntKind.i64.wrap (i2 + 1); rw [hw]; simp; omega
  ·have he : e ∈ out2 ++ [x] := he
   rcases List.mem_append.1 he with he | he
   ·exact y6 e he
   ·rw [List.mem_singleton.1 he]; exact ht2 x k2
 ·refine Ev.ret ⟨k - 1, by omega, rfl, rfl, ?_, ?_, ?_, y6⟩
  ·show 0 ≤ IntKind.i64.wrap (i2 + 1); rw [hw]; omega
  ·show IntKind.i64.wrap (i2 + 1) + ((k - 1 : Nat) : Int) = _; rw [hw]; omega
  ·show (out2.length : Int) ≤ IntKind.i64.wrap (i2 + 1); rw [hw]; omega
theorem dec_ev : ∀ (n : Nat) (x : Int), 0 ≤ x → x ≤ 100000 → x < n → Ev (jxi ff111 n ((x, ()), ())) (fun r => ((r.1.1 : Str).length : Int) ≤ x + 1) := by
 intro n
 induction n with
 | zero => intro x h0 _ h; omega
 | succ n ih =>
  intro x h0 h1 hl
  show Ev (ff111 (jxi ff111 n) _) _
  unfold ff111
  refine Ev.ite (fun hc => ?_) fun _ => ?_
  ·have hc : x < -9223372036854775807 := of_decide_eq_true hc
   omega
  refine Ev.ite (fun hc => ?_) fun _ => ?_
  ·have hc : x < 0 := of_decide_eq_true hc
   omega
  refine Ev.ite (fun hc => ?_) fun hc => ?_
  ·exact Ev.ret (by show ((strOf [_]).length : Int) ≤ x + 1; simp [strOf]; omega)
  ·have hc : ¬ x < 10 := of_decide_eq_false hc
   refine Ev.eq (quo_nn (x := x) rfl h0 (by omega) (by decide)) ?_
   refine Ev.bind (ih (x / 10) (by omega) (by omega) (by omega)) fun r hr => ?_
   refine Ev.eq (rem_nn (x := x) h0 (by decide)) ?_
   have hr : ((r.1.1 : Str).length : Int) ≤ x / 10 + 1 := hr
   refine Ev.eq (ev_cat (s := r.1.1) (by simp [strOf]; omega)) ?_
   exact Ev.ret (by show (((r.1.1 : Str) ++ strOf [_]).length : Int) ≤ x + 1; rw [List.length_append]; simp [strOf]; omega)
theorem v_l1Dec (a) (h0 : (0 : Int) ≤ a.1.1) (h1 : (a.1.1 : Int) ≤ 100) : Ev (f111 a) (fun r => (r.1.1 : Str).length ≤ 101) := by
 obtain ⟨⟨(x : Int), u⟩, u'⟩ := a
 have h0 : 0 ≤ x := h0
 have h1 : x ≤ 100 := h1
 exact (dec_ev jzL x h0 (by omega) (by unfold jzL; omega)).mono fun r hr => by have hr : ((r.1.1 : Str).length : Int) ≤ x + 1 := hr; omega
theorem v_l11Tree (a) (m : Nat) (h : RD a.2.1.1 a.2.1.2.1 m) (hm : 40 ≤ m) : Ev (f85v0 a) (fun r => RD r.2.1.1 r.2.1.2.1 (m - 40) ∧ ShT r.2.2.1) := by
 obtain ⟨⟨u1, u2⟩, ⟨⟨(b : List Int), (p : Int), u3⟩, u4⟩⟩ := a
 have h : RD b p m := h
 unfold f85v0
 refine Ev.bind (P := fun r => RD r.2.1.1 r.2.1.2.1 (m - 5) ∧ ShT r.2.2.1) ?_ fun r1 h1 => ?_
 ·refine Ev.loop (fun (k : Nat) y => k ≤ 5 ∧ (0 : Int) ≤ y.1.2.2.2.1 ∧ (y.1.2.2.2.1 : Int) + k = 5 ∧ (y.2.2.2.1 : List Str) = [[97], [108, 105, 98], [98, 105, 110], [100, 111, 99], [97, 47, 98]] ∧ RD y.2.1.1 y.2.1.2.1 (m - (5 - k)) ∧ ShT y.2.2.1) (fun k y hy => ?_) 5 _
   ⟨Nat.le_refl _, Int.le_refl _, by show (0 : Int) + (5 : Nat) = 5; rfl, rfl, h, by show (0 : Nat) ≤ 16; decide, fun e he => by cases he⟩
  obtain ⟨⟨w1, w2, w3, (i : Int), w4⟩, ⟨⟨(b' : List Int), (p' : Int), w5⟩, (t : List Entry), (L : List Str), w6⟩⟩ := y
  obtain ⟨y1, y2, y3, y4, y5, y6⟩ := hy
  have y2 : 0 ≤ i := y2
  have y3 : i + k = 5 := y3
  have y4 : L = _ := y4
  have hL : L.length = 5 := by rw [y4]; rfl
  have hLs : ∀ s, s ∈ L → Sh s := by rw [y4]; exact fun s hs => sh_all (by rfl) hs
  have y5 : RD b' p' (m - (5 - k)) := y5
  have y6 : ShT t := y6
  unfold g85v0_122
  refine Ev.ite (fun hc => ?_) fun hc => ?_
  ·have hc : i < (L.length : Int) := of_decide_eq_true hc
   have hw : IntKind.i64.wrap (i + 1) = i + 1 := jjG (by omega) (by omega)
   obtain ⟨j, rfl⟩ := Int.eq_ofNat_of_zero_le y2
   have hj : j < L.length := by omega
   refine Ev.bind (jqK _ _ y5 (by omega)) fun r hr => ?_
   have hR : RD r.2.1.1 r.2.1.2.1 (m - (5 - (k - 1))) := hr.1.less (by omega)
   refine Ev.ite (fun _ => ?_) fun _ => ?_
   ·refine Ev.eq (jqQ hj) ?_
    refine Ev.eq (List.getElem?_eq_getElem hj) ?_
    have hsh : Sh L[j] := hLs _ (List.getElem_mem hj)
    refine Ev.bind (v_l2Put ((t, ((L[j], ((1 : Int), ((7 : Int), (([] : Str), ())))), ())), ()) y6 ⟨hsh, by show (0 : Nat) ≤ 200; decide⟩) fun r2 h2 => ?_
    refine Ev.ret ⟨k - 1, by omega, by omega, ?_, ?_, y4, hR, h2⟩
    ·show 0 ≤ IntKind.i64.wrap ((j : Int) + 1); rw [hw]; omega
    ·show IntKind.i64.wrap ((j : Int) + 1) + ((k - 1 : Nat) : Int) = 5; rw [hw]; omega
   ·refine Ev.ret ⟨k - 1, by omega, by omega, ?_, ?_, y4, hR, y6⟩
    ·show 0 ≤ IntKind.i64.wrap ((j : Int) + 1); rw [hw]; omega
    ·show IntKind.i64.wrap ((j : Int) + 1) + ((k - 1 : Nat) : Int) = 5; rw [hw]; omega
  ·exact Ev.ret ⟨y5.less (by omega), y6⟩
 refine Ev.bind (jqK _ _ h1.1 (by omega)) fun r2 h2 => ?_
 obtain ⟨⟨v1, (q : Int), v2⟩, ⟨⟨(b1 : List Int), (p1 : Int), v3⟩, v4⟩⟩ := r2
 have h2n : q < 7 := h2.2.2 (by show (1 : Int) ≤ 7; decide)
 have h20 : 0 ≤ q := h2.2.1
 refine Ev.bind (P := fun r => RD r.2.1.1 r.2.1.2.1 (m - 34) ∧ ShT r.2.2.1) ?_ fun r3 h3 => ?_
 ·refine Ev.loop (fun (k : Nat) y => k ≤ 6 ∧ (y.1.2.2.1 : Int) = k ∧ RD y.2.1.1 y.2.1.2.1 (m - 34 + 4 * k) ∧ ShT y.2.2.1) (fun k y hy => ?_) q.toNat _
   ⟨by omega, by show q = _; omega, (by refine h2.1.less ?_; omega), h1.2⟩
  obtain ⟨⟨w1, w2, (i : Int), w4⟩, ⟨⟨(b' : List Int), (p' : Int), w5⟩, (t : List Entry), w6⟩⟩ := y
  obtain ⟨y1, y3, y5, y6⟩ := hy
  have y3 : i = k := y3
  subst y3
  have y5 : RD b' p' (m - 34 + 4 * k) := y5
  have y6 : ShT t := y6
  unfold g85v0_250
  refine Ev.ite (fun hc => ?_) fun hc => ?_
  ·have hc : (k : Int) > 0 := of_decide_eq_true hc
   have hw : IntKind.i64.wrap ((k : Int) - 1) = ((k - 1 : Nat) : Int) := by rw [jjG (by omega) (by omega)]; omega
   refine Ev.bind (v_l11Entry _ _ y5 (by omega)) fun r hr => ?_
   refine Ev.bind (v_l2Put ((t, ((r.2.2.1.1, (r.2.2.1.2.1, (r.2.2.1.2.2.1, (r.2.2.1.2.2.2.1, ())))), ())), ()) y6 hr.2) fun r2 h2 => ?_
   exact Ev.ret ⟨k - 1, by omega, by omega, hw, hr.1.less (by omega), h2⟩
  ·exact Ev.ret ⟨y5.less (by omega), y6⟩
 refine Ev.bind (jqK _ _ h3.1 (by omega)) fun r4 h4 => ?_
 refine Ev.ite (fun _ => ?_) fun _ => Ev.ret ⟨h4.1.less (by omega), h3.2⟩
 refine Ev.bind (P := fun r => RD r.2.1.1 r.2.1.2.1 (m - 34 - 1) ∧ ShT r.2.2.1) ?_ fun r5 h5 => Ev.ret ⟨h5.1.less (by omega), h5.2⟩
 refine Ev.loop (fun (k : Nat) y => (0 : Int) ≤ y.1.2.2.1 ∧ (y.1.2.2.1 : Int) + k = 16 ∧ RD y.2.1.1 y.2.1.2.1 (m - 34 - 1) ∧ ShT y.2.2.1) (fun k y hy => ?_) 16 _ ⟨Int.le_refl _, by show (0 : Int) + (16 : Nat) = 16; rfl, h4.1, h3.2⟩
 obtain ⟨⟨w1, w2, (i : Int), w4⟩, ⟨⟨(b' : List Int), (p' : Int), w5⟩, (t : List Entry), w6⟩⟩ := y
 obtain ⟨y1, y3, y5, y6⟩ := hy
 have y1 : 0 ≤ i := y1
 have y3 : i + k = 16 := y3
 have y6 : ShT t := y6
 unfold g85v0_2026
 refine Ev.ite (fun hc => ?_) fun hc => Ev.ret ⟨y5, y6⟩
 have hc : i < 16 := of_decide_eq_true hc
 have hw : IntKind.i64.wrap (i + 1) = i + 1 := jjG (by omega) (by omega)
 refine Ev.bind (v_l1Dec ((i, ()), ()) y1 (by show i ≤ 100; omega)) fun r hr => ?_
 have hr : (r.1.1 : Str).length ≤ 101 := hr
 refine Ev.eq (ev_cat (s := [102]) (t := r.1.1) (by show 1 + _ ≤ _; omega)) ?_
 refine Ev.bind (v_l2Put ((t, (((([102] : Str) ++ r.1.1, ((2 : Int), ((0 : Int), (([] : Str), ()))))), ())), ()) y6 ⟨by show ((([102] : Str) ++ r.1.1).length) ≤ 200; simp; omega, by show (0 : Nat) ≤ 200; decide⟩) fun r2 h2 => ?_
 refine Ev.ret ⟨k - 1, by omega, ?_, ?_, y5, h2⟩
 ·show 0 ≤ IntKind.i64.wrap (i + 1); rw [hw]; omega
 ·show IntKind.i64.wrap (i + 1) + ((k - 1 : Nat) : Int) = 16; rw [hw]; omega
noncomputable def c112v0 : Ctx := { tt := tt, fs := fun n => match n with | 17 => some jqa | 18 => some jqt | 134 => some S134v0 | _ => none }
theorem k112v0 (h : ∀ T, (tt T).ok Pz T) (h17v0 : jja Pz 17 jqa) (h18v0 : jja Pz 18 jqt) (h134v0 : jja Pz 134 S134v0) : CtxGood Pz c112v0 := ⟨⟨h⟩, fun g S hg => (by
 simp only [c112v0] at hg
 split at hg
 ·cases hg; exact h17v0
 ·cases hg; exact h18v0
 ·cases hg; exact h134v0
 ·cases hg), jjp, fun _ _ h => (by cases h), fun _ h => (by cases h)⟩
noncomputable def b112v0 : Code := jji Tryz.f112
@[reducible] noncomputable def i112v0 : Shape := ⟨[(0, .lf (.ptr 500000 0))], [(500000, .box [.d (.sl .u8), .d (.int .i64)], .same)], 11⟩
@[reducible] noncomputable def o112v0 : Shape := ⟨[(0, .lf (.ptr 500000 0)), (2, .lf (.d (.str)))], [(500000, .box [.d (.sl .u8), .d (.int .i64)], .same)], 11⟩
noncomputable def f112v0 (a : i112v0.Y) : Option o112v0.Y :=
(jq3 (((), ((6 : Int), ())), ((a.2.1.1, (a.2.1.2.1, ())), ()))).bind fun r852 =>
 bif (r852.1.2.1 == (0 : Int)) then
(jzZ (((), (([([] : Str), ([47] : Str), ([97, 47] : Str), ([47, 97] : Str), ([46] : Str), ([46, 46] : Str), ([97, 47, 47, 98] : Str), ([65] : Str), ([97, 47, 98, 47, 99, 47, 100, 47, 101, 47, 102] : Str), ([101, 108, 101, 118, 101, 110, 108, 101, 116, 116, 101] : Str), ([97, 32, 98] : Str), ([120, 47, 46, 46, 47, 121] : Str)] : List Str), ())), ((r852.2.1.1, (r852.2.1.2.1, ())), ()))).bind fun r853 =>
 some (((), (r853.1.2.1, ())), ((r853.2.1.1, (r853.2.1.2.1, ())), ()))
else
(f134v0 (((), ()), ((r852.2.1.1, (r852.2.1.2.1, ())), ()))).bind fun r854 =>
 some (((), (r854.1.2.1, ())), ((r854.2.1.1, (r854.2.1.2.1, ())), ()))
theorem e112v0 : ∀ a, f112v0 a = jjo (jjd c112v0 []) b112v0 i112v0 o112v0 a := fun a => by kernel_rfl
noncomputable def S112v0 : jjF := jjf tt 11 i112v0 o112v0 [.tmp 2] [0] f112v0
theorem z112v0 (h : ∀ T, (tt T).ok Pz T) (h17v0 : jja Pz 17 jqa) (h18v0 : jja Pz 18 jqt) (h134v0 : jja Pz 134 S134v0) : jja Pz 112 S112v0 :=
 have H := k112v0 h h17v0 h18v0 h134v0
 jjk (fn := Tryz.f112) (fr := []) H (by kernel_rfl) (by kernel_rfl) (by kernel_rfl) (by kernel_rfl) (by kernel_rfl) jje (by kernel_rfl) (fun y => ⟨_, _, rfl, rfl, rfl⟩) e112v0
noncomputable def c60v0 : Ctx := { tt := tt, fs := fun n => match n with | 17 => some jqa | 18 => some jqt | 32 => some S32v0 | _ => none }
theorem k60v0 (h : ∀ T, (tt T).ok Pz T) (h17v0 : jja Pz 17 jqa) (h18v0 : jja Pz 18 jqt) (h32v0 : jja Pz 32 S32v0) : CtxGood Pz c60v0 := ⟨⟨h⟩, fun g S hg => (by
 simp only [c60v0] at hg
 split at hg
 ·cases hg; exact h17v0
 ·cases hg; exact h18v0
 ·cases hg; exact h32v0
 ·cases hg), jjp, fun _ _ h => (by cases h), fun _ h => (by cases h)⟩
noncomputable def b60v0 : Code := jji Tryz.f60
@[reducible] noncomputable def i60v0 : Shape := ⟨[(0, .lf (.ptr 500000 0))], [(500000, .box [.d (.sl .u8), .d (.int .i64)], .same)], 17⟩
@[reducible] noncomputable def o60v0 : Shape := ⟨[(0, .lf (.ptr 500000 0)), (2, .lf (.ptr 2 0))], [(500000, .box [.d (.sl .u8), .d (.int .i64)], .same), (2, .box [.d (.str), .d (.int .i64), .d (.str)], .same)], 17⟩
noncomputable def f60v0 (a : i60v0.Y) : Option o60v0.Y :=
(jzZ (((), (([([111, 110, 101] : Str), ([116, 119, 111] : Str), ([116, 104, 114, 101, 101] : Str), ([122, 105, 112] : Str)] : List Str), ())), ((a.2.1.1, (a.2.1.2.1, ())), ()))).bind fun r776 =>
(jq3 (((), ((4 : Int), ())), ((r776.2.1.1, (r776.2.1.2.1, ())), ()))).bind fun r777 =>
 bif (r777.1.2.1 != (0 : Int)) then
(f32v0 (((), ()), ((r777.2.1.1, (r777.2.1.2.1, ())), ()))).bind fun r778 =>
 some (((), ((), ())), ((r778.2.1.1, (r778.2.1.2.1, ())), ((r776.1.2.1, (r777.1.2.1, (r778.1.2.1, ()))), ())))
else
 some (((), ((), ())), ((r777.2.1.1, (r777.2.1.2.1, ())), ((r776.1.2.1, (r777.1.2.1, (([] : Str), ()))), ())))
theorem e60v0 : ∀ a, f60v0 a = jjo (jjd c60v0 []) b60v0 i60v0 o60v0 a := fun a => by kernel_rfl
noncomputable def S60v0 : jjF := jjf tt 17 i60v0 o60v0 [.cell 2 37] [0] f60v0
theorem z60v0 (h : ∀ T, (tt T).ok Pz T) (h17v0 : jja Pz 17 jqa) (h18v0 : jja Pz 18 jqt) (h32v0 : jja Pz 32 S32v0) : jja Pz 60 S60v0 :=
 have H := k60v0 h h17v0 h18v0 h32v0
 jjk (fn := Tryz.f60) (fr := []) H (by kernel_rfl) (by kernel_rfl) (by kernel_rfl) (by kernel_rfl) (by kernel_rfl) jje (by kernel_rfl) (fun y => ⟨_, _, rfl, rfl, rfl⟩) e60v0
noncomputable def c57v0 : Ctx := { tt := tt, fs := fun n => match n with | 17 => some jqa | 18 => some jqt | 32 => some S32v0 | 60 => some S60v0 | 84 => some S84 | 85 => some S85v0 | _ => none }
theorem k57v0 (h : ∀ T, (tt T).ok Pz T) (h17v0 : jja Pz 17 jqa) (h18v0 : jja Pz 18 jqt) (h32v0 : jja Pz 32 S32v0) (h60v0 : jja Pz 60 S60v0) (h84 : jja Pz 84 S84) (h85v0 : jja Pz 85 S85v0) : CtxGood Pz c57v0 := ⟨⟨h⟩, fun g S hg => (by
 simp only [c57v0] at hg
 split at hg
 ·cases hg; exact h17v0
 ·cases hg; exact h18v0
 ·cases hg; exact h32v0
 ·cases hg; exact h60v0
 ·cases hg; exact h84
 ·cases hg; exact h85v0
 ·cases hg), jjp, fun _ _ h => (by cases h), fun _ h => (by cases h)⟩
noncomputable def b57v0 : Code := jji Tryz.f57
@[reducible] noncomputable def i57v0 : Shape := ⟨[(0, .lf (.ptr 500000 0)), (1, .lf (.d (.str)))], [(500000, .box [.d (.sl .u8), .d (.int .i64)], .same)], 27⟩
@[reducible] noncomputable def o57v0 : Shape := ⟨[(0, .lf (.ptr 500000 0)), (4, .lf (.ptr 4 0))], [(500000, .box [.d (.sl .u8), .d (.int .i64)], .same), (5000258, .row .need, .cell 4 2), (5000259, .row .entry, .cell 4 3), (4, .box [.d (.str), .d (.str), .own 5000258, .own 5000259], .same)], 27⟩
noncomputable def f57v0 (a : i57v0.Y) : Option o57v0.Y :=
(f32v0 (((), ()), ((a.2.1.1, (a.2.1.2.1, ())), ()))).bind fun r785 =>
(f85v0 (((), ()), ((r785.2.1.1, (r785.2.1.2.1, ())), ()))).bind fun r786 =>
(jzZ (((), (([([42, 42] : Str), ([97, 47, 42, 42] : Str), ([108, 105, 98, 47, 42, 42] : Str), ([100, 111, 99, 47, 42, 42] : Str), ([98, 42] : Str)] : List Str), ())), ((r786.2.1.1, (r786.2.1.2.1, ())), ()))).bind fun r787 =>
(f84 ((r786.2.2.1, (r787.1.2.1, ())), ())).bind fun r788 =>
(jq3 (((), ((3 : Int), ())), ((r787.2.1.1, (r787.2.1.2.1, ())), ()))).bind fun r790 =>
 bif (r790.1.2.1 == (0 : Int)) then
(f60v0 (((), ()), ((r790.2.1.1, (r790.2.1.2.1, ())), ()))).bind fun r791 =>
(apd 40 ([] : List Need) ([(Need.mk r791.2.2.1.1 r791.2.2.1.2.1 r791.2.2.1.2.2.1)] : List Need)).bind fun x792 =>
 some (((), ((), ())), ((r791.2.1.1, (r791.2.1.2.1, ())), (x792, (r788.2.1, ((a.1.2.1, (r785.1.2.1, ((), ((), ())))), ())))))
else
 some (((), ((), ())), ((r790.2.1.1, (r790.2.1.2.1, ())), (([] : List Need), (r788.2.1, ((a.1.2.1, (r785.1.2.1, ((), ((), ())))), ())))))
theorem e57v0 : ∀ a, f57v0 a = jjo (jjd c57v0 []) b57v0 i57v0 o57v0 a := fun a => by kernel_rfl
noncomputable def S57v0 : jjF := jjf tt 27 i57v0 o57v0 [.cell 4 35] [0] f57v0
theorem z57v0 (h : ∀ T, (tt T).ok Pz T) (h17v0 : jja Pz 17 jqa) (h18v0 : jja Pz 18 jqt) (h32v0 : jja Pz 32 S32v0) (h60v0 : jja Pz 60 S60v0) (h84 : jja Pz 84 S84) (h85v0 : jja Pz 85 S85v0) : jja Pz 57 S57v0 :=
 have H := k57v0 h h17v0 h18v0 h32v0 h60v0 h84 h85v0
 jjk (fn := Tryz.f57) (fr := []) H (by kernel_rfl) (by kernel_rfl) (by kernel_rfl) (by kernel_rfl) (by kernel_rfl) jje (by kernel_rfl) (fun y => ⟨_, _, rfl, rfl, rfl⟩) e57v0
noncomputable def c58v0 : Ctx := { tt := tt, fs := fun n => match n with | 17 => some jqa | 18 => some jqt | 32 => some S32v0 | _ => none }
theorem k58v0 (h : ∀ T, (tt T).ok Pz T) (h17v0 : jja Pz 17 jqa) (h18v0 : jja Pz 18 jqt) (h32v0 : jja Pz 32 S32v0) : CtxGood Pz c58v0 := ⟨⟨h⟩, fun g S hg => (by
 simp only [c58v0] at hg
 split at hg
 ·cases hg; exact h17v0
 ·cases hg; exact h18v0
 ·cases hg; exact h32v0
 ·cases hg), jjp, fun _ _ h => (by cases h), fun _ h => (by cases h)⟩
noncomputable def b58v0 : Code := jji Tryz.f58
@[reducible] noncomputable def i58v0 : Shape := ⟨[(0, .lf (.ptr 500000 0))], [(500000, .box [.d (.sl .u8), .d (.int .i64)], .same)], 11⟩
@[reducible] noncomputable def o58v0 : Shape := ⟨[(0, .lf (.ptr 500000 0)), (2, .lf (.d (.str)))], [(500000, .box [.d (.sl .u8), .d (.int .i64)], .same)], 11⟩
noncomputable def f58v0 (a : i58v0.Y) : Option o58v0.Y :=
(jq3 (((), ((6 : Int), ())), ((a.2.1.1, (a.2.1.2.1, ())), ()))).bind fun r810 =>
 bif (r810.1.2.1 == (0 : Int)) then
(jzZ (((), (([([] : Str), ([46] : Str), ([49, 46] : Str), ([48, 49] : Str), ([49, 48, 48, 48] : Str), ([49, 46, 50, 46, 51, 46, 52, 46, 53] : Str), ([97] : Str), ([49, 46, 45, 49] : Str)] : List Str), ())), ((r810.2.1.1, (r810.2.1.2.1, ())), ()))).bind fun r811 =>
 some (((), (r811.1.2.1, ())), ((r811.2.1.1, (r811.2.1.2.1, ())), ()))
else
(f32v0 (((), ()), ((r810.2.1.1, (r810.2.1.2.1, ())), ()))).bind fun r812 =>
 some (((), (r812.1.2.1, ())), ((r812.2.1.1, (r812.2.1.2.1, ())), ()))
theorem e58v0 : ∀ a, f58v0 a = jjo (jjd c58v0 []) b58v0 i58v0 o58v0 a := fun a => by kernel_rfl
noncomputable def S58v0 : jjF := jjf tt 11 i58v0 o58v0 [.tmp 2] [0] f58v0
theorem z58v0 (h : ∀ T, (tt T).ok Pz T) (h17v0 : jja Pz 17 jqa) (h18v0 : jja Pz 18 jqt) (h32v0 : jja Pz 32 S32v0) : jja Pz 58 S58v0 :=
 have H := k58v0 h h17v0 h18v0 h32v0
 jjk (fn := Tryz.f58) (fr := []) H (by kernel_rfl) (by kernel_rfl) (by kernel_rfl) (by kernel_rfl) (by kernel_rfl) jje (by kernel_rfl) (fun y => ⟨_, _, rfl, rfl, rfl⟩) e58v0
noncomputable def c59v0 : Ctx := { tt := tt, fs := fun n => match n with | 17 => some jqa | 18 => some jqt | 58 => some S58v0 | 60 => some S60v0 | _ => none }
theorem k59v0 (h : ∀ T, (tt T).ok Pz T) (h17v0 : jja Pz 17 jqa) (h18v0 : jja Pz 18 jqt) (h58v0 : jja Pz 58 S58v0) (h60v0 : jja Pz 60 S60v0) : CtxGood Pz c59v0 := ⟨⟨h⟩, fun g S hg => (by
 simp only [c59v0] at hg
 split at hg
 ·cases hg; exact h17v0
 ·cases hg; exact h18v0
 ·cases hg; exact h58v0
 ·cases hg; exact h60v0
 ·cases hg), jjp, fun _ _ h => (by cases h), fun _ h => (by cases h)⟩
noncomputable def b59v0 : Code := jji Tryz.f59
@[reducible] noncomputable def i59v0 : Shape := ⟨[(0, .lf (.ptr 500000 0))], [(500000, .box [.d (.sl .u8), .d (.int .i64)], .same)], 26⟩
@[reducible] noncomputable def o59v0 : Shape := ⟨[(0, .lf (.ptr 500000 0)), (2, .lf (.ptr 2 0))], [(500000, .box [.d (.sl .u8), .d (.int .i64)], .same), (2, .box [.d (.str), .d (.int .i64), .d (.str)], .same)], 26⟩
noncomputable def f59v0 (a : i59v0.Y) : Option o59v0.Y :=
(f60v0 (((), ()), ((a.2.1.1, (a.2.1.2.1, ())), ()))).bind fun r822 =>
(jq3 (((), ((14 : Int), ())), ((r822.2.1.1, (r822.2.1.2.1, ())), ()))).bind fun r824 =>
 bif (r824.1.2.1 == (0 : Int)) then
(jzZ (((), (([([] : Str), ([57] : Str), ([79, 110, 101] : Str), ([101, 108, 101, 118, 101, 110, 108, 101, 116, 116, 101] : Str)] : List Str), ())), ((r824.2.1.1, (r824.2.1.2.1, ())), ()))).bind fun r825 =>
 some (((), ((), ())), ((r825.2.1.1, (r825.2.1.2.1, ())), ((r825.1.2.1, (r822.2.2.1.2.1, (r822.2.2.1.2.2.1, ()))), ())))
else
 bif (r824.1.2.1 == (1 : Int)) then
(jq3 (((), ((6 : Int), ())), ((r824.2.1.1, (r824.2.1.2.1, ())), ()))).bind fun r826 =>
 some (((), ((), ())), ((r826.2.1.1, (r826.2.1.2.1, ())), ((r822.2.2.1.1, ((IntKind.i64.wrap (r826.1.2.1 - (1 : Int))), (r822.2.2.1.2.2.1, ()))), ())))
else
 bif (r824.1.2.1 == (2 : Int)) then
(f58v0 (((), ()), ((r824.2.1.1, (r824.2.1.2.1, ())), ()))).bind fun r827 =>
 some (((), ((), ())), ((r827.2.1.1, (r827.2.1.2.1, ())), ((r822.2.2.1.1, (r822.2.2.1.2.1, (r827.1.2.1, ()))), ())))
else
 some (((), ((), ())), ((r824.2.1.1, (r824.2.1.2.1, ())), ((r822.2.2.1.1, (r822.2.2.1.2.1, (r822.2.2.1.2.2.1, ()))), ())))
theorem e59v0 : ∀ a, f59v0 a = jjo (jjd c59v0 []) b59v0 i59v0 o59v0 a := fun a => by kernel_rfl
noncomputable def S59v0 : jjF := jjf tt 26 i59v0 o59v0 [.cell 2 37] [0] f59v0
theorem z59v0 (h : ∀ T, (tt T).ok Pz T) (h17v0 : jja Pz 17 jqa) (h18v0 : jja Pz 18 jqt) (h58v0 : jja Pz 58 S58v0) (h60v0 : jja Pz 60 S60v0) : jja Pz 59 S59v0 :=
 have H := k59v0 h h17v0 h18v0 h58v0 h60v0
 jjk (fn := Tryz.f59) (fr := []) H (by kernel_rfl) (by kernel_rfl) (by kernel_rfl) (by kernel_rfl) (by kernel_rfl) jje (by kernel_rfl) (fun y => ⟨_, _, rfl, rfl, rfl⟩) e59v0
noncomputable def c87v0 : Ctx := { tt := tt, fs := fun n => match n with | 17 => some jqa | 18 => some jqt | 110 => some S110v0 | 112 => some S112v0 | 113 => some S113v0 | 114 => some S114 | _ => none }
theorem k87v0 (h : ∀ T, (tt T).ok Pz T) (h17v0 : jja Pz 17 jqa) (h18v0 : jja Pz 18 jqt) (h110v0 : jja Pz 110 S110v0) (h112v0 : jja Pz 112 S112v0) (h113v0 : jja Pz 113 S113v0) (h114 : jja Pz 114 S114) : CtxGood Pz c87v0 := ⟨⟨h⟩, fun g S hg => (by
 simp only [c87v0] at hg
 split at hg
 ·cases hg; exact h17v0
 ·cases hg; exact h18v0
 ·cases hg; exact h110v0
 ·cases hg; exact h112v0
 ·cases hg; exact h113v0
 ·cases hg; exact h114
 ·cases hg), jjp, fun _ _ h => (by cases h), fun _ h => (by cases h)⟩
noncomputable def b87v0 : Code := jji Tryz.f87
@[reducible] noncomputable def i87v0 : Shape := ⟨[(0, .lf (.ptr 500000 0))], [(500000, .box [.d (.sl .u8), .d (.int .i64)], .same)], 32⟩
@[reducible] noncomputable def o87v0 : Shape := ⟨[(0, .lf (.ptr 500000 0)), (2, .lf (.ptr 2 0))], [(500000, .box [.d (.sl .u8), .d (.int .i64)], .same), (2, .box [.d (.str), .d (.int .i64), .d (.int .i64), .d (.str)], .same)], 32⟩
noncomputable def f87v0 (a : i87v0.Y) : Option o87v0.Y :=
(f110v0 (((), ()), ((a.2.1.1, (a.2.1.2.1, ())), ()))).bind fun r861 =>
(jq3 (((), ((14 : Int), ())), ((r861.2.1.1, (r861.2.1.2.1, ())), ()))).bind fun r863 =>
 bif (r863.1.2.1 == (0 : Int)) then
(f112v0 (((), ()), ((r863.2.1.1, (r863.2.1.2.1, ())), ()))).bind fun r864 =>
 some (((), ((), ())), ((r864.2.1.1, (r864.2.1.2.1, ())), ((r864.1.2.1, (r861.2.2.1.2.1, (r861.2.2.1.2.2.1, (r861.2.2.1.2.2.2.1, ())))), ())))
else
 bif (r863.1.2.1 == (1 : Int)) then
(jq3 (((), ((5 : Int), ())), ((r863.2.1.1, (r863.2.1.2.1, ())), ()))).bind fun r865 =>
 some (((), ((), ())), ((r865.2.1.1, (r865.2.1.2.1, ())), ((r861.2.2.1.1, (r865.1.2.1, (r861.2.2.1.2.2.1, (r861.2.2.1.2.2.2.1, ())))), ())))
else
 bif (r863.1.2.1 == (2 : Int)) then
(f113v0 (((), (([((-1) : Int), (8 : Int), (0 : Int)] : List Int), ())), ((r863.2.1.1, (r863.2.1.2.1, ())), ()))).bind fun r866 =>
 some (((), ((), ())), ((r866.2.1.1, (r866.2.1.2.1, ())), ((r861.2.2.1.1, (r861.2.2.1.2.1, (r866.1.2.1, (r861.2.2.1.2.2.2.1, ())))), ())))
else
 bif (r863.1.2.1 == (3 : Int)) then
(f114 ((([117] : Str), ((81 : Int), ())), ())).bind fun r867 =>
(jzZ (((), (([([1] : Str), r867.1.1, ([120] : Str), ([] : Str)] : List Str), ())), ((r863.2.1.1, (r863.2.1.2.1, ())), ()))).bind fun r868 =>
 some (((), ((), ())), ((r868.2.1.1, (r868.2.1.2.1, ())), ((r861.2.2.1.1, (r861.2.2.1.2.1, (r861.2.2.1.2.2.1, (r868.1.2.1, ())))), ())))
else
 some (((), ((), ())), ((r863.2.1.1, (r863.2.1.2.1, ())), ((r861.2.2.1.1, (r861.2.2.1.2.1, (r861.2.2.1.2.2.1, (r861.2.2.1.2.2.2.1, ())))), ())))
theorem e87v0 : ∀ a, f87v0 a = jjo (jjd c87v0 []) b87v0 i87v0 o87v0 a := fun a => by kernel_rfl
noncomputable def S87v0 : jjF := jjf tt 32 i87v0 o87v0 [.cell 2 100] [0] f87v0
theorem z87v0 (h : ∀ T, (tt T).ok Pz T) (h17v0 : jja Pz 17 jqa) (h18v0 : jja Pz 18 jqt) (h110v0 : jja Pz 110 S110v0) (h112v0 : jja Pz 112 S112v0) (h113v0 : jja Pz 113 S113v0) (h114 : jja Pz 114 S114) : jja Pz 87 S87v0 :=
 have H := k87v0 h h17v0 h18v0 h110v0 h112v0 h113v0 h114
 jjk (fn := Tryz.f87) (fr := []) H (by kernel_rfl) (by kernel_rfl) (by kernel_rfl) (by kernel_rfl) (by kernel_rfl) jje (by kernel_rfl) (fun y => ⟨_, _, rfl, rfl, rfl⟩) e87v0
noncomputable def c61v0 : Ctx := { tt := tt, fs := fun n => match n with | 17 => some jqa | 85 => some S85v0 | 86 => some S86 | 87 => some S87v0 | _ => none }
theorem k61v0 (h : ∀ T, (tt T).ok Pz T) (h17v0 : jja Pz 17 jqa) (h85v0 : jja Pz 85 S85v0) (h86 : jja Pz 86 S86) (h87v0 : jja Pz 87 S87v0) : CtxGood Pz c61v0 := ⟨⟨h⟩, fun g S hg => (by
 simp only [c61v0] at hg
 split at hg
 ·cases hg; exact h17v0
 ·cases hg; exact h85v0
 ·cases hg; exact h86
 ·cases hg; exact h87v0
 ·cases hg), jjp, fun _ _ h => (by cases h), fun _ h => (by cases h)⟩
noncomputable def b61v0 : Code := jji Tryz.f61
@[reducible] noncomputable def i61v0 : Shape := ⟨[(0, .lf (.ptr 500000 0))], [(500000, .box [.d (.sl .u8), .d (.int .i64)], .same)], 30⟩
@[reducible] noncomputable def o61v0 : Shape := ⟨[(0, .lf (.ptr 500000 0)), (2, .lf (.own 3000128))], [(500000, .box [.d (.sl .u8), .d (.int .i64)], .same), (3000128, .row .entry, .slot 2 0)], 30⟩
noncomputable def f61v0 (a : i61v0.Y) : Option o61v0.Y :=
(f85v0 (((), ()), ((a.2.1.1, (a.2.1.2.1, ())), ()))).bind fun r877 =>
(f86 ((r877.2.2.1, ()), ())).bind fun r878 =>
(jq3 (((), ((14 : Int), ())), ((r877.2.1.1, (r877.2.1.2.1, ())), ()))).bind fun r880 =>
 bif (r880.1.2.1 == (0 : Int)) then
(f87v0 (((), ()), ((r880.2.1.1, (r880.2.1.2.1, ())), ()))).bind fun r881 =>
(apd 48 r878.2.1 ([(Entry.mk r881.2.2.1.1 r881.2.2.1.2.1 r881.2.2.1.2.2.1 r881.2.2.1.2.2.2.1)] : List Entry)).bind fun x882 =>
 some (((), ((), ())), ((r881.2.1.1, (r881.2.1.2.1, ())), (x882, ())))
else
 bif (r880.1.2.1 == (1 : Int)) then
 bif (decide ((r878.2.1.length : Int) > (0 : Int))) then
(jq3 (((), ((r878.2.1.length : Int), ())), ((r880.2.1.1, (r880.2.1.2.1, ())), ()))).bind fun r883 =>
(f87v0 (((), ()), ((r883.2.1.1, (r883.2.1.2.1, ())), ()))).bind fun r884 =>
(inb r878.2.1.length r883.1.2.1).bind fun x885 =>
((r878.2.1[x885]?).bind fun q => some (Entry.mk r884.2.2.1.1 r884.2.2.1.2.1 r884.2.2.1.2.2.1 r884.2.2.1.2.2.2.1)).bind fun x886 =>
 some (((), ((), ())), ((r884.2.1.1, (r884.2.1.2.1, ())), ((r878.2.1.set x885 x886), ())))
else
 some (((), ((), ())), ((r880.2.1.1, (r880.2.1.2.1, ())), (r878.2.1, ())))
else
 some (((), ((), ())), ((r880.2.1.1, (r880.2.1.2.1, ())), (r878.2.1, ())))
theorem e61v0 : ∀ a, f61v0 a = jjo (jjd c61v0 []) b61v0 i61v0 o61v0 a := fun a => by kernel_rfl
noncomputable def S61v0 : jjF := jjf tt 30 i61v0 o61v0 [.tmp 2] [0] f61v0
theorem z61v0 (h : ∀ T, (tt T).ok Pz T) (h17v0 : jja Pz 17 jqa) (h85v0 : jja Pz 85 S85v0) (h86 : jja Pz 86 S86) (h87v0 : jja Pz 87 S87v0) : jja Pz 61 S61v0 :=
 have H := k61v0 h h17v0 h85v0 h86 h87v0
 jjk (fn := Tryz.f61) (fr := []) H (by kernel_rfl) (by kernel_rfl) (by kernel_rfl) (by kernel_rfl) (by kernel_rfl) jje (by kernel_rfl) (fun y => ⟨_, _, rfl, rfl, rfl⟩) e61v0
noncomputable def c33v0 : Ctx := { tt := tt, fs := fun n => match n with | 17 => some jqa | 18 => some jqt | 57 => some S57v0 | 58 => some S58v0 | 59 => some S59v0 | 60 => some S60v0 | 61 => some S61v0 | _ => none }
theorem k33v0 (h : ∀ T, (tt T).ok Pz T) (h17v0 : jja Pz 17 jqa) (h18v0 : jja Pz 18 jqt) (h57v0 : jja Pz 57 S57v0) (h58v0 : jja Pz 58 S58v0) (h59v0 : jja Pz 59 S59v0) (h60v0 : jja Pz 60 S60v0) (h61v0 : jja Pz 61 S61v0) : CtxGood Pz c33v0 := ⟨⟨h⟩, fun g S hg => (by
 simp only [c33v0] at hg
 split at hg
 ·cases hg; exact h17v0
 ·cases hg; exact h18v0
 ·cases hg; exact h57v0
 ·cases hg; exact h58v0
 ·cases hg; exact h59v0
 ·cases hg; exact h60v0
 ·cases hg; exact h61v0
 ·cases hg), jjp, fun _ _ h => (by cases h), fun _ h => (by cases h)⟩
noncomputable def b33v0 : Code := jji Tryz.f33
@[reducible] noncomputable def i33v0 : Shape := ⟨[(0, .lf (.ptr 500000 0))], [(500000, .box [.d (.sl .u8), .d (.int .i64)], .same)], 39⟩
@[reducible] noncomputable def o33v0 : Shape := ⟨[(0, .lf (.ptr 500000 0)), (2, .lf (.ptr 2 0))], [(500000, .box [.d (.sl .u8), .d (.int .i64)], .same), (5000130, .row .need, .cell 2 2), (5000131, .row .entry, .cell 2 3), (2, .box [.d (.str), .d (.str), .own 5000130, .own 5000131], .same)], 39⟩
noncomputable def f33v0 (a : i33v0.Y) : Option o33v0.Y :=
(jzZ (((), (([([111, 110, 101] : Str), ([116, 119, 111] : Str), ([116, 104, 114, 101, 101] : Str), ([122, 105, 112] : Str)] : List Str), ())), ((a.2.1.1, (a.2.1.2.1, ())), ()))).bind fun r890 =>
(f57v0 (((), (r890.1.2.1, ())), ((r890.2.1.1, (r890.2.1.2.1, ())), ()))).bind fun r891 =>
(jq3 (((), ((14 : Int), ())), ((r891.2.1.1, (r891.2.1.2.1, ())), ()))).bind fun r893 =>
 bif (r893.1.2.1 == (0 : Int)) then
(jzZ (((), (([([] : Str), ([79, 110, 101] : Str)] : List Str), ())), ((r893.2.1.1, (r893.2.1.2.1, ())), ()))).bind fun r894 =>
 some (((), ((), ())), ((r894.2.1.1, (r894.2.1.2.1, ())), (r891.2.2.1, (r891.2.2.2.1, ((r894.1.2.1, (r891.2.2.2.2.1.2.1, ((), ((), ())))), ())))))
else
 bif (r893.1.2.1 == (1 : Int)) then
(f58v0 (((), ()), ((r893.2.1.1, (r893.2.1.2.1, ())), ()))).bind fun r895 =>
 some (((), ((), ())), ((r895.2.1.1, (r895.2.1.2.1, ())), (r891.2.2.1, (r891.2.2.2.1, ((r891.2.2.2.2.1.1, (r895.1.2.1, ((), ((), ())))), ())))))
else
 bif (r893.1.2.1 == (2 : Int)) then
(f59v0 (((), ()), ((r893.2.1.1, (r893.2.1.2.1, ())), ()))).bind fun r896 =>
(f60v0 (((), ()), ((r896.2.1.1, (r896.2.1.2.1, ())), ()))).bind fun r897 =>
(apd 40 r891.2.2.1 ([(Need.mk r896.2.2.1.1 r896.2.2.1.2.1 r896.2.2.1.2.2.1), (Need.mk r897.2.2.1.1 r897.2.2.1.2.1 r897.2.2.1.2.2.1)] : List Need)).bind fun x898 =>
 some (((), ((), ())), ((r897.2.1.1, (r897.2.1.2.1, ())), (x898, (r891.2.2.2.1, ((r891.2.2.2.2.1.1, (r891.2.2.2.2.1.2.1, ((), ((), ())))), ())))))
else
 bif (r893.1.2.1 == (3 : Int)) then
(f61v0 (((), ()), ((r893.2.1.1, (r893.2.1.2.1, ())), ()))).bind fun r899 =>
 some (((), ((), ())), ((r899.2.1.1, (r899.2.1.2.1, ())), (r891.2.2.1, (r899.2.2.1, ((r891.2.2.2.2.1.1, (r891.2.2.2.2.1.2.1, ((), ((), ())))), ())))))
else
 some (((), ((), ())), ((r893.2.1.1, (r893.2.1.2.1, ())), (r891.2.2.1, (r891.2.2.2.1, ((r891.2.2.2.2.1.1, (r891.2.2.2.2.1.2.1, ((), ((), ())))), ())))))
theorem e33v0 : ∀ a, f33v0 a = jjo (jjd c33v0 []) b33v0 i33v0 o33v0 a := fun a => by kernel_rfl
noncomputable def S33v0 : jjF := jjf tt 39 i33v0 o33v0 [.cell 2 35] [0] f33v0
theorem z33v0 (h : ∀ T, (tt T).ok Pz T) (h17v0 : jja Pz 17 jqa) (h18v0 : jja Pz 18 jqt) (h57v0 : jja Pz 57 S57v0) (h58v0 : jja Pz 58 S58v0) (h59v0 : jja Pz 59 S59v0) (h60v0 : jja Pz 60 S60v0) (h61v0 : jja Pz 61 S61v0) : jja Pz 33 S33v0 :=
 have H := k33v0 h h17v0 h18v0 h57v0 h58v0 h59v0 h60v0 h61v0
 jjk (fn := Tryz.f33) (fr := []) H (by kernel_rfl) (by kernel_rfl) (by kernel_rfl) (by kernel_rfl) (by kernel_rfl) jje (by kernel_rfl) (fun y => ⟨_, _, rfl, rfl, rfl⟩) e33v0
abbrev OkP (p : Pack) : Prop := BdP p ∧ p.version.length ≤ 2097151 ∧ ∀ n, n ∈ p.needs → n.version.length ≤ 2097151
abbrev OkR (k : Nat) (ps : List Pack) : Prop := ps.length ≤ k ∧ ∀ p, p ∈ ps → OkP p
theorem OkR.bd {k : Nat} {ps : List Pack} (h : OkR k ps) (hk : k ≤ 2097152) : BdPs ps := ⟨Nat.le_trans h.1 hk, fun p hp => (h.2 p hp).1⟩
theorem OkR.vs {k : Nat} {ps : List Pack} (h : OkR k ps) : VS ps := fun p hp => (h.2 p hp).2
abbrev ShN (n : Need) : Prop := Sh n.name ∧ Sh n.version
def nmOut (s : Str) : Bool := !(s == [102, 114, 101, 115, 104]) && !(s == [110, 111, 98, 111, 100, 121, 115])
abbrev NmP (s : Str) : Prop := Sh s ∧ nmOut s = true
theorem nm_all {L : List Str} (h : L.all (fun s => decide (s.length ≤ 200) && nmOut s) = true) {s : Str} (hs : s ∈ L) : NmP s := by
 have := List.all_eq_true.1 h s hs
 simp only [Bool.and_eq_true, decide_eq_true_eq] at this
 exact this
abbrev ShP (p : Pack) : Prop := NmP p.name ∧ Sh p.version ∧ (p.needs.length ≤ 3 ∧ ∀ n, n ∈ p.needs → ShN n) ∧ (p.tree.length ≤ 17 ∧ ∀ e, e ∈ p.tree → ShE e)
theorem ShP.ok {p : Pack} (h : ShP p) : OkP p := by
 obtain ⟨a, b, ⟨c1, c2⟩, d1, d2⟩ := h
 have up : ∀ {s : Str}, Sh s → Bd s.length := fun h => Nat.le_trans h (by decide)
 exact ⟨⟨up a.1, up b, ⟨Nat.le_trans c1 (by decide), fun n hn => ⟨up (c2 n hn).1, up (c2 n hn).2⟩⟩, Nat.le_trans d1 (by decide), fun e he => ⟨up (d2 e he).1, up (d2 e he).2⟩⟩, Nat.le_trans b (by decide), fun n hn => Nat.le_trans (c2 n hn).2 (by decide)⟩
theorem v_l11Need (a) (m : Nat) (h : RD a.2.1.1 a.2.1.2.1 m) (hm : 3 ≤ m) : Ev (f60v0 a) (fun r => RD r.2.1.1 r.2.1.2.1 (m - 3) ∧ ShN ⟨r.2.2.1.1, r.2.2.1.2.1, r.2.2.1.2.2.1⟩) := by
 unfold f60v0
 refine Ev.bind (v_of _ m h (by omega) (by simp)) fun r1 h1 => ?_
 have s1 : Sh r1.1.2.1 := sh_all (by rfl) h1.2
 refine Ev.bind (jqK _ _ h1.1 (by omega)) fun r2 h2 => ?_
 refine Ev.ite (fun _ => ?_) fun _ => Ev.ret ⟨h2.1.less (by omega), s1, by show (0 : Nat) ≤ 200; decide⟩
 exact Ev.bind (jz3 _ _ h2.1 (by omega)) fun r3 h3 => Ev.ret ⟨h3.1.less (by omega), s1, h3.2⟩
theorem v_l11Pack (a) (m : Nat) (h : RD a.2.1.1 a.2.1.2.1 m) (hm : 50 ≤ m) (hn : NmP a.1.2.1) : Ev (f57v0 a) (fun r => RD r.2.1.1 r.2.1.2.1 (m - 50) ∧ ShP ⟨r.2.2.2.2.1.1, r.2.2.2.2.1.2.1, r.2.2.1, r.2.2.2.1⟩ ∧ (r.2.2.1 : List Need).length ≤ 1) := by
 unfold f57v0
 refine Ev.bind (jz3 _ m h (by omega)) fun r1 h1 => ?_
 refine Ev.bind (v_l11Tree _ _ h1.1 (by omega)) fun r2 h2 => ?_
 refine Ev.bind (v_of _ _ h2.1 (by omega) (by simp)) fun r3 h3 => ?_
 have hg : (r3.1.2.1 : Str).length ≤ 200 ∧ NoBr r3.1.2.1 := by
  have := h3.2
  simp only [List.mem_cons, List.not_mem_nil, or_false] at this
  rcases this with e | e | e | e | e
  all_goals (rw [e]; exact ⟨by decide, by decide⟩)
 refine Ev.bind (v_TreePart ((r2.2.2.1, (r3.1.2.1, ())), ()) h2.2 hg.1 hg.2) fun r4 h4 => ?_
 refine Ev.bind (jqK _ _ h3.1 (by omega)) fun r5 h5 => ?_
 have ht : (r4.2.1 : List Entry).length ≤ 17 ∧ ∀ e, e ∈ (r4.2.1 : List Entry) → ShE e := ⟨Nat.le_succ_of_le h4.1, h4.2⟩
 refine Ev.ite (fun _ => ?_) fun _ => Ev.ret ⟨h5.1.less (by omega), ⟨hn, h1.2, ⟨by show (0 : Nat) ≤ 3; decide, fun n hn => by cases hn⟩, ht⟩, by show (0 : Nat) ≤ 1; decide⟩
 refine Ev.bind (v_l11Need _ _ h5.1 (by omega)) fun r6 h6 => ?_
 refine Ev.eq (jj0 (by decide) (by unfold Sm; simp)) ?_
 refine Ev.ret ⟨h6.1.less (by omega), ⟨hn, h1.2, ⟨by show (1 : Nat) ≤ 3; decide, fun n hn => ?_⟩, ht⟩, by show (1 : Nat) ≤ 1; decide⟩
 have hn : n ∈ ([] : List Need) ++ [_] := hn
 rw [List.nil_append, List.mem_singleton] at hn
 rw [hn]; exact h6.2
theorem jz4 (a) (m : Nat) (h : RD a.2.1.1 a.2.1.2.1 m) (hm : 2 ≤ m) : Ev (f58v0 a) (fun r => RD r.2.1.1 r.2.1.2.1 (m - 2) ∧ Sh r.1.2.1) := by
 unfold f58v0
 refine Ev.bind (jqK _ m h (by omega)) fun r1 h1 => ?_
 refine Ev.ite (fun _ => ?_) fun _ => ?_
 ·exact Ev.bind (v_of _ _ h1.1 (by omega) (by simp)) fun r hr => Ev.ret ⟨hr.1.less (by omega), sh_all (by rfl) hr.2⟩
 ·exact Ev.bind (jz3 _ _ h1.1 (by omega)) fun r hr => Ev.ret ⟨hr.1.less (by omega), hr.2⟩
theorem v_l11AnyPath (a) (m : Nat) (h : RD a.2.1.1 a.2.1.2.1 m) (hm : 2 ≤ m) : Ev (f112v0 a) (fun r => RD r.2.1.1 r.2.1.2.1 (m - 2) ∧ Sh r.1.2.1) := by
 unfold f112v0
 refine Ev.bind (jqK _ m h (by omega)) fun r1 h1 => ?_
 refine Ev.ite (fun _ => ?_) fun _ => ?_
 ·exact Ev.bind (v_of _ _ h1.1 (by omega) (by simp)) fun r hr => Ev.ret ⟨hr.1.less (by omega), sh_all (by rfl) hr.2⟩
 ·exact Ev.bind (v_l11Path _ _ h1.1 (by omega)) fun r hr => Ev.ret ⟨hr.1.less (by omega), hr.2⟩
theorem v_l11AnyNeed (a) (m : Nat) (h : RD a.2.1.1 a.2.1.2.1 m) (hm : 7 ≤ m) : Ev (f59v0 a) (fun r => RD r.2.1.1 r.2.1.2.1 (m - 7) ∧ ShN ⟨r.2.2.1.1, r.2.2.1.2.1, r.2.2.1.2.2.1⟩) := by
 unfold f59v0
 refine Ev.bind (v_l11Need _ m h (by omega)) fun r1 h1 => ?_
 refine Ev.bind (jqK _ _ h1.1 (by omega)) fun r2 h2 => ?_
 refine Ev.ite (fun _ => ?_) fun _ => Ev.ite (fun _ => ?_) fun _ => Ev.ite (fun _ => ?_) fun _ => ?_
 ·exact Ev.bind (v_of _ _ h2.1 (by omega) (by simp)) fun r hr => Ev.ret ⟨hr.1.less (by omega), sh_all (by rfl) hr.2, h1.2.2⟩
 ·exact Ev.bind (jqK _ _ h2.1 (by omega)) fun r hr => Ev.ret ⟨hr.1.less (by omega), h1.2⟩
 ·exact Ev.bind (jz4 _ _ h2.1 (by omega)) fun r hr => Ev.ret ⟨hr.1.less (by omega), h1.2.1, hr.2⟩
 ·exact Ev.ret ⟨h2.1.less (by omega), h1.2⟩
theorem v_l11AnyEntry (a) (m : Nat) (h : RD a.2.1.1 a.2.1.2.1 m) (hm : 8 ≤ m) : Ev (f87v0 a) (fun r => RD r.2.1.1 r.2.1.2.1 (m - 8) ∧ ShE ⟨r.2.2.1.1, r.2.2.1.2.1, r.2.2.1.2.2.1, r.2.2.1.2.2.2.1⟩) := by
 unfold f87v0
 refine Ev.bind (v_l11Entry _ m h (by omega)) fun r1 h1 => ?_
 refine Ev.bind (jqK _ _ h1.1 (by omega)) fun r2 h2 => ?_
 refine Ev.ite (fun _ => ?_) fun _ => Ev.ite (fun _ => ?_) fun _ => Ev.ite (fun _ => ?_) fun _ => Ev.ite (fun _ => ?_) fun _ => ?_
 ·exact Ev.bind (v_l11AnyPath _ _ h2.1 (by omega)) fun r hr => Ev.ret ⟨hr.1.less (by omega), hr.2, h1.2.2⟩
 ·exact Ev.bind (jqK _ _ h2.1 (by omega)) fun r hr => Ev.ret ⟨hr.1.less (by omega), h1.2⟩
 ·exact Ev.bind (v_one _ _ h2.1 (by omega) (by simp)) fun r hr => Ev.ret ⟨hr.1.less (by omega), h1.2⟩
 ·refine Ev.bind (v_l1Many _ (by simp) (by show (0 : Int) ≤ 81; decide) (by show (81 : Int) ≤ 127; decide)) fun q hq => ?_
  refine Ev.bind (v_of _ _ h2.1 (by omega) (by simp)) fun r hr => Ev.ret ⟨hr.1.less (by omega), h1.2.1, ?_⟩
  have := hr.2
  simp only [List.mem_cons, List.not_mem_nil, or_false] at this
  rcases this with e | e | e | e
  ·show (r.1.2.1 : Str).length ≤ 200; rw [e]; decide
  ·show (r.1.2.1 : Str).length ≤ 200; rw [e]; exact hq
  ·show (r.1.2.1 : Str).length ≤ 200; rw [e]; decide
  ·show (r.1.2.1 : Str).length ≤ 200; rw [e]; decide
 ·exact Ev.ret ⟨h2.1.less (by omega), h1.2⟩
abbrev ShT' (t : List Entry) : Prop := t.length ≤ 17 ∧ ∀ e, e ∈ t → ShE e
theorem v_l11AnyTree (a) (m : Nat) (h : RD a.2.1.1 a.2.1.2.1 m) (hm : 50 ≤ m) : Ev (f61v0 a) (fun r => RD r.2.1.1 r.2.1.2.1 (m - 50) ∧ ShT' r.2.2.1) := by
 unfold f61v0
 refine Ev.bind (v_l11Tree _ m h (by omega)) fun r1 h1 => ?_
 obtain ⟨u0, ⟨u1, (t : List Entry), u2⟩⟩ := r1
 have ht : ShT t := h1.2
 have htl := ht.1
 refine Ev.eq (v_l2Copy ((t, ()), ()) (by show t.length ≤ 2097152; omega)) ?_
 refine Ev.bind (jqK _ _ h1.1 (by omega)) fun r2 h2 => ?_
 have ht' : ShT' t := ⟨Nat.le_succ_of_le ht.1, ht.2⟩
 refine Ev.ite (fun _ => ?_) fun _ => Ev.ite (fun _ => ?_) fun _ => Ev.ret ⟨h2.1.less (by omega), ht'⟩
 ·refine Ev.bind (v_l11AnyEntry _ _ h2.1 (by omega)) fun r3 h3 => ?_
  refine Ev.eq (jj0 (xs := t) (by decide) (by unfold Sm; simp; omega)) ?_
  refine Ev.ret ⟨h3.1.less (by omega), by show (t ++ [_]).length ≤ 17; simp; omega, fun e he => ?_⟩
  have he : e ∈ t ++ [_] := he
  rcases List.mem_append.1 he with he | he
  ·exact ht.2 e he
  ·rw [List.mem_singleton.1 he]; exact h3.2
 ·refine Ev.ite (fun hc => ?_) fun _ => Ev.ret ⟨h2.1.less (by omega), ht'⟩
  have hc : (t.length : Int) > 0 := of_decide_eq_true hc
  refine Ev.bind (jqK _ _ h2.1 (by omega)) fun r3 h3 => ?_
  obtain ⟨⟨v1, (q : Int), v2⟩, v3⟩ := r3
  have hq0 : 0 ≤ q := h3.2.1
  have hq1 : q < (t.length : Int) := h3.2.2 (by show (1 : Int) ≤ (t.length : Int); omega)
  obtain ⟨j, rfl⟩ := Int.eq_ofNat_of_zero_le hq0
  have hj : j < t.length := by omega
  refine Ev.bind (v_l11AnyEntry _ _ h3.1 (by omega)) fun r4 h4 => ?_
  refine Ev.eq (jqQ (n := t.length) (i := j) hj) ?_
  refine Ev.eq (x := Entry.mk r4.2.2.1.1 r4.2.2.1.2.1 r4.2.2.1.2.2.1 r4.2.2.1.2.2.2.1) (by show (t[j]?).bind _ = _; rw [List.getElem?_eq_getElem hj]; rfl) ?_
  exact Ev.ret ⟨h4.1.less (by omega), by show (t.set _ _).length ≤ 17; rw [List.length_set]; omega, shE_set ht.2 h4.2⟩
theorem v_l11AnyPack (a) (m : Nat) (h : RD a.2.1.1 a.2.1.2.1 m) (hm : 110 ≤ m) : Ev (f33v0 a) (fun r => RD r.2.1.1 r.2.1.2.1 (m - 110) ∧ ShP ⟨r.2.2.2.2.1.1, r.2.2.2.2.1.2.1, r.2.2.1, r.2.2.2.1⟩) := by
 unfold f33v0
 refine Ev.bind (v_of _ m h (by omega) (by simp)) fun r1 h1 => ?_
 refine Ev.bind (v_l11Pack _ _ h1.1 (by omega) (nm_all (by rfl) h1.2)) fun r2 h2 => ?_
 obtain ⟨hp1, hp2, hp3, hp4⟩ := h2.2.1
 refine Ev.bind (jqK _ _ h2.1 (by omega)) fun r3 h3 => ?_
 refine Ev.ite (fun _ => ?_) fun _ => Ev.ite (fun _ => ?_) fun _ => Ev.ite (fun _ => ?_) fun _ => Ev.ite (fun _ => ?_) fun _ => ?_
 ·exact Ev.bind (v_of _ _ h3.1 (by omega) (by simp)) fun r hr => Ev.ret ⟨hr.1.less (by omega), nm_all (by rfl) hr.2, hp2, hp3, hp4⟩
 ·exact Ev.bind (jz4 _ _ h3.1 (by omega)) fun r hr => Ev.ret ⟨hr.1.less (by omega), hp1, hr.2, hp3, hp4⟩
 ·refine Ev.bind (v_l11AnyNeed _ _ h3.1 (by omega)) fun r4 h4 => ?_
  refine Ev.bind (v_l11Need _ _ h4.1 (by omega)) fun r5 h5 => ?_
  have hl := h2.2.2
  refine Ev.eq (jj0 (xs := (r2.2.2.1 : List Need)) (by decide) (by unfold Sm; simp; omega)) ?_
  refine Ev.ret ⟨h5.1.less (by omega), hp1, hp2, ⟨by show ((r2.2.2.1 : List Need) ++ [_, _]).length ≤ 3; simp; omega, fun n hn => ?_⟩, hp4⟩
  have hn : n ∈ (r2.2.2.1 : List Need) ++ [_, _] := hn
  rcases List.mem_append.1 hn with hn | hn
  ·exact hp3.2 n hn
  ·simp only [List.mem_cons, List.not_mem_nil, or_false] at hn
   rcases hn with rfl | rfl
   ·exact h4.2
   ·exact h5.2
 ·exact Ev.bind (v_l11AnyTree _ _ h3.1 (by omega)) fun r hr => Ev.ret ⟨hr.1.less (by omega), hp1, hp2, hp3, hr.2⟩
 ·exact Ev.ret ⟨h3.1.less (by omega), hp1, hp2, hp3, hp4⟩
@[reducible] noncomputable def s22_58 : Shape := ⟨[(0, .lf (.d (.sl .pack))), (3, .lf (.own 3000192)), (4, .lf (.d (.int .i64)))], [(3000192, .row .str, .slot 3 0)], 28⟩
@[reducible] noncomputable def t22_58 : List OSh := [(.ret, ⟨[(2, .lf (.d (.int .i64)))], [], 28⟩), (.exit 0, ⟨[(3, .lf (.own 3000192))], [(3000192, .row .str, .slot 3 0)], 28⟩)]
noncomputable def g22_58 (y : s22_58.Y) : Option (Sum s22_58.Y (YS t22_58)) :=
 bif (decide (y.1.2.2.1 < (y.1.1.length : Int))) then
(ix y.1.1 y.1.2.2.1).bind fun x1611 =>
(f37 (((x1611.name, (x1611.version, (x1611.needs, (x1611.tree, ())))), ()), ())).bind fun r1612 =>
 bif (!r1612.1.1) then
 some (.inr (.inl (((1 : Int), ()), ())))
else
(ix y.1.1 y.1.2.2.1).bind fun x1613 =>
(apd 16 y.2.1 ([x1613.name] : List Str)).bind fun x1614 =>
 some (.inl ((y.1.1, ((), ((IntKind.i64.wrap (y.1.2.2.1 + (1 : Int))), ()))), (x1614, ())))
else
 some (.inr (.inr (((), ()), (y.2.1, ()))))
noncomputable def l22_58 : s22_58.Y → Option (YS t22_58) := jjC g22_58
@[reducible] noncomputable def i22 : Shape := ⟨[(0, .lf (.d (.sl .pack)))], [], 28⟩
@[reducible] noncomputable def o22 : Shape := ⟨[(2, .lf (.d (.int .i64)))], [], 28⟩
noncomputable def f22 (a : i22.Y) : Option o22.Y :=
(l22_58 ((a.1.1, ((), ((0 : Int), ()))), (([] : List Str), ()))).bind fun r1626 =>
(match r1626 with
| .inl r1627 =>
 some ((r1627.1.1, ()), ())
| .inr r1628 =>
(f38 ((r1628.2.1, ()), ())).bind fun r1630 =>
 bif r1630.1.1 then
 some (((2 : Int), ()), ())
else
 some (((0 : Int), ()), ()))
noncomputable def S22 : jjF := jjf tt 28 i22 o22 [.tmp 2] [] f22
@[reducible] noncomputable def s40_26 : Shape := ⟨[(0, .lf (.d (.sl .str))), (1, .lf (.d (.str))), (5, .lf (.d (.int .i64)))], [], 18⟩
@[reducible] noncomputable def t40_26 : List OSh := [(.ret, ⟨[(4, .lf (.d (.bool)))], [], 18⟩), (.exit 0, ⟨[], [], 18⟩)]
noncomputable def g40_26 (y : s40_26.Y) : Option (Sum s40_26.Y (YS t40_26)) :=
 bif (decide (y.1.2.2.1 < (y.1.1.length : Int))) then
(ix y.1.1 y.1.2.2.1).bind fun x1651 =>
 bif (x1651 == y.1.2.1) then
 some (.inr (.inl ((true, ()), ())))
else
 some (.inl ((y.1.1, (y.1.2.1, ((IntKind.i64.wrap (y.1.2.2.1 + (1 : Int))), ()))), ()))
else
 some (.inr (.inr ((), ())))
noncomputable def l40_26 : s40_26.Y → Option (YS t40_26) := jjC g40_26
@[reducible] noncomputable def i40 : Shape := ⟨[(0, .lf (.d (.sl .str))), (1, .lf (.d (.str)))], [], 18⟩
@[reducible] noncomputable def o40 : Shape := ⟨[(4, .lf (.d (.bool)))], [], 18⟩
noncomputable def f40 (a : i40.Y) : Option o40.Y :=
(l40_26 ((a.1.1, (a.1.2.1, ((0 : Int), ()))), ())).bind fun r1655 =>
(match r1655 with
| .inl r1656 =>
 some ((r1656.1.1, ()), ())
| .inr r1657 =>
 some ((false, ()), ()))
@[reducible] noncomputable def i23 : Shape := ⟨[(0, .lf (.d (.sl .pack))), (1, .lf (.d (.str))), (2, .lf (.d (.sl .str))), (3, .lf (.d (.sl .str)))], [], 97⟩
@[reducible] noncomputable def o23 : Shape := ⟨[(8, .lf (.d (.sl .str))), (9, .lf (.d (.int .i64)))], [], 97⟩
@[reducible] noncomputable def s23_64076 : Shape := ⟨[(0, .lf (.d (.sl .pack))), (1, .lf (.d (.str))), (2, .lf (.d (.sl .str))), (10, .lf (.d (.int .i64))), (11, .lf (.d (.sl .str))), (12, .lf (.d (.int .i64))), (13, .lf (.ptr 13 0)), (14, .lf (.d (.int .i64)))], [(13, .box [.d (.str), .d (.int .i64), .d (.str)], .same)], 97⟩
@[reducible] noncomputable def t23_64076 : List OSh := [(.norm, ⟨[(0, .lf (.d (.sl .pack))), (1, .lf (.d (.str))), (2, .lf (.d (.sl .str))), (10, .lf (.d (.int .i64))), (11, .lf (.d (.sl .str))), (12, .lf (.d (.int .i64))), (13, .lf (.ptr 13 0)), (62, .lf (.d (.int .i64))), (63, .lf (.d (.bool))), (64, .lf (.d (.bool))), (75, .lf (.d (.bool)))], [(13, .box [.d (.str), .d (.int .i64), .d (.str)], .same)], 97⟩)]
noncomputable def jJl (F : i23.Y → Option o23.Y) (y : s23_64076.Y) : Option (YS t23_64076) :=
 bif (decide (y.1.2.2.2.2.2.2.2.1 < (0 : Int))) then
 some (((y.1.1, (y.1.2.1, (y.1.2.2.1, (y.1.2.2.2.1, (y.1.2.2.2.2.1, (y.1.2.2.2.2.2.1, ((), (y.1.2.2.2.2.2.2.2.1, ((decide (y.1.2.2.2.2.2.2.2.1 < (0 : Int))), (true, (true, ()))))))))))), ((y.2.1.1, (y.2.1.2.1, (y.2.1.2.2.1, ()))), ())))
else
(ix y.1.1 y.1.2.2.2.2.2.2.2.1).bind fun x1763 =>
(f41 (((y.2.1.1, (y.2.1.2.1, (y.2.1.2.2.1, ()))), (y.2.1.1, (x1763.version, ()))), ())).bind fun r1764 =>
 some (((y.1.1, (y.1.2.1, (y.1.2.2.1, (y.1.2.2.2.1, (y.1.2.2.2.2.1, (y.1.2.2.2.2.2.1, ((), (y.1.2.2.2.2.2.2.2.1, ((decide (y.1.2.2.2.2.2.2.2.1 < (0 : Int))), (false, ((!r1764.1.1), ()))))))))))), ((y.2.1.1, (y.2.1.2.1, (y.2.1.2.2.1, ()))), ())))
@[reducible] noncomputable def s23_250 : Shape := ⟨[(0, .lf (.d (.sl .pack))), (1, .lf (.d (.str))), (2, .lf (.d (.sl .str))), (10, .lf (.d (.int .i64))), (11, .lf (.d (.sl .str))), (12, .lf (.d (.int .i64)))], [], 97⟩
@[reducible] noncomputable def t23_250 : List OSh := [(.ret, ⟨[(8, .lf (.d (.sl .str))), (9, .lf (.d (.int .i64)))], [], 97⟩), (.exit 1, ⟨[(1, .lf (.d (.str))), (2, .lf (.d (.sl .str)))], [], 97⟩)]
noncomputable def jzE (F : i23.Y → Option o23.Y) (y : s23_250.Y) : Option (Sum s23_250.Y (YS t23_250)) :=
(ix y.1.1 y.1.2.2.2.1).bind fun x1770 =>
 bif (decide (y.1.2.2.2.2.2.1 < (x1770.needs.length : Int))) then
(ix y.1.1 y.1.2.2.2.1).bind fun x1773 =>
(ix x1773.needs y.1.2.2.2.2.2.1).bind fun x1774 =>
(f39 ((y.1.1, (x1774.name, ())), ())).bind fun r1776 =>
((jJl F) ((y.1.1, (y.1.2.1, (y.1.2.2.1, (y.1.2.2.2.1, (y.1.2.2.2.2.1, (y.1.2.2.2.2.2.1, ((), (r1776.1.1, ())))))))), ((x1774.name, (x1774.kind, (x1774.version, ()))), ()))).bind fun r1778 =>
 bif r1778.1.2.2.2.2.2.2.2.2.2.2.1 then
 some (.inr (.inl ((r1778.1.2.2.1, ((3 : Int), ())), ())))
else
(F ((r1778.1.1, (r1778.2.1.1, (r1778.1.2.2.1, (r1778.1.2.2.2.2.1, ())))), ())).bind fun r1780 =>
 bif (r1780.1.2.1 != (0 : Int)) then
 some (.inr (.inl ((r1778.1.2.2.1, (r1780.1.2.1, ())), ())))
else
 some (.inl ((r1778.1.1, (r1778.1.2.1, (r1780.1.1, (r1778.1.2.2.2.1, (r1778.1.2.2.2.2.1, ((IntKind.i64.wrap (r1778.1.2.2.2.2.2.1 + (1 : Int))), ())))))), ()))
else
 some (.inr (.inr ((y.1.2.1, (y.1.2.2.1, ())), ())))
noncomputable def jzC (F : i23.Y → Option o23.Y) : s23_250.Y → Option (YS t23_250) := jjC (jzE F)
noncomputable def ff23 (F : i23.Y → Option o23.Y) (a : i23.Y) : Option o23.Y :=
(f39 ((a.1.1, (a.1.2.1, ())), ())).bind fun r1667 =>
(f40 ((a.1.2.2.1, (a.1.2.1, ())), ())).bind fun r1669 =>
 bif r1669.1.1 then
 some ((a.1.2.2.1, ((0 : Int), ())), ())
else
 bif (decide (r1667.1.1 < (0 : Int))) then
 some ((a.1.2.2.1, ((3 : Int), ())), ())
else
(f40 ((a.1.2.2.2.1, (a.1.2.1, ())), ())).bind fun r1671 =>
 bif r1671.1.1 then
 some ((a.1.2.2.1, ((4 : Int), ())), ())
else
(apd 16 ([] : List Str) a.1.2.2.2.1).bind fun x1674 =>
(apd 16 x1674 ([a.1.2.1] : List Str)).bind fun x1675 =>
((jzC F) ((a.1.1, (a.1.2.1, (a.1.2.2.1, (r1667.1.1, (x1675, ((0 : Int), ())))))), ())).bind fun r1784 =>
(match r1784 with
| .inl r1785 =>
 some ((r1785.1.1, (r1785.1.2.1, ())), ())
| .inr r1786 =>
(apd 16 ([] : List Str) r1786.1.2.1).bind fun x1787 =>
(apd 16 x1787 ([r1786.1.1] : List Str)).bind fun x1788 =>
 some ((x1788, ((0 : Int), ())), ()))
noncomputable def f23 : i23.Y → Option o23.Y := jxi ff23 jzL
noncomputable def S23 : jjF := jjf tt 97 i23 o23 [.tmp 8, .tmp 9] [] f23
end Go.Proofs
