/- FnExactDiskNew: the program's DiskNew returns what the reference's returns, for all arguments. (part 4 of 6: JkHTy, JkHSp, JkHOp, JkHBc, JkHEn, JkHF100, JkHF173, JkHF180, JkHF45, JkHF52, JkHPuA, JkHF179, JkHPuB, JkHF101, JkHF53, JkHF181, JkHFH376, JkHF361, JkHF344, JkHF313, JkHIt, JkHF95, JkHF46, JkHF48, JkH) Conditions: none beyond the statement. -/
import Derived.Test.YtemnnicnbdmhkaaGreatDoorZFnExactDiskNew2
import Derived.Tactics
import Derived.Deep.RegionLaw
import Derived.Shelf.Abstract
import Derived.Test.YtemnnicnbdmhkaaGreatDoorProg
import Derived.KernelRfl
import Derived.Lib.Builder
import Derived.Lib.UnsafeStr
import Derived.WalkKit
import Derived.Shelf.RegionOpenPlain
set_option linter.unusedSimpArgs false
set_option maxRecDepth 100000
set_option linter.unusedVariables false
namespace Go.Proofs
open Go.Jk
noncomputable abbrev Pz : Program := Tryz.prog
noncomputable def ttL : List (Nat × TI) := [
(1, .func),
(2, .int .i64),
(3, .int .i64),
(4, .bool),
(5, .int .u8),
(6, .int .u8),
(7, .struct [(0, 1), (1, 1), (2, 1), (3, 1)] 4 [.d (.int .i64 0), .d (.int .i64 0), .d (.bool false), .d (.int .u8 0)] false),
(8, .struct [(0, 1), (1, 1), (2, 1), (3, 1)] 4 [.d (.int .i64 0), .d (.int .i64 0), .d (.bool false), .d (.int .u8 0)] false),
(9, .str),
(10, .str),
(11, .str),
(12, .int .u64),
(13, .struct [(0, 1), (1, 1)] 2 [.d (.str []), .d (.int .u64 0)] false),
(14, .struct [(0, 1), (1, 1)] 2 [.d (.str []), .d (.int .u64 0)] false),
(15, .ptr),
(16, .ptr),
(17, .ptr),
(18, .struct [(0, 1)] 1 [.cst (.pointer none)] false),
(19, .struct [(0, 1)] 1 [.cst (.pointer none)] false),
(21, .int .i32),
(22, .slice 5 .u8 1),
(23, .slice 29 .pack 80),
(24, .struct [(0, 1)] 1 [.nil .pack] false),
(25, .struct [(0, 1)] 1 [.nil .pack] false),
(26, .slice 64 .need 40),
(27, .slice 91 .entry 48),
(28, .struct [(0, 1), (1, 1), (2, 1), (3, 1)] 4 [.d (.str []), .d (.str []), .nil .need, .nil .entry] false),
(29, .struct [(0, 1), (1, 1), (2, 1), (3, 1)] 4 [.d (.str []), .d (.str []), .nil .need, .nil .entry] false),
(31, .func),
(32, .func),
(34, .func),
(35, .func),
(36, .func),
(37, .func),
(38, .func),
(39, .func),
(40, .slice 161 .pack 80),
(41, .struct [(0, 1)] 1 [.nil .pack] false),
(42, .struct [(0, 1)] 1 [.nil .pack] false),
(43, .func),
(44, .func),
(45, .func),
(46, .func),
(47, .struct [(0, 1), (1, 1)] 2 [.d (.str []), .d (.str [])] false),
(48, .struct [(0, 1), (1, 1)] 2 [.d (.str []), .d (.str [])] false),
(49, .func),
(50, .func),
(51, .slice 61 .recipe 176),
(52, .func),
(53, .slice 9 .str 16),
(55, .func),
(56, .func),
(57, .slice 192 .lt 32),
(58, .slice 194 .source 32),
(59, .slice 196 .piece 32),
(60, .struct [(0, 1), (1, 1), (2, 1), (3, 1), (4, 1), (5, 1), (6, 1), (7, 1)] 8 [.d (.str []), .d (.str []), .nil .lt, .nil .need, .nil .need, .nil .source, .nil .piece, .nil .str] false),
(61, .struct [(0, 1), (1, 1), (2, 1), (3, 1), (4, 1), (5, 1), (6, 1), (7, 1)] 8 [.d (.str []), .d (.str []), .nil .lt, .nil .need, .nil .need, .nil .source, .nil .piece, .nil .str] false),
(62, .slice 3 .i64 8),
(63, .struct [(0, 1), (1, 1), (2, 1)] 3 [.d (.str []), .d (.int .i64 0), .d (.str [])] false),
(64, .struct [(0, 1), (1, 1), (2, 1)] 3 [.d (.str []), .d (.int .i64 0), .d (.str [])] true),
(65, .func),
(66, .func),
(67, .slice 119 .recipe 176),
(68, .func),
(69, .func),
(70, .func),
(71, .func),
(72, .func),
(73, .func),
(74, .ptr),
(75, .func),
(76, .func),
(77, .func),
(78, .func),
(79, .func),
(80, .func),
(81, .func),
(82, .func),
(83, .func),
(84, .func),
(85, .func),
(87, .func),
(88, .func),
(89, .func),
(90, .struct [(0, 1), (1, 1), (2, 1), (3, 1)] 4 [.d (.str []), .d (.int .i64 0), .d (.int .i64 0), .d (.str [])] false),
(91, .struct [(0, 1), (1, 1), (2, 1), (3, 1)] 4 [.d (.str []), .d (.int .i64 0), .d (.int .i64 0), .d (.str [])] true),
(93, .func),
(94, .func),
(95, .ptr),
(96, .struct [(0, 1), (1, 1)] 2 [.cst (.pointer none), .nil .u8] false),
(97, .struct [(0, 1), (1, 1)] 2 [.cst (.pointer none), .nil .u8] false),
(98, .func),
(102, .func),
(103, .func),
(104, .func),
(105, .func),
(106, .func),
(107, .func),
(108, .func),
(109, .func),
(111, .func),
(112, .func),
(113, .func),
(114, .slice 233 .lt 32),
(115, .slice 235 .need 40),
(116, .slice 237 .source 32),
(117, .slice 239 .piece 32),
(118, .struct [(0, 1), (1, 1), (2, 1), (3, 1), (4, 1), (5, 1), (6, 1), (7, 1)] 8 [.d (.str []), .d (.str []), .nil .lt, .nil .need, .nil .need, .nil .source, .nil .piece, .nil .str] false),
(119, .struct [(0, 1), (1, 1), (2, 1), (3, 1), (4, 1), (5, 1), (6, 1), (7, 1)] 8 [.d (.str []), .d (.str []), .nil .lt, .nil .need, .nil .need, .nil .source, .nil .piece, .nil .str] false),
(120, .func),
(121, .func),
(122, .func),
(123, .func),
(124, .func),
(125, .func),
(126, .struct [(0, 1), (1, 1)] 2 [.nil .u8, .d (.int .i64 0)] false),
(127, .struct [(0, 1), (1, 1)] 2 [.nil .u8, .d (.int .i64 0)] false),
(128, .func),
(129, .func),
(130, .func),
(131, .func),
(132, .func),
(133, .func),
(134, .slice 3 .i64 8),
(136, .func),
(137, .func),
(138, .func),
(139, .func),
(140, .func),
(142, .func),
(143, .func),
(144, .func),
(145, .func),
(146, .func),
(147, .func),
(148, .func),
(149, .func),
(150, .func),
(151, .func),
(152, .func),
(153, .func),
(154, .func),
(155, .func),
(157, .ptr),
(158, .func),
(159, .slice 270 .entry 48),
(160, .struct [(0, 1), (1, 1), (2, 1), (3, 1)] 4 [.d (.str []), .d (.str []), .nil .need, .nil .entry] false),
(161, .struct [(0, 1), (1, 1), (2, 1), (3, 1)] 4 [.d (.str []), .d (.str []), .nil .need, .nil .entry] false),
(162, .func),
(163, .func),
(164, .func),
(165, .func),
(166, .func),
(167, .func),
(168, .func),
(169, .func),
(170, .func),
(171, .func),
(172, .func),
(173, .func),
(174, .func),
(175, .func),
(176, .func),
(177, .func),
(178, .func),
(179, .func),
(180, .func),
(181, .func),
(182, .func),
(183, .func),
(184, .func),
(185, .func),
(186, .func),
(187, .func),
(188, .func),
(189, .func),
(190, .func),
(191, .struct [(0, 1), (1, 1)] 2 [.d (.str []), .d (.str [])] false),
(192, .struct [(0, 1), (1, 1)] 2 [.d (.str []), .d (.str [])] true),
(193, .struct [(0, 1), (1, 1)] 2 [.d (.str []), .d (.str [])] false),
(194, .struct [(0, 1), (1, 1)] 2 [.d (.str []), .d (.str [])] true),
(195, .struct [(0, 1), (1, 1)] 2 [.d (.str []), .d (.str [])] false),
(196, .struct [(0, 1), (1, 1)] 2 [.d (.str []), .d (.str [])] true),
(197, .func),
(198, .func),
(199, .func),
(200, .func),
(201, .func),
(202, .func),
(203, .func),
(204, .func),
(205, .func),
(206, .func),
(207, .func),
(208, .int .u64),
(209, .func),
(210, .func),
(211, .func),
(212, .func),
(213, .int .u32),
(214, .arr 213 .u32 8),
(215, .int .u64),
(216, .func),
(217, .slice 213 .u32 4),
(218, .func),
(220, .func),
(221, .func),
(222, .func),
(223, .func),
(224, .func),
(225, .func),
(226, .func),
(227, .func),
(229, .func),
(230, .func),
(231, .func),
(232, .func),
(233, .struct [(0, 1), (1, 1)] 2 [.d (.str []), .d (.str [])] true),
(234, .func),
(235, .struct [(0, 1), (1, 1), (2, 1)] 3 [.d (.str []), .d (.int .i64 0), .d (.str [])] true),
(236, .func),
(237, .struct [(0, 1), (1, 1)] 2 [.d (.str []), .d (.str [])] true),
(238, .func),
(239, .struct [(0, 1), (1, 1)] 2 [.d (.str []), .d (.str [])] true),
(240, .func),
(241, .func),
(242, .func),
(243, .func),
(244, .func),
(245, .func),
(246, .func),
(247, .func),
(248, .func),
(249, .func),
(250, .func),
(251, .func),
(252, .func),
(253, .func),
(254, .func),
(255, .func),
(256, .func),
(257, .func),
(258, .func),
(259, .func),
(260, .func),
(261, .func),
(262, .arr 213 .u32 64),
(263, .func),
(265, .func),
(266, .func),
(268, .func),
(269, .func),
(270, .struct [(0, 1), (1, 1), (2, 1), (3, 1)] 4 [.d (.str []), .d (.int .i64 0), .d (.int .i64 0), .d (.str [])] true),
(271, .func),
(272, .func),
(273, .func),
(274, .func),
(275, .func),
(276, .func),
(277, .func),
(278, .func),
(279, .func),
(280, .func),
(281, .func),
(282, .func),
(283, .func),
(284, .func),
(285, .func),
(286, .func),
(287, .func),
(288, .func),
(289, .func),
(290, .int .i64),
(292, .func),
(293, .func),
(294, .func),
(295, .func),
(296, .func),
(297, .func),
(299, .func),
(300, .func),
(301, .func),
(303, .func),
(304, .func),
(305, .func),
(306, .func),
(309, .func),
(310, .func),
(311, .func),
(312, .func),
(313, .struct [(0, 1), (1, 1)] 2 [.nil .lt, .nil .str] false),
(314, .struct [(0, 1), (1, 1)] 2 [.nil .lt, .nil .str] false),
(316, .func),
(317, .func),
(318, .int .u64),
(319, .func),
(320, .func),
(321, .func),
(322, .ptr),
(323, .func),
(324, .func),
(325, .func),
(326, .func),
(327, .func),
(330, .func),
(331, .func),
(332, .ptr),
(333, .struct [(0, 1)] 1 [.d (.int .i64 0)] false),
(334, .struct [(0, 1)] 1 [.d (.int .i64 0)] false),
(335, .func),
(336, .ptr),
(337, .ptr),
(339, .func),
(340, .func),
(342, .struct [(0, 1), (1, 1)] 2 [.d (.int .u8 0), .d (.int .u8 0)] false),
(343, .struct [(0, 1), (1, 1)] 2 [.d (.int .u8 0), .d (.int .u8 0)] false),
(345, .func),
(350, .func),
(351, .func),
(352, .struct [(0, 1), (1, 1)] 2 [.d (.bool false), .cst .nilFunc] false),
(353, .struct [(0, 1), (1, 1)] 2 [.d (.bool false), .cst .nilFunc] false),
(354, .func),
(355, .func),
(356, .int .u64),
(359, .func),
(362, .func),
(363, .int .u8),
(364, .func),
(365, .func),
(366, .func),
(367, .func),
(369, .func),
(370, .struct [(0, 1), (1, 1)] 2 [.d (.bool false), .cst .nilFunc] false),
(371, .struct [(0, 1), (1, 1)] 2 [.d (.bool false), .cst .nilFunc] false),
(373, .func),
(374, .slice 4 .bool 1),
(375, .struct [(0, 1)] 1 [.cst (.pointer none)] false),
(376, .struct [(0, 1)] 1 [.cst (.pointer none)] false),
(377, .ptr),
(378, .func),
(379, .func),
(380, .func),
(383, .func),
(385, .func),
(388, .func),
(390, .func),
(391, .struct [(0, 1), (1, 1), (2, 1), (3, 1)] 4 [.cst (.pointer none), .cst (.pointer none), .cst (.pointer none), .d (.str [])] false),
(392, .struct [(0, 1), (1, 1), (2, 1), (3, 1)] 4 [.cst (.pointer none), .cst (.pointer none), .cst (.pointer none), .d (.str [])] false),
(396, .func),
(397, .int .u8),
(398, .func),
(399, .int .i32),
(400, .int .i32),
(401, .struct [(0, 1), (1, 1), (2, 1), (3, 1), (4, 1), (5, 1), (6, 1), (7, 1), (8, 1), (9, 1), (10, 1)] 11 [.d (.int .u64 0), .d (.int .u64 0), .d (.int .u32 0), .d (.int .u8 0), .d (.int .u8 0), .d (.int .u8 0), .d (.int .u8 0), .cst .nilFunc, .cst (.pointer none), .d (.int .i32 0), .d (.int .i32 0)] false),
(402, .struct [(0, 1), (1, 1), (2, 1), (3, 1), (4, 1), (5, 1), (6, 1), (7, 1), (8, 1), (9, 1), (10, 1)] 11 [.d (.int .u64 0), .d (.int .u64 0), .d (.int .u32 0), .d (.int .u8 0), .d (.int .u8 0), .d (.int .u8 0), .d (.int .u8 0), .cst .nilFunc, .cst (.pointer none), .d (.int .i32 0), .d (.int .i32 0)] false),
(403, .func),
(404, .func),
(405, .struct [(0, 1), (1, 1)] 2 [.d (.str []), .d (.int .u8 0)] false),
(406, .struct [(0, 1), (1, 1)] 2 [.d (.str []), .d (.int .u8 0)] false),
(407, .ptr),
(408, .func),
(409, .int .u16),
(410, .struct [(0, 1), (1, 1), (2, 1), (3, 1), (4, 1)] 5 [.d (.int .i32 0), .d (.int .u16 0), .d (.int .u16 0), .d (.int .u32 0), .d (.int .u32 0)] false),
(411, .struct [(0, 1), (1, 1), (2, 1), (3, 1), (4, 1)] 5 [.d (.int .i32 0), .d (.int .u16 0), .d (.int .u16 0), .d (.int .u32 0), .d (.int .u32 0)] false),
(413, .int .i32),
(414, .struct [(0, 1), (1, 1), (2, 1), (3, 1)] 4 [.d (.int .i32 0), .d (.int .i32 0), .d (.int .i32 0), .d (.int .i32 0)] false),
(415, .struct [(0, 1), (1, 1), (2, 1), (3, 1)] 4 [.d (.int .i32 0), .d (.int .i32 0), .d (.int .i32 0), .d (.int .i32 0)] false),
(416, .ptr)]
noncomputable def tt : TypeId → TI := tyAt ttL
noncomputable def EE : Env := ⟨tt, [(172, 311)], [112, 146, 190], [42], [123], [65], [(0, ⟨.u32, shaK⟩)]⟩
abbrev LR (s : Shape) (t : List OSh) := Option (Sum s.Y (YS t))
theorem sp245 (s p : ByteArray) (k : Int) (w : World) : Calls Pz 245 #[.string s, .string p, .int .i64 k] w fun e w' =>
  e = .returned (.func (.func 311) #[] #[.pointer (some ⟨w.heap.size + 1, 0, none⟩), .pointer (some ⟨w.heap.size, 0, none⟩), .pointer (some ⟨w.heap.size + 2, 0, none⟩)]) ∧
  w' = ((w.alloc (.cells #[.string s] 9)).alloc (.cells #[.string p] 9)).alloc (.cells #[.int .i64 k] 3) := by
 go_enter Tryz.func245, Tryz.ntmps245
 go_wp2
 go_ret
 exact ⟨rfl, rfl⟩
theorem sp172 (s p : ByteArray) (w : World) : Calls Pz 172 #[.string s, .string p] w fun e w' =>
  e = .returned (.func (.func 311) #[] #[.pointer (some ⟨w.heap.size + 1, 0, none⟩), .pointer (some ⟨w.heap.size, 0, none⟩), .pointer (some ⟨w.heap.size + 2, 0, none⟩)]) ∧
  w' = ((w.alloc (.cells #[.string s] 9)).alloc (.cells #[.string p] 9)).alloc (.cells #[.int .i64 0] 3) := by
 go_enter Tryz.func172, Tryz.ntmps172
 go_wp2_with (go_at_call 245; refine (sp245 _ _ _ _).mono ?_; rintro e w' ⟨rfl, rfl⟩)
 go_ret
 exact ⟨rfl, rfl⟩
theorem y172 : SplitOk Pz 172 311 := fun a b w => .inl ⟨enters_of Tryz.func172 (by kernel_rfl) rfl _ _, (sp172 a b w).mono fun e w' h => by obtain ⟨rfl, rfl⟩ := h; exact ⟨9, 3, rfl, rfl⟩⟩
theorem oqn (w : World) : Calls Pz 42 #[.slice none 0 0] w fun e w' => e = .returned (.pointer (some ⟨w.heap.size, 0, none⟩)) ∧ w' = w.alloc (.cells #[.slice none 0 0, .int .i64 0] 127) := by
 go_enter Tryz.func42, Tryz.ntmps42
 go_wp2
 go_ret
 exact ⟨rfl, rfl⟩
theorem oqs (w : World) (a : Addr) (n c : Nat) (h : n ≤ 2000) : Calls Pz 42 #[.slice (some a) n c] w fun e w' => e = .returned (.pointer (some ⟨w.heap.size, 0, none⟩)) ∧ w' = w.alloc (.cells #[.slice (some a) n c, .int .i64 0] 127) := by
 have h1 : ¬ ((n : Int) > 2000) := by omega
 go_enter Tryz.func42, Tryz.ntmps42
 go_wp2
 go_ret
 exact ⟨rfl, rfl⟩
theorem oqb (w : World) (a : Addr) (n c : Nat) (h : 2000 < n) (hc : n ≤ c) : Calls Pz 42 #[.slice (some a) n c] w fun e w' => e = .returned (.pointer (some ⟨w.heap.size, 0, none⟩)) ∧ w' = w.alloc (.cells #[.slice (some a) 2000 c, .int .i64 0] 127) := by
 have h1 : ((n : Int) > 2000) := by omega
 go_enter Tryz.func42, Tryz.ntmps42
 go_wp2
 go_ret
 exact ⟨rfl, rfl⟩
theorem op42 : OpenOk Pz 42 := fun xs v w av hr => .inl ⟨enters_of Tryz.func42 (by kernel_rfl) rfl _ _, by
 have fin : ∀ {v : Value} {u : Value}, Rd w av (.sl .u8 (xs.take 2000)) u → Calls Pz 42 #[v] w (fun e w' => e = .returned (.pointer (some ⟨w.heap.size, 0, none⟩)) ∧ w' = w.alloc (.cells #[u, .int .i64 0] 127)) →
   Calls Pz 42 #[v] w fun e w' => match e, w' with
    | .returned v', w' => ∃ u T, Rd w av (.sl .u8 (xs.take 2000)) u ∧ v' = .pointer (some ⟨w.heap.size, 0, none⟩) ∧ w' = w.alloc (.cells #[u, .int .i64 0] T)
    | _, _ => False := fun hu hc => hc.mono fun e w' h => by obtain ⟨rfl, rfl⟩ := h; exact ⟨_, _, hu, rfl, rfl⟩
 cases hr with
 | nil => exact fin (.nil .u8) (oqn w)
 | sl t xs a cap cs n hn hcap hb hl hc hr =>
  by_cases h : 2000 < n
  ·refine fin (u := .slice (some a) 2000 cap) ?_ (oqb w a n cap h hcap)
   have hlen : (xs.take 2000).length = 2000 := by simp only [List.length_take]; omega
   have hf : jjM .u8 (xs.take 2000) = (jjM .u8 xs).take 2000 := by rw [jqC]; rfl
   refine .sl .u8 (xs.take 2000) a cap (cs.take 2000) 2000 hlen.symm (by omega) (fun hx => hb (fun e => hx (by rw [e]; rfl))) (by rw [hf, List.length_take, List.length_take, hl]) (fun j u hu => ?_) (fun j h1 h2 => ?_)
   ·rw [List.getElem?_take] at hu
    split at hu
    ·exact hc j u hu
    ·cases hu
   ·have h1' : j < (jjM .u8 xs).length := by rw [hf, List.length_take] at h1; omega
    have h2' : j < cs.length := by rw [List.length_take] at h2; omega
    have e1 : (jjM .u8 (xs.take 2000))[j] = (jjM .u8 xs)[j] := by simp only [hf, List.getElem_take]
    have e2 : (cs.take 2000)[j] = cs[j] := List.getElem_take
    rw [e1, e2]
    exact hr j h1' h2'
  ·refine fin (u := .slice (some a) n cap) ?_ (oqs w a n cap (by omega))
   rw [List.take_of_length_le (by omega)]
   exact .sl .u8 xs a cap cs n hn hcap hb hl hc hr⟩
set_option maxHeartbeats 1000000 in
theorem bcUsed (b : Nat) (w : World) (h0 : w.cell? ⟨b, 0, none⟩ = some (.pointer (some ⟨b, 0, none⟩))) :
  Calls Pz 123 #[.pointer (some ⟨b, 0, none⟩)] w fun e w' => e = .returned (.tuple #[]) ∧ w' = w := by
 obtain ⟨j, hj, _⟩ := Option.map_eq_some_iff.1 (show (Pz.info? 97).map (·.size) = some 2 by kernel_rfl)
 go_enter Tryz.func123, Tryz.ntmps123
 go_wp2
 rw [Lib.run_neq_ptr_same w _ (show Pz.underlying 95 = some (.pointer 97) by kernel_rfl) hj]
 go_wp2
 go_end0
 exact ⟨rfl, rfl⟩
set_option maxHeartbeats 1000000 in
theorem bcFresh (b : Nat) (w : World) (h0 : w.cell? ⟨b, 0, none⟩ = some (.pointer none)) (hsh : w.shape? b = some (97, 2)) (hfz : w.frozen? ⟨b, 0, none⟩ = false) :
  Calls Pz 123 #[.pointer (some ⟨b, 0, none⟩)] w fun e w' => e = .returned (.tuple #[]) ∧ w' = w.setCell ⟨b, 0, none⟩ (.pointer (some ⟨b, 0, none⟩)) := by
 obtain ⟨j, hj, hjs⟩ := Option.map_eq_some_iff.1 (show (Pz.info? 97).map (·.size) = some 2 by kernel_rfl)
 go_enter Tryz.func123, Tryz.ntmps123
 go_wp2
 rw [Lib.run_to_unsafe w ⟨b, 0, none⟩ (show Pz.underlying 95 = some (.pointer 97) by kernel_rfl) (show Pz.underlying 219 = some .unsafePointer by kernel_rfl) hj (by rw [hjs]; decide) hsh (Nat.zero_lt_succ 1)]
 simp only [Result.andThen]
 rw [Oper.upon_value]
 go_wp2
 rw [run_callFunc_extern Tryz.func198 (by kernel_rfl) (by kernel_rfl) (by kernel_rfl) (e := Extern.AbiNoEscape.same) (by kernel_rfl)]
 rw [Lib.run_noEscape]
 simp only [Result.andThen]
 rw [Oper.upon_value]
 go_wp2
 rw [Lib.run_from_unsafe w ⟨b, 0, none⟩ (show Pz.underlying 219 = some .unsafePointer by kernel_rfl) (show Pz.underlying 95 = some (.pointer 97) by kernel_rfl) hj hsh (by kernel_rfl)]
 simp only [Result.andThen]
 rw [Oper.upon_value]
 go_wp2
 go_end0
 exact ⟨rfl, rfl⟩
theorem cc123 : CopyOk Pz 123 := by
 intro b p v w hb hp
 refine .inl ⟨enters_of Tryz.func123 (by kernel_rfl) rfl _ _, ?_⟩
 rcases hp with rfl | rfl
 ·refine (bcFresh b w (by rw [Lib.cell_of_heap hb]; rfl) (by simp [World.shape?, hb]; rfl) (by simp [World.frozen?, hb])).mono ?_
  rintro e w' ⟨rfl, rfl⟩
  refine ⟨rfl, ?_⟩
  rw [setCell_eq_setRow w b 0 _ _ _ _ hb]
  rfl
 ·refine (bcUsed b w (by rw [Lib.cell_of_heap hb]; rfl)).mono ?_
  rintro e w' ⟨rfl, rfl⟩
  exact ⟨rfl, (setRow_self w' b _ _ _ hb).symm⟩
section
variable {P : Program} (w : World)
theorem jz5 : ∀ (xs : List Int) (a : Addr) (acc : ByteArray), (∀ j x, xs[j]? = some x → w.cell? (a.add j) = some (.int .u8 x)) →
  (loadBytes a acc xs.length).run P w = .ok ⟨acc.data ++ (jqF xs).toArray⟩ w
 | [], a, acc, _ => by simp [loadBytes, jqF]
 | x :: l, a, acc, h => by
  have h0 : w.cell? a = some (.int .u8 x) := by
   have := h 0 x rfl
   simpa [Addr.add] using this
  have ih := jz5 l (a.add 1) (acc.push (UInt8.ofNat x.toNat)) (fun j y hy => by
   have := h (j + 1) y (by simpa using hy)
   have e : (a.add 1).add j = a.add (j + 1) := by
    unfold Addr.add
    by_cases hj : j = 0
    ·subst hj; simp
    ·simp [hj]; omega
   rw [e]; exact this)
  have hx : (x.toNat).toUInt8 = UInt8.ofNat x.toNat := rfl
  simp only [List.length_cons, loadBytes, Sem.run_bind, run_load, h0, Result.andThen, hx]
  rw [ih]
  congr 1
  apply ByteArray.ext
  simp [ByteArray.push, jqF]
theorem run_unsafeStringI (pt it ty e : TypeId) (hp : P.underlying pt = some (.pointer e)) (hc : P.cellsOf e = 1) (g cells : Nat) (hsh : w.shape? g = some (e, cells)) (l : List Int) (h0 : l ≠ []) (hn : l.length ≤ cells) (h63 : l.length ≤ 9223372036854775807)
  (hcell : ∀ j x, l[j]? = some x → w.cell? ((⟨g, 0, none⟩ : Addr).add j) = some (.int .u8 x)) :
  (Builtin.unsafeString_ #[pt, it] ty #[.pointer (some ⟨g, 0, none⟩), .int .i64 l.length]).run P w = .ok (.string ⟨(jqF l).toArray⟩) (w.freeze ⟨g, 0, none⟩ l.length) := by
 have hl : l.length ≠ 0 := by simpa using h0
 have hlb := jz5 (P := P) w l ⟨g, 0, none⟩ .empty hcell
 have hlies := Lib.liesAt_bytes (P := P) hc (cells / P.cellsOf e) l.length (by rw [hc]; simpa using hn)
 have h63' : ¬ (9223372036854775807 : Int) < (l.length : Int) := by omega
 have hmax : IntKind.i64.max = 9223372036854775807 := rfl
 have hneg : ¬ (l.length : Int) < 0 := by omega
 change Sem.run P (bind (asInt (.int .i64 (l.length : Int))) _) w = _
 simp [asInt, asIntOf, hmax, h63', hneg, hl, variablesAt, hsh, elemOf, run_underlying hp, hlies, hlb]
theorem freeze_kept (a : Addr) (n : Nat) : (w.freeze a n).os = w.os ∧ (w.freeze a n).tape = w.tape ∧ (w.freeze a n).output = w.output ∧ (w.freeze a n).heap.size = w.heap.size ∧
  (∀ c, c ≠ a.block → (w.freeze a n).heap[c]? = w.heap[c]?) ∧ ∀ cur e fz, w.heap[a.block]? = some (.cells cur e fz) → ∃ fz', (w.freeze a n).heap[a.block]? = some (.cells cur e fz') := by
 unfold World.freeze
 split
 ·exact ⟨rfl, rfl, rfl, rfl, fun _ _ => rfl, fun cur e fz h => ⟨fz, h⟩⟩
 ·refine ⟨rfl, rfl, rfl, by simp, fun c hc => ?_, fun cur e fz h => ?_⟩
  ·simp only [Array.getElem?_modify]
   rw [if_neg (by omega)]
  ·simp only [Array.getElem?_modify, if_true, h, Option.map_some]
   exact ⟨_, rfl⟩
end
abbrev jJp (w : World) (v : Value) (xs : List Int) (e : Ending) (w' : World) : Prop := e = .returned (.string ⟨(jqF xs).toArray⟩) ∧ w'.os = w.os ∧ w'.tape = w.tape ∧ w'.output = w.output ∧ w.heap.size ≤ w'.heap.size ∧
   (∀ c, c < w.heap.size → blk v ≠ some c → w'.heap[c]? = w.heap[c]?) ∧ ∀ c cur e fz, blk v = some c → w.heap[c]? = some (.cells cur e fz) → ∃ fz', w'.heap[c]? = some (.cells cur e fz')
set_option maxHeartbeats 2000000 in
theorem bsNil (b : Nat) (p : Value) (T : TypeId) (w : World) (hbk : w.heap[b]? = some (.cells #[p, .slice none 0 0] T (0, 0))) :
  Calls Pz 65 #[.pointer (some ⟨b, 0, none⟩)] w (jJp w (.slice none 0 0) []) := by
 have hUS : ∀ W q, (Builtin.unsafeString_ #[157, 3] 9 #[.pointer q, .int .i64 0]).run Pz W = .ok (.string .empty) W := fun W q => Lib.run_unsafeString_none W _ _ _ q
 have c1 : w.drew.cell? ⟨b, 1, none⟩ = some (.slice none 0 0) := by
  have : w.drew.heap[b]? = some (.cells #[p, .slice none 0 0] T (0, 0)) := hbk
  rw [Lib.cell_of_heap this]; rfl
 have mixed : Pz.follows .mixedOrders = true := by kernel_rfl
 have hSD : (Builtin.unsafeSliceData_ #[22] 157 #[.slice none 0 0]).run Pz w.drew = .ok (.pointer none) w.drew := rfl
 go_enter Tryz.func65, Tryz.ntmps65
 go_wp2
 go_region_o
 all_goals (go_wp2; go_ret; exact ⟨rfl, rfl, rfl, rfl, Nat.le_refl _, fun _ _ _ => rfl, fun c cur e fz h => by cases h⟩)
set_option maxHeartbeats 2000000 in
theorem bsNoroom (b g : Nat) (p : Value) (T : TypeId) (cur : Array Value) (w : World) (hbk : w.heap[b]? = some (.cells #[p, .slice (some ⟨g, 0, none⟩) 0 0] T (0, 0))) (fz : Nat × Nat) (hg : w.heap[g]? = some (.cells cur 5 fz)) :
  Calls Pz 65 #[.pointer (some ⟨b, 0, none⟩)] w (jJp w (.slice (some ⟨g, 0, none⟩) 0 0) []) := by
 have hUS : ∀ W q, (Builtin.unsafeString_ #[157, 3] 9 #[.pointer q, .int .i64 0]).run Pz W = .ok (.string .empty) W := fun W q => Lib.run_unsafeString_none W _ _ _ q
 have hlt : b < w.heap.size := (Array.getElem?_eq_some_iff.1 hbk).1
 have c1 : w.drew.cell? ⟨b, 1, none⟩ = some (.slice (some ⟨g, 0, none⟩) 0 0) := by
  have : w.drew.heap[b]? = some (.cells #[p, .slice (some ⟨g, 0, none⟩) 0 0] T (0, 0)) := hbk
  rw [Lib.cell_of_heap this]; rfl
 have mixed : Pz.follows .mixedOrders = true := by kernel_rfl
 have t157 : Pz.underlying 157 = some (.pointer 5) := by kernel_rfl
 have hSD : (Builtin.unsafeSliceData_ #[22] 157 #[.slice (some ⟨g, 0, none⟩) 0 0]).run Pz w.drew = .ok (.pointer (some ⟨w.drew.heap.size, 0, none⟩)) (w.drew.alloc (.view ⟨g, 0, none⟩ 5)) :=
  Lib.run_unsafeSliceData_zero w.drew _ _ 5 t157 ⟨g, 0, none⟩ 0 (5, cur.size) (by have hg' : w.drew.heap[g]? = some (.cells cur 5 fz) := hg; simp [World.shape?, hg'])
 have c2 : (w.drew.alloc (.view ⟨g, 0, none⟩ 5)).cell? ⟨b, 1, none⟩ = some (.slice (some ⟨g, 0, none⟩) 0 0) := by
  have : (w.drew.alloc (.view ⟨g, 0, none⟩ 5)).heap[b]? = _ := (Lib.alloc_old w.drew _ b hlt).trans hbk
  rw [Lib.cell_of_heap this]; rfl
 have c3 : (w.alloc (.view ⟨g, 0, none⟩ 5)).drew.cell? ⟨b, 1, none⟩ = some (.slice (some ⟨g, 0, none⟩) 0 0) := c2
 have c0 : w.cell? ⟨b, 1, none⟩ = some (.slice (some ⟨g, 0, none⟩) 0 0) := c1
 have fin : jJp w (.slice (some ⟨g, 0, none⟩) 0 0) [] (.returned (.string .empty)) (w.drew.alloc (.view ⟨g, 0, none⟩ 5)) := by
  refine ⟨rfl, rfl, rfl, rfl, by simp, fun c hc _ => Lib.alloc_old w.drew _ c hc, fun c cur' e fz' h h2 => ?_⟩
  cases h
  exact ⟨fz', (Lib.alloc_old w.drew _ g (Array.getElem?_eq_some_iff.1 hg).1).trans h2⟩
 go_enter Tryz.func65, Tryz.ntmps65
 go_wp2
 go_region_o
 all_goals (go_wp2; go_ret; exact fin)
set_option maxHeartbeats 2000000 in
theorem bsRoom (b g cap : Nat) (p : Value) (T : TypeId) (w : World) (hc0 : cap ≠ 0) (hbk : w.heap[b]? = some (.cells #[p, .slice (some ⟨g, 0, none⟩) 0 cap] T (0, 0))) :
  Calls Pz 65 #[.pointer (some ⟨b, 0, none⟩)] w (jJp w (.slice (some ⟨g, 0, none⟩) 0 cap) []) := by
 have hUS : ∀ W q, (Builtin.unsafeString_ #[157, 3] 9 #[.pointer q, .int .i64 0]).run Pz W = .ok (.string .empty) W := fun W q => Lib.run_unsafeString_none W _ _ _ q
 have c1 : w.drew.cell? ⟨b, 1, none⟩ = some (.slice (some ⟨g, 0, none⟩) 0 cap) := by
  have : w.drew.heap[b]? = some (.cells #[p, .slice (some ⟨g, 0, none⟩) 0 cap] T (0, 0)) := hbk
  rw [Lib.cell_of_heap this]; rfl
 have mixed : Pz.follows .mixedOrders = true := by kernel_rfl
 have hSD : (Builtin.unsafeSliceData_ #[22] 157 #[.slice (some ⟨g, 0, none⟩) 0 cap]).run Pz w.drew = .ok (.pointer (some ⟨g, 0, none⟩)) w.drew :=
  Lib.run_unsafeSliceData_row _ _ _ _ _ _ hc0
 clear hc0
 go_enter Tryz.func65, Tryz.ntmps65
 go_wp2
 go_region_o
 all_goals (go_wp2; go_ret; exact ⟨rfl, rfl, rfl, rfl, Nat.le_refl _, fun _ _ _ => rfl, fun c cur e fz h h2 => ⟨fz, h2⟩⟩)
set_option maxHeartbeats 2000000 in
theorem bsRow (b g cap : Nat) (p : Value) (T : TypeId) (cur : Array Value) (fz : Nat × Nat) (xs : List Int) (w : World) (h0 : xs ≠ []) (hbk : w.heap[b]? = some (.cells #[p, .slice (some ⟨g, 0, none⟩) xs.length cap] T (0, 0)))
  (hg : w.heap[g]? = some (.cells cur 5 fz)) (hnc : xs.length ≤ cap) (hcm : cap ≤ maxLen) (hcs : cur.size = cap) (htk : cur.toList.take xs.length = xs.map (Value.int .u8)) :
  Calls Pz 65 #[.pointer (some ⟨b, 0, none⟩)] w (jJp w (.slice (some ⟨g, 0, none⟩) xs.length cap) xs) := by
 have hl0 : xs.length ≠ 0 := by simpa using h0
 have c1 : w.drew.cell? ⟨b, 1, none⟩ = some (.slice (some ⟨g, 0, none⟩) xs.length cap) := by
  have : w.drew.heap[b]? = some (.cells #[p, .slice (some ⟨g, 0, none⟩) xs.length cap] T (0, 0)) := hbk
  rw [Lib.cell_of_heap this]; rfl
 have mixed : Pz.follows .mixedOrders = true := by kernel_rfl
 have t157 : Pz.underlying 157 = some (.pointer 5) := by kernel_rfl
 have hg' : w.drew.heap[g]? = some (.cells cur 5 fz) := hg
 have hSD : (Builtin.unsafeSliceData_ #[22] 157 #[.slice (some ⟨g, 0, none⟩) xs.length cap]).run Pz w.drew = .ok (.pointer (some ⟨g, 0, none⟩)) w.drew :=
  Lib.run_unsafeSliceData_row _ _ _ _ _ _ (by omega)
 have hUS : (Builtin.unsafeString_ #[157, 3] 9 #[.pointer (some ⟨g, 0, none⟩), .int .i64 xs.length]).run Pz w.drew = .ok (.string ⟨(jqF xs).toArray⟩) (w.drew.freeze ⟨g, 0, none⟩ xs.length) := by
  refine run_unsafeStringI w.drew 157 3 9 5 t157 (by kernel_rfl) g cur.size (by simp [World.shape?, hg']) xs h0 (by omega) (by unfold maxLen at hcm; omega) ?_
  intro j x hx
  rw [jqD, Nat.zero_add, cell_of_row w.drew g j cur 5 fz hg']
  have hj : j < xs.length := (List.getElem?_eq_some_iff.1 hx).1
  have := congrArg (fun l => l[j]?) htk
  simp only [List.getElem?_take, List.getElem?_map, hx, Option.map_some, hj, if_true] at this
  simpa using this
 have fin : jJp w (.slice (some ⟨g, 0, none⟩) xs.length cap) xs (.returned (.string ⟨(jqF xs).toArray⟩)) (w.drew.freeze ⟨g, 0, none⟩ xs.length) := by
  obtain ⟨f1, f2, f3, f4, f5, f6⟩ := freeze_kept w.drew ⟨g, 0, none⟩ xs.length
  refine ⟨rfl, f1, f2, f3, Nat.le_of_eq f4.symm, fun c _ hc => f5 c fun e => hc (by rw [e]; rfl), fun c cur' e fz' h h2 => ?_⟩
  cases h
  exact f6 cur' e fz' h2
 clear htk hg' hg hcs hcm hnc hl0 h0
 go_enter Tryz.func65, Tryz.ntmps65
 go_wp2
 go_region_o
 all_goals (go_wp2; go_ret; exact fin)
theorem bs65 : StrOk Pz 65 := by
 intro b p v T xs w hb hrow
 refine .inl ⟨enters_of Tryz.func65 (by kernel_rfl) rfl _ _, ?_⟩
 have key : Calls Pz 65 #[.pointer (some ⟨b, 0, none⟩)] w (jJp w v xs) := by
  rcases hrow.2 with ⟨rfl, h0⟩ | ⟨g, cap, cur, fz, rfl, hu, hg, hnc, hcm, hcs, htk⟩
  ·have : xs = [] := List.eq_nil_of_length_eq_zero h0
   subst this
   exact bsNil b p T w hb
  ·by_cases h0 : xs = []
   ·subst h0
    by_cases hc : cap = 0
    ·subst hc
     exact bsNoroom b g p T cur w hb fz hg
    ·exact bsRoom b g cap p T w hc hb
   ·exact bsRow b g cap p T cur fz xs w h0 hb hg hnc hcm (by simpa using hcs) (by simpa using htk)
 refine key.mono fun e w' h => ?_
 obtain ⟨rfl, h⟩ := h
 exact ⟨rfl, h⟩
theorem gt0 : GtOk 0 .u32 shaK := gtOk_u32 (by simp [gBs]) fun w h => h.1
theorem EO : EnvOk Pz EE := ⟨tyAt_ok (tysB_ok (by kernel_rfl)), by kernel_rfl, fun p h => by
 simp only [EE, List.mem_cons, List.not_mem_nil, or_false] at h
 subst h; exact y172, fun g h => by
 simp only [EE, List.mem_cons, List.not_mem_nil, or_false] at h
 subst h; exact op42, fun g h => by
 simp only [EE, List.mem_cons, List.not_mem_nil, or_false] at h
 subst h; exact cc123, fun g h => by
 simp only [EE, List.mem_cons, List.not_mem_nil, or_false] at h
 subst h; exact bs65, fun p h => by
 simp only [EE, List.mem_cons, List.not_mem_nil, or_false] at h
 subst h; exact gt0⟩
theorem gd {L : LS} (h : AllS Pz L) : CtxGood Pz (cx EE L) := cx_good EO h
theorem g0 : CtxGood Pz (cx EE []) := gd ⟨⟩
abbrev i100 : Shape := ⟨[tI 0, tI 1, tI 2], [], 15⟩
abbrev o100 : Shape := ⟨[tB 6], [], 15⟩
noncomputable def f100 (a : i100.Y) : Option o100.Y :=
 bif (decide (a.1.1 ≥ a.1.2.1)) then
 some (((decide (a.1.1 ≤ a.1.2.2.1)), ()), ())
else
 some ((false, ()), ())
noncomputable def S100 : jjC := jjG EE Tryz.f100 i100 o100 [] f100
theorem z100 : jjf Pz 100 S100 := jjb g0 Tryz.func100 (by kernel_rfl) jja (fun y => by kernel_rfl) fun a => by kernel_rfl
abbrev s173_12 : Shape := ⟨[tS 0, tI 1], [], 53⟩
abbrev t173_12 : List OSh := [(.norm, ⟨[tS 0, tI 1, tB 24], [], 53⟩)]
noncomputable def g173_12 (y : s173_12.Y) : Option (YS t173_12) :=
 bif (!(y.1.1 == ([] : Str))) then
 bif (!(decide ((y.1.1.length : Int) > (9 : Int)))) then
 bif (decide ((y.1.1.length : Int) > (1 : Int))) then
(ix y.1.1 (0 : Int)).bind fun x1363 =>
 some (((y.1.1, (y.1.2.1, (((x1363.toNat : Int) == (48 : Int)), ()))), ()))
else
 some (((y.1.1, (y.1.2.1, (false, ()))), ()))
else
 some (((y.1.1, (y.1.2.1, (true, ()))), ()))
else
 some (((y.1.1, (y.1.2.1, (true, ()))), ()))
theorem q173_12 : jjk Pz (jjc (jji Tryz.f173) 1 12) (jjg s173_12 t173_12 g173_12) := jjD g0 (by kernel_rfl) jja fun y => by kernel_rfl
abbrev s173_31332 : Shape := ⟨[tS 0, tI 1, tI 6, tI 7, tI 26, tI 27], [], 53⟩
abbrev t173_31332 : List OSh := [(.norm, ⟨[tS 0, tI 1, tI 6, tI 7, tI 26, tI 27, tB 39], [], 53⟩)]
noncomputable def g173_31332 (y : s173_31332.Y) : Option (YS t173_31332) :=
(ix y.1.1 y.1.2.2.2.1).bind fun x1372 =>
 bif (!(decide ((x1372.toNat : Int) < (48 : Int)))) then
(ix y.1.1 y.1.2.2.2.1).bind fun x1373 =>
 some (((y.1.1, (y.1.2.1, (y.1.2.2.1, (y.1.2.2.2.1, (y.1.2.2.2.2.1, (y.1.2.2.2.2.2.1, ((decide ((x1373.toNat : Int) > (57 : Int))), ()))))))), ()))
else
 some (((y.1.1, (y.1.2.1, (y.1.2.2.1, (y.1.2.2.2.1, (y.1.2.2.2.2.1, (y.1.2.2.2.2.2.1, (true, ()))))))), ()))
theorem q173_31332 : jjk Pz (jjc (jjI (jjc (jji Tryz.f173) 1 122)) 244 31332) (jjg s173_31332 t173_31332 g173_31332) := jjD g0 (by kernel_rfl) jja fun y => by kernel_rfl
abbrev s173_122 : Shape := ⟨[tS 0, tI 1, tI 6, tI 26, tI 27], [], 53⟩
abbrev t173_122 : List OSh := [(.ret, ⟨[tI 4, tB 5], [], 53⟩), (.exit 0, ⟨[tI 1, tI 6], [], 53⟩)]
noncomputable def g173_122 (y : s173_122.Y) : LR s173_122 t173_122 :=
 bif (decide (y.1.2.2.2.2.1 < y.1.2.2.2.1)) then
(g173_31332 ((y.1.1, (y.1.2.1, (y.1.2.2.1, (y.1.2.2.2.2.1, (y.1.2.2.2.1, (y.1.2.2.2.2.1, ())))))), ())).bind fun r1378 =>
 bif r1378.1.2.2.2.2.2.2.1 then
 some (.inr (.inl (((0 : Int), (false, ())), ())))
else
(ix r1378.1.1 r1378.1.2.2.2.1).bind fun x1379 =>
 some (.inl ((r1378.1.1, (r1378.1.2.1, ((IntKind.i64.wrap ((IntKind.i64.wrap (r1378.1.2.2.1 * (10 : Int))) + (IntKind.i64.wrap (IntKind.u8.wrap ((x1379.toNat : Int) - (48 : Int)))))), (r1378.1.2.2.2.2.1, ((IntKind.i64.wrap (r1378.1.2.2.2.2.2.1 + (1 : Int))), ()))))), ()))
else
 some (.inr (.inr ((y.1.2.1, (y.1.2.2.1, ())), ())))
noncomputable def l173_122 : s173_122.Y → Option (YS t173_122) := jjt g173_122
theorem q173_122 : jjk Pz (jjc (jji Tryz.f173) 1 122) (jjg s173_122 t173_122 l173_122) := jje g0 (by kernel_rfl) (frc q173_31332 jja) fun y => by kernel_rfl
abbrev i173 : Shape := ⟨[tS 0, tI 1], [], 53⟩
abbrev o173 : Shape := ⟨[tI 4, tB 5], [], 53⟩
noncomputable def f173 (a : i173.Y) : Option o173.Y :=
(g173_12 ((a.1.1, (a.1.2.1, ())), ())).bind fun r1367 =>
 bif r1367.1.2.2.1 then
 some (((0 : Int), (false, ())), ())
else
(l173_122 ((r1367.1.1, (r1367.1.2.1, ((0 : Int), ((r1367.1.1.length : Int), ((0 : Int), ()))))), ())).bind fun r1383 =>
(match r1383 with
| .inl r1384 =>
 some ((r1384.1.1, (r1384.1.2.1, ())), ())
| .inr r1385 =>
 bif (decide (r1385.1.2.1 > r1385.1.1)) then
 some (((0 : Int), (false, ())), ())
else
 some ((r1385.1.2.1, (true, ())), ()))
noncomputable def S173 : jjC := jjG EE Tryz.f173 i173 o173 [] f173
theorem z173 : jjf Pz 173 S173 := jjb g0 Tryz.func173 (by kernel_rfl) (frc q173_12 (frc q173_122 jja)) (fun y => by kernel_rfl) fun a => by kernel_rfl
abbrev s180_3728 : Shape := ⟨[tS 0, tI 3, tI 4], [], 47⟩
abbrev t180_3728 : List OSh := [(.norm, ⟨[tS 0, tI 3, tI 4, tB 24], [], 47⟩)]
noncomputable def g180_3728 (y : s180_3728.Y) : Option (YS t180_3728) :=
(ix y.1.1 y.1.2.2.1).bind fun x785 =>
 bif (!(decide ((x785.toNat : Int) < (48 : Int)))) then
(ix y.1.1 y.1.2.2.1).bind fun x786 =>
 bif (!(decide ((x786.toNat : Int) > (57 : Int)))) then
 some (((y.1.1, (y.1.2.1, (y.1.2.2.1, ((decide (y.1.2.2.1 ≥ (6 : Int))), ())))), ()))
else
 some (((y.1.1, (y.1.2.1, (y.1.2.2.1, (true, ())))), ()))
else
 some (((y.1.1, (y.1.2.1, (y.1.2.2.1, (true, ())))), ()))
theorem q180_3728 : jjk Pz (jjc (jjI (jjc (jji Tryz.f180) 1 58)) 116 3728) (jjg s180_3728 t180_3728 g180_3728) := jjD g0 (by kernel_rfl) jja fun y => by kernel_rfl
abbrev s180_58 : Shape := ⟨[tS 0, tI 3, tI 4], [], 47⟩
abbrev t180_58 : List OSh := [(.ret, ⟨[tI 2], [], 47⟩), (.exit 0, ⟨[tS 0, tI 3], [], 47⟩)]
noncomputable def g180_58 (y : s180_58.Y) : LR s180_58 t180_58 :=
 bif (decide (y.1.2.2.1 < (y.1.1.length : Int))) then
(g180_3728 ((y.1.1, (y.1.2.1, (y.1.2.2.1, ()))), ())).bind fun r791 =>
 bif r791.1.2.2.2.1 then
 some (.inr (.inl ((((-1) : Int), ()), ())))
else
(ix r791.1.1 r791.1.2.2.1).bind fun x792 =>
 some (.inl ((r791.1.1, ((IntKind.i64.wrap ((IntKind.i64.wrap (r791.1.2.1 * (10 : Int))) + (IntKind.i64.wrap (IntKind.u8.wrap ((x792.toNat : Int) - (48 : Int)))))), ((IntKind.i64.wrap (r791.1.2.2.1 + (1 : Int))), ()))), ()))
else
 some (.inr (.inr ((y.1.1, (y.1.2.1, ())), ())))
noncomputable def l180_58 : s180_58.Y → Option (YS t180_58) := jjt g180_58
theorem q180_58 : jjk Pz (jjc (jji Tryz.f180) 1 58) (jjg s180_58 t180_58 l180_58) := jje g0 (by kernel_rfl) (frc q180_3728 jja) fun y => by kernel_rfl
abbrev s180_60 : Shape := ⟨[tS 0, tI 3], [], 47⟩
abbrev t180_60 : List OSh := [(.norm, ⟨[tI 3, tB 45], [], 47⟩)]
noncomputable def g180_60 (y : s180_60.Y) : Option (YS t180_60) :=
 bif (!((y.1.1.length : Int) == (0 : Int))) then
 bif (decide ((y.1.1.length : Int) > (1 : Int))) then
(ix y.1.1 (0 : Int)).bind fun x807 =>
 some (((y.1.2.1, (((x807.toNat : Int) == (48 : Int)), ())), ()))
else
 some (((y.1.2.1, (false, ())), ()))
else
 some (((y.1.2.1, (true, ())), ()))
theorem q180_60 : jjk Pz (jjc (jji Tryz.f180) 1 60) (jjg s180_60 t180_60 g180_60) := jjD g0 (by kernel_rfl) jja fun y => by kernel_rfl
abbrev i180 : Shape := ⟨[tS 0], [], 47⟩
abbrev o180 : Shape := ⟨[tI 2], [], 47⟩
noncomputable def f180 (a : i180.Y) : Option o180.Y :=
(l180_58 ((a.1.1, ((0 : Int), ((0 : Int), ()))), ())).bind fun r803 =>
(match r803 with
| .inl r804 =>
 some ((r804.1.1, ()), ())
| .inr r805 =>
(g180_60 ((r805.1.1, (r805.1.2.1, ())), ())).bind fun r808 =>
 bif r808.1.2.1 then
 some ((((-1) : Int), ()), ())
else
 some ((r808.1.1, ()), ()))
noncomputable def S180 : jjC := jjG EE Tryz.f180 i180 o180 [] f180
theorem z180 : jjf Pz 180 S180 := jjb g0 Tryz.func180 (by kernel_rfl) (frc q180_58 (frc q180_60 jja)) (fun y => by kernel_rfl) fun a => by kernel_rfl
abbrev s45_12 : Shape := ⟨[tS 0], [], 49⟩
abbrev t45_12 : List OSh := [(.norm, ⟨[tS 0, tB 20], [], 49⟩)]
noncomputable def g45_12 (y : s45_12.Y) : Option (YS t45_12) :=
 bif (!(y.1.1 == ([] : Str))) then
 bif (!(decide ((y.1.1.length : Int) > (10 : Int)))) then
(ix y.1.1 (0 : Int)).bind fun x1331 =>
 bif (!(decide ((x1331.toNat : Int) < (97 : Int)))) then
(ix y.1.1 (0 : Int)).bind fun x1332 =>
 some (((y.1.1, ((decide ((x1332.toNat : Int) > (122 : Int))), ())), ()))
else
 some (((y.1.1, (true, ())), ()))
else
 some (((y.1.1, (true, ())), ()))
else
 some (((y.1.1, (true, ())), ()))
theorem q45_12 : jjk Pz (jjc (jji Tryz.f45) 1 12) (jjg s45_12 t45_12 g45_12) := jjD g0 (by kernel_rfl) jja fun y => by kernel_rfl
abbrev s45_7474 : Shape := ⟨[tS 0, tI 3, tI 22, tI 23], [], 49⟩
abbrev t45_7474 : List OSh := [(.norm, ⟨[tS 0, tI 22, tI 23, tB 47], [], 49⟩)]
noncomputable def g45_7474 (y : s45_7474.Y) : Option (YS t45_7474) :=
(ix y.1.1 y.1.2.1).bind fun x1349 =>
 bif (!(decide ((x1349.toNat : Int) < (97 : Int)))) then
(ix y.1.1 y.1.2.1).bind fun x1350 =>
 bif (decide ((x1350.toNat : Int) > (122 : Int))) then
(ix y.1.1 y.1.2.1).bind fun x1351 =>
 bif (!(decide ((x1351.toNat : Int) < (48 : Int)))) then
(ix y.1.1 y.1.2.1).bind fun x1352 =>
 some (((y.1.1, (y.1.2.2.1, (y.1.2.2.2.1, ((decide ((x1352.toNat : Int) > (57 : Int))), ())))), ()))
else
 some (((y.1.1, (y.1.2.2.1, (y.1.2.2.2.1, (true, ())))), ()))
else
 some (((y.1.1, (y.1.2.2.1, (y.1.2.2.2.1, (false, ())))), ()))
else
(ix y.1.1 y.1.2.1).bind fun x1353 =>
 bif (!(decide ((x1353.toNat : Int) < (48 : Int)))) then
(ix y.1.1 y.1.2.1).bind fun x1354 =>
 some (((y.1.1, (y.1.2.2.1, (y.1.2.2.2.1, ((decide ((x1354.toNat : Int) > (57 : Int))), ())))), ()))
else
 some (((y.1.1, (y.1.2.2.1, (y.1.2.2.2.1, (true, ())))), ()))
theorem q45_7474 : jjk Pz (jjc (jjI (jjc (jji Tryz.f45) 1 58)) 116 7474) (jjg s45_7474 t45_7474 g45_7474) := jjD g0 (by kernel_rfl) jja fun y => by kernel_rfl
abbrev s45_58 : Shape := ⟨[tS 0, tI 22, tI 23], [], 49⟩
abbrev t45_58 : List OSh := [(.ret, ⟨[tB 2], [], 49⟩), (.exit 0, ⟨[], [], 49⟩)]
noncomputable def g45_58 (y : s45_58.Y) : LR s45_58 t45_58 :=
 bif (decide (y.1.2.2.1 < y.1.2.1)) then
(g45_7474 ((y.1.1, (y.1.2.2.1, (y.1.2.1, (y.1.2.2.1, ())))), ())).bind fun r1356 =>
 bif r1356.1.2.2.2.1 then
 some (.inr (.inl ((false, ()), ())))
else
 some (.inl ((r1356.1.1, (r1356.1.2.1, ((IntKind.i64.wrap (r1356.1.2.2.1 + (1 : Int))), ()))), ()))
else
 some (.inr (.inr ((), ())))
noncomputable def l45_58 : s45_58.Y → Option (YS t45_58) := jjt g45_58
theorem q45_58 : jjk Pz (jjc (jji Tryz.f45) 1 58) (jjg s45_58 t45_58 l45_58) := jje g0 (by kernel_rfl) (frc q45_7474 jja) fun y => by kernel_rfl
abbrev i45 : Shape := ⟨[tS 0], [], 49⟩
abbrev o45 : Shape := ⟨[tB 2], [], 49⟩
noncomputable def f45 (a : i45.Y) : Option o45.Y :=
(g45_12 ((a.1.1, ()), ())).bind fun r1336 =>
 bif r1336.1.2.1 then
 some ((false, ()), ())
else
(l45_58 ((r1336.1.1, ((r1336.1.1.length : Int), ((0 : Int), ()))), ())).bind fun r1357 =>
(match r1357 with
| .inl r1358 =>
 some ((r1358.1.1, ()), ())
| .inr r1359 =>
 some ((true, ()), ()))
noncomputable def S45 : jjC := jjG EE Tryz.f45 i45 o45 [] f45
theorem z45 : jjf Pz 45 S45 := jjb g0 Tryz.func45 (by kernel_rfl) (frc q45_12 (frc q45_58 jja)) (fun y => by kernel_rfl) fun a => by kernel_rfl
noncomputable abbrev L52 : LS := [(100, S100)]
theorem G52 : CtxGood Pz (cx EE L52) := gd ⟨z100, ⟨⟩⟩
abbrev s52_840 : Shape := ⟨[tS 0, tI 3], [], 42⟩
abbrev t52_840 : List OSh := [(.norm, ⟨[tS 0, tI 3, tB 4], [], 42⟩)]
noncomputable def g52_840 (y : s52_840.Y) : Option (YS t52_840) :=
(ix y.1.1 y.1.2.1).bind fun x747 =>
 bif (decide ((x747.toNat : Int) ≥ (97 : Int))) then
(ix y.1.1 y.1.2.1).bind fun x748 =>
 some (((y.1.1, (y.1.2.1, ((decide ((x748.toNat : Int) ≤ (122 : Int))), ()))), ()))
else
 some (((y.1.1, (y.1.2.1, (false, ()))), ()))
theorem q52_840 : jjk Pz (jjc (jjI (jjc (jji Tryz.f52) 1 26)) 52 840) (jjg s52_840 t52_840 g52_840) := jjD G52 (by kernel_rfl) jja fun y => by kernel_rfl
abbrev s52_1682 : Shape := ⟨[tS 0, tI 3, tB 4], [], 42⟩
abbrev t52_1682 : List OSh := [(.norm, ⟨[tS 0, tI 3, tB 38], [], 42⟩)]
noncomputable def g52_1682 (y : s52_1682.Y) : Option (YS t52_1682) :=
 bif (!y.1.2.2.1) then
 bif (!(y.1.2.1 == (0 : Int))) then
(ix y.1.1 y.1.2.1).bind fun x755 =>
 bif (!(decide ((x755.toNat : Int) < (48 : Int)))) then
(ix y.1.1 y.1.2.1).bind fun x756 =>
 some (((y.1.1, (y.1.2.1, ((decide ((x756.toNat : Int) > (57 : Int))), ()))), ()))
else
 some (((y.1.1, (y.1.2.1, (true, ()))), ()))
else
 some (((y.1.1, (y.1.2.1, (true, ()))), ()))
else
 some (((y.1.1, (y.1.2.1, (false, ()))), ()))
theorem q52_1682 : jjk Pz (jjc (jjI (jjc (jji Tryz.f52) 1 26)) 52 1682) (jjg s52_1682 t52_1682 g52_1682) := jjD G52 (by kernel_rfl) jja fun y => by kernel_rfl
abbrev s52_26 : Shape := ⟨[tS 0, tI 3], [], 42⟩
abbrev t52_26 : List OSh := [(.ret, ⟨[tB 2], [], 42⟩), (.exit 0, ⟨[tS 0], [], 42⟩)]
noncomputable def g52_26 (y : s52_26.Y) : LR s52_26 t52_26 :=
 bif (decide (y.1.2.1 < (y.1.1.length : Int))) then
(g52_840 ((y.1.1, (y.1.2.1, ())), ())).bind fun r758 =>
(g52_1682 ((r758.1.1, (r758.1.2.1, (r758.1.2.2.1, ()))), ())).bind fun r759 =>
 bif r759.1.2.2.1 then
 some (.inr (.inl ((false, ()), ())))
else
 some (.inl ((r759.1.1, ((IntKind.i64.wrap (r759.1.2.1 + (1 : Int))), ())), ()))
else
 some (.inr (.inr ((y.1.1, ()), ())))
noncomputable def l52_26 : s52_26.Y → Option (YS t52_26) := jjt g52_26
theorem q52_26 : jjk Pz (jjc (jji Tryz.f52) 1 26) (jjg s52_26 t52_26 l52_26) := jje G52 (by kernel_rfl) (frc q52_840 (frc q52_1682 jja)) fun y => by kernel_rfl
abbrev i52 : Shape := ⟨[tS 0], [], 42⟩
abbrev o52 : Shape := ⟨[tB 2], [], 42⟩
noncomputable def f52 (a : i52.Y) : Option o52.Y :=
(l52_26 ((a.1.1, ((0 : Int), ())), ())).bind fun r770 =>
(match r770 with
| .inl r771 =>
 some ((r771.1.1, ()), ())
| .inr r772 =>
(f100 (((r772.1.1.length : Int), ((1 : Int), ((10 : Int), ()))), ())).bind fun r773 =>
 some ((r773.1.1, ()), ()))
noncomputable def S52 : jjC := jjG EE Tryz.f52 i52 o52 [] f52
theorem z52 : jjf Pz 52 S52 := jjb G52 Tryz.func52 (by kernel_rfl) (frc q52_26 jja) (fun y => by kernel_rfl) fun a => by kernel_rfl
def lowB (b : UInt8) : Bool := decide ((97 : Int) ≤ (b.toNat : Int)) && decide ((b.toNat : Int) ≤ 122)
def jze (b : UInt8) : Bool := decide ((48 : Int) ≤ (b.toNat : Int)) && decide ((b.toNat : Int) ≤ 57)
def jj2 (n lo hi : Int) : Bool := decide (lo ≤ n) && decide (n ≤ hi)
theorem v_l1In (a) : f100 a = some ((jj2 a.1.1 a.1.2.1 a.1.2.2.1, ()), ()) := by
 simp only [f100, jj2, ge_iff_le]
 cases decide (a.1.2.1 ≤ a.1.1) <;> rfl
def jzd (s : Str) : Bool := jqz (fun i x => lowB x || (!(i == 0) && jze x)) 0 s && jj2 s.length 1 10
theorem v_l3Pack (a) (hs : Sm a.1.1.length) : f52 a = some ((jzd a.1.1, ()), ()) := by
 obtain ⟨⟨s, u⟩, u'⟩ := a
 have key : l52_26 ((s, ((0 : Int), ())), ()) = some (bif jqz (fun i x => lowB x || (!(i == 0) && jze x)) 0 s then .inr ((s, ()), ()) else .inl ((false, ()), ())) := by
  refine jjP g52_26 s (fun i => ((s, ((i : Int), ())), ())) _ _ _ (fun i x hx => ?_) ?_
  ·have hi := jjx hx
   have hw : Sm i := by unfold Sm at *; simp only at hs; omega
   simp only [g52_26, jjv hi, cond_true, g52_840, g52_1682, jjq, hx, Option.bind_some, jjj hw, ge_iff_le, beq0]
   unfold lowB jze
   by_cases h1 : (97 : Int) ≤ (x.toNat : Int) <;> by_cases h2 : (x.toNat : Int) ≤ 122 <;> cases h3 : (i == 0) <;> by_cases h4 : (48 : Int) ≤ (x.toNat : Int) <;> by_cases h5 : (x.toNat : Int) ≤ 57 <;> simp [h1, h2, h3, h4, h5, jjj hw, jjq, hx, beq0, dlt, dgt, -beq_iff_eq]
  ·simp only [g52_26, jju, cond_false]
 simp only [f52, key, Option.bind_some]
 unfold jzd
 cases jqz (fun i x => lowB x || (!(i == 0) && jze x)) 0 s with
 | false => rfl
 | true => simp only [cond_true, v_l1In, Option.bind_some, Bool.true_and]
theorem pkName_cons (b : UInt8) (r : Str) : jzd (b :: r) = (lowB b && (b :: r).all (fun x => lowB x || jze x) && decide (((b :: r).length : Int) ≤ 10)) := by
 unfold jzd
 simp only [jqz, List.all_cons]
 have : jqz (fun i x => lowB x || (!(i == 0) && jze x)) (0 + 1) r = r.all (fun x => lowB x || jze x) := by
  have hz : ∀ (i : Nat) (x : UInt8), 1 ≤ i → x ∈ r → (lowB x || (!(i == 0) && jze x)) = (lowB x || jze x) := by
   intro i x hi _
   have : (i == 0) = false := by simp; omega
   rw [this]; simp
  rw [allI_congr (ok' := fun _ x => lowB x || jze x) r 1 hz, jjZ]
 rw [this]
 unfold jj2
 have : decide ((1 : Int) ≤ ((b :: r).length : Int)) = true := by simp only [List.length_cons, decide_eq_true_eq]; omega
 rw [this]
 cases lowB b <;> simp
theorem v_packNameOk (a) (hs : Sm a.1.1.length) : f45 a = some ((jzd a.1.1, ()), ()) := by
 obtain ⟨⟨s, u⟩, u'⟩ := a
 have key : l45_58 ((s, ((s.length : Int), ((0 : Int), ()))), ()) = some (bif jqz (fun _ x => lowB x || jze x) 0 s then .inr ((), ()) else .inl ((false, ()), ())) := by
  refine jjP g45_58 s (fun i => ((s, ((s.length : Int), ((i : Int), ()))), ())) _ _ _ (fun i x hx => ?_) ?_
  ·have hi := jjx hx
   have hw : Sm i := by unfold Sm at *; simp only at hs; omega
   simp only [g45_58, jjv hi, cond_true, g45_7474, jjq, hx, Option.bind_some, jjj hw, dlt, dgt]
   unfold lowB jze
   by_cases h1 : (97 : Int) ≤ (x.toNat : Int) <;> by_cases h2 : (x.toNat : Int) ≤ 122 <;> by_cases h4 : (48 : Int) ≤ (x.toNat : Int) <;> by_cases h5 : (x.toNat : Int) ≤ 57 <;> simp [h1, h2, h4, h5, jjj hw, jjq, hx, dlt, dgt]
  ·simp only [g45_58, jju, cond_false]
 rw [jjZ] at key
 cases s with
 | nil => rfl
 | cons b r =>
  have hb : ix (b :: r) 0 = some b := rfl
  simp only [f45, g45_12, hb, Option.bind_some, dlt, dgt, pkName_cons]
  have he : ((b :: r) == ([] : Str)) = false := rfl
  have hl : lowB b = (decide ((97 : Int) ≤ (b.toNat : Int)) && decide ((b.toNat : Int) ≤ 122)) := rfl
  rw [he, hl]
  by_cases h1 : (97 : Int) ≤ (b.toNat : Int) <;> by_cases h2 : (b.toNat : Int) ≤ 122 <;> by_cases h3 : ((b :: r).length : Int) ≤ 10 <;>
   simp only [h1, h2, h3, decide_true, decide_false, Bool.not_true, Bool.not_false, cond_true, cond_false, Option.bind_some, Bool.true_and, Bool.and_true, Bool.false_and, Bool.and_false]
  rw [key]
  generalize List.all (b :: r) (fun x => lowB x || jze x) = q
  cases q <;> rfl
def jxG (n : Int) (b : UInt8) : Int := n * 10 + ((b.toNat : Int) - 48)
def valN (s : Str) : Int := s.foldl jxG 0
def leadB : Str → Bool
 | b :: _ :: _ => (b.toNat : Int) == 48
 | _ => false
def numB (s : Str) : Bool := s.all jze && !(s == []) && !leadB s && decide (s.length ≤ 6) && decide (valN s ≤ 999)
theorem jqg {b : UInt8} (h : jze b = true) : 48 ≤ (b.toNat : Int) ∧ (b.toNat : Int) ≤ 57 := by
 simpa [jze] using h
theorem wrapU8 {b : UInt8} (h : jze b = true) : IntKind.u8.wrap ((b.toNat : Int) - 48) = (b.toNat : Int) - 48 := by
 have := jqg h
 rw [IntKind.wrap_u8]; omega
theorem step_bounds {n : Int} {b : UInt8} {i : Nat} (h : jze b = true) (h0 : 0 ≤ n) (h1 : n < 10 ^ i) : 0 ≤ jxG n b ∧ jxG n b < 10 ^ (i + 1) := by
 have := jqg h
 unfold jxG
 rw [Int.pow_succ]
 omega
theorem pow_le9 {i : Nat} (h : i ≤ 9) : (10 : Int) ^ i ≤ 1000000000 := by
 have : i = 0 ∨ i = 1 ∨ i = 2 ∨ i = 3 ∨ i = 4 ∨ i = 5 ∨ i = 6 ∨ i = 7 ∨ i = 8 ∨ i = 9 := by omega
 rcases this with rfl | rfl | rfl | rfl | rfl | rfl | rfl | rfl | rfl | rfl <;> decide
theorem step_wrap {n : Int} {b : UInt8} {i : Nat} (h : jze b = true) (hi : i ≤ 8) (h0 : 0 ≤ n) (h1 : n < 10 ^ i) :
  IntKind.i64.wrap (IntKind.i64.wrap (n * 10) + IntKind.i64.wrap (IntKind.u8.wrap ((b.toNat : Int) - 48))) = jxG n b := by
 have hd := jqg h
 have hp := pow_le9 (show i ≤ 9 by omega)
 rw [wrapU8 h, jjV (n := n * 10) (by omega) (by omega), jjV (n := (b.toNat : Int) - 48) (by omega) (by omega), jjV (by omega) (by omega)]
 rfl
theorem v_l1Num (a) (hs : Sm a.1.1.length) : f180 a = some ((bif a.1.1.all jze && decide (a.1.1.length ≤ 6) && !(a.1.1 == []) && !leadB a.1.1 then valN a.1.1 else -1, ()), ()) := by
 obtain ⟨⟨s, u⟩, u'⟩ := a
 have key : l180_58 ((s, ((0 : Int), ((0 : Int), ()))), ()) = some (bif jqz (fun i x => jze x && decide (i < 6)) 0 s then .inr ((s, (valN s, ())), ()) else .inl ((((-1) : Int), ()), ())) := by
  have := jq1 g180_58 s (fun i n => ((s, (n, ((i : Int), ()))), ())) (fun i x n => some (bif jze x && decide (i < 6) then .inl (jxG n x) else .inr (.inl ((((-1) : Int), ()), ())))) (fun n => .inr ((s, (n, ())), ()))
   (fun i n => 0 ≤ n ∧ n < 10 ^ i ∧ (i ≤ 6)) (0 : Int) ⟨by decide, by decide, by decide⟩ (fun i x n hx hI => ?_) (fun n _ => ?_)
  ·exact this.trans (by rw [jJm]; rfl)
  ·have hi := jjx hx
   have hw : Sm i := by unfold Sm at *; simp only at hs; omega
   obtain ⟨h0, h1, h6⟩ := hI
   refine ⟨?_, fun s' h' => ?_⟩
   ·simp only [g180_58, jjv hi, cond_true, g180_3728, jjq, hx, Option.bind_some, jjj hw, dlt, dgt, dge]
    have hsix : decide ((6 : Int) ≤ (i : Int)) = !decide (i < 6) := by by_cases h : i < 6 <;> simp [h] <;> omega
    rw [hsix]
    cases hd : jze x with
    | false =>
     unfold jze at hd
     by_cases h4 : (48 : Int) ≤ (x.toNat : Int) <;> by_cases h5 : (x.toNat : Int) ≤ 57 <;> simp [h4, h5] at hd ⊢
    | true =>
     obtain ⟨h4, h5⟩ := jqg hd
     cases hq : decide (i < 6) with
     | false => simp [h4, h5]
     | true =>
      have hq : i < 6 := by simpa using hq
      have := step_wrap (i := i) hd (by omega) h0 h1
      simp only [h4, h5, decide_true, Bool.not_true, Bool.not_false, cond_true, cond_false, Option.bind_some, jjq, hx, this, jjj hw, Bool.and_true, Option.map_some]
   ·simp only [Option.some.injEq] at h'
    cases hq : (jze x && decide (i < 6)) with
    | false => rw [hq] at h'; cases h'
    | true =>
     rw [hq] at h'
     simp only [cond_true, Sum.inl.injEq] at h'
     simp only [Bool.and_eq_true, decide_eq_true_eq] at hq
     subst h'
     have := step_bounds hq.1 h0 h1
     exact ⟨this.1, this.2, by omega⟩
  ·simp only [g180_58, jju, cond_false]
 rw [allI_and, jjZ, allI_lt] at key
 simp only [f180, key, Option.bind_some]
 cases s with
 | nil => rfl
 | cons b r =>
  have hb : ix (b :: r) 0 = some b := rfl
  have he : ((b :: r) == ([] : Str)) = false := rfl
  have hz : (((b :: r).length : Int) == 0) = false := by simp only [List.length_cons, beq_eq_false_iff_ne, ne_eq]; omega
  have hl : decide (((b :: r).length : Int) > 1) = !(r == []) := by cases r <;> simp; omega
  simp only [List.isEmpty_cons, Bool.false_or, Nat.zero_add, he, Bool.not_false, Bool.and_true]
  cases hq : (List.all (b :: r) jze && decide ((b :: r).length ≤ 6)) with
  | false => rfl
  | true =>
   simp only [cond_true, g180_60, hz, Bool.not_false, hl, hb, Option.bind_some, Bool.true_and]
   cases r with
   | nil => rfl
   | cons c r =>
    have : ((c :: r) == ([] : Str)) = false := rfl
    rw [this]
    simp only [Bool.not_false, cond_true, Option.bind_some, leadB]
    cases ((b.toNat : Int) == 48) <;> rfl
theorem val_lower : ∀ (r : Str) (n : Int) (k : Nat), r.all jze = true → 0 ≤ n → 10 ^ k ≤ n → 10 ^ (k + r.length) ≤ r.foldl jxG n := by
 intro r
 induction r with
 | nil => intro n k _ _ h; exact h
 | cons b r ih =>
  intro n k hd h0 h
  simp only [List.all_cons, Bool.and_eq_true] at hd
  have hb := jqg hd.1
  have hs : 10 ^ (k + 1) ≤ jxG n b := by unfold jxG; rw [Int.pow_succ]; omega
  have := ih (jxG n b) (k + 1) hd.2 (by unfold jxG; omega) hs
  simp only [List.length_cons, List.foldl_cons]
  rw [show k + (r.length + 1) = k + 1 + r.length by omega]
  exact this
theorem pow10_ge {n : Nat} (h : 6 ≤ n) : (1000000 : Int) ≤ 10 ^ n := by
 induction n with
 | zero => omega
 | succ n ih =>
  by_cases h6 : 6 ≤ n
  ·have := ih h6; rw [Int.pow_succ]; omega
  ·have : n = 5 := by omega
   subst this; decide
theorem val_big {s : Str} (hd : s.all jze = true) (hl : leadB s = false) (h7 : 7 ≤ s.length) : 999 < valN s := by
 match s, h7 with
 | b :: c :: r, h7 =>
  simp only [leadB, beq_eq_false_iff_ne, ne_eq] at hl
  simp only [List.all_cons, Bool.and_eq_true] at hd
  have hb := jqg hd.1
  have hc := jqg hd.2.1
  have hs : (10 : Int) ^ 0 ≤ jxG 0 b := by unfold jxG; simp; omega
  have := val_lower (c :: r) (jxG 0 b) 0 (by simp [hd.2.1, hd.2.2]) (by unfold jxG; omega) hs
  have h2 : (1000000 : Int) ≤ 10 ^ (0 + (c :: r).length) := pow10_ge (by simp only [List.length_cons] at h7 ⊢; omega)
  show 999 < List.foldl jxG (jxG 0 b) (c :: r)
  omega
theorem v_number (a) (hs : Sm a.1.1.length) (h9 : a.1.2.1 = 999) : f173 a = some ((bif numB a.1.1 then valN a.1.1 else 0, (numB a.1.1, ())), ()) := by
 obtain ⟨⟨s, m, u⟩, u'⟩ := a
 obtain rfl : m = 999 := h9
 have key : s.length ≤ 9 → l173_122 ((s, ((999 : Int), ((0 : Int), ((s.length : Int), ((0 : Int), ()))))), ()) = some (bif jqz (fun i x => jze x) 0 s then .inr (((999 : Int), (valN s, ())), ()) else .inl (((0 : Int), (false, ())), ())) := by
  intro h9
  have := jq1 g173_122 s (fun i n => ((s, ((999 : Int), (n, ((s.length : Int), ((i : Int), ()))))), ())) (fun i x n => some (bif jze x then .inl (jxG n x) else .inr (.inl (((0 : Int), (false, ())), ())))) (fun n => .inr (((999 : Int), (n, ())), ()))
   (fun i n => 0 ≤ n ∧ n < 10 ^ i ∧ (i ≤ 9)) (0 : Int) ⟨by decide, by decide, by decide⟩ (fun i x n hx hI => ?_) (fun n _ => ?_)
  ·exact this.trans (by rw [jJm]; rfl)
  ·have hi := jjx hx
   have hw : Sm i := by unfold Sm at *; simp only at hs; omega
   obtain ⟨h0, h1, h6⟩ := hI
   refine ⟨?_, fun s' h' => ?_⟩
   ·simp only [g173_122, jjv hi, cond_true, g173_31332, jjq, hx, Option.bind_some, jjj hw, dlt, dgt, dge]
    cases hd : jze x with
    | false =>
     unfold jze at hd
     by_cases h4 : (48 : Int) ≤ (x.toNat : Int) <;> by_cases h5 : (x.toNat : Int) ≤ 57 <;> simp [h4, h5] at hd ⊢
    | true =>
     obtain ⟨h4, h5⟩ := jqg hd
     have := step_wrap (i := i) hd (by omega) h0 h1
     simp only [h4, h5, decide_true, Bool.not_true, Bool.not_false, cond_true, cond_false, Option.bind_some, jjq, hx, this, jjj hw, Bool.and_true, Option.map_some]
   ·simp only [Option.some.injEq] at h'
    cases hq : jze x with
    | false => rw [hq] at h'; cases h'
    | true =>
     rw [hq] at h'
     simp only [cond_true, Sum.inl.injEq] at h'
     subst h'
     have := step_bounds hq h0 h1
     exact ⟨this.1, this.2, by omega⟩
  ·simp only [g173_122, jju, cond_false]
 rw [jjZ] at key
 cases s with
 | nil => rfl
 | cons b r =>
  have hb : ix (b :: r) 0 = some b := rfl
  have he : ((b :: r) == ([] : Str)) = false := rfl
  have hl : decide (((b :: r).length : Int) > 1) = !(r == []) := by cases r <;> simp; omega
  have h9 : decide (((b :: r).length : Int) > 9) = !decide ((b :: r).length ≤ 9) := by by_cases h : (b :: r).length ≤ 9 <;> simp only [h, decide_true, decide_false, Bool.not_true, Bool.not_false, decide_eq_true_eq, decide_eq_false_iff_not] <;> omega
  have hlead : leadB (b :: r) = (!(r == []) && (b.toNat : Int) == 48) := by cases r <;> rfl
  simp only [f173, g173_12, he, hl, h9, Bool.not_false, cond_true, Bool.not_not, hb, Option.bind_some]
  have fin : (b :: r).length ≤ 9 → leadB (b :: r) = false → ((l173_122 ((b :: r, ((999 : Int), ((0 : Int), (((b :: r).length : Int), ((0 : Int), ()))))), ())).bind fun r752 => match r752 with
    | .inl r753 => some ((r753.1.1, (r753.1.2.1, ())), ())
    | .inr r754 => bif decide (r754.1.2.1 > r754.1.1) then some (((0 : Int), (false, ())), ()) else some ((r754.1.2.1, (true, ())), ())) =
    some ((bif numB (b :: r) then valN (b :: r) else 0, (numB (b :: r), ())), ()) := by
   intro h9 hlf
   rw [key h9]
   unfold numB
   rw [he, hlf]
   cases hd : List.all (b :: r) jze with
   | false => rfl
   | true =>
    simp only [cond_true, Option.bind_some, Bool.not_false, Bool.true_and, dgt]
    by_cases h6 : (b :: r).length ≤ 6
    ·simp only [h6, decide_true, Bool.true_and]
     cases decide (valN (b :: r) ≤ 999) <;> rfl
    ·have := val_big hd hlf (by omega)
     have : decide (valN (b :: r) ≤ 999) = false := by simp only [decide_eq_false_iff_not]; omega
     rw [this]
     simp only [h6, decide_false, Bool.false_and]
     rfl
  by_cases hq : (b :: r).length ≤ 9
  ·simp only [hq, decide_true, cond_true]
   cases hr : (r == []) with
   | true =>
    simp only [Bool.not_true, cond_false, Option.bind_some]
    exact fin hq (by rw [hlead, hr]; rfl)
   | false =>
    simp only [Bool.not_false, cond_true, Option.bind_some]
    cases h48 : ((b.toNat : Int) == 48) with
    | true =>
     have : numB (b :: r) = false := by unfold numB; rw [hlead, hr, h48]; simp
     rw [this]; rfl
    | false =>
     simp only [cond_false]
     exact fin hq (by rw [hlead, hr, h48]; rfl)
  ·have : numB (b :: r) = false := by
    unfold numB
    have : decide ((b :: r).length ≤ 6) = false := by simp only [decide_eq_false_iff_not]; omega
    rw [this]; simp
   simp only [hq, decide_false, cond_false, Option.bind_some, cond_true, this]
abbrev s179_122 : Shape := ⟨[tS 0, (1, .lf (.d (.int .u8))), tI 2, tO 7 3000448, tI 8, tI 9], [zR 3000448 .str 7 0], 43⟩
abbrev t179_122 : List OSh := [(.exit 0, ⟨[tS 0, tO 7 3000448, tI 8], [zR 3000448 .str 7 0], 43⟩)]
noncomputable def g179_122 (y : s179_122.Y) : LR s179_122 t179_122 :=
 bif (decide (y.1.2.2.2.2.2.1 < (y.1.1.length : Int))) then
 bif (decide ((y.2.1.length : Int) < y.1.2.2.1)) then
(ix y.1.1 y.1.2.2.2.2.2.1).bind fun x86 =>
 bif ((x86.toNat : Int) == y.1.2.1) then
(jq5 y.1.1 y.1.2.2.2.2.1 y.1.2.2.2.2.2.1).bind fun x89 =>
(apd 16 y.2.1 ([x89] : List Str)).bind fun x90 =>
 some (.inl ((y.1.1, (y.1.2.1, (y.1.2.2.1, ((), ((IntKind.i64.wrap (y.1.2.2.2.2.2.1 + (1 : Int))), ((IntKind.i64.wrap (y.1.2.2.2.2.2.1 + (1 : Int))), ())))))), (x90, ())))
else
 some (.inl ((y.1.1, (y.1.2.1, (y.1.2.2.1, ((), (y.1.2.2.2.2.1, ((IntKind.i64.wrap (y.1.2.2.2.2.2.1 + (1 : Int))), ())))))), (y.2.1, ())))
else
 some (.inr (((y.1.1, ((), (y.1.2.2.2.2.1, ()))), (y.2.1, ()))))
else
 some (.inr (((y.1.1, ((), (y.1.2.2.2.2.1, ()))), (y.2.1, ()))))
noncomputable def l179_122 : s179_122.Y → Option (YS t179_122) := jjt g179_122
theorem q179_122 : jjk Pz (jjc (jji Tryz.f179) 1 122) (jjg s179_122 t179_122 l179_122) := jje g0 (by kernel_rfl) jja fun y => by kernel_rfl
abbrev i179 : Shape := ⟨[tS 0, (1, .lf (.d (.int .u8))), tI 2], [], 43⟩
abbrev o179 : Shape := ⟨[tO 6 3000384], [zR 3000384 .str 6 0], 43⟩
noncomputable def f179 (a : i179.Y) : Option o179.Y :=
(l179_122 ((a.1.1, (a.1.2.1, (a.1.2.2.1, ((), ((0 : Int), ((0 : Int), ())))))), (([] : List Str), ()))).bind fun r96 =>
(jq5 r96.1.1 r96.1.2.2.1 (r96.1.1.length : Int)).bind fun x97 =>
(apd 16 r96.2.1 ([x97] : List Str)).bind fun x98 =>
 some (((), ()), (x98, ()))
noncomputable def S179 : jjC := jjG EE Tryz.f179 i179 o179 [] f179
theorem z179 : jjf Pz 179 S179 := jjb g0 Tryz.func179 (by kernel_rfl) (frc q179_122 jja) (fun y => by kernel_rfl) fun a => by kernel_rfl
abbrev Bd (n : Nat) : Prop := n ≤ 2097152
theorem splitL_ne (c : UInt8) : ∀ s, jjw c s ≠ [] := by
 intro s
 induction s with
 | nil => intro h; cases h
 | cons b r ih =>
  unfold jjw
  cases b == c with
  | true => intro h; cases h
  | false =>
   simp only [cond_false]
   split <;> intro h <;> cases h
def glue (acc : Str) : List Str → List Str
 | x :: xs => (acc ++ x) :: xs
 | [] => [acc]
theorem glue_nil {L : List Str} (h : L ≠ []) : glue [] L = L := by
 cases L with
 | nil => exact absurd rfl h
 | cons x xs => rfl
theorem jzR (c : UInt8) : ∀ s, (jjw c s).length ≤ s.length + 1 := by
 intro s
 induction s with
 | nil => exact Nat.le_refl _
 | cons b r ih =>
  unfold jjw
  cases b == c with
  | true => simpa using ih
  | false =>
   simp only [cond_false]
   split
   ·rename_i x xs h; rw [h] at ih; simp at ih ⊢; omega
   ·simp
theorem jzQ (c : UInt8) : ∀ s x, x ∈ jjw c s → x.length ≤ s.length := by
 intro s
 induction s with
 | nil => intro x h; simp [jjw] at h; simp [h]
 | cons b r ih =>
  intro x h
  unfold jjw at h
  cases hb : b == c with
  | true =>
   rw [hb, cond_true] at h
   rcases List.mem_cons.1 h with rfl | h
   ·simp
   ·have := ih x h; simp; omega
  | false =>
   rw [hb, cond_false] at h
   split at h
   ·rename_i y ys hy
    rcases List.mem_cons.1 h with rfl | h
    ·have := ih y (by rw [hy]; exact List.mem_cons_self); simp; omega
    ·have := ih x (by rw [hy]; exact List.mem_cons_of_mem _ h); simp; omega
   ·simp at h; simp [h]
theorem cut_fold {B : Type} (c : UInt8) (s : Str) (fin : Nat × List Str → B) : ∀ (r : Str) (k : Nat) (q : Nat × List Str), r = s.drop k → k ≤ s.length → q.1 ≤ k →
  ∃ q', jqG (fun i x (q : Nat × List Str) => some (.inl (bif (x.toNat : Int) == (c.toNat : Int) then (i + 1, q.2 ++ [(s.take i).drop q.1]) else q) : Sum (Nat × List Str) B)) fin k r q = some (fin q') ∧ q'.1 ≤ s.length ∧
   q'.2 ++ [s.drop q'.1] = q.2 ++ glue ((s.take k).drop q.1) (jjw c r) := by
 intro r
 induction r with
 | nil =>
  intro k q hr hk hq
  have hkl : k = s.length := by
   have := congrArg List.length hr
   simp at this; omega
  refine ⟨q, rfl, by omega, ?_⟩
  rw [hkl, List.take_length]
  simp [jjw, glue]
 | cons x r ih =>
  intro k q hr hk hq
  have hlt : k < s.length := by
   have := congrArg List.length hr
   simp at this; omega
  have hr' : r = s.drop (k + 1) := by
   have := congrArg List.tail hr
   simpa using this
  have hx : s[k]? = some x := by
   have := congrArg (fun l => l[0]?) hr
   simpa using this.symm
  simp only [jqG]
  cases hc : ((x.toNat : Int) == (c.toNat : Int)) with
  | true =>
   have hxc : x = c := by
    simp only [beq_iff_eq] at hc
    exact UInt8.toNat_inj.1 (by omega)
   simp only [cond_true]
   obtain ⟨q', h1, h2, h3⟩ := ih (k + 1) (k + 1, q.2 ++ [(s.take k).drop q.1]) hr' hlt (Nat.le_refl _)
   refine ⟨q', h1, h2, h3.trans ?_⟩
   have e1 : (s.take (k + 1)).drop (k + 1) = [] := List.drop_eq_nil_of_le (by rw [List.length_take]; omega)
   simp only [e1]
   rw [glue_nil (splitL_ne c r)]
   subst hxc
   have : jjw x (x :: r) = [] :: jjw x r := by simp [jjw]
   rw [this]
   simp [glue]
  | false =>
   have hxc : (x == c) = false := by
    cases h : x == c with
    | false => rfl
    | true => rw [eq_of_beq h] at hc; simp at hc
   simp only [cond_false]
   obtain ⟨q', h1, h2, h3⟩ := ih (k + 1) q hr' hlt (by omega)
   refine ⟨q', h1, h2, h3.trans ?_⟩
   have e1 : (s.take (k + 1)).drop q.1 = (s.take k).drop q.1 ++ [x] := by
    rw [List.take_add_one, hx]
    rw [List.drop_append_of_le_length (by rw [List.length_take]; omega)]
    rfl
   rw [e1]
   have : jjw c (x :: r) = glue [x] (jjw c r) := by
    rw [jjw, hxc, cond_false]
    cases h : jjw c r with
    | nil => rfl
    | cons y ys => rfl
   rw [this]
   cases h : jjw c r with
   | nil => exact absurd h (splitL_ne c r)
   | cons y ys => simp [glue]
theorem v_l1Cut (c : UInt8) (a) (hs : Bd a.1.1.length) (hb : a.1.2.1 = (c.toNat : Int)) (hm : a.1.2.2.1 = ((a.1.1.length + 1 : Nat) : Int)) : f179 a = some (((), ()), (jjw c a.1.1, ())) := by
 obtain ⟨⟨s, b, m, u⟩, u'⟩ := a
 obtain rfl : b = (c.toNat : Int) := hb
 obtain rfl : m = ((s.length + 1 : Nat) : Int) := hm
 have hs : s.length ≤ 2097152 := hs
 have key := jq1 g179_122 s (fun i (q : Nat × List Str) => ((s, ((c.toNat : Int), (((s.length + 1 : Nat) : Int), ((), ((q.1 : Int), ((i : Int), ())))))), (q.2, ())))
  (fun i x (q : Nat × List Str) => some (.inl (bif (x.toNat : Int) == (c.toNat : Int) then (i + 1, q.2 ++ [(s.take i).drop q.1]) else q))) (fun q => (((s, ((), ((q.1 : Int), ()))), (q.2, ())) : YS t179_122))
  (fun i q => q.1 ≤ i ∧ q.2.length ≤ i) (0, []) ⟨Nat.le_refl _, Nat.le_refl _⟩ (fun i x q hx hI => ?_) (fun q hI => ?_)
 ·obtain ⟨q', h1, h2, h3⟩ := cut_fold c s (fun q => (((s, ((), ((q.1 : Int), ()))), (q.2, ())) : YS t179_122)) s 0 (0, []) rfl (Nat.zero_le _) (Nat.le_refl _)
  have key : l179_122 ((s, ((c.toNat : Int), (((s.length + 1 : Nat) : Int), ((), ((0 : Int), ((0 : Int), ())))))), (([] : List Str), ())) = some ((s, ((), ((q'.1 : Int), ()))), (q'.2, ())) := key.trans h1
  simp only [f179, key, Option.bind_some]
  rw [subl_from h2]
  have h3 : q'.2 ++ [s.drop q'.1] = jjw c s := by
   rw [h3]; simp only [List.take_zero, List.drop_nil, List.nil_append]
   exact glue_nil (splitL_ne c s)
  have hl : q'.2.length ≤ s.length + 1 := by
   have := congrArg List.length h3
   have h4 := jzR c s
   simp only [List.length_append, List.length_cons, List.length_nil] at this
   omega
  simp only [Option.bind_some]
  rw [jqu (by decide) (by unfold Sm; simp only [List.length_cons, List.length_nil]; omega)]
  simp only [Option.bind_some, h3]
 ·have hi := jjx hx
  have hw : Sm i := by unfold Sm; omega
  obtain ⟨h0, h1⟩ := hI
  have hlt : decide ((q.2.length : Int) < ((s.length + 1 : Nat) : Int)) = true := jjv (by omega)
  refine ⟨?_, fun q' hq' => ?_⟩
  ·simp only [g179_122, jjv hi, cond_true, hlt, jjq, hx, Option.bind_some]
   cases hc : ((x.toNat : Int) == (c.toNat : Int)) with
   | true =>
    simp only [cond_true]
    rw [jzO h0 (by omega)]
    simp only [Option.bind_some]
    rw [jqu (by decide) (by unfold Sm; simp only [List.length_cons, List.length_nil]; omega)]
    simp only [Option.bind_some, Option.map_some, jjj hw]
   | false => simp only [cond_false, Option.map_some, jjj hw]
  ·simp only [Option.some.injEq, Sum.inl.injEq] at hq'
   subst hq'
   cases (x.toNat : Int) == (c.toNat : Int) with
   | true => simp only [cond_true, List.length_append, List.length_cons, List.length_nil]; omega
   | false => simp only [cond_false]; omega
 ·simp only [g179_122, jju, cond_false]
noncomputable abbrev L101 : LS := [(100, S100), (179, S179), (180, S180)]
theorem G101 : CtxGood Pz (cx EE L101) := gd ⟨z100, z179, z180, ⟨⟩⟩
abbrev s101_122 : Shape := ⟨[tO 4 3000256, tO 5 3000320, tI 6], [zR 3000256 .str 4 0, zR 3000320 .i64 5 0], 37⟩
abbrev jxW : List OSh := [(.ret, ⟨[tO 2 3000128, tB 3], [zR 3000128 .i64 2 0], 37⟩), (.exit 0, ⟨[tO 4 3000256, tO 5 3000320], [zR 3000256 .str 4 0, zR 3000320 .i64 5 0], 37⟩)]
noncomputable def g101_122 (y : s101_122.Y) : LR s101_122 jxW :=
 bif (decide (y.1.2.2.1 < (y.2.1.length : Int))) then
(inb y.2.1.length y.1.2.2.1).bind fun x821 =>
(y.2.1[x821]?).bind fun x822 =>
(f180 ((x822, ()), ())).bind fun r823 =>
(f100 ((r823.1.1, ((0 : Int), ((999 : Int), ()))), ())).bind fun r827 =>
 bif (!r827.1.1) then
 some (.inr (.inl (((), (false, ())), (y.2.2.1, ()))))
else
(apd 8 y.2.2.1 ([r823.1.1] : List Int)).bind fun x828 =>
 some (.inl (((), ((), ((IntKind.i64.wrap (y.1.2.2.1 + (1 : Int))), ()))), (y.2.1, (x828, ()))))
else
 some (.inr (.inr (((), ((), ())), (y.2.1, (y.2.2.1, ())))))
noncomputable def l101_122 : s101_122.Y → Option (YS jxW) := jjt g101_122
theorem q101_122 : jjk Pz (jjc (jji Tryz.f101) 1 122) (jjg s101_122 jxW l101_122) := jje G101 (by kernel_rfl) jja fun y => by kernel_rfl
abbrev i101 : Shape := ⟨[tS 0], [], 37⟩
abbrev o101 : Shape := ⟨[tO 2 3000128, tB 3], [zR 3000128 .i64 2 0], 37⟩
noncomputable def f101 (a : i101.Y) : Option o101.Y :=
(f179 ((a.1.1, ((46 : Int), ((IntKind.i64.wrap ((a.1.1.length : Int) + (1 : Int))), ()))), ())).bind fun r836 =>
(l101_122 (((), ((), ((0 : Int), ()))), (r836.2.1, (([] : List Int), ())))).bind fun r840 =>
(match r840 with
| .inl r841 =>
 some (((), (r841.1.2.1, ())), (r841.2.1, ()))
| .inr r842 =>
 some (((), ((decide ((r842.2.1.length : Int) ≤ (4 : Int))), ())), (r842.2.2.1, ())))
noncomputable def S101 : jjC := jjG EE Tryz.f101 i101 o101 [] f101
theorem z101 : jjf Pz 101 S101 := jjb G101 Tryz.func101 (by kernel_rfl) (frc q101_122 jja) (fun y => by kernel_rfl) fun a => by kernel_rfl
noncomputable abbrev L53 : LS := [(101, S101)]
theorem G53 : CtxGood Pz (cx EE L53) := gd ⟨z101, ⟨⟩⟩
abbrev i53 : Shape := ⟨[tS 0], [], 11⟩
abbrev o53 : Shape := ⟨[tB 2], [], 11⟩
noncomputable def f53 (a : i53.Y) : Option o53.Y :=
(f101 ((a.1.1, ()), ())).bind fun r844 =>
 some ((r844.1.2.1, ()), ())
noncomputable def S53 : jjC := jjG EE Tryz.f53 i53 o53 [] f53
theorem z53 : jjf Pz 53 S53 := jjb G53 Tryz.func53 (by kernel_rfl) jja (fun y => by kernel_rfl) fun a => by kernel_rfl
noncomputable abbrev L181 : LS := [(52, S52), (53, S53), (100, S100)]
theorem G181 : CtxGood Pz (cx EE L181) := gd ⟨z52, z53, z100, ⟨⟩⟩
abbrev i181 : Shape := ⟨[tA 0 [eS, eI, eS]], [], 26⟩
abbrev o181 : Shape := ⟨[tB 2], [], 26⟩
noncomputable def f181 (a : i181.Y) : Option o181.Y :=
(f52 ((a.1.1.1, ()), ())).bind fun r858 =>
 bif r858.1.1 then
 bif (a.1.1.2.1 == (0 : Int)) then
 bif (!(a.1.1.2.2.1 == ([] : Str))) then
(f100 ((a.1.1.2.1, ((1 : Int), ((3 : Int), ()))), ())).bind fun r859 =>
 bif r859.1.1 then
(f53 ((a.1.1.2.2.1, ()), ())).bind fun r860 =>
 some ((r860.1.1, ()), ())
else
 some ((false, ()), ())
else
 some ((true, ()), ())
else
(f100 ((a.1.1.2.1, ((1 : Int), ((3 : Int), ()))), ())).bind fun r861 =>
 bif r861.1.1 then
(f53 ((a.1.1.2.2.1, ()), ())).bind fun r862 =>
 some ((r862.1.1, ()), ())
else
 some ((false, ()), ())
else
 some ((false, ()), ())
noncomputable def S181 : jjC := jjG EE Tryz.f181 i181 o181 [] f181
theorem z181 : jjf Pz 181 S181 := jjb G181 Tryz.func181 (by kernel_rfl) jja (fun y => by kernel_rfl) fun a => by kernel_rfl
noncomputable def SH376 : jjC := indexSumm
theorem zH376 : jjf Pz 376 SH376 := indexByte_ok (fn := Tryz.f376) (by kernel_rfl) (by kernel_rfl) (by kernel_rfl) (by kernel_rfl) (by kernel_rfl)
noncomputable abbrev L361 : LS := [(376, SH376)]
theorem G361 : CtxGood Pz (cx EE L361) := gd ⟨zH376, ⟨⟩⟩
abbrev i361 : Shape := ⟨[tS 0, (1, .lf (.d (.int .u8)))], [], 8⟩
abbrev o361 : Shape := ⟨[tI 4], [], 8⟩
noncomputable def f361 (a : i361.Y) : Option o361.Y :=
(some ()).bind fun r4 =>
 some (((Lib.indexByte a.1.1 (a.1.2.1).toNat.toUInt8), ()), ())
noncomputable def S361 : jjC := jjG EE Tryz.f361 i361 o361 [] f361
theorem z361 : jjf Pz 361 S361 := jjb G361 Tryz.func361 (by kernel_rfl) jja (fun y => by kernel_rfl) fun a => by kernel_rfl
noncomputable abbrev L344 : LS := [(361, S361)]
theorem G344 : CtxGood Pz (cx EE L344) := gd ⟨z361, ⟨⟩⟩
abbrev s344_56 : Shape := ⟨[tS 0, tS 1, tI 5], [], 143⟩
abbrev t344_56 : List OSh := [(.norm, ⟨[tS 0, tS 1, tI 5, tB 16], [], 143⟩)]
noncomputable def g344_56 (y : s344_56.Y) : Option (YS t344_56) :=
 bif (!(y.1.2.2.1 == (0 : Int))) then
 some (((y.1.1, (y.1.2.1, (y.1.2.2.1, ((y.1.2.1 == y.1.1), ())))), ()))
else
 some (((y.1.1, (y.1.2.1, (y.1.2.2.1, (true, ())))), ()))
theorem q344_56 : jjk Pz (jjc (jji Tryz.f344) 1 56) (jjg s344_56 t344_56 g344_56) := jjD G344 (by kernel_rfl) jja fun y => by kernel_rfl
abbrev i344 : Shape := ⟨[tS 0, tS 1], [], 143⟩
abbrev o344 : Shape := ⟨[tI 4], [], 143⟩
noncomputable def f344 (a : i344.Y) : Option o344.Y :=
(g344_56 ((a.1.1, (a.1.2.1, ((a.1.2.1.length : Int), ()))), ())).bind fun r6 =>
 bif r6.1.2.2.2.1 then
 some (((0 : Int), ()), ())
else
 bif (r6.1.2.2.1 == (1 : Int)) then
(ix r6.1.2.1 (0 : Int)).bind fun x7 =>
(f361 ((r6.1.1, ((x7.toNat : Int), ())), ())).bind fun r8 =>
 some ((r8.1.1, ()), ())
else
 bif (decide (r6.1.2.2.1 ≥ (r6.1.1.length : Int))) then
 some ((((-1) : Int), ()), ())
else
 none
noncomputable def S344 : jjC := jjG EE Tryz.f344 i344 o344 [] f344
theorem z344 : jjf Pz 344 S344 := jjb G344 Tryz.func344 (by kernel_rfl) (frc q344_56 jja) (fun y => by kernel_rfl) fun a => by kernel_rfl
noncomputable abbrev L313 : LS := [(344, S344)]
theorem G313 : CtxGood Pz (cx EE L313) := gd ⟨z344, ⟨⟩⟩
abbrev i313 : Shape := ⟨[tS 0, tS 1], [], 8⟩
abbrev o313 : Shape := ⟨[tI 4], [], 8⟩
noncomputable def f313 (a : i313.Y) : Option o313.Y :=
(f344 ((a.1.1, (a.1.2.1, ())), ())).bind fun r10 =>
 some ((r10.1.1, ()), ())
noncomputable def S313 : jjC := jjG EE Tryz.f313 i313 o313 [] f313
theorem z313 : jjf Pz 313 S313 := jjb G313 Tryz.func313 (by kernel_rfl) jja (fun y => by kernel_rfl) fun a => by kernel_rfl
noncomputable abbrev c311 : Ctx := cx EE [(313, S313)]
noncomputable def b311 : Code := jji Tryz.f311
noncomputable def l311 : Code := jjI (jjc b311 1 12)
noncomputable def op311 (p j : Nat) : Oper := (jJg (jjc l311 24 p)).getD j default
noncomputable def oq311 (j : Nat) : Oper := (jJg (jjc b311 1 7)).getD j default
theorem idx313 (c : UInt8) (r : Str) : f313 ((r, ([c], ())), ()) = some ((Lib.indexByte r c, ()), ()) := by
 have h0 : ix ([c] : Str) (0 : Int) = some c := rfl
 have h1 : ((([c] : Str).length : Int) == 0) = false := rfl
 have h2 : ((([c] : Str).length : Int) == 1) = true := rfl
 have h3 : ((c.toNat : Int)).toNat.toUInt8 = c := by simp
 simp only [f313, f344, g344_56, f361, h0, h1, h2, h3, Bool.not_false, cond_true, cond_false, Option.bind_some, Option.bind]
 by_cases h : (([c] : Str) == r) = true
 ·have : r = [c] := (by simpa using h : [c] = r).symm
  subst this
  simp [Lib.indexByte] <;> rfl
 ·simp [h] <;> rfl
theorem e311B (c : UInt8) (r : Str) : jz0 (jqd c311 []) (jjc l311 24 96) 96 (ist 52 c r) (kIdx (jqd c311 []) 52 7 8 (jjc l311 24 194) (jjc l311 24 390) 194 390) =
 (f313 ((r, ([c], ())), ())).bind fun q => bif decide (q.1.1 < 0) then some (.inl (iy 52 c r)) else (jq5 r 0 (IntKind.i64.wrap (q.1.1 + 0))).bind fun x => some (.inr ((q.1.1, x), iy 52 c r)) := by kernel_rfl
theorem it311 : IterOk Pz 311 :=
 iter_ok (C := jqd c311 []) (gd ⟨z313, ⟨⟩⟩) (fn := Tryz.f311) (k := 52) (A := jjc b311 1 2) (r5 := jjc l311 24 96) (c6 := jjc l311 24 194) (r7 := jjc l311 24 390) (r9 := jjc l311 24 783)
  (o0 := op311 1564 0) (o1 := op311 1564 1) (o2 := op311 1564 2) (o3 := op311 1564 3) (q0 := oq311 0) (q1 := oq311 1) (q2 := oq311 2) (pA := 2) (p5 := 96) (p6 := 194) (p7 := 390) (p9 := 783) (t7 := 7) (t8 := 8) (a1 := 39) (a2 := 40)
  (t41 := 41) (t42 := 42) (u1 := 49) (u2 := 50) (ty := #[9]) (ty' := #[9])
  {isFn := (by kernel_rfl), nt := (by kernel_rfl), k4 := (by decide), res := (by kernel_rfl), ent := enters_of Tryz.func311 (by kernel_rfl) rfl, body := ⟨ridOf (jjc l311 24 1564), ridOf (jjc b311 1 7), (by kernel_rfl)⟩, nr := (by kernel_rfl), wr := (by kernel_rfl),
   gd := ⟨(by kernel_rfl), (by kernel_rfl), (by kernel_rfl), (by kernel_rfl), (by kernel_rfl), (by kernel_rfl), (by kernel_rfl)⟩, wo := (by kernel_rfl), wq := (by kernel_rfl), d2 := (by kernel_rfl), lt41 := (by decide), c2 := (by kernel_rfl), d5 := (by kernel_rfl),
   orcs := ⟨jj7 (by kernel_rfl) jja, jj7 (by kernel_rfl) jja, jj7 (by kernel_rfl) jja, jj7 (by kernel_rfl) jja, jj7 (by kernel_rfl) jja⟩,
   hA := fun c r => (by kernel_rfl), hB := fun c r => (e311B c r).trans (by rw [idx313]; rfl), hT := fun c r i x v => (by kernel_rfl), h3 := fun c r b => (by kernel_rfl), h30 := (by kernel_rfl), hC := fun c r i => (by kernel_rfl), hQ := fun c r v => (by kernel_rfl) }
  (by kernel_rfl) (by decide)
noncomputable abbrev L95 : LS := [(173, S173)]
theorem G95 : CtxGood Pz (cx EE L95) := gd ⟨z173, ⟨⟩⟩
abbrev s95_1876 : Shape := ⟨[tP 2 2 0, tP 3 3 0, tP 4 4 0, tI 6, tB 7], [zC 5000128 .i64 2 0, zB 2 [.own 5000128], zB 3 [eB], zC 5000256 .i64 4 0, zB 4 [.own 5000256]], 28⟩
abbrev t95_1876 : List OSh := [(.norm, ⟨[tP 2 2 0, tP 3 3 0, tP 4 4 0, tI 6, tB 22], [zC 5000128 .i64 2 0, zB 2 [.own 5000128], zB 3 [eB], zC 5000256 .i64 4 0, zB 4 [.own 5000256]], 28⟩)]
noncomputable def g95_1876 (y : s95_1876.Y) : Option (YS t95_1876) :=
 bif (!(!y.1.2.2.2.2.1)) then
 some ((((), ((), ((), (y.1.2.2.2.1, (((y.2.2.2.2.1.length : Int) == (4 : Int)), ()))))), (y.2.1, (((), ()), ((y.2.2.2.1.1, ()), (y.2.2.2.2.1, (((), ()), ())))))))
else
 some ((((), ((), ((), (y.1.2.2.2.1, (true, ()))))), (y.2.1, (((), ()), ((y.2.2.2.1.1, ()), (y.2.2.2.2.1, (((), ()), ())))))))
theorem q95_1876 : jjk Pz (jjc (jxy (jjc (jji Tryz.f95) 1 58)) 117 1876) (jjg s95_1876 t95_1876 g95_1876) := jjD G95 (by kernel_rfl) jja fun y => by kernel_rfl
abbrev s95_58 : Shape := ⟨[tP 2 2 0, tP 3 3 0, tP 4 4 0], [zC 5000128 .i64 2 0, zB 2 [.own 5000128], zB 3 [eB], zC 5000256 .i64 4 0, zB 4 [.own 5000256]], 28⟩
abbrev t95_58 : List OSh := [(.norm, ⟨[tP 2 2 0, tP 3 3 0, tP 4 4 0], [zC 5000128 .i64 2 0, zB 2 [.own 5000128], zB 3 [eB], zC 5000256 .i64 4 0, zB 4 [.own 5000256]], 28⟩), (.ret, ⟨[tP 2 2 0, tP 3 3 0], [zC 5000128 .i64 2 0, zB 2 [.own 5000128], zB 3 [eB]], 28⟩)]
noncomputable def g95_58 (x : Str) (y : s95_58.Y) : LR s95_58 t95_58 :=
(f173 ((x, ((999 : Int), ())), ())).bind fun r1394 =>
(g95_1876 (((), ((), ((), (r1394.1.1, (r1394.1.2.1, ()))))), (y.2.1, (((), ()), ((y.2.2.2.1.1, ()), (y.2.2.2.2.1, (((), ()), ()))))))).bind fun r1396 =>
 bif r1396.1.2.2.2.2.1 then
 some (.inr (.inr (((), ((), ())), (([] : List Int), (((), ()), ((false, ()), ()))))))
else
(apd 8 r1396.2.2.2.2.1 ([r1396.1.2.2.2.1] : List Int)).bind fun x1397 =>
 some (.inl (((), ((), ((), ()))), (r1396.2.1, (((), ()), ((r1396.2.2.2.1.1, ()), (x1397, (((), ()), ())))))))
noncomputable def h95_58 (y : s95_58.Y) : Option (YS t95_58) :=
 some (.inl (((), ((), ((), ()))), (y.2.1, (((), ()), ((y.2.2.2.1.1, ()), (y.2.2.2.2.1, (((), ()), ())))))))
theorem q95_58 : jjk Pz (jjc (jji Tryz.f95) 1 58) (jzU 311 9 s95_58 t95_58 g95_58 h95_58) := range_tight (prm := 10) G95 it311 (by kernel_rfl) (frc q95_1876 jja) (by kernel_rfl) (fun x y => by kernel_rfl) fun y => by kernel_rfl
abbrev i95 : Shape := ⟨[tS 0], [], 28⟩
abbrev o95 : Shape := ⟨[tP 2 2 0, tP 3 3 0], [zC 5000128 .i64 2 0, zB 2 [.own 5000128], zB 3 [eB]], 28⟩
noncomputable def f95 (a : i95.Y) : Option o95.Y :=
(bif Nat.ble a.1.1.length jxP then jzj g95_58 h95_58 (jjw (46 : UInt8) a.1.1) (((), ((), ((), ()))), (([] : List Int), (((), ()), ((false, ()), (([] : List Int), (((), ()), ())))))) else none).bind fun r1407 =>
(match r1407 with
| .inl r1408 =>
 some (((), ((), ())), (r1408.2.2.2.2.1, (((), ()), ((true, ()), ()))))
| .inr r1409 =>
 some (((), ((), ())), (r1409.2.1, (((), ()), ((r1409.2.2.2.1.1, ()), ())))))
noncomputable def S95 : jjC := jjG EE Tryz.f95 i95 o95 [] f95
theorem z95 : jjf Pz 95 S95 := jjb G95 Tryz.func95 (by kernel_rfl) (frc q95_58 jja) (fun y => by kernel_rfl) fun a => by kernel_rfl
noncomputable abbrev L46 : LS := [(95, S95)]
theorem G46 : CtxGood Pz (cx EE L46) := gd ⟨z95, ⟨⟩⟩
abbrev i46 : Shape := ⟨[tS 0], [], 11⟩
abbrev o46 : Shape := ⟨[tB 2], [], 11⟩
noncomputable def f46 (a : i46.Y) : Option o46.Y :=
(f95 ((a.1.1, ()), ())).bind fun r1411 =>
 some ((r1411.2.2.2.1.1, ()), ())
noncomputable def S46 : jjC := jjG EE Tryz.f46 i46 o46 [] f46
theorem z46 : jjf Pz 46 S46 := jjb G46 Tryz.func46 (by kernel_rfl) jja (fun y => by kernel_rfl) fun a => by kernel_rfl
noncomputable abbrev L48 : LS := [(45, S45), (46, S46)]
theorem G48 : CtxGood Pz (cx EE L48) := gd ⟨z45, z46, ⟨⟩⟩
abbrev s48_470 : Shape := ⟨[tP 1 1 0, tI 8], [zB 1 [eS, eI, eS]], 21⟩
abbrev t48_470 : List OSh := [(.norm, ⟨[tP 1 1 0, tB 14], [zB 1 [eS, eI, eS]], 21⟩)]
noncomputable def g48_470 (y : s48_470.Y) : Option (YS t48_470) :=
 bif (y.1.2.1 == (1 : Int)) then
 some ((((), ((y.1.2.1 == (1 : Int)), ())), ((y.2.1.1, (y.2.1.2.1, (y.2.1.2.2.1, ()))), ())))
else
 bif (y.1.2.1 == (2 : Int)) then
 some ((((), ((y.1.2.1 == (2 : Int)), ())), ((y.2.1.1, (y.2.1.2.1, (y.2.1.2.2.1, ()))), ())))
else
 some ((((), ((y.1.2.1 == (3 : Int)), ())), ((y.2.1.1, (y.2.1.2.1, (y.2.1.2.2.1, ()))), ())))
theorem q48_470 : jjk Pz (jjc (jji Tryz.f48) 1 470) (jjg s48_470 t48_470 g48_470) := jjD G48 (by kernel_rfl) jja fun y => by kernel_rfl
abbrev i48 : Shape := ⟨[tA 0 [eS, eI, eS]], [], 21⟩
abbrev o48 : Shape := ⟨[tB 2], [], 21⟩
noncomputable def f48 (a : i48.Y) : Option o48.Y :=
(f45 ((a.1.1.1, ()), ())).bind fun r1428 =>
 bif (!r1428.1.1) then
 some ((false, ()), ())
else
 bif (a.1.1.2.1 == (0 : Int)) then
 some (((a.1.1.2.2.1 == ([] : Str)), ()), ())
else
(g48_470 (((), (a.1.1.2.1, ())), ((a.1.1.1, (a.1.1.2.1, (a.1.1.2.2.1, ()))), ()))).bind fun r1429 =>
 bif r1429.1.2.1 then
(f46 ((r1429.2.1.2.2.1, ()), ())).bind fun r1430 =>
 some ((r1430.1.1, ()), ())
else
 some ((false, ()), ())
noncomputable def S48 : jjC := jjG EE Tryz.f48 i48 o48 [] f48
theorem z48 : jjf Pz 48 S48 := jjb G48 Tryz.func48 (by kernel_rfl) (frc q48_470 jja) (fun y => by kernel_rfl) fun a => by kernel_rfl
theorem val_nonneg : ∀ (r : Str) (n : Int), r.all jze = true → 0 ≤ n → 0 ≤ r.foldl jxG n := by
 intro r
 induction r with
 | nil => intro n _ h; exact h
 | cons b r ih =>
  intro n hd h
  simp only [List.all_cons, Bool.and_eq_true] at hd
  have hb := jqg hd.1
  exact ih _ hd.2 (by unfold jxG; omega)
def jqV (s : Str) : List Str := jjw 46 s
def jj5 (s : Str) : Bool := (jqV s).all numB && decide ((jqV s).length ≤ 4)
def jxF (s : Str) : List Int := (jqV s).map valN
theorem numB_within (x : Str) : jj2 (bif x.all jze && decide (x.length ≤ 6) && !(x == []) && !leadB x then valN x else -1) 0 999 = numB x := by
 unfold numB jj2
 cases h1 : x.all jze with
 | false => simp
 | true =>
  have := val_nonneg x 0 h1 (Int.le_refl _)
  have hv : decide ((0 : Int) ≤ valN x) = true := by simp only [decide_eq_true_eq]; exact this
  cases h2 : decide (x.length ≤ 6) <;> cases h3 : (x == []) <;> cases h4 : leadB x <;> simp [hv]
theorem v_l3Parts (a) (hs : Bd a.1.1.length) : ∃ out, f101 a = some (((), (jj5 a.1.1, ())), (out, ())) ∧ (jj5 a.1.1 = true → out = jxF a.1.1) := by
 obtain ⟨⟨s, u⟩, u'⟩ := a
 have hs : s.length ≤ 2097152 := hs
 have hlen := jzR 46 s
 have hcut : f179 ((s, ((46 : Int), ((IntKind.i64.wrap ((s.length : Int) + (1 : Int))), ()))), ()) = some (((), ()), (jqV s, ())) :=
  v_l1Cut 46 _ hs rfl (jjj (by unfold Sm; omega))
 have key := jq1 g101_122 (jqV s) (fun i (out : List Int) => (((), ((), ((i : Int), ()))), (jqV s, (out, ()))))
  (fun i x out => some (bif numB x then .inl (out ++ [valN x]) else .inr ((.inl (((), (false, ())), (out, ()))) : YS jxW))) (fun out => ((.inr (((), ((), ())), (jqV s, (out, ())))) : YS jxW))
  (fun i out => out.length ≤ i) [] (Nat.le_refl _) (fun i x out hx hI => ?_) (fun out _ => ?_)
 ·have fold : ∀ (r : List Str) (k : Nat) (out : List Int), jqG (fun i x out => some (bif numB x then .inl (out ++ [valN x]) else .inr ((.inl (((), (false, ())), (out, ()))) : YS jxW))) (fun out => ((.inr (((), ((), ())), (jqV s, (out, ())))) : YS jxW)) k r out =
    some (bif r.all numB then (.inr (((), ((), ())), (jqV s, (out ++ r.map valN, ())))) else (.inl (((), (false, ())), (out ++ (r.takeWhile numB).map valN, ())))) := by
   intro r
   induction r with
   | nil => intro k out; simp [jqG]
   | cons x r ih =>
    intro k out
    simp only [jqG, List.all_cons]
    cases hn : numB x with
    | false => simp [hn]
    | true => simp only [cond_true, Bool.true_and]; rw [ih]; simp [hn, List.append_assoc]
  have key : l101_122 (((), ((), ((0 : Int), ()))), (jqV s, (([] : List Int), ()))) = _ := key.trans (fold (jqV s) 0 [])
  simp only [f101, hcut, Option.bind_some, key, List.nil_append]
  unfold jj5
  cases hall : (jqV s).all numB with
  | false => exact ⟨_, rfl, fun h => by cases h⟩
  | true =>
   simp only [cond_true, Bool.true_and]
   have : decide (((jqV s).length : Int) ≤ 4) = decide ((jqV s).length ≤ 4) := by by_cases h : (jqV s).length ≤ 4 <;> simp [h] <;> omega
   rw [this]
   exact ⟨_, rfl, fun _ => rfl⟩
 ·have hi := jjx hx
  have hlen' : (jqV s).length ≤ s.length + 1 := hlen
  have hw : Sm i := by unfold Sm; omega
  have hxl : x.length ≤ s.length := jzQ 46 s x (List.mem_of_getElem? hx)
  refine ⟨?_, fun s' h' => ?_⟩
  ·simp only [g101_122, jjv hi, cond_true, jqx hi, hx, Option.bind_some]
   rw [v_l1Num _ (show Sm x.length by unfold Sm; omega)]
   simp only [Option.bind_some, v_l1In, numB_within]
   cases hn : numB x with
   | false => rfl
   | true =>
    have hv : (bif x.all jze && decide (x.length ≤ 6) && !(x == []) && !leadB x then valN x else -1) = valN x := by
     unfold numB at hn
     simp only [Bool.and_eq_true] at hn
     obtain ⟨⟨⟨⟨h1, h2⟩, h3⟩, h4⟩, h5⟩ := hn
     rw [h1, h4, h2, h3]; rfl
    simp only [Bool.not_true, cond_false, hv, cond_true]
    rw [jqu (by decide) (by unfold Sm; simp only [List.length_cons, List.length_nil]; omega)]
    simp only [Option.bind_some, jjj hw, Option.map_some]
  ·simp only [Option.some.injEq] at h'
   cases hn : numB x with
   | false => rw [hn] at h'; cases h'
   | true =>
    rw [hn] at h'
    simp only [cond_true, Sum.inl.injEq] at h'
    subst h'
    simp only [List.length_append, List.length_cons, List.length_nil]; omega
 ·simp only [g101_122, jju, cond_false]
theorem v_VersionOk (a) (hs : Bd a.1.1.length) : f53 a = some ((jj5 a.1.1, ()), ()) := by
 obtain ⟨out, h, _⟩ := v_l3Parts ((a.1.1, ()), ()) hs
 simp only [f53, h, Option.bind_some]
theorem jxS (a) (hs : Bd a.1.1.length) : f95 a = some (((), ((), ())), ((bif jj5 a.1.1 then jxF a.1.1 else []), (((), ()), ((jj5 a.1.1, ()), ())))) := by
 obtain ⟨⟨s, u⟩, u'⟩ := a
 have hs : s.length ≤ 2097152 := hs
 have hble : Nat.ble s.length jxP = true := Nat.ble_eq_true_of_le (by unfold jxP; omega)
 have fold : ∀ (r : List Str) (out : List Int), (∀ x, x ∈ r → x.length ≤ s.length) → out.length ≤ 4 →
   jzj g95_58 h95_58 r (((), ((), ((), ()))), (([] : List Int), (((), ()), ((false, ()), (out, (((), ()), ())))))) =
    some (bif r.all numB && decide (out.length + r.length ≤ 4) then (.inl (((), ((), ((), ()))), (([] : List Int), (((), ()), ((false, ()), (out ++ r.map valN, (((), ()), ()))))))) else (.inr (((), ((), ())), (([] : List Int), (((), ()), ((false, ()), ())))))) := by
  intro r
  induction r with
  | nil =>
   intro out _ ho
   have : decide (out.length + 0 ≤ 4) = true := by simpa using ho
   simp only [jzj, h95_58, List.all_nil, List.length_nil, this, Bool.and_self, cond_true, List.map_nil, List.append_nil]
  | cons x r ih =>
   intro out hr ho
   have hx := hr x List.mem_cons_self
   have hnum := v_number ((x, ((999 : Int), ())), ()) (show Sm x.length by unfold Sm; omega) rfl
   have step : g95_58 x (((), ((), ((), ()))), (([] : List Int), (((), ()), ((false, ()), (out, (((), ()), ())))))) =
     some (bif numB x && decide (out.length + 1 ≤ 4) then .inl (((), ((), ((), ()))), (([] : List Int), (((), ()), ((false, ()), (out ++ [valN x], (((), ()), ())))))) else .inr (.inr (((), ((), ())), (([] : List Int), (((), ()), ((false, ()), ())))))) := by
    simp only [g95_58, hnum, Option.bind_some, g95_1876, Bool.not_not]
    have h4 : ((out.length : Int) == 4) = !decide (out.length + 1 ≤ 4) := by
     by_cases h : out.length = 4
     ·rw [h]; rfl
     ·have h5 : decide (out.length + 1 ≤ 4) = true := by simp only [decide_eq_true_eq]; omega
      rw [h5]; simp only [beq_eq_false_iff_ne, ne_eq, Bool.not_true]; omega
    rw [h4]
    cases hn : numB x with
    | false => rfl
    | true =>
     simp only [cond_true, Option.bind_some, Bool.true_and]
     cases hq : decide (out.length + 1 ≤ 4) with
     | false => rfl
     | true =>
      simp only [Bool.not_true, cond_false, cond_true]
      rw [jqu (by decide) (by unfold Sm; simp only [List.length_cons, List.length_nil]; omega)]
      rfl
   rw [jzj, step, List.all_cons]
   cases hn : numB x with
   | false => rfl
   | true =>
    simp only [Bool.true_and]
    cases hq : decide (out.length + 1 ≤ 4) with
    | false =>
     have : decide (out.length + (x :: r).length ≤ 4) = false := by simp only [decide_eq_false_iff_not, List.length_cons] at hq ⊢; omega
     rw [this]; simp
    | true =>
     simp only [cond_true]
     rw [ih (out ++ [valN x]) (fun y hy => hr y (List.mem_cons_of_mem _ hy)) (by simp only [List.length_append, List.length_cons, List.length_nil]; simpa using hq)]
     have e1 : (out ++ [valN x]).length + r.length = out.length + (x :: r).length := by simp only [List.length_append, List.length_cons, List.length_nil]; omega
     rw [e1, List.map_cons, List.append_assoc]
     rfl
 have key := fold (jjw (46 : UInt8) s) [] (fun x hx => jzQ 46 s x hx) (Nat.zero_le _)
 have key' : jzj g95_58 h95_58 (jjw (46 : UInt8) s) (((), ((), ((), ()))), (([] : List Int), (((), ()), ((false, ()), (([] : List Int), (((), ()), ())))))) =
    some (bif jj5 s then (.inl (((), ((), ((), ()))), (([] : List Int), (((), ()), ((false, ()), (jxF s, (((), ()), ()))))))) else (.inr (((), ((), ())), (([] : List Int), (((), ()), ((false, ()), ())))))) := by
  rw [key]
  unfold jj5 jxF jqV
  simp only [List.length_nil, Nat.zero_add, List.nil_append]
 simp only [f95, hble, cond_true, key', Option.bind_some]
 cases jj5 s <;> rfl
theorem jzn (a) (hs : Bd a.1.1.length) : f46 a = some ((jj5 a.1.1, ()), ()) := by
 simp only [f46, jxS ((a.1.1, ()), ()) hs, Option.bind_some]
def jqq (n : Need) : Bool := jzd n.name && (n.kind == 0 && (n.version == []) || jj2 n.kind 1 3 && jj5 n.version)
abbrev BdN (n : Need) : Prop := Bd n.name.length ∧ Bd n.version.length
theorem v_NeedOk (a) (h1 : Bd a.1.1.1.length) (h2 : Bd a.1.1.2.2.1.length) : f181 a = some ((jqq ⟨a.1.1.1, a.1.1.2.1, a.1.1.2.2.1⟩, ()), ()) := by
 obtain ⟨⟨⟨n, k, v, u⟩, u'⟩, u''⟩ := a
 have h1 : n.length ≤ 2097152 := h1
 have h2 : v.length ≤ 2097152 := h2
 have e1 := v_l3Pack ((n, ()), ()) (show Sm n.length by unfold Sm; omega)
 have e2 := v_VersionOk ((v, ()), ()) h2
 simp only [f181, e1, e2, v_l1In, Option.bind_some, jqq]
 cases jzd n with
 | false => rfl
 | true =>
  cases hk : (k == 0) with
  | false =>
   simp only [cond_true, cond_false]
   cases jj2 k 1 3 <;> cases jj5 v <;> rfl
  | true =>
   have : jj2 k 1 3 = false := by
    have : k = 0 := by simpa using hk
    subst this; decide
   rw [this]
   cases (v == []) <;> rfl
theorem within_no {k : Int} (k0 : ¬ k = 0) (k1 : ¬ k = 1) (k2 : ¬ k = 2) (k3 : ¬ k = 3) : jj2 k 1 3 = false := by
 unfold jj2
 cases h : (decide (1 ≤ k) && decide (k ≤ 3)) with
 | false => rfl
 | true => simp only [Bool.and_eq_true, decide_eq_true_eq] at h; omega
theorem v_iNeedOk (a) (h1 : Bd a.1.1.1.length) (h2 : Bd a.1.1.2.2.1.length) : f48 a = some ((jqq ⟨a.1.1.1, a.1.1.2.1, a.1.1.2.2.1⟩, ()), ()) := by
 obtain ⟨⟨⟨n, k, v, u⟩, u'⟩, u''⟩ := a
 have h1 : n.length ≤ 2097152 := h1
 have h2 : v.length ≤ 2097152 := h2
 have e1 := v_packNameOk ((n, ()), ()) (show Sm n.length by unfold Sm; omega)
 have e2 := jzn ((v, ()), ()) h2
 simp only [f48, e1, e2, Option.bind_some, jqq, g48_470]
 cases jzd n with
 | false => rfl
 | true =>
  simp only [Bool.not_true, cond_false, Bool.true_and]
  by_cases k0 : k = 0
  ·subst k0
   cases (v == []) <;> rfl
  ·have hk0 : (k == 0) = false := by simpa using k0
   rw [hk0]
   by_cases k1 : k = 1
   ·subst k1; cases hv : jj5 v <;> simp [jj2, e2, hv]
   ·have hk1 : (k == 1) = false := by simpa using k1
    rw [hk1]
    by_cases k2 : k = 2
    ·subst k2; cases hv : jj5 v <;> simp [jj2, e2, hv]
    ·have hk2 : (k == 2) = false := by simpa using k2
     rw [hk2]
     by_cases k3 : k = 3
     ·subst k3; cases hv : jj5 v <;> simp [jj2, e2, hv]
     ·have hk3 : (k == 3) = false := by simpa using k3
      rw [hk3]
      rw [within_no k0 k1 k2 k3]
      rfl
noncomputable abbrev L102 : LS := [(181, S181)]
theorem G102 : CtxGood Pz (cx EE L102) := gd ⟨z181, ⟨⟩⟩
abbrev s102_26 : Shape := ⟨[tL 0 .need, tI 3], [], 19⟩
abbrev t102_26 : List OSh := [(.ret, ⟨[tB 2], [], 19⟩), (.exit 0, ⟨[tL 0 .need], [], 19⟩)]
noncomputable def g102_26 (y : s102_26.Y) : LR s102_26 t102_26 :=
 bif (decide (y.1.2.1 < (y.1.1.length : Int))) then
(ix y.1.1 y.1.2.1).bind fun x868 =>
(f181 (((x868.name, (x868.kind, (x868.version, ()))), ()), ())).bind fun r869 =>
 bif (!r869.1.1) then
 some (.inr (.inl ((false, ()), ())))
else
 some (.inl ((y.1.1, ((IntKind.i64.wrap (y.1.2.1 + (1 : Int))), ())), ()))
else
 some (.inr (.inr ((y.1.1, ()), ())))
noncomputable def l102_26 : s102_26.Y → Option (YS t102_26) := jjt g102_26
theorem q102_26 : jjk Pz (jjc (jji Tryz.f102) 1 26) (jjg s102_26 t102_26 l102_26) := jje G102 (by kernel_rfl) jja fun y => by kernel_rfl
abbrev i102 : Shape := ⟨[tL 0 .need], [], 19⟩
abbrev o102 : Shape := ⟨[tB 2], [], 19⟩
noncomputable def f102 (a : i102.Y) : Option o102.Y :=
(l102_26 ((a.1.1, ((0 : Int), ())), ())).bind fun r879 =>
(match r879 with
| .inl r880 =>
 some ((r880.1.1, ()), ())
| .inr r881 =>
 some (((decide ((r881.1.1.length : Int) ≤ (6 : Int))), ()), ()))
noncomputable def S102 : jjC := jjG EE Tryz.f102 i102 o102 [] f102
theorem z102 : jjf Pz 102 S102 := jjb G102 Tryz.func102 (by kernel_rfl) (frc q102_26 jja) (fun y => by kernel_rfl) fun a => by kernel_rfl
abbrev s103_1682 : Shape := ⟨[tL 0 .str, tI 3, tI 4], [], 25⟩
abbrev t103_1682 : List OSh := [(.ret, ⟨[tB 2], [], 25⟩), (.exit 2, ⟨[tL 0 .str, tI 3], [], 25⟩)]
noncomputable def g103_1682 (y : s103_1682.Y) : LR s103_1682 t103_1682 :=
 bif (decide (y.1.2.2.1 < y.1.2.1)) then
(ix y.1.1 y.1.2.2.1).bind fun x889 =>
(ix y.1.1 y.1.2.1).bind fun x890 =>
 bif (x889 == x890) then
 some (.inr (.inl ((true, ()), ())))
else
 some (.inl ((y.1.1, (y.1.2.1, ((IntKind.i64.wrap (y.1.2.2.1 + (1 : Int))), ()))), ()))
else
 some (.inr (.inr ((y.1.1, (y.1.2.1, ())), ())))
noncomputable def l103_1682 : s103_1682.Y → Option (YS t103_1682) := jjt g103_1682
theorem q103_1682 : jjk Pz (jjc (jjI (jjc (jji Tryz.f103) 1 26)) 52 1682) (jjg s103_1682 t103_1682 l103_1682) := jje g0 (by kernel_rfl) jja fun y => by kernel_rfl
abbrev s103_26 : Shape := ⟨[tL 0 .str, tI 3], [], 25⟩
abbrev t103_26 : List OSh := [(.ret, ⟨[tB 2], [], 25⟩), (.exit 0, ⟨[], [], 25⟩)]
noncomputable def g103_26 (y : s103_26.Y) : LR s103_26 t103_26 :=
 bif (decide (y.1.2.1 < (y.1.1.length : Int))) then
(l103_1682 ((y.1.1, (y.1.2.1, ((0 : Int), ()))), ())).bind fun r894 =>
(match r894 with
| .inl r895 =>
 some (.inr (.inl ((r895.1.1, ()), ())))
| .inr r896 =>
 some (.inl ((r896.1.1, ((IntKind.i64.wrap (r896.1.2.1 + (1 : Int))), ())), ())))
else
 some (.inr (.inr ((), ())))
noncomputable def l103_26 : s103_26.Y → Option (YS t103_26) := jjt g103_26
theorem q103_26 : jjk Pz (jjc (jji Tryz.f103) 1 26) (jjg s103_26 t103_26 l103_26) := jje g0 (by kernel_rfl) (frc q103_1682 jja) fun y => by kernel_rfl
abbrev i103 : Shape := ⟨[tL 0 .str], [], 25⟩
abbrev o103 : Shape := ⟨[tB 2], [], 25⟩
noncomputable def f103 (a : i103.Y) : Option o103.Y :=
(l103_26 ((a.1.1, ((0 : Int), ())), ())).bind fun r900 =>
(match r900 with
| .inl r901 =>
 some ((r901.1.1, ()), ())
| .inr r902 =>
 some ((false, ()), ()))
noncomputable def S103 : jjC := jjG EE Tryz.f103 i103 o103 [] f103
theorem z103 : jjf Pz 103 S103 := jjb g0 Tryz.func103 (by kernel_rfl) (frc q103_26 jja) (fun y => by kernel_rfl) fun a => by kernel_rfl
abbrev s174_26 : Shape := ⟨[tL 0 .str, tS 1, tI 7, tI 8], [], 19⟩
abbrev t174_26 : List OSh := [(.ret, ⟨[tI 4], [], 19⟩), (.exit 0, ⟨[], [], 19⟩)]
noncomputable def g174_26 (y : s174_26.Y) : LR s174_26 t174_26 :=
 bif (decide (y.1.2.2.2.1 < y.1.2.2.1)) then
(ix y.1.1 y.1.2.2.2.1).bind fun x1456 =>
 bif (y.1.2.1 == x1456) then
 some (.inr (.inl ((y.1.2.2.2.1, ()), ())))
else
 some (.inl ((y.1.1, (y.1.2.1, (y.1.2.2.1, ((IntKind.i64.wrap (y.1.2.2.2.1 + (1 : Int))), ())))), ()))
else
 some (.inr (.inr ((), ())))
noncomputable def l174_26 : s174_26.Y → Option (YS t174_26) := jjt g174_26
theorem q174_26 : jjk Pz (jjc (jji Tryz.f174) 1 26) (jjg s174_26 t174_26 l174_26) := jje g0 (by kernel_rfl) jja fun y => by kernel_rfl
abbrev i174 : Shape := ⟨[tL 0 .str, tS 1], [], 19⟩
abbrev o174 : Shape := ⟨[tI 4], [], 19⟩
noncomputable def f174 (a : i174.Y) : Option o174.Y :=
(l174_26 ((a.1.1, (a.1.2.1, ((a.1.1.length : Int), ((0 : Int), ())))), ())).bind fun r1460 =>
(match r1460 with
| .inl r1461 =>
 some ((r1461.1.1, ()), ())
| .inr r1462 =>
 some ((((-1) : Int), ()), ()))
noncomputable def S174 : jjC := jjG EE Tryz.f174 i174 o174 [] f174
theorem z174 : jjf Pz 174 S174 := jjb g0 Tryz.func174 (by kernel_rfl) (frc q174_26 jja) (fun y => by kernel_rfl) fun a => by kernel_rfl
noncomputable abbrev L47v0 : LS := [(48, S48)]
theorem G47v0 : CtxGood Pz (cx EE L47v0) := gd ⟨z48, ⟨⟩⟩
abbrev s47v0_26 : Shape := ⟨[(1, .lf (.fn 48 [])), tL 7 .need, tI 8, tI 9], [], 18⟩
abbrev t47v0_26 : List OSh := [(.ret, ⟨[tB 4], [], 18⟩), (.exit 0, ⟨[], [], 18⟩)]
noncomputable def g47v0_26 (y : s47v0_26.Y) : LR s47v0_26 t47v0_26 :=
 bif (decide (y.1.2.2.2.1 < y.1.2.2.1)) then
(ix y.1.2.1 y.1.2.2.2.1).bind fun x1434 =>
(f48 (((x1434.name, (x1434.kind, (x1434.version, ()))), ()), ())).bind fun r1436 =>
 bif (!r1436.1.1) then
 some (.inr (.inl ((false, ()), ())))
else
 some (.inl (((), (y.1.2.1, (y.1.2.2.1, ((IntKind.i64.wrap (y.1.2.2.2.1 + (1 : Int))), ())))), ()))
else
 some (.inr (.inr ((), ())))
noncomputable def l47v0_26 : s47v0_26.Y → Option (YS t47v0_26) := jjt g47v0_26
theorem q47v0_26 : jjk Pz (jjc (jji Tryz.f47) 1 26) (jjg s47v0_26 t47v0_26 l47v0_26) := jje G47v0 (by kernel_rfl) jja fun y => by kernel_rfl
abbrev i47v0 : Shape := ⟨[tL 0 .need, (1, .lf (.fn 48 []))], [], 18⟩
abbrev o47v0 : Shape := ⟨[tB 4], [], 18⟩
noncomputable def f47v0 (a : i47v0.Y) : Option o47v0.Y :=
(l47v0_26 (((), (a.1.1, ((a.1.1.length : Int), ((0 : Int), ())))), ())).bind fun r1440 =>
(match r1440 with
| .inl r1441 =>
 some ((r1441.1.1, ()), ())
| .inr r1442 =>
 some ((true, ()), ()))
noncomputable def S47v0 : jjC := jjG EE Tryz.f47 i47v0 o47v0 [] f47v0
theorem z47v0 : jjf Pz 47 S47v0 := jjb G47v0 Tryz.func47 (by kernel_rfl) (frc q47v0_26 jja) (fun y => by kernel_rfl) fun a => by kernel_rfl
abbrev i50 : Shape := ⟨[tA 0 [eS, eI, eS]], [], 5⟩
abbrev o50 : Shape := ⟨[tS 2], [], 5⟩
noncomputable def f50 (a : i50.Y) : Option o50.Y :=
 some ((a.1.1.1, ()), ())
noncomputable def S50 : jjC := jjG EE Tryz.f50 i50 o50 [] f50
theorem z50 : jjf Pz 50 S50 := jjb g0 Tryz.func50 (by kernel_rfl) jja (fun y => by kernel_rfl) fun a => by kernel_rfl
abbrev i96 : Shape := ⟨[tL 0 .str], [], 8⟩
abbrev o96 : Shape := ⟨[tO 2 3000128], [zR 3000128 .str 2 0], 8⟩
noncomputable def f96 (a : i96.Y) : Option o96.Y :=
 jxT (t := .str) a.1.1 (some (((), ()), (([] : List Str), ()))) ((apd 16 ([] : List Str) a.1.1).bind fun x1445 =>
 some (((), ()), (x1445, ())))
noncomputable def S96 : jjC := jjG EE Tryz.f96 i96 o96 [] f96
theorem z96 : jjf Pz 96 S96 := jjb g0 Tryz.func96 (by kernel_rfl) jja (fun y => by kernel_rfl) fun a => by kernel_rfl
noncomputable abbrev L97 : LS := [(174, S174)]
theorem G97 : CtxGood Pz (cx EE L97) := gd ⟨z174, ⟨⟩⟩
abbrev i97 : Shape := ⟨[tL 0 .str, tS 1], [], 9⟩
abbrev o97 : Shape := ⟨[tB 4], [], 9⟩
noncomputable def f97 (a : i97.Y) : Option o97.Y :=
(f174 ((a.1.1, (a.1.2.1, ())), ())).bind fun r1464 =>
 some (((decide (r1464.1.1 ≥ (0 : Int))), ()), ())
noncomputable def S97 : jjC := jjG EE Tryz.f97 i97 o97 [] f97
theorem z97 : jjf Pz 97 S97 := jjb G97 Tryz.func97 (by kernel_rfl) jja (fun y => by kernel_rfl) fun a => by kernel_rfl
noncomputable abbrev L49v0 : LS := [(50, S50), (96, S96), (97, S97)]
theorem G49v0 : CtxGood Pz (cx EE L49v0) := gd ⟨z50, z96, z97, ⟨⟩⟩
abbrev s49v0_58 : Shape := ⟨[(1, .lf (.fn 50 [])), tO 7 3000448, tL 12 .need, tI 13, tI 14], [zR 3000448 .str 7 0], 30⟩
abbrev jzN : List OSh := [(.ret, ⟨[tB 6], [], 30⟩), (.exit 0, ⟨[], [], 30⟩)]
noncomputable def g49v0_58 (y : s49v0_58.Y) : LR s49v0_58 jzN :=
 bif (decide (y.1.2.2.2.2.1 < y.1.2.2.2.1)) then
(ix y.1.2.2.1 y.1.2.2.2.2.1).bind fun x1475 =>
(f50 (((x1475.name, (x1475.kind, (x1475.version, ()))), ()), ())).bind fun r1482 =>
(f97 ((y.2.1, (r1482.1.1, ())), ())).bind fun r1483 =>
 bif r1483.1.1 then
 some (.inr (.inl ((true, ()), ())))
else
(f50 (((x1475.name, (x1475.kind, (x1475.version, ()))), ()), ())).bind fun r1484 =>
(apd 16 y.2.1 ([r1484.1.1] : List Str)).bind fun x1485 =>
 some (.inl (((), ((), (y.1.2.2.1, (y.1.2.2.2.1, ((IntKind.i64.wrap (y.1.2.2.2.2.1 + (1 : Int))), ()))))), (x1485, ())))
else
 some (.inr (.inr ((), ())))
noncomputable def l49v0_58 : s49v0_58.Y → Option (YS jzN) := jjt g49v0_58
theorem q49v0_58 : jjk Pz (jjc (jji Tryz.f49) 1 58) (jjg s49v0_58 jzN l49v0_58) := jje G49v0 (by kernel_rfl) jja fun y => by kernel_rfl
abbrev i49v0 : Shape := ⟨[tL 0 .need, (1, .lf (.fn 50 [])), tL 2 .str], [], 30⟩
abbrev o49v0 : Shape := ⟨[tB 6], [], 30⟩
noncomputable def f49v0 (a : i49v0.Y) : Option o49v0.Y :=
(f96 ((a.1.2.2.1, ()), ())).bind fun r1490 =>
(l49v0_58 (((), ((), (a.1.1, ((a.1.1.length : Int), ((0 : Int), ()))))), (r1490.2.1, ()))).bind fun r1491 =>
(match r1491 with
| .inl r1492 =>
 some ((r1492.1.1, ()), ())
| .inr r1493 =>
 some ((false, ()), ()))
noncomputable def S49v0 : jjC := jjG EE Tryz.f49 i49v0 o49v0 [] f49v0
theorem z49v0 : jjf Pz 49 S49v0 := jjb G49v0 Tryz.func49 (by kernel_rfl) (frc q49v0_58 jja) (fun y => by kernel_rfl) fun a => by kernel_rfl
noncomputable abbrev L54 : LS := [(102, S102), (103, S103)]
theorem G54 : CtxGood Pz (cx EE L54) := gd ⟨z102, z103, ⟨⟩⟩
abbrev s54_58 : Shape := ⟨[tL 1 .need, tO 5 3000320, tI 6], [zR 3000320 .str 5 0], 30⟩
abbrev t54_58 : List OSh := [(.exit 0, ⟨[tL 1 .need, tO 5 3000320], [zR 3000320 .str 5 0], 30⟩)]
noncomputable def g54_58 (y : s54_58.Y) : LR s54_58 t54_58 :=
 bif (decide (y.1.2.2.1 < (y.1.1.length : Int))) then
(ix y.1.1 y.1.2.2.1).bind fun x848 =>
(apd 16 y.2.1 ([x848.name] : List Str)).bind fun x849 =>
 some (.inl ((y.1.1, ((), ((IntKind.i64.wrap (y.1.2.2.1 + (1 : Int))), ()))), (x849, ())))
else
 some (.inr (((y.1.1, ((), ())), (y.2.1, ()))))
noncomputable def l54_58 : s54_58.Y → Option (YS t54_58) := jjt g54_58
theorem q54_58 : jjk Pz (jjc (jji Tryz.f54) 1 58) (jjg s54_58 t54_58 l54_58) := jje G54 (by kernel_rfl) jja fun y => by kernel_rfl
abbrev i54 : Shape := ⟨[tS 0, tL 1 .need], [], 30⟩
abbrev o54 : Shape := ⟨[tB 4], [], 30⟩
noncomputable def f54 (a : i54.Y) : Option o54.Y :=
(l54_58 ((a.1.2.1, ((), ((0 : Int), ()))), (([a.1.1] : List Str), ()))).bind fun r905 =>
(f102 ((r905.1.1, ()), ())).bind fun r906 =>
 bif r906.1.1 then
(f103 ((r905.2.1, ()), ())).bind fun r907 =>
 some (((!r907.1.1), ()), ())
else
 some ((false, ()), ())
noncomputable def S54 : jjC := jjG EE Tryz.f54 i54 o54 [] f54
theorem z54 : jjf Pz 54 S54 := jjb G54 Tryz.func54 (by kernel_rfl) (frc q54_58 jja) (fun y => by kernel_rfl) fun a => by kernel_rfl
abbrev BdNs (ns : List Need) : Prop := Bd ns.length ∧ ∀ n, n ∈ ns → BdN n
theorem leb6 (n : Nat) (k : Nat) : decide ((n : Int) ≤ (k : Int)) = decide (n ≤ k) := by by_cases h : n ≤ k <;> simp [h] <;> omega
theorem v_l4Needs (a) (hs : BdNs a.1.1) : f102 a = some ((a.1.1.all jqq && decide (a.1.1.length ≤ 6), ()), ()) := by
 obtain ⟨⟨ns, u⟩, u'⟩ := a
 obtain ⟨hl, hn⟩ := hs
 have hl : ns.length ≤ 2097152 := hl
 have key : l102_26 ((ns, ((0 : Int), ())), ()) = some (bif jqz (fun _ n => jqq n) 0 ns then .inr ((ns, ()), ()) else .inl ((false, ()), ())) := by
  refine jjP g102_26 ns (fun i => ((ns, ((i : Int), ())), ())) _ _ _ (fun i x hx => ?_) ?_
  ·have hi := jjx hx
   have hw : Sm i := by unfold Sm; omega
   have hb := hn x (List.mem_of_getElem? hx)
   simp only [g102_26, jjv hi, cond_true, jjq, hx, Option.bind_some]
   rw [v_NeedOk _ hb.1 hb.2]
   simp only [Option.bind_some, jjj hw]
   cases jqq x <;> rfl
  ·simp only [g102_26, jju, cond_false]
 rw [jjZ] at key
 simp only [f102, key, Option.bind_some]
 cases List.all ns jqq with
 | false => rfl
 | true => have := leb6 ns.length 6; simp only [cond_true, Bool.true_and]; rw [← this]; rfl
theorem v_allNeed (a) (hs : BdNs a.1.1) : f47v0 a = some ((a.1.1.all jqq, ()), ()) := by
 obtain ⟨⟨ns, u⟩, u'⟩ := a
 obtain ⟨hl, hn⟩ := hs
 have hl : ns.length ≤ 2097152 := hl
 have key : l47v0_26 (((), (ns, ((ns.length : Int), ((0 : Int), ())))), ()) = some (bif jqz (fun _ n => jqq n) 0 ns then .inr ((), ()) else .inl ((false, ()), ())) := by
  refine jjP g47v0_26 ns (fun i => (((), (ns, ((ns.length : Int), ((i : Int), ())))), ())) _ _ _ (fun i x hx => ?_) ?_
  ·have hi := jjx hx
   have hw : Sm i := by unfold Sm; omega
   have hb := hn x (List.mem_of_getElem? hx)
   simp only [g47v0_26, jjv hi, cond_true, jjq, hx, Option.bind_some]
   rw [v_iNeedOk _ hb.1 hb.2]
   simp only [Option.bind_some, jjj hw]
   cases jqq x <;> rfl
  ·simp only [g47v0_26, jju, cond_false]
 rw [jjZ] at key
 simp only [f47v0, key, Option.bind_some]
 cases List.all ns jqq <;> rfl
def dupA : List Str → List Str → Bool
 | _, [] => false
 | acc, x :: r => acc.contains x || dupA (acc ++ [x]) r
theorem dup_allI (xs : List Str) : ∀ (r : List Str) (k : Nat), r = xs.drop k → jqz (fun i x => !((xs.take i).contains x)) k r = !dupA (xs.take k) r := by
 intro r
 induction r with
 | nil => intro k _; rfl
 | cons x r ih =>
  intro k hr
  have hr' : r = xs.drop (k + 1) := by
   have := congrArg List.tail hr
   simpa using this
  have hx : xs[k]? = some x := by
   have := congrArg (fun l => l[0]?) hr
   simpa using this.symm
  have e1 : xs.take (k + 1) = xs.take k ++ [x] := by rw [List.take_add_one, hx]; rfl
  simp only [jqz, dupA, ih (k + 1) hr', e1, Bool.not_or]
theorem all_not (ys : List Str) (x : Str) : ys.all (fun y => !(y == x)) = !ys.contains x := by
 induction ys with
 | nil => rfl
 | cons y ys ih =>
  simp only [List.all_cons, ih, List.contains_cons, Bool.not_or]
  congr 2
  cases h : y == x with
  | true => rw [eq_of_beq h]; simp
  | false =>
   cases h2 : x == y with
   | true => rw [eq_of_beq h2] at h; simp at h
   | false => rfl
theorem v_l4Twice (a) (hs : Bd a.1.1.length) : f103 a = some ((dupA [] a.1.1, ()), ()) := by
 obtain ⟨⟨xs, u⟩, u'⟩ := a
 have hs : xs.length ≤ 2097152 := hs
 have inner : ∀ (i : Nat) (x : Str), xs[i]? = some x → l103_1682 ((xs, ((i : Int), ((0 : Int), ()))), ()) = some (bif !((xs.take i).contains x) then .inr ((xs, ((i : Int), ())), ()) else .inl ((true, ()), ())) := by
  intro i x hx
  have hi := jjx hx
  have hl : (xs.take i).length = i := by rw [List.length_take]; omega
  have := jjP g103_1682 (xs.take i) (fun k => ((xs, ((i : Int), ((k : Int), ()))), ())) (fun _ y => !(y == x)) (.inl ((true, ()), ())) (.inr ((xs, ((i : Int), ())), ())) (fun k y hy => ?_) ?_
  ·have := this
   rw [jjZ, all_not] at this
   exact this
  ·have hk := jjx hy
   rw [hl] at hk
   have hw : Sm k := by unfold Sm; omega
   have hy' : xs[k]? = some y := by
    rw [List.getElem?_take, if_pos hk] at hy
    exact hy
   simp only [g103_1682, jjv hk, cond_true, jjq, hy', hx, Option.bind_some, jjj hw]
   cases (y == x) <;> rfl
  ·simp only [g103_1682, hl, jju, cond_false]
 have key : l103_26 ((xs, ((0 : Int), ())), ()) = some (bif jqz (fun i x => !((xs.take i).contains x)) 0 xs then .inr ((), ()) else .inl ((true, ()), ())) := by
  refine jjP g103_26 xs (fun i => ((xs, ((i : Int), ())), ())) _ _ _ (fun i x hx => ?_) ?_
  ·have hi := jjx hx
   have hw : Sm i := by unfold Sm; omega
   simp only [g103_26, jjv hi, cond_true, inner i x hx, Option.bind_some]
   cases (xs.take i).contains x
   ·simp only [Bool.not_false, cond_true, jjj hw]
   ·rfl
  ·simp only [g103_26, jju, cond_false]
 rw [dup_allI xs xs 0 rfl] at key
 simp only [f103, key, Option.bind_some, List.take_zero]
 cases dupA [] xs <;> rfl
def jJi (name : Str) (ns : List Need) : Bool := ns.all jqq && decide (ns.length ≤ 6) && !dupA [] (name :: ns.map (·.name))
theorem v_l7Needs (a) (hs : BdNs a.1.2.1) (hn : Bd a.1.1.length) : f54 a = some ((jJi a.1.1 a.1.2.1, ()), ()) := by
 obtain ⟨⟨name, ns, u⟩, u'⟩ := a
 have hl : ns.length ≤ 2097152 := hs.1
 have key : l54_58 ((ns, ((), ((0 : Int), ()))), (([name] : List Str), ())) = some (((ns, ((), ())), ((name :: ns.map (·.name)), ()))) := by
  have := loop_fold g54_58 ns (fun i (out : List Str) => ((ns, ((), ((i : Int), ()))), (out, ()))) (fun (n : Need) out => out ++ [n.name]) (fun out => (((ns, ((), ())), (out, ())) : YS t54_58)) (fun i out => out.length = i + 1) [name] rfl (fun i x out hx hI => ?_) (fun out _ => ?_)
  ·refine this.trans ?_
   have e : ∀ (r : List Need) (out : List Str), r.foldl (fun s x => s ++ [x.name]) out = out ++ r.map (·.name) := by
    intro r
    induction r with
    | nil => intro out; simp
    | cons n r ih => intro out; simp [ih]
   rw [e]; rfl
  ·have hi := jjx hx
   have hw : Sm i := by unfold Sm; omega
   refine ⟨?_, by simp [hI]⟩
   simp only [g54_58, jjv hi, cond_true, jjq, hx, Option.bind_some]
   rw [jqu (by decide) (by unfold Sm; simp only [List.length_cons, List.length_nil]; omega)]
   simp only [Option.bind_some, jjj hw]
  ·simp only [g54_58, jju, cond_false]
 simp only [f54, key, Option.bind_some]
 rw [v_l4Needs _ hs]
 simp only [Option.bind_some]
 unfold jJi
 cases hq : (List.all ns jqq && decide (ns.length ≤ 6)) with
 | false => rfl
 | true =>
  simp only [Bool.and_eq_true, decide_eq_true_eq] at hq
  have tw := v_l4Twice ((name :: ns.map (·.name), ()), ()) (show (name :: ns.map (·.name)).length ≤ 2097152 by simp only [List.length_cons, List.length_map]; omega)
  simp only [cond_true, Bool.true_and, tw, Option.bind_some]
theorem v_Index (a) (hs : Bd a.1.1.length) : ∃ n : Int, f174 a = some ((n, ()), ()) ∧ decide (n ≥ 0) = a.1.1.contains a.1.2.1 := by
 obtain ⟨⟨xs, x, u⟩, u'⟩ := a
 have hs : xs.length ≤ 2097152 := hs
 have key : l174_26 ((xs, (x, ((xs.length : Int), ((0 : Int), ())))), ()) = _ := loop_list g174_26 xs (fun i (_ : Unit) => ((xs, (x, ((xs.length : Int), ((i : Int), ())))), ()))
  (fun i y _ => some (bif x == y then .inr ((.inl (((i : Int), ()), ())) : YS t174_26) else .inl ())) (fun _ => .inr ((), ())) (fun i y s hy => ?_) (fun s => ?_) ()
 ·have fold : ∀ (r : List Str) (k : Nat), ∃ n : Int, (jqG (fun i y (_ : Unit) => some (bif x == y then .inr ((.inl (((i : Int), ()), ())) : YS t174_26) else .inl ())) (fun _ => (.inr ((), ()) : YS t174_26)) k r ()).bind (fun r833 =>
    (match r833 with
    | .inl r834 => some ((r834.1.1, ()), ())
    | .inr r835 => some ((((-1) : Int), ()), ()) : Option o174.Y)) = some ((n, ()), ()) ∧ decide (n ≥ 0) = r.contains x := by
   intro r
   induction r with
   | nil => intro k; exact ⟨-1, rfl, rfl⟩
   | cons y r ih =>
    intro k
    simp only [jqG, List.contains_cons]
    cases hxy : x == y with
    | true => exact ⟨k, rfl, by simp⟩
    | false =>
     obtain ⟨n, h1, h2⟩ := ih (k + 1)
     exact ⟨n, h1, by simpa using h2⟩
  obtain ⟨n, h1, h2⟩ := fold xs 0
  refine ⟨n, ?_, h2⟩
  simp only [f174]
  rw [key]
  exact h1
 ·have hi := jjx hy
  have hw : Sm i := by unfold Sm; omega
  simp only [g174_26, jjv hi, cond_true, jjq, hy, Option.bind_some, jjj hw]
  cases x == y <;> rfl
 ·simp only [g174_26, jju, cond_false]
theorem v_Contains (a) (hs : Bd a.1.1.length) : f97 a = some ((a.1.1.contains a.1.2.1, ()), ()) := by
 obtain ⟨n, h1, h2⟩ := v_Index ((a.1.1, (a.1.2.1, ())), ()) hs
 simp only [f97, h1, Option.bind_some, h2]
theorem v_CloneS (a) (hs : Bd a.1.1.length) : f96 a = some (((), ()), (a.1.1, ())) := by
 obtain ⟨⟨xs, u⟩, u'⟩ := a
 have hs : xs.length ≤ 2097152 := hs
 have h2 : (apd 16 ([] : List Str) xs).bind (fun x => some (((), ()), (x, ()))) = (some (((), ()), (xs, ())) : Option o96.Y) := by
  rw [jqu (by decide) (by unfold Sm; simp only [List.length_nil]; omega)]; rfl
 simp only [f96]
 rw [h2]
 unfold jxT
 split
 ·rfl
 ·rename_i h
  exact absurd (fun he : xs = [] => by subst he; rfl) h
theorem v_namesTwice (a) (hs : BdNs a.1.1) (hm : a.1.2.2.1.length ≤ 1) : f49v0 a = some ((dupA a.1.2.2.1 (a.1.1.map (·.name)), ()), ()) := by
 obtain ⟨⟨ns, u0, more, u⟩, u'⟩ := a
 have hl : ns.length ≤ 2097152 := hs.1
 have hm : more.length ≤ 1 := hm
 have hc := v_CloneS ((more, ()), ()) (show more.length ≤ 2097152 by omega)
 have key : (l49v0_58 (((), ((), (ns, ((ns.length : Int), ((0 : Int), ()))))), (more, ()))) = _ := jq1 g49v0_58 ns (fun i (out : List Str) => (((), ((), (ns, ((ns.length : Int), ((i : Int), ()))))), (out, ())))
  (fun i (n : Need) out => some (bif out.contains n.name then .inr ((.inl ((true, ()), ())) : YS jzN) else .inl (out ++ [n.name]))) (fun _ => .inr ((), ())) (fun i out => out.length ≤ i + 1) more (by omega) (fun i x out hx hI => ?_) (fun out _ => ?_)
 ·have fold : ∀ (r : List Need) (k : Nat) (out : List Str), (jqG (fun i (n : Need) out => some (bif out.contains n.name then .inr ((.inl ((true, ()), ())) : YS jzN) else .inl (out ++ [n.name]))) (fun _ => (.inr ((), ()) : YS jzN)) k r out) =
    some (bif dupA out (r.map (·.name)) then .inl ((true, ()), ()) else .inr ((), ())) := by
   intro r
   induction r with
   | nil => intro k out; rfl
   | cons n r ih =>
    intro k out
    simp only [jqG, List.map_cons, dupA]
    cases out.contains n.name with
    | true => rfl
    | false => simp only [cond_false, Bool.false_or]; exact ih _ _
  rw [fold] at key
  simp only [f49v0, hc, Option.bind_some, key]
  cases dupA more (ns.map (·.name)) <;> rfl
 ·have hi := jjx hx
  have hw : Sm i := by unfold Sm; omega
  refine ⟨?_, fun s' h' => ?_⟩
  ·simp only [g49v0_58, jjv hi, cond_true, jjq, hx, Option.bind_some, f50]
   rw [v_Contains _ (show Bd out.length by show out.length ≤ 2097152; omega)]
   simp only [Option.bind_some]
   cases hq : out.contains x.name with
   | true => rfl
   | false =>
    simp only [cond_false]
    rw [jqu (by decide) (by unfold Sm; simp only [List.length_cons, List.length_nil]; omega)]
    simp only [Option.bind_some, jjj hw, Option.map_some]
  ·simp only [Option.some.injEq] at h'
   cases hq : out.contains x.name with
   | true => rw [hq] at h'; cases h'
   | false =>
    rw [hq] at h'
    simp only [cond_false, Sum.inl.injEq] at h'
    subst h'
    simp only [List.length_append, List.length_cons, List.length_nil]; omega
 ·simp only [g49v0_58, jju, cond_false]
abbrev i316 : Shape := ⟨[(0, .lf (.d (.int .u8)))], [], 29⟩
abbrev o316 : Shape := ⟨[tB 2], [], 29⟩
noncomputable def f316 (a : i316.Y) : Option o316.Y :=
 bif (decide (a.1.1 ≥ (97 : Int))) then
 bif (!(decide (a.1.1 ≤ (122 : Int)))) then
 bif (decide (a.1.1 ≥ (48 : Int))) then
 bif (!(decide (a.1.1 ≤ (57 : Int)))) then
 bif (!(a.1.1 == (46 : Int))) then
 bif (!(a.1.1 == (95 : Int))) then
 some (((a.1.1 == (45 : Int)), ()), ())
else
 some ((true, ()), ())
else
 some ((true, ()), ())
else
 some ((true, ()), ())
else
 bif (!(a.1.1 == (46 : Int))) then
 bif (!(a.1.1 == (95 : Int))) then
 some (((a.1.1 == (45 : Int)), ()), ())
else
 some ((true, ()), ())
else
 some ((true, ()), ())
else
 some ((true, ()), ())
else
 bif (decide (a.1.1 ≥ (48 : Int))) then
 bif (!(decide (a.1.1 ≤ (57 : Int)))) then
 bif (!(a.1.1 == (46 : Int))) then
 bif (!(a.1.1 == (95 : Int))) then
 some (((a.1.1 == (45 : Int)), ()), ())
else
 some ((true, ()), ())
else
 some ((true, ()), ())
else
 some ((true, ()), ())
else
 bif (!(a.1.1 == (46 : Int))) then
 bif (!(a.1.1 == (95 : Int))) then
 some (((a.1.1 == (45 : Int)), ()), ())
else
 some ((true, ()), ())
else
 some ((true, ()), ())
noncomputable def S316 : jjC := jjG EE Tryz.f316 i316 o316 [] f316
theorem z316 : jjf Pz 316 S316 := jjb g0 Tryz.func316 (by kernel_rfl) jja (fun y => by kernel_rfl) fun a => by kernel_rfl
noncomputable abbrev L251 : LS := [(100, S100), (316, S316)]
theorem G251 : CtxGood Pz (cx EE L251) := gd ⟨z100, z316, ⟨⟩⟩
abbrev s251_26 : Shape := ⟨[tS 0, tI 3], [], 26⟩
abbrev t251_26 : List OSh := [(.ret, ⟨[tB 2], [], 26⟩), (.exit 0, ⟨[tS 0], [], 26⟩)]
noncomputable def g251_26 (y : s251_26.Y) : LR s251_26 t251_26 :=
 bif (decide (y.1.2.1 < (y.1.1.length : Int))) then
(ix y.1.1 y.1.2.1).bind fun x111 =>
(f316 (((x111.toNat : Int), ()), ())).bind fun r112 =>
 bif (!r112.1.1) then
 some (.inr (.inl ((false, ()), ())))
else
 some (.inl ((y.1.1, ((IntKind.i64.wrap (y.1.2.1 + (1 : Int))), ())), ()))
else
 some (.inr (.inr ((y.1.1, ()), ())))
noncomputable def l251_26 : s251_26.Y → Option (YS t251_26) := jjt g251_26
theorem q251_26 : jjk Pz (jjc (jji Tryz.f251) 1 26) (jjg s251_26 t251_26 l251_26) := jje G251 (by kernel_rfl) jja fun y => by kernel_rfl
abbrev i251 : Shape := ⟨[tS 0], [], 26⟩
abbrev o251 : Shape := ⟨[tB 2], [], 26⟩
noncomputable def f251 (a : i251.Y) : Option o251.Y :=
(l251_26 ((a.1.1, ((0 : Int), ())), ())).bind fun r123 =>
(match r123 with
| .inl r124 =>
 some ((r124.1.1, ()), ())
| .inr r125 =>
(f100 (((r125.1.1.length : Int), ((1 : Int), ((10 : Int), ()))), ())).bind fun r126 =>
 bif r126.1.1 then
 bif (!(r125.1.1 == ([46] : Str))) then
 some (((!(r125.1.1 == ([46, 46] : Str))), ()), ())
else
 some ((false, ()), ())
else
 some ((false, ()), ()))
noncomputable def S251 : jjC := jjG EE Tryz.f251 i251 o251 [] f251
theorem z251 : jjf Pz 251 S251 := jjb G251 Tryz.func251 (by kernel_rfl) (frc q251_26 jja) (fun y => by kernel_rfl) fun a => by kernel_rfl
noncomputable abbrev L182 : LS := [(179, S179), (251, S251)]
theorem G182 : CtxGood Pz (cx EE L182) := gd ⟨z179, z251, ⟨⟩⟩
abbrev s182_58 : Shape := ⟨[tO 3 3000192, tI 4], [zR 3000192 .str 3 0], 25⟩
abbrev t182_58 : List OSh := [(.ret, ⟨[tB 2], [], 25⟩), (.exit 0, ⟨[tO 3 3000192], [zR 3000192 .str 3 0], 25⟩)]
noncomputable def g182_58 (y : s182_58.Y) : LR s182_58 t182_58 :=
 bif (decide (y.1.2.1 < (y.2.1.length : Int))) then
(inb y.2.1.length y.1.2.1).bind fun x134 =>
(y.2.1[x134]?).bind fun x135 =>
(f251 ((x135, ()), ())).bind fun r136 =>
 bif (!r136.1.1) then
 some (.inr (.inl ((false, ()), ())))
else
 some (.inl (((), ((IntKind.i64.wrap (y.1.2.1 + (1 : Int))), ())), (y.2.1, ())))
else
 some (.inr (.inr (((), ()), (y.2.1, ()))))
noncomputable def l182_58 : s182_58.Y → Option (YS t182_58) := jjt g182_58
theorem q182_58 : jjk Pz (jjc (jji Tryz.f182) 1 58) (jjg s182_58 t182_58 l182_58) := jje G182 (by kernel_rfl) jja fun y => by kernel_rfl
abbrev i182 : Shape := ⟨[tS 0], [], 25⟩
abbrev o182 : Shape := ⟨[tB 2], [], 25⟩
noncomputable def f182 (a : i182.Y) : Option o182.Y :=
(f179 ((a.1.1, ((47 : Int), ((IntKind.i64.wrap ((a.1.1.length : Int) + (1 : Int))), ()))), ())).bind fun r144 =>
(l182_58 (((), ((0 : Int), ())), (r144.2.1, ()))).bind fun r148 =>
(match r148 with
| .inl r149 =>
 some ((r149.1.1, ()), ())
| .inr r150 =>
 some (((decide ((r150.2.1.length : Int) ≤ (5 : Int))), ()), ()))
noncomputable def S182 : jjC := jjG EE Tryz.f182 i182 o182 [] f182
theorem z182 : jjf Pz 182 S182 := jjb G182 Tryz.func182 (by kernel_rfl) (frc q182_58 jja) (fun y => by kernel_rfl) fun a => by kernel_rfl
noncomputable abbrev L183 : LS := [(100, S100)]
theorem G183 : CtxGood Pz (cx EE L183) := gd ⟨z100, ⟨⟩⟩
abbrev s183_840 : Shape := ⟨[tS 0, tI 3], [], 25⟩
abbrev t183_840 : List OSh := [(.norm, ⟨[tS 0, tI 3, tB 21], [], 25⟩)]
noncomputable def g183_840 (y : s183_840.Y) : Option (YS t183_840) :=
(ix y.1.1 y.1.2.1).bind fun x163 =>
 bif ((x163.toNat : Int) != (10 : Int)) then
(ix y.1.1 y.1.2.1).bind fun x164 =>
(f100 (((IntKind.i64.wrap (x164.toNat : Int)), ((32 : Int), ((126 : Int), ()))), ())).bind fun r165 =>
 some (((y.1.1, (y.1.2.1, ((!r165.1.1), ()))), ()))
else
 some (((y.1.1, (y.1.2.1, (false, ()))), ()))
theorem q183_840 : jjk Pz (jjc (jjI (jjc (jji Tryz.f183) 1 26)) 52 840) (jjg s183_840 t183_840 g183_840) := jjD G183 (by kernel_rfl) jja fun y => by kernel_rfl
abbrev s183_26 : Shape := ⟨[tS 0, tI 3], [], 25⟩
abbrev t183_26 : List OSh := [(.ret, ⟨[tB 2], [], 25⟩), (.exit 0, ⟨[tS 0], [], 25⟩)]
noncomputable def g183_26 (y : s183_26.Y) : LR s183_26 t183_26 :=
 bif (decide (y.1.2.1 < (y.1.1.length : Int))) then
(g183_840 ((y.1.1, (y.1.2.1, ())), ())).bind fun r167 =>
 bif r167.1.2.2.1 then
 some (.inr (.inl ((false, ()), ())))
else
 some (.inl ((r167.1.1, ((IntKind.i64.wrap (r167.1.2.1 + (1 : Int))), ())), ()))
else
 some (.inr (.inr ((y.1.1, ()), ())))
noncomputable def l183_26 : s183_26.Y → Option (YS t183_26) := jjt g183_26
theorem q183_26 : jjk Pz (jjc (jji Tryz.f183) 1 26) (jjg s183_26 t183_26 l183_26) := jje G183 (by kernel_rfl) (frc q183_840 jja) fun y => by kernel_rfl
abbrev i183 : Shape := ⟨[tS 0], [], 25⟩
abbrev o183 : Shape := ⟨[tB 2], [], 25⟩
noncomputable def f183 (a : i183.Y) : Option o183.Y :=
(l183_26 ((a.1.1, ((0 : Int), ())), ())).bind fun r177 =>
(match r177 with
| .inl r178 =>
 some ((r178.1.1, ()), ())
| .inr r179 =>
 some (((decide ((r179.1.1.length : Int) ≤ (80 : Int))), ()), ()))
noncomputable def S183 : jjC := jjG EE Tryz.f183 i183 o183 [] f183
theorem z183 : jjf Pz 183 S183 := jjb G183 Tryz.func183 (by kernel_rfl) (frc q183_26 jja) (fun y => by kernel_rfl) fun a => by kernel_rfl
noncomputable abbrev L104 : LS := [(100, S100), (182, S182), (183, S183)]
theorem G104 : CtxGood Pz (cx EE L104) := gd ⟨z100, z182, z183, ⟨⟩⟩
abbrev i104 : Shape := ⟨[tA 0 [eS, eI, eI, eS]], [], 42⟩
abbrev o104 : Shape := ⟨[tB 2], [], 42⟩
noncomputable def f104 (a : i104.Y) : Option o104.Y :=
(f182 ((a.1.1.1, ()), ())).bind fun r188 =>
 bif (!r188.1.1) then
 some ((false, ()), ())
else
 bif (a.1.1.2.1 == (1 : Int)) then
(f100 ((a.1.1.2.2.1, ((0 : Int), ((7 : Int), ()))), ())).bind fun r192 =>
 bif r192.1.1 then
 some (((a.1.1.2.2.2.1 == ([] : Str)), ()), ())
else
 some ((false, ()), ())
else
 bif (a.1.1.2.1 == (2 : Int)) then
(f100 ((a.1.1.2.2.1, ((0 : Int), ((7 : Int), ()))), ())).bind fun r193 =>
 bif r193.1.1 then
(f183 ((a.1.1.2.2.2.1, ()), ())).bind fun r194 =>
 some ((r194.1.1, ()), ())
else
 some ((false, ()), ())
else
 bif (a.1.1.2.1 == (3 : Int)) then
 bif (a.1.1.2.2.1 == (0 : Int)) then
(f182 ((a.1.1.2.2.2.1, ()), ())).bind fun r195 =>
 some ((r195.1.1, ()), ())
else
 some ((false, ()), ())
else
 some ((false, ()), ())
noncomputable def S104 : jjC := jjG EE Tryz.f104 i104 o104 [] f104
theorem z104 : jjf Pz 104 S104 := jjb G104 Tryz.func104 (by kernel_rfl) jja (fun y => by kernel_rfl) fun a => by kernel_rfl
abbrev i345 : Shape := ⟨[(0, .lf (.d (.int .u8)))], [], 29⟩
abbrev o345 : Shape := ⟨[tB 2], [], 29⟩
noncomputable def f345 (a : i345.Y) : Option o345.Y :=
 bif (decide (a.1.1 ≥ (97 : Int))) then
 bif (!(decide (a.1.1 ≤ (122 : Int)))) then
 bif (decide (a.1.1 ≥ (48 : Int))) then
 bif (!(decide (a.1.1 ≤ (57 : Int)))) then
 bif (!(a.1.1 == (46 : Int))) then
 bif (!(a.1.1 == (95 : Int))) then
 some (((a.1.1 == (45 : Int)), ()), ())
else
 some ((true, ()), ())
else
 some ((true, ()), ())
else
 some ((true, ()), ())
else
 bif (!(a.1.1 == (46 : Int))) then
 bif (!(a.1.1 == (95 : Int))) then
 some (((a.1.1 == (45 : Int)), ()), ())
else
 some ((true, ()), ())
else
 some ((true, ()), ())
else
 some ((true, ()), ())
else
 bif (decide (a.1.1 ≥ (48 : Int))) then
 bif (!(decide (a.1.1 ≤ (57 : Int)))) then
 bif (!(a.1.1 == (46 : Int))) then
 bif (!(a.1.1 == (95 : Int))) then
 some (((a.1.1 == (45 : Int)), ()), ())
else
 some ((true, ()), ())
else
 some ((true, ()), ())
else
 some ((true, ()), ())
else
 bif (!(a.1.1 == (46 : Int))) then
 bif (!(a.1.1 == (95 : Int))) then
 some (((a.1.1 == (45 : Int)), ()), ())
else
 some ((true, ()), ())
else
 some ((true, ()), ())
noncomputable def S345 : jjC := jjG EE Tryz.f345 i345 o345 [] f345
theorem z345 : jjf Pz 345 S345 := jjb g0 Tryz.func345 (by kernel_rfl) jja (fun y => by kernel_rfl) fun a => by kernel_rfl
noncomputable abbrev L314 : LS := [(345, S345)]
theorem G314 : CtxGood Pz (cx EE L314) := gd ⟨z345, ⟨⟩⟩
abbrev s314_26 : Shape := ⟨[tS 0, tI 5, tI 6], [], 17⟩
abbrev t314_26 : List OSh := [(.ret, ⟨[tB 2], [], 17⟩), (.exit 0, ⟨[tS 0], [], 17⟩)]
noncomputable def g314_26 (y : s314_26.Y) : LR s314_26 t314_26 :=
 bif (decide (y.1.2.2.1 < y.1.2.1)) then
(ix y.1.1 y.1.2.2.1).bind fun x1503 =>
(f345 (((x1503.toNat : Int), ()), ())).bind fun r1504 =>
 bif (!r1504.1.1) then
 some (.inr (.inl ((false, ()), ())))
else
 some (.inl ((y.1.1, (y.1.2.1, ((IntKind.i64.wrap (y.1.2.2.1 + (1 : Int))), ()))), ()))
else
 some (.inr (.inr ((y.1.1, ()), ())))
noncomputable def l314_26 : s314_26.Y → Option (YS t314_26) := jjt g314_26
theorem q314_26 : jjk Pz (jjc (jji Tryz.f314) 1 26) (jjg s314_26 t314_26 l314_26) := jje G314 (by kernel_rfl) jja fun y => by kernel_rfl
abbrev i314 : Shape := ⟨[tS 0], [], 17⟩
abbrev o314 : Shape := ⟨[tB 2], [], 17⟩
noncomputable def f314 (a : i314.Y) : Option o314.Y :=
(l314_26 ((a.1.1, ((a.1.1.length : Int), ((0 : Int), ()))), ())).bind fun r1514 =>
(match r1514 with
| .inl r1515 =>
 some ((r1515.1.1, ()), ())
| .inr r1516 =>
 some (((!(r1516.1.1 == ([] : Str))), ()), ()))
noncomputable def S314 : jjC := jjG EE Tryz.f314 i314 o314 [] f314
theorem z314 : jjf Pz 314 S314 := jjb G314 Tryz.func314 (by kernel_rfl) (frc q314_26 jja) (fun y => by kernel_rfl) fun a => by kernel_rfl
noncomputable abbrev L246 : LS := [(314, S314)]
theorem G246 : CtxGood Pz (cx EE L246) := gd ⟨z314, ⟨⟩⟩
abbrev i246 : Shape := ⟨[tS 0], [], 18⟩
abbrev o246 : Shape := ⟨[tB 2], [], 18⟩
noncomputable def f246 (a : i246.Y) : Option o246.Y :=
 bif (decide ((a.1.1.length : Int) ≤ (10 : Int))) then
 bif (!(a.1.1 == ([46] : Str))) then
 bif (!(a.1.1 == ([46, 46] : Str))) then
(f314 ((a.1.1, ()), ())).bind fun r1518 =>
 some ((r1518.1.1, ()), ())
else
 some ((false, ()), ())
else
 some ((false, ()), ())
else
 some ((false, ()), ())
noncomputable def S246 : jjC := jjG EE Tryz.f246 i246 o246 [] f246
theorem z246 : jjf Pz 246 S246 := jjb G246 Tryz.func246 (by kernel_rfl) jja (fun y => by kernel_rfl) fun a => by kernel_rfl
noncomputable abbrev L175 : LS := [(246, S246)]
theorem G175 : CtxGood Pz (cx EE L175) := gd ⟨z246, ⟨⟩⟩
abbrev s175_938 : Shape := ⟨[tP 2 2 0, tP 3 3 0, tS 4], [zB 2 [eB], zB 3 [eI]], 17⟩
abbrev t175_938 : List OSh := [(.norm, ⟨[tP 2 2 0, tP 3 3 0, tB 16], [zB 2 [eB], zB 3 [eI]], 17⟩)]
noncomputable def g175_938 (y : s175_938.Y) : Option (YS t175_938) :=
 bif (!(decide (y.2.2.1.1 > (5 : Int)))) then
(f246 ((y.1.2.2.1, ()), ())).bind fun r1521 =>
 some ((((), ((), ((!r1521.1.1), ()))), ((y.2.1.1, ()), ((y.2.2.1.1, ()), ()))))
else
 some ((((), ((), (true, ()))), ((y.2.1.1, ()), ((y.2.2.1.1, ()), ()))))
theorem q175_938 : jjk Pz (jjc (jxy (jjc (jji Tryz.f175) 1 58)) 117 938) (jjg s175_938 t175_938 g175_938) := jjD G175 (by kernel_rfl) jja fun y => by kernel_rfl
abbrev s175_58 : Shape := ⟨[tP 2 2 0, tP 3 3 0], [zB 2 [eB], zB 3 [eI]], 17⟩
abbrev t175_58 : List OSh := [(.norm, ⟨[tP 2 2 0], [zB 2 [eB]], 17⟩), (.ret, ⟨[tP 2 2 0], [zB 2 [eB]], 17⟩)]
noncomputable def g175_58 (x : Str) (y : s175_58.Y) : LR s175_58 t175_58 :=
(g175_938 (((), ((), (x, ()))), ((y.2.1.1, ()), (((IntKind.i64.wrap (y.2.2.1.1 + (1 : Int))), ()), ())))).bind fun r1523 =>
 bif r1523.1.2.2.1 then
 some (.inr (.inr (((), ()), ((false, ()), ()))))
else
 some (.inl (((), ((), ())), ((r1523.2.1.1, ()), ((r1523.2.2.1.1, ()), ()))))
noncomputable def h175_58 (y : s175_58.Y) : Option (YS t175_58) :=
 some (.inl (((), ()), ((y.2.1.1, ()), ())))
theorem q175_58 : jjk Pz (jjc (jji Tryz.f175) 1 58) (jzU 311 6 s175_58 t175_58 g175_58 h175_58) := range_tight (prm := 7) G175 it311 (by kernel_rfl) (frc q175_938 jja) (by kernel_rfl) (fun x y => by kernel_rfl) fun y => by kernel_rfl
abbrev i175 : Shape := ⟨[tS 0], [], 17⟩
abbrev o175 : Shape := ⟨[tP 2 2 0], [zB 2 [eB]], 17⟩
noncomputable def f175 (a : i175.Y) : Option o175.Y :=
(bif Nat.ble a.1.1.length jxP then jzj g175_58 h175_58 (jjw (47 : UInt8) a.1.1) (((), ((), ())), ((false, ()), (((0 : Int), ()), ()))) else none).bind fun r1527 =>
(match r1527 with
| .inl r1528 =>
 some (((), ()), ((true, ()), ()))
| .inr r1529 =>
 some (((), ()), ((r1529.2.1.1, ()), ())))
noncomputable def S175 : jjC := jjG EE Tryz.f175 i175 o175 [] f175
theorem z175 : jjf Pz 175 S175 := jjb G175 Tryz.func175 (by kernel_rfl) (frc q175_58 jja) (fun y => by kernel_rfl) fun a => by kernel_rfl
abbrev i247 : Shape := ⟨[(0, .lf (.d (.int .u8)))], [], 9⟩
abbrev o247 : Shape := ⟨[tB 2], [], 9⟩
noncomputable def f247 (a : i247.Y) : Option o247.Y :=
 bif (decide (a.1.1 ≥ (32 : Int))) then
 some (((decide (a.1.1 ≤ (126 : Int))), ()), ())
else
 some ((false, ()), ())
noncomputable def S247 : jjC := jjG EE Tryz.f247 i247 o247 [] f247
theorem z247 : jjf Pz 247 S247 := jjb g0 Tryz.func247 (by kernel_rfl) jja (fun y => by kernel_rfl) fun a => by kernel_rfl
noncomputable abbrev L176 : LS := [(247, S247)]
theorem G176 : CtxGood Pz (cx EE L176) := gd ⟨z247, ⟨⟩⟩
abbrev s176_7474 : Shape := ⟨[tS 0, tI 3, tI 8, tI 9], [], 24⟩
abbrev t176_7474 : List OSh := [(.norm, ⟨[tS 0, tI 8, tI 9, tB 22], [], 24⟩)]
noncomputable def g176_7474 (y : s176_7474.Y) : Option (YS t176_7474) :=
(ix y.1.1 y.1.2.1).bind fun x1541 =>
(f247 (((x1541.toNat : Int), ()), ())).bind fun r1542 =>
 bif (!r1542.1.1) then
(ix y.1.1 y.1.2.1).bind fun x1543 =>
 some (((y.1.1, (y.1.2.2.1, (y.1.2.2.2.1, (((x1543.toNat : Int) != (10 : Int)), ())))), ()))
else
 some (((y.1.1, (y.1.2.2.1, (y.1.2.2.2.1, (false, ())))), ()))
theorem q176_7474 : jjk Pz (jjc (jjI (jjc (jji Tryz.f176) 1 58)) 116 7474) (jjg s176_7474 t176_7474 g176_7474) := jjD G176 (by kernel_rfl) jja fun y => by kernel_rfl
abbrev s176_58 : Shape := ⟨[tS 0, tI 8, tI 9], [], 24⟩
abbrev t176_58 : List OSh := [(.ret, ⟨[tB 2], [], 24⟩), (.exit 0, ⟨[], [], 24⟩)]
noncomputable def g176_58 (y : s176_58.Y) : LR s176_58 t176_58 :=
 bif (decide (y.1.2.2.1 < y.1.2.1)) then
(g176_7474 ((y.1.1, (y.1.2.2.1, (y.1.2.1, (y.1.2.2.1, ())))), ())).bind fun r1545 =>
 bif r1545.1.2.2.2.1 then
 some (.inr (.inl ((false, ()), ())))
else
 some (.inl ((r1545.1.1, (r1545.1.2.1, ((IntKind.i64.wrap (r1545.1.2.2.1 + (1 : Int))), ()))), ()))
else
 some (.inr (.inr ((), ())))
noncomputable def l176_58 : s176_58.Y → Option (YS t176_58) := jjt g176_58
theorem q176_58 : jjk Pz (jjc (jji Tryz.f176) 1 58) (jjg s176_58 t176_58 l176_58) := jje G176 (by kernel_rfl) (frc q176_7474 jja) fun y => by kernel_rfl
abbrev i176 : Shape := ⟨[tS 0], [], 24⟩
abbrev o176 : Shape := ⟨[tB 2], [], 24⟩
noncomputable def f176 (a : i176.Y) : Option o176.Y :=
 bif (decide ((a.1.1.length : Int) > (80 : Int))) then
 some ((false, ()), ())
else
(l176_58 ((a.1.1, ((a.1.1.length : Int), ((0 : Int), ()))), ())).bind fun r1546 =>
(match r1546 with
| .inl r1547 =>
 some ((r1547.1.1, ()), ())
| .inr r1548 =>
 some ((true, ()), ()))
noncomputable def S176 : jjC := jjG EE Tryz.f176 i176 o176 [] f176
theorem z176 : jjf Pz 176 S176 := jjb G176 Tryz.func176 (by kernel_rfl) (frc q176_58 jja) (fun y => by kernel_rfl) fun a => by kernel_rfl
noncomputable abbrev L98 : LS := [(175, S175), (176, S176)]
theorem G98 : CtxGood Pz (cx EE L98) := gd ⟨z175, z176, ⟨⟩⟩
abbrev s98_12 : Shape := ⟨[tP 1 1 0], [zB 1 [eS, eI, eI, eS]], 39⟩
abbrev t98_12 : List OSh := [(.norm, ⟨[tP 1 1 0, tB 16], [zB 1 [eS, eI, eI, eS]], 39⟩)]
noncomputable def g98_12 (y : s98_12.Y) : Option (YS t98_12) :=
(f175 ((y.2.1.1, ()), ())).bind fun r1532 =>
 bif (!(!r1532.2.1.1)) then
 bif (!(decide (y.2.1.2.2.1 < (0 : Int)))) then
 some ((((), ((decide (y.2.1.2.2.1 > (7 : Int))), ())), ((y.2.1.1, (y.2.1.2.1, (y.2.1.2.2.1, (y.2.1.2.2.2.1, ())))), ())))
else
 some ((((), (true, ())), ((y.2.1.1, (y.2.1.2.1, (y.2.1.2.2.1, (y.2.1.2.2.2.1, ())))), ())))
else
 some ((((), (true, ())), ((y.2.1.1, (y.2.1.2.1, (y.2.1.2.2.1, (y.2.1.2.2.2.1, ())))), ())))
theorem q98_12 : jjk Pz (jjc (jji Tryz.f98) 1 12) (jjg s98_12 t98_12 g98_12) := jjD G98 (by kernel_rfl) jja fun y => by kernel_rfl
abbrev i98 : Shape := ⟨[tA 0 [eS, eI, eI, eS]], [], 39⟩
abbrev o98 : Shape := ⟨[tB 2], [], 39⟩
noncomputable def f98 (a : i98.Y) : Option o98.Y :=
(g98_12 (((), ()), ((a.1.1.1, (a.1.1.2.1, (a.1.1.2.2.1, (a.1.1.2.2.2.1, ())))), ()))).bind fun r1552 =>
 bif r1552.1.2.1 then
 some ((false, ()), ())
else
 bif (r1552.2.1.2.1 == (1 : Int)) then
 some (((r1552.2.1.2.2.2.1 == ([] : Str)), ()), ())
else
 bif (r1552.2.1.2.1 == (2 : Int)) then
(f176 ((r1552.2.1.2.2.2.1, ()), ())).bind fun r1553 =>
 some ((r1553.1.1, ()), ())
else
 bif (r1552.2.1.2.1 == (3 : Int)) then
 bif (r1552.2.1.2.2.1 == (0 : Int)) then
(f175 ((r1552.2.1.2.2.2.1, ()), ())).bind fun r1554 =>
 some ((r1554.2.1.1, ()), ())
else
 some ((false, ()), ())
else
 some ((false, ()), ())
noncomputable def S98 : jjC := jjG EE Tryz.f98 i98 o98 [] f98
theorem z98 : jjf Pz 98 S98 := jjb G98 Tryz.func98 (by kernel_rfl) (frc q98_12 jja) (fun y => by kernel_rfl) fun a => by kernel_rfl
def jxH (n : Int) : Bool := (decide (97 ≤ n) && decide (n ≤ 122)) || (decide (48 ≤ n) && decide (n ≤ 57)) || n == 46 || n == 95 || n == 45
theorem v_l1Small (a) : f316 a = some ((jxH a.1.1, ()), ()) := by
 obtain ⟨⟨n, u⟩, u'⟩ := a
 simp only [f316, jxH, ge_iff_le]
 generalize decide ((97 : Int) ≤ n) = b1
 generalize decide (n ≤ (122 : Int)) = b2
 generalize decide ((48 : Int) ≤ n) = b3
 generalize decide (n ≤ (57 : Int)) = b4
 generalize (n == (46 : Int)) = b5
 generalize (n == (95 : Int)) = b6
 generalize (n == (45 : Int)) = b7
 cases b1 <;> cases b2 <;> cases b3 <;> cases b4 <;> cases b5 <;> cases b6 <;> cases b7 <;> rfl
theorem v_nameByte (a) : f345 a = some ((jxH a.1.1, ()), ()) := by
 obtain ⟨⟨n, u⟩, u'⟩ := a
 simp only [f345, jxH, ge_iff_le]
 generalize decide ((97 : Int) ≤ n) = b1
 generalize decide (n ≤ (122 : Int)) = b2
 generalize decide ((48 : Int) ≤ n) = b3
 generalize decide (n ≤ (57 : Int)) = b4
 generalize (n == (46 : Int)) = b5
 generalize (n == (95 : Int)) = b6
 generalize (n == (45 : Int)) = b7
 cases b1 <;> cases b2 <;> cases b3 <;> cases b4 <;> cases b5 <;> cases b6 <;> cases b7 <;> rfl
def nmOk (s : Str) : Bool := s.all (fun b => jxH b.toNat) && jj2 s.length 1 10 && !(s == [46]) && !(s == [46, 46])
theorem v_l1Name (a) (hs : Bd a.1.1.length) : f251 a = some ((nmOk a.1.1, ()), ()) := by
 obtain ⟨⟨s, u⟩, u'⟩ := a
 have hs : s.length ≤ 2097152 := hs
 have key : l251_26 ((s, ((0 : Int), ())), ()) = some (bif jqz (fun _ b => jxH b.toNat) 0 s then .inr ((s, ()), ()) else .inl ((false, ()), ())) := by
  refine jjP g251_26 s (fun i => ((s, ((i : Int), ())), ())) _ _ _ (fun i x hx => ?_) ?_
  ·have hi := jjx hx
   have hw : Sm i := by unfold Sm; omega
   simp only [g251_26, jjv hi, cond_true, jjq, hx, Option.bind_some, v_l1Small, jjj hw]
   cases jxH x.toNat <;> rfl
  ·simp only [g251_26, jju, cond_false]
 rw [jjZ] at key
 simp only [f251, key, Option.bind_some, nmOk]
 cases List.all s (fun b => jxH b.toNat) with
 | false => rfl
 | true =>
  simp only [cond_true, v_l1In, Option.bind_some, Bool.true_and]
  cases jj2 (s.length : Int) 1 10 <;> cases (s == [46]) <;> rfl
theorem v_nameOk (a) (hs : Bd a.1.1.length) : f246 a = some ((nmOk a.1.1, ()), ()) := by
 obtain ⟨⟨s, u⟩, u'⟩ := a
 have hs : s.length ≤ 2097152 := hs
 have key : l314_26 ((s, ((s.length : Int), ((0 : Int), ()))), ()) = some (bif jqz (fun _ b => jxH b.toNat) 0 s then .inr ((s, ()), ()) else .inl ((false, ()), ())) := by
  refine jjP g314_26 s (fun i => ((s, ((s.length : Int), ((i : Int), ()))), ())) _ _ _ (fun i x hx => ?_) ?_
  ·have hi := jjx hx
   have hw : Sm i := by unfold Sm; omega
   simp only [g314_26, jjv hi, cond_true, jjq, hx, Option.bind_some, v_nameByte, jjj hw]
   cases jxH x.toNat <;> rfl
  ·simp only [g314_26, jju, cond_false]
 rw [jjZ] at key
 have hnb : f314 ((s, ()), ()) = some ((List.all s (fun b => jxH b.toNat) && !(s == ([] : Str)), ()), ()) := by
  simp only [f314, key, Option.bind_some]
  cases List.all s (fun b => jxH b.toNat) <;> rfl
 have h1 : decide ((1 : Int) ≤ (s.length : Int)) = !(s == ([] : Str)) := by
  cases s with
  | nil => rfl
  | cons b r =>
   have : ((b :: r) == ([] : Str)) = false := rfl
   simp only [List.length_cons]
   rw [this]; simp only [Bool.not_false, decide_eq_true_eq]; omega
 simp only [f246, hnb, Option.bind_some, nmOk, jj2, h1]
 cases decide ((s.length : Int) ≤ 10) <;> cases (s == [46]) <;> cases (s == [46, 46]) <;> cases List.all s (fun b => jxH b.toNat) <;> cases (s == ([] : Str)) <;> rfl
def jq7 (s : Str) : Bool := (jjw 47 s).all nmOk && decide ((jjw 47 s).length ≤ 5)
theorem v_l1Path (a) (hs : Bd a.1.1.length) : f182 a = some ((jq7 a.1.1, ()), ()) := by
 obtain ⟨⟨s, u⟩, u'⟩ := a
 have hs : s.length ≤ 2097152 := hs
 have hlen := jzR 47 s
 have hcut : f179 ((s, ((47 : Int), ((IntKind.i64.wrap ((s.length : Int) + (1 : Int))), ()))), ()) = some (((), ()), (jjw 47 s, ())) :=
  v_l1Cut 47 _ hs rfl (jjj (by unfold Sm; omega))
 have key : l182_58 (((), ((0 : Int), ())), (jjw 47 s, ())) = some (bif jqz (fun _ x => nmOk x) 0 (jjw 47 s) then .inr (((), ()), (jjw 47 s, ())) else .inl ((false, ()), ())) := by
  refine jjP g182_58 (jjw 47 s) (fun i => (((), ((i : Int), ())), (jjw 47 s, ()))) _ _ _ (fun i x hx => ?_) ?_
  ·have hi := jjx hx
   have hw : Sm i := by unfold Sm; omega
   have hxl : x.length ≤ s.length := jzQ 47 s x (List.mem_of_getElem? hx)
   simp only [g182_58, jjv hi, cond_true, jqx hi, hx, Option.bind_some]
   rw [v_l1Name _ (show x.length ≤ 2097152 by omega)]
   simp only [Option.bind_some, jjj hw]
   cases nmOk x <;> rfl
  ·simp only [g182_58, jju, cond_false]
 rw [jjZ] at key
 simp only [f182, hcut, Option.bind_some, key, jq7]
 cases List.all (jjw 47 s) nmOk with
 | false => rfl
 | true => have := leb6 (jjw 47 s).length 5; simp only [cond_true, Bool.true_and]; rw [← this]; rfl
theorem v_PathOk (a) (hs : Bd a.1.1.length) : f175 a = some (((), ()), ((jq7 a.1.1, ()), ())) := by
 obtain ⟨⟨s, u⟩, u'⟩ := a
 have hs : s.length ≤ 2097152 := hs
 have hble : Nat.ble s.length jxP = true := Nat.ble_eq_true_of_le (by unfold jxP; omega)
 have fold : ∀ (r : List Str) (k : Nat), (∀ x, x ∈ r → x.length ≤ s.length) → k ≤ 5 →
   jzj g175_58 h175_58 r (((), ((), ())), ((false, ()), (((k : Int), ()), ()))) =
    some (bif r.all nmOk && decide (k + r.length ≤ 5) then (.inl (((), ()), ((false, ()), ()))) else (.inr (((), ()), ((false, ()), ())))) := by
  intro r
  induction r with
  | nil =>
   intro k _ hk
   have : decide (k + 0 ≤ 5) = true := by simpa using hk
   simp only [jzj, h175_58, List.all_nil, List.length_nil, this, Bool.and_self, cond_true]
  | cons x r ih =>
   intro k hr hk
   have hx := hr x List.mem_cons_self
   have hnm := v_nameOk ((x, ()), ()) (show x.length ≤ 2097152 by omega)
   have hw := jjj (i := k) (by unfold Sm; omega)
   have hk5 : decide (((k + 1 : Nat) : Int) > 5) = !decide (k + 1 ≤ 5) := by by_cases h : k + 1 ≤ 5 <;> simp only [h, decide_true, decide_false, Bool.not_true, Bool.not_false, decide_eq_true_eq, decide_eq_false_iff_not] <;> omega
   have step : g175_58 x (((), ((), ())), ((false, ()), (((k : Int), ()), ()))) =
     some (bif nmOk x && decide (k + 1 ≤ 5) then .inl (((), ((), ())), ((false, ()), ((((k + 1 : Nat) : Int), ()), ()))) else .inr (.inr (((), ()), ((false, ()), ())))) := by
    simp only [g175_58, g175_938, hw, hk5, Bool.not_not, hnm, Option.bind_some]
    cases decide (k + 1 ≤ 5) with
    | false => cases nmOk x <;> rfl
    | true => cases nmOk x <;> rfl
   rw [jzj, step, List.all_cons]
   cases hn : nmOk x with
   | false => rfl
   | true =>
    simp only [Bool.true_and]
    cases hq : decide (k + 1 ≤ 5) with
    | false =>
     have : decide (k + (x :: r).length ≤ 5) = false := by simp only [decide_eq_false_iff_not, List.length_cons] at hq ⊢; omega
     rw [this]; simp
    | true =>
     simp only [cond_true]
     rw [ih (k + 1) (fun y hy => hr y (List.mem_cons_of_mem _ hy)) (by simpa using hq)]
     have e1 : k + 1 + r.length = k + (x :: r).length := by simp only [List.length_cons]; omega
     rw [e1]
 have key := fold (jjw (47 : UInt8) s) 0 (fun x hx => jzQ 47 s x hx) (Nat.zero_le _)
 have key' : jzj g175_58 h175_58 (jjw (47 : UInt8) s) (((), ((), ())), ((false, ()), (((0 : Int), ()), ()))) = some (bif jq7 s then (.inl (((), ()), ((false, ()), ()))) else (.inr (((), ()), ((false, ()), ())))) := by
  refine key.trans ?_
  unfold jq7
  rw [Nat.zero_add]
 simp only [f175, hble, cond_true, key', Option.bind_some]
 cases jq7 s <;> rfl
def textOk (s : Str) : Bool := s.all (fun b => (b.toNat : Int) == 10 || jj2 b.toNat 32 126) && decide (s.length ≤ 80)
theorem wrap_byte (b : UInt8) : IntKind.i64.wrap (b.toNat : Int) = (b.toNat : Int) := by
 have := b.toNat_lt
 rw [jjV (by omega) (by omega)]
theorem v_l2Text (a) (hs : Bd a.1.1.length) : f183 a = some ((textOk a.1.1, ()), ()) := by
 obtain ⟨⟨s, u⟩, u'⟩ := a
 have hs : s.length ≤ 2097152 := hs
 have key : l183_26 ((s, ((0 : Int), ())), ()) = some (bif jqz (fun _ b => (b.toNat : Int) == 10 || jj2 b.toNat 32 126) 0 s then .inr ((s, ()), ()) else .inl ((false, ()), ())) := by
  refine jjP g183_26 s (fun i => ((s, ((i : Int), ())), ())) _ _ _ (fun i x hx => ?_) ?_
  ·have hi := jjx hx
   have hw : Sm i := by unfold Sm; omega
   have hne : ((x.toNat : Int) != 10) = !((x.toNat : Int) == 10) := rfl
   simp only [g183_26, jjv hi, cond_true, g183_840, jjq, hx, Option.bind_some, hne, v_l1In, wrap_byte]
   cases ((x.toNat : Int) == 10) <;> cases jj2 (x.toNat : Int) 32 126 <;> simp only [Bool.not_true, Bool.not_false, cond_true, cond_false, Option.bind_some, jjj hw, Bool.or_true, Bool.true_or, Bool.or_false]
  ·simp only [g183_26, jju, cond_false]
 rw [jjZ] at key
 simp only [f183, key, Option.bind_some, textOk]
 cases List.all s (fun b => (b.toNat : Int) == 10 || jj2 b.toNat 32 126) with
 | false => rfl
 | true => have := leb6 s.length 80; simp only [cond_true, Bool.true_and]; rw [← this]; rfl
theorem v_plainByte (a) : f247 a = some ((jj2 a.1.1 32 126, ()), ()) := by
 simp only [f247, jj2, ge_iff_le]
 cases decide ((32 : Int) ≤ a.1.1) <;> rfl
theorem v_fileText (a) (hs : Bd a.1.1.length) : f176 a = some ((textOk a.1.1, ()), ()) := by
 obtain ⟨⟨s, u⟩, u'⟩ := a
 have hs : s.length ≤ 2097152 := hs
 have key : l176_58 ((s, ((s.length : Int), ((0 : Int), ()))), ()) = some (bif jqz (fun _ b => (b.toNat : Int) == 10 || jj2 b.toNat 32 126) 0 s then .inr ((), ()) else .inl ((false, ()), ())) := by
  refine jjP g176_58 s (fun i => ((s, ((s.length : Int), ((i : Int), ()))), ())) _ _ _ (fun i x hx => ?_) ?_
  ·have hi := jjx hx
   have hw : Sm i := by unfold Sm; omega
   have hne : ((x.toNat : Int) != 10) = !((x.toNat : Int) == 10) := rfl
   simp only [g176_58, jjv hi, cond_true, g176_7474, jjq, hx, Option.bind_some, hne, v_plainByte]
   cases ((x.toNat : Int) == 10) <;> cases jj2 (x.toNat : Int) 32 126 <;> simp only [Bool.not_true, Bool.not_false, cond_true, cond_false, Option.bind_some, jjj hw, Bool.or_true, Bool.true_or, Bool.or_false]
  ·simp only [g176_58, jju, cond_false]
 rw [jjZ] at key
 have h80 : decide ((s.length : Int) > 80) = !decide (s.length ≤ 80) := by by_cases h : s.length ≤ 80 <;> simp only [h, decide_true, decide_false, Bool.not_true, Bool.not_false, decide_eq_true_eq, decide_eq_false_iff_not] <;> omega
 simp only [f176, key, Option.bind_some, textOk, h80]
 cases decide (s.length ≤ 80) <;> cases List.all s (fun b => (b.toNat : Int) == 10 || jj2 b.toNat 32 126) <;> rfl
def entOk (e : Entry) : Bool := jq7 e.path && (bif e.kind == 1 then jj2 e.mode 0 7 && e.text == [] else bif e.kind == 2 then jj2 e.mode 0 7 && textOk e.text else bif e.kind == 3 then e.mode == 0 && jq7 e.text else false)
abbrev BdE (e : Entry) : Prop := Bd e.path.length ∧ Bd e.text.length
theorem v_l2Entry (a) (h1 : Bd a.1.1.1.length) (h2 : Bd a.1.1.2.2.2.1.length) : f104 a = some ((entOk ⟨a.1.1.1, a.1.1.2.1, a.1.1.2.2.1, a.1.1.2.2.2.1⟩, ()), ()) := by
 obtain ⟨⟨⟨p, k, m, t, u⟩, u'⟩, u''⟩ := a
 have e1 := v_l1Path ((p, ()), ()) h1
 have e2 := v_l1Path ((t, ()), ()) h2
 have e3 := v_l2Text ((t, ()), ()) h2
 simp only [f104, e1, e2, e3, v_l1In, Option.bind_some, entOk]
 cases jq7 p with
 | false => rfl
 | true => cases (k == 1) <;> cases (k == 2) <;> cases (k == 3) <;> cases jj2 m 0 7 <;> cases (m == 0) <;> rfl
theorem v_entryOk (a) (h1 : Bd a.1.1.1.length) (h2 : Bd a.1.1.2.2.2.1.length) : f98 a = some ((entOk ⟨a.1.1.1, a.1.1.2.1, a.1.1.2.2.1, a.1.1.2.2.2.1⟩, ()), ()) := by
 obtain ⟨⟨⟨p, k, m, t, u⟩, u'⟩, u''⟩ := a
 have e1 := v_PathOk ((p, ()), ()) h1
 have e2 := v_PathOk ((t, ()), ()) h2
 have e3 := v_fileText ((t, ()), ()) h2
 have hm : jj2 m 0 7 = true ∨ (m == 0) = false := by
  cases h : (m == 0) with
  | false => exact .inr rfl
  | true => left; rw [show m = (0 : Int) from eq_of_beq h]; rfl
 simp only [f98, g98_12, e1, e2, e3, Option.bind_some, entOk, dlt, dgt, Bool.not_not]
 unfold jj2 at hm ⊢
 cases jq7 p with
 | false => rfl
 | true =>
  cases h0 : decide ((0 : Int) ≤ m) <;> cases h7 : decide (m ≤ 7) <;> rw [h0, h7] at hm <;> cases h00 : (m == 0) <;> rw [h00] at hm <;>
   first | (simp at hm; done) | (simp only [Bool.not_true, Bool.not_false, cond_true, cond_false, Option.bind_some, h00, e2, e3, Bool.and_true, Bool.and_false, Bool.true_and, Bool.false_and]; cases (k == 1) <;> cases (k == 2) <;> cases (k == 3) <;> rfl)
abbrev s184_28 : Shape := ⟨[tL 0 .entry, tS 1, tI 4, tB 5, tI 6], [], 36⟩
abbrev t184_28 : List OSh := [(.exit 0, ⟨[tL 0 .entry, tS 1, tI 4, tB 5, tI 6], [], 36⟩)]
noncomputable def g184_28 (y : s184_28.Y) : LR s184_28 t184_28 :=
 bif (decide (y.1.2.2.2.2.1 < (y.1.1.length : Int))) then
(ix y.1.1 y.1.2.2.2.2.1).bind fun x68 =>
 bif (Op.bytesLess x68.path y.1.2.1) then
 some (.inl ((y.1.1, (y.1.2.1, (y.1.2.2.1, (y.1.2.2.2.1, ((IntKind.i64.wrap (y.1.2.2.2.2.1 + (1 : Int))), ()))))), ()))
else
 some (.inr (((y.1.1, (y.1.2.1, (y.1.2.2.1, (y.1.2.2.2.1, (y.1.2.2.2.2.1, ()))))), ())))
else
 some (.inr (((y.1.1, (y.1.2.1, (y.1.2.2.1, (y.1.2.2.2.1, (y.1.2.2.2.2.1, ()))))), ())))
noncomputable def l184_28 : s184_28.Y → Option (YS t184_28) := jjt g184_28
theorem q184_28 : jjk Pz (jjc (jji Tryz.f184) 1 28) (jjg s184_28 t184_28 l184_28) := jje g0 (by kernel_rfl) jja fun y => by kernel_rfl
abbrev i184 : Shape := ⟨[tL 0 .entry, tS 1], [], 36⟩
abbrev o184 : Shape := ⟨[tI 4, tB 5], [], 36⟩
noncomputable def f184 (a : i184.Y) : Option o184.Y :=
(l184_28 ((a.1.1, (a.1.2.1, ((0 : Int), (false, ((0 : Int), ()))))), ())).bind fun r71 =>
 bif (decide (r71.1.2.2.2.2.1 < (r71.1.1.length : Int))) then
(ix r71.1.1 r71.1.2.2.2.2.1).bind fun x72 =>
 some ((r71.1.2.2.2.2.1, ((x72.path == r71.1.2.1), ())), ())
else
 some ((r71.1.2.2.2.2.1, (false, ())), ())
noncomputable def S184 : jjC := jjG EE Tryz.f184 i184 o184 [] f184
theorem z184 : jjf Pz 184 S184 := jjb g0 Tryz.func184 (by kernel_rfl) (frc q184_28 jja) (fun y => by kernel_rfl) fun a => by kernel_rfl
noncomputable abbrev L105 : LS := [(184, S184)]
theorem G105 : CtxGood Pz (cx EE L105) := gd ⟨z184, ⟨⟩⟩
abbrev i105 : Shape := ⟨[tL 0 .entry, tS 1], [], 26⟩
abbrev o105 : Shape := ⟨[tB 4], [], 26⟩
noncomputable def f105 (a : i105.Y) : Option o105.Y :=
(f184 ((a.1.1, (a.1.2.1, ())), ())).bind fun r214 =>
 bif (!(a.1.2.1 == ([] : Str))) then
 bif r214.1.2.1 then
(ix a.1.1 r214.1.1).bind fun x215 =>
 some (((x215.kind == (1 : Int)), ()), ())
else
 some ((false, ()), ())
else
 some ((true, ()), ())
noncomputable def S105 : jjC := jjG EE Tryz.f105 i105 o105 [] f105
theorem z105 : jjf Pz 105 S105 := jjb G105 Tryz.func105 (by kernel_rfl) jja (fun y => by kernel_rfl) fun a => by kernel_rfl
abbrev s106_26 : Shape := ⟨[tS 0, tI 3], [], 18⟩
abbrev t106_26 : List OSh := [(.ret, ⟨[tS 2], [], 18⟩), (.exit 0, ⟨[], [], 18⟩)]
noncomputable def g106_26 (y : s106_26.Y) : LR s106_26 t106_26 :=
 bif (decide (y.1.2.1 ≥ (0 : Int))) then
(ix y.1.1 y.1.2.1).bind fun x201 =>
 bif ((x201.toNat : Int) == (47 : Int)) then
(jq5 y.1.1 (0 : Int) y.1.2.1).bind fun x202 =>
 some (.inr (.inl ((x202, ()), ())))
else
 some (.inl ((y.1.1, ((IntKind.i64.wrap (y.1.2.1 - (1 : Int))), ())), ()))
else
 some (.inr (.inr ((), ())))
noncomputable def l106_26 : s106_26.Y → Option (YS t106_26) := jjt g106_26
theorem q106_26 : jjk Pz (jjc (jji Tryz.f106) 1 26) (jjg s106_26 t106_26 l106_26) := jje g0 (by kernel_rfl) jja fun y => by kernel_rfl
abbrev i106 : Shape := ⟨[tS 0], [], 18⟩
abbrev o106 : Shape := ⟨[tS 2], [], 18⟩
noncomputable def f106 (a : i106.Y) : Option o106.Y :=
(l106_26 ((a.1.1, ((IntKind.i64.wrap ((a.1.1.length : Int) - (1 : Int))), ())), ())).bind fun r206 =>
(match r206 with
| .inl r207 =>
 some ((r207.1.1, ()), ())
| .inr r208 =>
 some ((([] : Str), ()), ()))
noncomputable def S106 : jjC := jjG EE Tryz.f106 i106 o106 [] f106
theorem z106 : jjf Pz 106 S106 := jjb g0 Tryz.func106 (by kernel_rfl) (frc q106_26 jja) (fun y => by kernel_rfl) fun a => by kernel_rfl
abbrev i185 : Shape := ⟨[tS 0], [], 6⟩
abbrev o185 : Shape := ⟨[tB 2], [], 6⟩
noncomputable def f185 (a : i185.Y) : Option o185.Y :=
 some (((!(a.1.1 == a.1.1)), ()), ())
noncomputable def S185 : jjC := jjG EE Tryz.f185 i185 o185 [] f185
theorem z185 : jjf Pz 185 S185 := jjb g0 Tryz.func185 (by kernel_rfl) jja (fun y => by kernel_rfl) fun a => by kernel_rfl
noncomputable abbrev L110 : LS := [(185, S185)]
theorem G110 : CtxGood Pz (cx EE L110) := gd ⟨z185, ⟨⟩⟩
abbrev i110 : Shape := ⟨[tS 0, tS 1], [], 20⟩
abbrev o110 : Shape := ⟨[tI 4], [], 20⟩
noncomputable def f110 (a : i110.Y) : Option o110.Y :=
(f185 ((a.1.1, ()), ())).bind fun r1592 =>
(f185 ((a.1.2.1, ()), ())).bind fun r1594 =>
 bif r1592.1.1 then
 bif r1594.1.1 then
 some (((0 : Int), ()), ())
else
 some ((((-1) : Int), ()), ())
else
 bif r1594.1.1 then
 some (((1 : Int), ()), ())
else
 bif (Op.bytesLess a.1.1 a.1.2.1) then
 some ((((-1) : Int), ()), ())
else
 bif (!(Op.bytesLess a.1.1 a.1.2.1 || a.1.1 == a.1.2.1)) then
 some (((1 : Int), ()), ())
else
 some (((0 : Int), ()), ())
noncomputable def S110 : jjC := jjG EE Tryz.f110 i110 o110 [] f110
theorem z110 : jjf Pz 110 S110 := jjb G110 Tryz.func110 (by kernel_rfl) jja (fun y => by kernel_rfl) fun a => by kernel_rfl
abbrev s315_26 : Shape := ⟨[tS 0, (1, .lf (.d (.int .u8))), tI 5], [], 19⟩
abbrev t315_26 : List OSh := [(.ret, ⟨[tI 4], [], 19⟩), (.exit 0, ⟨[], [], 19⟩)]
noncomputable def g315_26 (y : s315_26.Y) : LR s315_26 t315_26 :=
 bif (decide (y.1.2.2.1 ≥ (0 : Int))) then
(ix y.1.1 y.1.2.2.1).bind fun x1565 =>
 bif ((x1565.toNat : Int) == y.1.2.1) then
 some (.inr (.inl ((y.1.2.2.1, ()), ())))
else
 some (.inl ((y.1.1, (y.1.2.1, ((IntKind.i64.wrap (y.1.2.2.1 - (1 : Int))), ()))), ()))
else
 some (.inr (.inr ((), ())))
noncomputable def l315_26 : s315_26.Y → Option (YS t315_26) := jjt g315_26
theorem q315_26 : jjk Pz (jjc (jji Tryz.f315) 1 26) (jjg s315_26 t315_26 l315_26) := jje g0 (by kernel_rfl) jja fun y => by kernel_rfl
abbrev i315 : Shape := ⟨[tS 0, (1, .lf (.d (.int .u8)))], [], 19⟩
abbrev o315 : Shape := ⟨[tI 4], [], 19⟩
noncomputable def f315 (a : i315.Y) : Option o315.Y :=
(l315_26 ((a.1.1, (a.1.2.1, ((IntKind.i64.wrap ((a.1.1.length : Int) - (1 : Int))), ()))), ())).bind fun r1569 =>
(match r1569 with
| .inl r1570 =>
 some ((r1570.1.1, ()), ())
| .inr r1571 =>
 some ((((-1) : Int), ()), ()))
noncomputable def S315 : jjC := jjG EE Tryz.f315 i315 o315 [] f315
theorem z315 : jjf Pz 315 S315 := jjb g0 Tryz.func315 (by kernel_rfl) (frc q315_26 jja) (fun y => by kernel_rfl) fun a => by kernel_rfl
noncomputable abbrev L248 : LS := [(315, S315)]
theorem G248 : CtxGood Pz (cx EE L248) := gd ⟨z315, ⟨⟩⟩
abbrev i248 : Shape := ⟨[tS 0, (1, .lf (.d (.int .u8)))], [], 8⟩
abbrev o248 : Shape := ⟨[tI 4], [], 8⟩
noncomputable def f248 (a : i248.Y) : Option o248.Y :=
(f315 ((a.1.1, (a.1.2.1, ())), ())).bind fun r1573 =>
 some ((r1573.1.1, ()), ())
noncomputable def S248 : jjC := jjG EE Tryz.f248 i248 o248 [] f248
theorem z248 : jjf Pz 248 S248 := jjb G248 Tryz.func248 (by kernel_rfl) jja (fun y => by kernel_rfl) fun a => by kernel_rfl
noncomputable abbrev L177 : LS := [(175, S175), (248, S248)]
theorem G177 : CtxGood Pz (cx EE L177) := gd ⟨z175, z248, ⟨⟩⟩
abbrev i177 : Shape := ⟨[tS 0], [], 11⟩
abbrev o177 : Shape := ⟨[tS 2], [], 11⟩
noncomputable def f177 (a : i177.Y) : Option o177.Y :=
(f175 ((a.1.1, ()), ())).bind fun r1579 =>
 bif (!r1579.2.1.1) then
 some ((([] : Str), ()), ())
else
(f248 ((a.1.1, ((47 : Int), ())), ())).bind fun r1580 =>
(jq5 a.1.1 (0 : Int) (maxI r1580.1.1 (0 : Int))).bind fun x1581 =>
 some ((x1581, ()), ())
noncomputable def S177 : jjC := jjG EE Tryz.f177 i177 o177 [] f177
theorem z177 : jjf Pz 177 S177 := jjb G177 Tryz.func177 (by kernel_rfl) jja (fun y => by kernel_rfl) fun a => by kernel_rfl
noncomputable abbrev L250 : LS := [(110, S110)]
theorem G250 : CtxGood Pz (cx EE L250) := gd ⟨z110, ⟨⟩⟩
abbrev i250 : Shape := ⟨[tA 0 [eS, eI, eI, eS], tA 1 [eS, eI, eI, eS]], [], 10⟩
abbrev o250 : Shape := ⟨[tI 4], [], 10⟩
noncomputable def f250 (a : i250.Y) : Option o250.Y :=
(f110 ((a.1.1.1, (a.1.2.1.1, ())), ())).bind fun r1596 =>
 some ((r1596.1.1, ()), ())
noncomputable def S250 : jjC := jjG EE Tryz.f250 i250 o250 [] f250
theorem z250 : jjf Pz 250 S250 := jjb G250 Tryz.func250 (by kernel_rfl) jja (fun y => by kernel_rfl) fun a => by kernel_rfl
noncomputable abbrev L249v0 : LS := [(250, S250)]
theorem G249v0 : CtxGood Pz (cx EE L249v0) := gd ⟨z250, ⟨⟩⟩
abbrev s249v0_60 : Shape := ⟨[tL 0 .entry, (2, .lf (.fn 250 [])), tP 4 4 0, tI 6, tB 7, tI 8, tI 9, tI 10], [zB 4 [eS, eI, eI, eS]], 49⟩
abbrev t249v0_60 : List OSh := [(.exit 0, ⟨[tL 0 .entry, (2, .lf (.fn 250 [])), tP 4 4 0, tI 6, tB 7, tI 8, tI 9], [zB 4 [eS, eI, eI, eS]], 49⟩)]
noncomputable def g249v0_60 (y : s249v0_60.Y) : LR s249v0_60 t249v0_60 :=
 bif (decide (y.1.2.2.2.2.2.2.1 < y.1.2.2.2.2.2.2.2.1)) then
(shrI .u64 (IntKind.u64.wrap (IntKind.i64.wrap (y.1.2.2.2.2.2.2.1 + y.1.2.2.2.2.2.2.2.1))) (1 : Int)).bind fun x1601 =>
(ix y.1.1 (IntKind.i64.wrap x1601)).bind fun x1604 =>
(f250 (((x1604.path, (x1604.kind, (x1604.mode, (x1604.text, ())))), ((y.2.1.1, (y.2.1.2.1, (y.2.1.2.2.1, (y.2.1.2.2.2.1, ())))), ())), ())).bind fun r1605 =>
 bif (decide (r1605.1.1 < (0 : Int))) then
 some (.inl ((y.1.1, ((), ((), (y.1.2.2.2.1, (y.1.2.2.2.2.1, (y.1.2.2.2.2.2.1, ((IntKind.i64.wrap ((IntKind.i64.wrap x1601) + (1 : Int))), (y.1.2.2.2.2.2.2.2.1, ())))))))), ((y.2.1.1, (y.2.1.2.1, (y.2.1.2.2.1, (y.2.1.2.2.2.1, ())))), ())))
else
 some (.inl ((y.1.1, ((), ((), (y.1.2.2.2.1, (y.1.2.2.2.2.1, (y.1.2.2.2.2.2.1, (y.1.2.2.2.2.2.2.1, ((IntKind.i64.wrap x1601), ())))))))), ((y.2.1.1, (y.2.1.2.1, (y.2.1.2.2.1, (y.2.1.2.2.2.1, ())))), ())))
else
 some (.inr (((y.1.1, ((), ((), (y.1.2.2.2.1, (y.1.2.2.2.2.1, (y.1.2.2.2.2.2.1, (y.1.2.2.2.2.2.2.1, ()))))))), ((y.2.1.1, (y.2.1.2.1, (y.2.1.2.2.1, (y.2.1.2.2.2.1, ())))), ()))))
noncomputable def l249v0_60 : s249v0_60.Y → Option (YS t249v0_60) := jjt g249v0_60
theorem q249v0_60 : jjk Pz (jjc (jji Tryz.f249) 1 60) (jjg s249v0_60 t249v0_60 l249v0_60) := jje G249v0 (by kernel_rfl) jja fun y => by kernel_rfl
abbrev i249v0 : Shape := ⟨[tL 0 .entry, tA 1 [eS, eI, eI, eS], (2, .lf (.fn 250 []))], [], 49⟩
abbrev o249v0 : Shape := ⟨[tI 6, tB 7], [], 49⟩
noncomputable def f249v0 (a : i249v0.Y) : Option o249v0.Y :=
(l249v0_60 ((a.1.1, ((), ((), ((0 : Int), (false, ((a.1.1.length : Int), ((0 : Int), ((a.1.1.length : Int), ())))))))), ((a.1.2.1.1, (a.1.2.1.2.1, (a.1.2.1.2.2.1, (a.1.2.1.2.2.2.1, ())))), ()))).bind fun r1609 =>
 bif (decide (r1609.1.2.2.2.2.2.2.1 < r1609.1.2.2.2.2.2.1)) then
(ix r1609.1.1 r1609.1.2.2.2.2.2.2.1).bind fun x1610 =>
(f250 (((x1610.path, (x1610.kind, (x1610.mode, (x1610.text, ())))), ((r1609.2.1.1, (r1609.2.1.2.1, (r1609.2.1.2.2.1, (r1609.2.1.2.2.2.1, ())))), ())), ())).bind fun r1611 =>
 some ((r1609.1.2.2.2.2.2.2.1, ((r1611.1.1 == (0 : Int)), ())), ())
else
 some ((r1609.1.2.2.2.2.2.2.1, (false, ())), ())
noncomputable def S249v0 : jjC := jjG EE Tryz.f249 i249v0 o249v0 [] f249v0
theorem z249v0 : jjf Pz 249 S249v0 := jjb G249v0 Tryz.func249 (by kernel_rfl) (frc q249v0_60 jja) (fun y => by kernel_rfl) fun a => by kernel_rfl
noncomputable abbrev L178 : LS := [(249, S249v0)]
theorem G178 : CtxGood Pz (cx EE L178) := gd ⟨z249v0, ⟨⟩⟩
abbrev i178 : Shape := ⟨[tL 0 .entry, tS 1], [], 12⟩
abbrev o178 : Shape := ⟨[tI 4, tB 5], [], 12⟩
noncomputable def f178 (a : i178.Y) : Option o178.Y :=
(f249v0 ((a.1.1, ((a.1.2.1, ((0 : Int), ((0 : Int), (([] : Str), ())))), ((), ()))), ())).bind fun r1613 =>
 some ((r1613.1.1, (r1613.1.2.1, ())), ())
noncomputable def S178 : jjC := jjG EE Tryz.f178 i178 o178 [] f178
theorem z178 : jjf Pz 178 S178 := jjb G178 Tryz.func178 (by kernel_rfl) jja (fun y => by kernel_rfl) fun a => by kernel_rfl
theorem bl_irr : ∀ a : Str, Op.bytesLess a a = false := by
 intro a
 induction a with
 | nil => rfl
 | cons b r ih => simp [Op.bytesLess, ih]
theorem bl_trans : ∀ a b c : Str, Op.bytesLess a b = true → Op.bytesLess b c = true → Op.bytesLess a c = true := by
 intro a
 induction a with
 | nil => intro b c h1 h2; cases c with
  | nil => cases b <;> simp [Op.bytesLess] at h2
  | cons z c => rfl
 | cons x a ih =>
  intro b c h1 h2
  cases b with
  | nil => simp [Op.bytesLess] at h1
  | cons y b =>
   cases c with
   | nil => simp [Op.bytesLess] at h2
   | cons z c =>
    simp only [Op.bytesLess, Bool.or_eq_true, decide_eq_true_eq, Bool.and_eq_true, beq_iff_eq] at h1 h2 ⊢
    rcases h1 with h1 | ⟨rfl, h1⟩
    ·rcases h2 with h2 | ⟨rfl, h2⟩
     ·exact .inl (UInt8.lt_trans h1 h2)
     ·exact .inl h1
    ·rcases h2 with h2 | ⟨rfl, h2⟩
     ·exact .inl h2
     ·exact .inr ⟨rfl, ih b c h1 h2⟩
theorem bl_tri : ∀ a b : Str, Op.bytesLess a b = false → (a == b) = false → Op.bytesLess b a = true := by
 intro a
 induction a with
 | nil => intro b h1 h2; cases b with
  | nil => simp at h2
  | cons y b => simp [Op.bytesLess] at h1
 | cons x a ih =>
  intro b h1 h2
  cases b with
  | nil => rfl
  | cons y b =>
   simp only [Op.bytesLess, Bool.or_eq_false_iff, decide_eq_false_iff_not, Bool.and_eq_false_iff, beq_eq_false_iff_ne, ne_eq] at h1
   simp only [Op.bytesLess, Bool.or_eq_true, decide_eq_true_eq, Bool.and_eq_true, beq_iff_eq]
   by_cases hxy : x = y
   ·subst hxy
    refine .inr ⟨rfl, ih b ?_ ?_⟩
    ·rcases h1.2 with h | h
     ·exact absurd rfl h
     ·exact h
    ·cases h : (a == b) with
     | false => rfl
     | true => rw [eq_of_beq h] at h2; simp at h2
   ·exact .inl (by
     have := h1.1
     rcases UInt8.lt_or_lt_of_ne (fun h => hxy h) with h | h
     ·exact absurd h this
     ·exact h)
theorem bl_asym {a b : Str} (h : Op.bytesLess a b = true) : Op.bytesLess b a = false := by
 cases h2 : Op.bytesLess b a with
 | false => rfl
 | true => have := bl_trans a b a h h2; rw [bl_irr] at this; cases this
theorem bl_ne {a b : Str} (h : Op.bytesLess a b = true) : (a == b) = false := by
 cases h2 : (a == b) with
 | false => rfl
 | true => rw [eq_of_beq h2, bl_irr] at h; cases h
theorem bl_take : ∀ (s : Str) (i : Nat), i < s.length → Op.bytesLess (s.take i) s = true := by
 intro s
 induction s with
 | nil => intro i h; simp at h
 | cons b r ih =>
  intro i h
  cases i with
  | zero => rfl
  | succ i => simp only [List.take_succ_cons, Op.bytesLess]; simp [ih i (by simpa using h)]
def jql (c : UInt8) (s : Str) : Nat → Option Nat
 | 0 => none
 | n + 1 => match s[n]? with
  | some b => bif (b.toNat : Int) == (c.toNat : Int) then some n else jql c s n
  | none => none
theorem lastBelow_lt {c : UInt8} {s : Str} : ∀ {n i : Nat}, jql c s n = some i → i < n ∧ i < s.length := by
 intro n
 induction n with
 | zero => intro i h; cases h
 | succ n ih =>
  intro i h
  simp only [jql] at h
  split at h
  ·rename_i b hb
   cases hc : ((b.toNat : Int) == (c.toNat : Int)) with
   | true => rw [hc] at h; cases h; exact ⟨Nat.lt_succ_self _, jjx hb⟩
   | false => rw [hc] at h; have := ih h; omega
  ·cases h
def upL (s : Str) : Str := match jql 47 s s.length with
 | some i => s.take i
 | none => []
theorem upL_less {s : Str} (h : (upL s == []) = false) : Op.bytesLess (upL s) s = true := by
 unfold upL at h ⊢
 split
 ·rename_i i hi; exact bl_take s i (lastBelow_lt hi).2
 ·rename_i hi; rw [hi] at h; cases h
theorem v_l1Up (a) (hs : Bd a.1.1.length) : f106 a = some ((upL a.1.1, ()), ()) := by
 obtain ⟨⟨s, u⟩, u'⟩ := a
 have hs : s.length ≤ 2097152 := hs
 have key : ∀ n, n ≤ s.length → l106_26 ((s, ((n : Int) - 1, ())), ()) = some (match jql 47 s n with | some i => .inl ((s.take i, ()), ()) | none => .inr ((), ())) := by
  intro n
  induction n with
  | zero => intro _; exact jjQ (by rfl)
  | succ n ih =>
   intro hn
   have e : ((n + 1 : Nat) : Int) - 1 = (n : Int) := by omega
   obtain ⟨b, hb⟩ : ∃ b, s[n]? = some b := ⟨s[n], List.getElem?_eq_getElem hn⟩
   have h0 : decide ((n : Int) ≥ 0) = true := by simp
   rw [e]
   simp only [jql, hb]
   cases hc : ((b.toNat : Int) == ((47 : UInt8).toNat : Int)) with
   | true =>
    refine jjQ ?_
    simp only [g106_26, h0, cond_true, jjq, hb, Option.bind_some]
    rw [show ((b.toNat : Int) == 47) = true from hc, subl_to (by omega)]
    rfl
   | false =>
    refine (jqo ?_).trans (ih (by omega))
    simp only [g106_26, h0, cond_true, jjq, hb, Option.bind_some]
    rw [show ((b.toNat : Int) == 47) = false from hc, jjV (by omega) (by omega)]
    rfl
 have hw : IntKind.i64.wrap ((s.length : Int) - 1) = (s.length : Int) - 1 := jjV (by omega) (by omega)
 simp only [f106, hw, key s.length (Nat.le_refl _), Option.bind_some, upL]
 cases jql 47 s s.length <;> rfl
theorem v_LastIndex (a) (hs : Bd a.1.1.length) (h47 : a.1.2.1 = 47) : f315 a = some (((match jql 47 a.1.1 a.1.1.length with | some i => (i : Int) | none => -1), ()), ()) := by
 obtain ⟨⟨s, c, u⟩, u'⟩ := a
 obtain rfl : c = 47 := h47
 have hs : s.length ≤ 2097152 := hs
 have key : ∀ n, n ≤ s.length → l315_26 ((s, ((47 : Int), ((n : Int) - 1, ()))), ()) = some (match jql 47 s n with | some i => .inl (((i : Int), ()), ()) | none => .inr ((), ())) := by
  intro n
  induction n with
  | zero => intro _; exact jjQ (by rfl)
  | succ n ih =>
   intro hn
   have e : ((n + 1 : Nat) : Int) - 1 = (n : Int) := by omega
   obtain ⟨b, hb⟩ : ∃ b, s[n]? = some b := ⟨s[n], List.getElem?_eq_getElem hn⟩
   have h0 : decide ((n : Int) ≥ 0) = true := by simp
   rw [e]
   simp only [jql, hb]
   cases hc : ((b.toNat : Int) == ((47 : UInt8).toNat : Int)) with
   | true =>
    refine jjQ ?_
    simp only [g315_26, h0, cond_true, jjq, hb, Option.bind_some]
    rw [show ((b.toNat : Int) == 47) = true from hc]
    rfl
   | false =>
    refine (jqo ?_).trans (ih (by omega))
    simp only [g315_26, h0, cond_true, jjq, hb, Option.bind_some]
    rw [show ((b.toNat : Int) == 47) = false from hc, jjV (by omega) (by omega)]
    rfl
 have hw : IntKind.i64.wrap ((s.length : Int) - 1) = (s.length : Int) - 1 := jjV (by omega) (by omega)
 simp only [f315, hw, key s.length (Nat.le_refl _), Option.bind_some]
 cases jql 47 s s.length <;> rfl
theorem v_PathUp (a) (hs : Bd a.1.1.length) : f177 a = some (((bif jq7 a.1.1 then upL a.1.1 else []), ()), ()) := by
 obtain ⟨⟨s, u⟩, u'⟩ := a
 have hs : s.length ≤ 2097152 := hs
 have e1 := v_PathOk ((s, ()), ()) hs
 have e2 := v_LastIndex ((s, ((47 : Int), ())), ()) hs rfl
 simp only [f177, e1, Option.bind_some, f248, e2]
 cases jq7 s with
 | false => rfl
 | true =>
  simp only [Bool.not_true, cond_false, cond_true]
  unfold upL
  cases hl : jql 47 s s.length with
  | none =>
   have : maxI (-1) 0 = 0 := by decide
   simp only [this]
   have := subl_to (xs := s) (b := 0) (Nat.zero_le _)
   have this : jq5 s 0 0 = some (s.take 0) := this
   rw [this]; rfl
  | some i =>
   have hi := (lastBelow_lt hl).2
   have : maxI (i : Int) 0 = (i : Int) := by unfold maxI; rw [if_neg (by omega)]
   simp only [this]
   rw [subl_to (by omega)]; rfl
def jqn (t : List Entry) (p : Str) : Nat := (t.takeWhile fun e => Op.bytesLess e.path p).length
def hasAt (t : List Entry) (p : Str) : Bool := match t[jqn t p]? with
 | some e => e.path == p
 | none => false
def dirIn (t : List Entry) (p : Str) : Bool := p == [] || match t[jqn t p]? with
 | some e => e.path == p && e.kind == 1
 | none => false
theorem posL_le (t : List Entry) (p : Str) : jqn t p ≤ t.length := (List.takeWhile_prefix _).length_le
theorem v_l2At (a) (hs : Bd a.1.1.length) : f184 a = some (((jqn a.1.1 a.1.2.1 : Int), (hasAt a.1.1 a.1.2.1, ())), ()) := by
 obtain ⟨⟨t, p, u⟩, u'⟩ := a
 have hs : t.length ≤ 2097152 := hs
 have key : l184_28 ((t, (p, ((0 : Int), (false, ((0 : Int), ()))))), ()) = _ := loop_list g184_28 t (fun i (_ : Unit) => ((t, (p, ((0 : Int), (false, ((i : Int), ()))))), ()))
  (fun i e _ => some (bif Op.bytesLess e.path p then .inl () else .inr ((((t, (p, ((0 : Int), (false, ((i : Int), ()))))), ())) : YS t184_28))) (fun _ => ((t, (p, ((0 : Int), (false, ((t.length : Int), ()))))), ())) (fun i e s he => ?_) (fun s => ?_) ()
 ·have fold : ∀ (r : List Entry) (k : Nat), k + r.length = t.length → jqG (fun i (e : Entry) (_ : Unit) => some (bif Op.bytesLess e.path p then .inl () else .inr ((((t, (p, ((0 : Int), (false, ((i : Int), ()))))), ())) : YS t184_28))) (fun _ => (((t, (p, ((0 : Int), (false, ((t.length : Int), ()))))), ()) : YS t184_28)) k r () =
    some ((t, (p, ((0 : Int), (false, (((k + (r.takeWhile fun e => Op.bytesLess e.path p).length : Nat) : Int), ()))))), ()) := by
   intro r
   induction r with
   | nil => intro k hk; simp only [jqG, List.takeWhile_nil, List.length_nil, Nat.add_zero] at hk ⊢; rw [hk]
   | cons e r ih =>
    intro k hk
    simp only [jqG, List.takeWhile_cons]
    cases hl : Op.bytesLess e.path p with
    | false => rfl
    | true =>
     simp only [cond_true, if_true, List.length_cons]
     rw [ih (k + 1) (by simp only [List.length_cons] at hk; omega)]
     have : k + 1 + (r.takeWhile fun e => Op.bytesLess e.path p).length = k + ((r.takeWhile fun e => Op.bytesLess e.path p).length + 1) := by omega
     rw [this]
  rw [fold t 0 (Nat.zero_add _), Nat.zero_add] at key
  have hk : (t.takeWhile fun e => Op.bytesLess e.path p).length = jqn t p := rfl
  rw [hk] at key
  simp only [f184, key, Option.bind_some, hasAt, jjq]
  cases ht : t[jqn t p]? with
  | none =>
   have := List.getElem?_eq_none_iff.1 ht
   have : decide ((jqn t p : Int) < (t.length : Int)) = false := by simp only [decide_eq_false_iff_not]; omega
   rw [this]; rfl
  | some e => rw [jjv (jjx ht)]; rfl
 ·have hi := jjx he
  have hw : Sm i := by unfold Sm; omega
  simp only [g184_28, jjv hi, cond_true, jjq, he, Option.bind_some, jjj hw]
  cases Op.bytesLess e.path p <;> rfl
 ·simp only [g184_28, jju, cond_false]
theorem v_l2Dir (a) (hs : Bd a.1.1.length) : f105 a = some ((dirIn a.1.1 a.1.2.1, ()), ()) := by
 obtain ⟨⟨t, p, u⟩, u'⟩ := a
 have e1 := v_l2At ((t, (p, ())), ()) hs
 simp only [f105, e1, Option.bind_some, dirIn, hasAt, jjq]
 cases (p == []) with
 | true => rfl
 | false =>
  cases ht : t[jqn t p]? with
  | none => rfl
  | some e => simp only [Bool.not_false, cond_true, Option.bind_some, Bool.false_or]; cases (e.path == p) <;> rfl
def Asc (t : List Entry) : Prop := t.Pairwise fun a b => Op.bytesLess a.path b.path = true
theorem Asc.take {t : List Entry} (h : Asc t) (i : Nat) : Asc (t.take i) := List.Pairwise.sublist (List.take_sublist i t) h
theorem jqQ : ∀ {t : List Entry} {p : Str}, Asc t → ∀ (h : Nat) (e : Entry), t[h]? = some e → Op.bytesLess e.path p = decide (h < jqn t p) := by
 intro t p
 induction t with
 | nil => intro _ h e he; simp at he
 | cons x t ih =>
  intro ha h e he
  have ha' := List.pairwise_cons.1 ha
  unfold jqn
  rw [List.takeWhile_cons]
  cases hx : Op.bytesLess x.path p with
  | true =>
   simp only [if_true, List.length_cons]
   cases h with
   | zero => simp only [List.getElem?_cons_zero, Option.some.injEq] at he; subst he; rw [hx]; simp
   | succ h =>
    simp only [List.getElem?_cons_succ] at he
    rw [ih ha'.2 h e he]
    unfold jqn
    congr 1; apply propext; omega
  | false =>
   have : (decide (h < (if false = true then x :: t.takeWhile (fun e => Op.bytesLess e.path p) else []).length)) = false := by simp
   rw [this]
   cases h with
   | zero => simp only [List.getElem?_cons_zero, Option.some.injEq] at he; subst he; exact hx
   | succ h =>
    simp only [List.getElem?_cons_succ] at he
    have h2 := ha'.1 e (List.mem_of_getElem? he)
    cases h3 : Op.bytesLess e.path p with
    | false => rfl
    | true => have := bl_trans _ _ _ h2 h3; rw [hx] at this; cases this
def cmpI (a b : Str) : Int := bif Op.bytesLess a b then -1 else bif a == b then 0 else 1
theorem v_byPath (a) : f250 a = some ((cmpI a.1.1.1 a.1.2.1.1, ()), ()) := by
 obtain ⟨⟨⟨p, x1⟩, ⟨⟨q, x2⟩, x3⟩⟩, x4⟩ := a
 have h1 : (p == p) = true := by simp
 have h2 : (q == q) = true := by simp
 simp only [f250, f110, f185, Option.bind_some, h1, h2, Bool.not_true, cond_false, cmpI]
 cases Op.bytesLess p q <;> cases (p == q) <;> rfl
theorem cmpI_neg (a b : Str) : decide (cmpI a b < 0) = Op.bytesLess a b := by
 unfold cmpI
 cases Op.bytesLess a b <;> cases (a == b) <;> rfl
theorem cmpI_zero (a b : Str) : (cmpI a b == 0) = (a == b) := by
 unfold cmpI
 cases h : Op.bytesLess a b with
 | true => rw [bl_ne h]; rfl
 | false => cases (a == b) <;> rfl
theorem shr1 {n : Nat} (h : n ≤ 1099511627776) : shrI .u64 (IntKind.u64.wrap (IntKind.i64.wrap (n : Int))) 1 = some (((n / 2 : Nat)) : Int) := by
 rw [jjV (by omega) (by omega)]
 have : IntKind.u64.wrap (n : Int) = (n : Int) := by
  simp [IntKind.wrap, IntKind.bits, IntKind.signed]
  omega
 rw [this]
 unfold shrI
 rw [if_neg (by decide)]
 congr 1
 show Int.fdiv (n : Int) 2 = _
 rw [Int.fdiv_eq_ediv_of_nonneg _ (by decide)]
 omega
theorem v_findEntry (a) (hs : Bd a.1.1.length) (ha : Asc a.1.1) : f178 a = some (((jqn a.1.1 a.1.2.1 : Int), (hasAt a.1.1 a.1.2.1, ())), ()) := by
 obtain ⟨⟨t, p, u⟩, u'⟩ := a
 have hs : t.length ≤ 2097152 := hs
 have hP := posL_le t p
 have key : ∀ d i j : Nat, j - i = d → i ≤ jqn t p → jqn t p ≤ j → j ≤ t.length →
   l249v0_60 ((t, ((), ((), ((0 : Int), (false, ((t.length : Int), ((i : Int), ((j : Int), ())))))))), ((p, ((0 : Int), ((0 : Int), (([] : Str), ())))), ())) =
    some (((t, ((), ((), ((0 : Int), (false, ((t.length : Int), ((jqn t p : Int), ()))))))), ((p, ((0 : Int), ((0 : Int), (([] : Str), ())))), ()))) := by
  intro d
  induction d using Nat.strongRecOn with
  | _ d ih =>
   intro i j hd hi hj hl
   by_cases hij : i < j
   ·have hh : (i + j) / 2 < t.length := by omega
    obtain ⟨e, he⟩ : ∃ e, t[(i + j) / 2]? = some e := ⟨t[(i + j) / 2], List.getElem?_eq_getElem hh⟩
    have hsh : shrI .u64 (IntKind.u64.wrap (IntKind.i64.wrap ((i : Int) + (j : Int)))) 1 = some ((((i + j) / 2 : Nat)) : Int) := by
     rw [← shr1 (n := i + j) (by omega)]; rw [Int.natCast_add]
    have hwh : IntKind.i64.wrap (((i + j) / 2 : Nat) : Int) = (((i + j) / 2 : Nat) : Int) := jjV (by omega) (by omega)
    have hps := jqQ (t := t) (p := p) ha ((i + j) / 2) e he
    cases hb : Op.bytesLess e.path p with
    | true =>
     rw [hb] at hps
     have hlt : (i + j) / 2 < jqn t p := by simpa using hps.symm
     refine (jqo ?_).trans (ih (j - ((i + j) / 2 + 1)) (by omega) ((i + j) / 2 + 1) j rfl (by omega) hj hl)
     simp only [g249v0_60, jjv hij, cond_true, hsh, hwh, jjq, he, Option.bind_some, v_byPath, cmpI_neg, hb, jjj (i := (i + j) / 2) (by unfold Sm; omega)]
    | false =>
     rw [hb] at hps
     have hge : ¬ (i + j) / 2 < jqn t p := by simpa using hps.symm
     refine (jqo ?_).trans (ih ((i + j) / 2 - i) (by omega) i ((i + j) / 2) rfl hi (by omega) (by omega))
     simp only [g249v0_60, jjv hij, cond_true, hsh, hwh, jjq, he, Option.bind_some, v_byPath, cmpI_neg, hb, cond_false]
   ·have hi' : i = jqn t p := by omega
    have hlt : decide ((i : Int) < (j : Int)) = false := by simp only [decide_eq_false_iff_not]; omega
    refine jjQ ?_
    simp only [g249v0_60, hlt, cond_false]
    rw [hi']
 have k0 : l249v0_60 ((t, ((), ((), ((0 : Int), (false, ((t.length : Int), ((0 : Int), ((t.length : Int), ())))))))), ((p, ((0 : Int), ((0 : Int), (([] : Str), ())))), ())) = _ := key t.length 0 t.length (Nat.sub_zero _) (Nat.zero_le _) hP (Nat.le_refl _)
 have fb : f249v0 ((t, ((p, ((0 : Int), ((0 : Int), (([] : Str), ())))), ((), ()))), ()) = some (((jqn t p : Int), (hasAt t p, ())), ()) := by
  simp only [f249v0, k0, Option.bind_some, hasAt, jjq, v_byPath, cmpI_zero]
  cases ht : t[jqn t p]? with
  | none =>
   have := List.getElem?_eq_none_iff.1 ht
   have : decide ((jqn t p : Int) < (t.length : Int)) = false := by simp only [decide_eq_false_iff_not]; omega
   rw [this]; rfl
  | some e => rw [jjv (jjx ht)]; rfl
 simp only [f178, fb, Option.bind_some]
noncomputable abbrev L99 : LS := [(177, S177), (178, S178)]
theorem G99 : CtxGood Pz (cx EE L99) := gd ⟨z177, z178, ⟨⟩⟩
abbrev i99 : Shape := ⟨[tL 0 .entry, tS 1], [], 27⟩
abbrev o99 : Shape := ⟨[tB 4], [], 27⟩
noncomputable def f99 (a : i99.Y) : Option o99.Y :=
(f177 ((a.1.2.1, ()), ())).bind fun r1618 =>
 bif (r1618.1.1 == ([] : Str)) then
 some ((true, ()), ())
else
(f178 ((a.1.1, (r1618.1.1, ())), ())).bind fun r1620 =>
 bif r1620.1.2.1 then
(ix a.1.1 r1620.1.1).bind fun x1621 =>
 some (((x1621.kind == (1 : Int)), ()), ())
else
 some ((false, ()), ())
noncomputable def S99 : jjC := jjG EE Tryz.f99 i99 o99 [] f99
theorem z99 : jjf Pz 99 S99 := jjb G99 Tryz.func99 (by kernel_rfl) jja (fun y => by kernel_rfl) fun a => by kernel_rfl
noncomputable abbrev L51 : LS := [(98, S98), (99, S99)]
theorem G51 : CtxGood Pz (cx EE L51) := gd ⟨z98, z99, ⟨⟩⟩
abbrev s51_7474 : Shape := ⟨[tL 0 .entry, tI 3, tP 4 4 0, tL 8 .entry, tI 9, tI 10], [zB 4 [eS, eI, eI, eS]], 43⟩
abbrev t51_7474 : List OSh := [(.norm, ⟨[tL 0 .entry, tL 8 .entry, tI 9, tI 10, tA 15 [eS, eI, eI, eS], tB 16, tB 17, tB 18, tB 32, tB 33, tB 41], [], 43⟩)]
noncomputable def g51_7474 (y : s51_7474.Y) : Option (YS t51_7474) :=
(f98 (((y.2.1.1, (y.2.1.2.1, (y.2.1.2.2.1, (y.2.1.2.2.2.1, ())))), ()), ())).bind fun r1633 =>
 bif (!r1633.1.1) then
 some (((y.1.1, (y.1.2.2.2.1, (y.1.2.2.2.2.1, (y.1.2.2.2.2.2.1, ((y.2.1.1, (y.2.1.2.1, (y.2.1.2.2.1, (y.2.1.2.2.2.1, ())))), (r1633.1.1, ((!r1633.1.1), (true, (true, (true, (true, ()))))))))))), ()))
else
 bif (decide (y.1.2.1 > (0 : Int))) then
(ix y.1.1 (IntKind.i64.wrap (y.1.2.1 - (1 : Int)))).bind fun x1634 =>
 bif (!(Op.bytesLess x1634.path y.2.1.1)) then
 some (((y.1.1, (y.1.2.2.2.1, (y.1.2.2.2.2.1, (y.1.2.2.2.2.2.1, ((y.2.1.1, (y.2.1.2.1, (y.2.1.2.2.1, (y.2.1.2.2.2.1, ())))), (r1633.1.1, ((!r1633.1.1), (false, ((!(Op.bytesLess x1634.path y.2.1.1)), (true, (true, ()))))))))))), ()))
else
(jq5 y.1.1 (0 : Int) y.1.2.1).bind fun x1635 =>
(f99 ((x1635, (y.2.1.1, ())), ())).bind fun r1636 =>
 some (((y.1.1, (y.1.2.2.2.1, (y.1.2.2.2.2.1, (y.1.2.2.2.2.2.1, ((y.2.1.1, (y.2.1.2.1, (y.2.1.2.2.1, (y.2.1.2.2.2.1, ())))), (r1633.1.1, ((!r1633.1.1), (false, ((!(Op.bytesLess x1634.path y.2.1.1)), (false, ((!r1636.1.1), ()))))))))))), ()))
else
(jq5 y.1.1 (0 : Int) y.1.2.1).bind fun x1637 =>
(f99 ((x1637, (y.2.1.1, ())), ())).bind fun r1638 =>
 some (((y.1.1, (y.1.2.2.2.1, (y.1.2.2.2.2.1, (y.1.2.2.2.2.2.1, ((y.2.1.1, (y.2.1.2.1, (y.2.1.2.2.1, (y.2.1.2.2.2.1, ())))), (r1633.1.1, ((!r1633.1.1), (false, (false, (false, ((!r1638.1.1), ()))))))))))), ()))
theorem q51_7474 : jjk Pz (jjc (jjI (jjc (jji Tryz.f51) 1 58)) 116 7474) (jjg s51_7474 t51_7474 g51_7474) := jjD G51 (by kernel_rfl) jja fun y => by kernel_rfl
abbrev s51_58 : Shape := ⟨[tL 0 .entry, tL 8 .entry, tI 9, tI 10], [], 43⟩
abbrev t51_58 : List OSh := [(.ret, ⟨[tB 2], [], 43⟩), (.exit 0, ⟨[], [], 43⟩)]
noncomputable def g51_58 (y : s51_58.Y) : LR s51_58 t51_58 :=
 bif (decide (y.1.2.2.2.1 < y.1.2.2.1)) then
(ix y.1.2.1 y.1.2.2.2.1).bind fun x1641 =>
(g51_7474 ((y.1.1, (y.1.2.2.2.1, ((), (y.1.2.1, (y.1.2.2.1, (y.1.2.2.2.1, ())))))), ((x1641.path, (x1641.kind, (x1641.mode, (x1641.text, ())))), ()))).bind fun r1642 =>
 bif r1642.1.2.2.2.2.2.2.2.2.2.2.1 then
 some (.inr (.inl ((false, ()), ())))
else
 some (.inl ((r1642.1.1, (r1642.1.2.1, (r1642.1.2.2.1, ((IntKind.i64.wrap (r1642.1.2.2.2.1 + (1 : Int))), ())))), ()))
else
 some (.inr (.inr ((), ())))
noncomputable def l51_58 : s51_58.Y → Option (YS t51_58) := jjt g51_58
theorem q51_58 : jjk Pz (jjc (jji Tryz.f51) 1 58) (jjg s51_58 t51_58 l51_58) := jje G51 (by kernel_rfl) (frc q51_7474 jja) fun y => by kernel_rfl
abbrev i51 : Shape := ⟨[tL 0 .entry], [], 43⟩
abbrev o51 : Shape := ⟨[tB 2], [], 43⟩
noncomputable def f51 (a : i51.Y) : Option o51.Y :=
 bif (decide ((a.1.1.length : Int) > (16 : Int))) then
 some ((false, ()), ())
else
(l51_58 ((a.1.1, (a.1.1, ((a.1.1.length : Int), ((0 : Int), ())))), ())).bind fun r1643 =>
(match r1643 with
| .inl r1644 =>
 some ((r1644.1.1, ()), ())
| .inr r1645 =>
 some ((true, ()), ()))
noncomputable def S51 : jjC := jjG EE Tryz.f51 i51 o51 [] f51
theorem z51 : jjf Pz 51 S51 := jjb G51 Tryz.func51 (by kernel_rfl) (frc q51_58 jja) (fun y => by kernel_rfl) fun a => by kernel_rfl
noncomputable abbrev L55 : LS := [(104, S104), (105, S105), (106, S106)]
theorem G55 : CtxGood Pz (cx EE L55) := gd ⟨z104, z105, z106, ⟨⟩⟩
abbrev s55_840 : Shape := ⟨[tL 0 .entry, tI 3], [], 53⟩
abbrev t55_840 : List OSh := [(.norm, ⟨[tL 0 .entry, tI 3, tL 11 .entry, tI 12, (13, .lf (.rptr [.str, .int .i64, .int .i64, .str] 0)), tA 14 [eS, eI, eI, eS], tB 15, tB 16, tB 17, tB 34], [], 53⟩)]
noncomputable def g55_840 (y : s55_840.Y) : Option (YS t55_840) :=
(ix y.1.1 y.1.2.1).bind fun x369 =>
(f104 (((x369.path, (x369.kind, (x369.mode, (x369.text, ())))), ()), ())).bind fun r370 =>
 bif (!r370.1.1) then
 some (((y.1.1, (y.1.2.1, (y.1.1, (y.1.2.1, ((x369.path, (x369.kind, (x369.mode, (x369.text, ())))), ((x369.path, (x369.kind, (x369.mode, (x369.text, ())))), (r370.1.1, ((!r370.1.1), (true, (true, ())))))))))), ()))
else
 bif (decide (y.1.2.1 > (0 : Int))) then
(ix y.1.1 (IntKind.i64.wrap (y.1.2.1 - (1 : Int)))).bind fun x371 =>
(ix y.1.1 y.1.2.1).bind fun x372 =>
 some (((y.1.1, (y.1.2.1, (y.1.1, (y.1.2.1, ((x369.path, (x369.kind, (x369.mode, (x369.text, ())))), ((x369.path, (x369.kind, (x369.mode, (x369.text, ())))), (r370.1.1, ((!r370.1.1), (false, ((!(Op.bytesLess x371.path x372.path)), ())))))))))), ()))
else
 some (((y.1.1, (y.1.2.1, (y.1.1, (y.1.2.1, ((x369.path, (x369.kind, (x369.mode, (x369.text, ())))), ((x369.path, (x369.kind, (x369.mode, (x369.text, ())))), (r370.1.1, ((!r370.1.1), (false, (false, ())))))))))), ()))
theorem q55_840 : jjk Pz (jjc (jjI (jjc (jji Tryz.f55) 1 26)) 52 840) (jjg s55_840 t55_840 g55_840) := jjD G55 (by kernel_rfl) jja fun y => by kernel_rfl
abbrev s55_26 : Shape := ⟨[tL 0 .entry, tI 3], [], 53⟩
abbrev t55_26 : List OSh := [(.ret, ⟨[tB 2], [], 53⟩), (.exit 0, ⟨[tL 0 .entry], [], 53⟩)]
noncomputable def g55_26 (y : s55_26.Y) : LR s55_26 t55_26 :=
 bif (decide (y.1.2.1 < (y.1.1.length : Int))) then
(g55_840 ((y.1.1, (y.1.2.1, ())), ())).bind fun r374 =>
 bif r374.1.2.2.2.2.2.2.2.2.2.1 then
 some (.inr (.inl ((false, ()), ())))
else
 some (.inl ((r374.1.1, ((IntKind.i64.wrap (r374.1.2.1 + (1 : Int))), ())), ()))
else
 some (.inr (.inr ((y.1.1, ()), ())))
noncomputable def l55_26 : s55_26.Y → Option (YS t55_26) := jjt g55_26
theorem q55_26 : jjk Pz (jjc (jji Tryz.f55) 1 26) (jjg s55_26 t55_26 l55_26) := jje G55 (by kernel_rfl) (frc q55_840 jja) fun y => by kernel_rfl
abbrev s55_58 : Shape := ⟨[tL 0 .entry, tI 4], [], 53⟩
abbrev t55_58 : List OSh := [(.ret, ⟨[tB 2], [], 53⟩), (.exit 2, ⟨[tL 0 .entry], [], 53⟩)]
noncomputable def g55_58 (y : s55_58.Y) : LR s55_58 t55_58 :=
 bif (decide (y.1.2.1 < (y.1.1.length : Int))) then
(ix y.1.1 y.1.2.1).bind fun x396 =>
(f106 ((x396.path, ()), ())).bind fun r397 =>
(f105 ((y.1.1, (r397.1.1, ())), ())).bind fun r398 =>
 bif (!r398.1.1) then
 some (.inr (.inl ((false, ()), ())))
else
 some (.inl ((y.1.1, ((IntKind.i64.wrap (y.1.2.1 + (1 : Int))), ())), ()))
else
 some (.inr (.inr ((y.1.1, ()), ())))
noncomputable def l55_58 : s55_58.Y → Option (YS t55_58) := jjt g55_58
theorem q55_58 : jjk Pz (jjc (jji Tryz.f55) 1 58) (jjg s55_58 t55_58 l55_58) := jje G55 (by kernel_rfl) jja fun y => by kernel_rfl
abbrev i55 : Shape := ⟨[tL 0 .entry], [], 53⟩
abbrev o55 : Shape := ⟨[tB 2], [], 53⟩
noncomputable def f55 (a : i55.Y) : Option o55.Y :=
(l55_26 ((a.1.1, ((0 : Int), ())), ())).bind fun r384 =>
(match r384 with
| .inl r385 =>
 some ((r385.1.1, ()), ())
| .inr r386 =>
(l55_58 ((r386.1.1, ((0 : Int), ())), ())).bind fun r402 =>
(match r402 with
| .inl r403 =>
 some ((r403.1.1, ()), ())
| .inr r404 =>
 some (((decide ((r404.1.1.length : Int) ≤ (16 : Int))), ()), ())))
noncomputable def S55 : jjC := jjG EE Tryz.f55 i55 o55 [] f55
theorem z55 : jjf Pz 55 S55 := jjb G55 Tryz.func55 (by kernel_rfl) (frc q55_26 (frc q55_58 jja)) (fun y => by kernel_rfl) fun a => by kernel_rfl
theorem allI_congr' {α : Type} {ok ok' : Nat → α → Bool} : ∀ (xs : List α) (j : Nat), (∀ i x, xs[i]? = some x → ok (j + i) x = ok' (j + i) x) → jqz ok j xs = jqz ok' j xs := by
 intro xs
 induction xs with
 | nil => intro j _; rfl
 | cons x r ih =>
  intro j h
  simp only [jqz]
  rw [show ok j x = ok' j x from h 0 x rfl, ih (j + 1) (fun i y hy => by have := h (i + 1) y (by simpa using hy); rw [show j + (i + 1) = j + 1 + i by omega] at this; exact this)]
theorem allI_get {α : Type} {ok : Nat → α → Bool} : ∀ (xs : List α) (j : Nat), jqz ok j xs = true → ∀ i x, xs[i]? = some x → ok (j + i) x = true := by
 intro xs
 induction xs with
 | nil => intro j _ i x h; simp at h
 | cons y r ih =>
  intro j h i x hx
  simp only [jqz, Bool.and_eq_true] at h
  cases i with
  | zero => simp only [List.getElem?_cons_zero, Option.some.injEq] at hx; subst hx; exact h.1
  | succ i => have := ih (j + 1) h.2 i x (by simpa using hx); rwa [show j + 1 + i = j + (i + 1) by omega] at this
abbrev BdEs (t : List Entry) : Prop := Bd t.length ∧ ∀ e, e ∈ t → BdE e
def lessAt (t : List Entry) (i : Nat) (e : Entry) : Bool := i == 0 || match t[i - 1]? with
 | some q => Op.bytesLess q.path e.path
 | none => false
def okAt (t : List Entry) (i : Nat) (e : Entry) : Bool := entOk e && lessAt t i e
def jj3 (t : List Entry) : Bool := jqz (okAt t) 0 t && t.all (fun e => dirIn t (upL e.path)) && decide (t.length ≤ 16)
theorem dgt0 (i : Nat) : decide ((i : Int) > 0) = !(i == 0) := by
 cases i with
 | zero => rfl
 | succ i => simp
theorem v_TreeOk (a) (hs : BdEs a.1.1) : f55 a = some ((jj3 a.1.1, ()), ()) := by
 obtain ⟨⟨t, u⟩, u'⟩ := a
 obtain ⟨hl, he⟩ := hs
 have hl : t.length ≤ 2097152 := hl
 have key : l55_26 ((t, ((0 : Int), ())), ()) = some (bif jqz (okAt t) 0 t then .inr ((t, ()), ()) else .inl ((false, ()), ())) := by
  refine jjP g55_26 t (fun i => ((t, ((i : Int), ())), ())) _ _ _ (fun i x hx => ?_) ?_
  ·have hi := jjx hx
   have hw : Sm i := by unfold Sm; omega
   have hb := he x (List.mem_of_getElem? hx)
   simp only [g55_26, jjv hi, cond_true, g55_840, jjq, hx, Option.bind_some]
   rw [v_l2Entry _ hb.1 hb.2]
   simp only [Option.bind_some, okAt, dgt0]
   cases entOk x with
   | false => rfl
   | true =>
    simp only [Bool.not_true, cond_false, Bool.true_and, lessAt]
    cases i with
    | zero => simp only [beq_self_eq_true, Bool.not_true, cond_false, Option.bind_some, Bool.true_or, cond_true, jjj hw]
    | succ i =>
     have h0 : (i + 1 == 0) = false := rfl
     have hi' : i < t.length := by omega
     obtain ⟨q, hq⟩ : ∃ q, t[i]? = some q := ⟨t[i], List.getElem?_eq_getElem hi'⟩
     simp only [h0, Bool.not_false, cond_true, wrap_sub1 (i := i) (by unfold Sm; omega), jjq, hq, hx, Option.bind_some, Bool.false_or, Nat.add_sub_cancel]
     cases Op.bytesLess q.path x.path with
     | false => rfl
     | true => simp only [Bool.not_true, cond_false, cond_true, jjj hw]
  ·simp only [g55_26, jju, cond_false]
 have key2 : l55_58 ((t, ((0 : Int), ())), ()) = some (bif jqz (fun _ e => dirIn t (upL e.path)) 0 t then .inr ((t, ()), ()) else .inl ((false, ()), ())) := by
  refine jjP g55_58 t (fun i => ((t, ((i : Int), ())), ())) _ _ _ (fun i x hx => ?_) ?_
  ·have hi := jjx hx
   have hw : Sm i := by unfold Sm; omega
   have hb := he x (List.mem_of_getElem? hx)
   simp only [g55_58, jjv hi, cond_true, jjq, hx, Option.bind_some]
   rw [v_l1Up _ hb.1]
   simp only [Option.bind_some]
   rw [v_l2Dir _ hl]
   simp only [Option.bind_some, jjj hw]
   cases dirIn t (upL x.path) <;> rfl
  ·simp only [g55_58, jju, cond_false]
 rw [jjZ] at key2
 simp only [f55, key, Option.bind_some, jj3]
 cases jqz (okAt t) 0 t with
 | false => rfl
 | true =>
  simp only [cond_true, key2, Option.bind_some, Bool.true_and]
  cases List.all t (fun e => dirIn t (upL e.path)) with
  | false => rfl
  | true => have := leb6 t.length 16; simp only [cond_true, Bool.true_and]; rw [← this]; rfl
theorem asc_step {t : List Entry} {i : Nat} {e : Entry} (he : t[i]? = some e) (h : Asc (t.take i)) (hl : lessAt t i e = true) : Asc (t.take (i + 1)) := by
 rw [List.take_add_one, he]
 unfold Asc
 refine List.pairwise_append.2 ⟨h, by simp, ?_⟩
 intro a ha b hb
 have hb : b = e := by simpa using hb
 subst hb
 obtain ⟨k, hk⟩ := List.mem_iff_getElem?.1 ha
 have hki : k < i := by
  have := jjx hk
  rw [List.length_take] at this; omega
 unfold lessAt at hl
 have h0 : (i == 0) = false := by simp; omega
 rw [h0, Bool.false_or] at hl
 split at hl
 ·rename_i q hq
  by_cases hkl : k = i - 1
  ·have : t[k]? = some a := by rw [List.getElem?_take, if_pos hki] at hk; exact hk
   rw [hkl, hq] at this
   cases this; exact hl
  ·have hq' : (t.take i)[i - 1]? = some q := by rw [List.getElem?_take, if_pos (by omega)]; exact hq
   have := List.pairwise_iff_getElem.1 h k (i - 1) (jjx hk) (jjx hq') (by omega)
   rw [(List.getElem?_eq_some_iff.1 hk).2, (List.getElem?_eq_some_iff.1 hq').2] at this
   exact bl_trans _ _ _ this hl
 ·cases hl
theorem asc_of {t : List Entry} (h : jqz (okAt t) 0 t = true) : Asc t := by
 have : ∀ i, i ≤ t.length → Asc (t.take i) := by
  intro i
  induction i with
  | zero => intro _; simp [Asc]
  | succ i ih =>
   intro hi
   have he : t[i]? = some t[i] := List.getElem?_eq_getElem hi
   have := allI_get t 0 h i _ he
   rw [Nat.zero_add] at this
   simp only [okAt, Bool.and_eq_true] at this
   exact asc_step he (ih (by omega)) this.2
 have := this t.length (Nat.le_refl _)
 rwa [List.take_length] at this
theorem dirIn_take {t : List Entry} {i : Nat} {e : Entry} {p : Str} (ha : Asc t) (he : t[i]? = some e) (hp : Op.bytesLess p e.path = true) : dirIn (t.take i) p = dirIn t p := by
 have hi := jjx he
 have h1 := jqQ (p := p) ha i e he
 rw [bl_asym hp] at h1
 have hle : jqn t p ≤ i := by
  have : ¬ i < jqn t p := by simpa using h1.symm
  omega
 have hpos : jqn (t.take i) p = jqn t p := by
  by_cases hlt : jqn t p = i
  ·have hlen : (t.take i).length = i := by rw [List.length_take]; omega
   have h2 := posL_le (t.take i) p
   rw [hlen] at h2
   by_cases h3 : jqn (t.take i) p < i
   ·obtain ⟨q, hq⟩ : ∃ q, (t.take i)[jqn (t.take i) p]? = some q := ⟨_, List.getElem?_eq_getElem (by rw [hlen]; exact h3)⟩
    have h4 := jqQ (p := p) (ha.take i) _ q hq
    have hq' : t[jqn (t.take i) p]? = some q := by rw [List.getElem?_take, if_pos h3] at hq; exact hq
    have h5 := jqQ (p := p) ha _ q hq'
    rw [h4] at h5
    have : decide (jqn (t.take i) p < jqn (t.take i) p) = false := by simp
    rw [this] at h5
    have : ¬ jqn (t.take i) p < jqn t p := by simpa using h5.symm
    omega
   ·omega
  ·have hlt : jqn t p < i := by omega
   obtain ⟨q, hq⟩ : ∃ q, t[jqn t p]? = some q := ⟨_, List.getElem?_eq_getElem (by omega)⟩
   have hq' : (t.take i)[jqn t p]? = some q := by rw [List.getElem?_take, if_pos hlt]; exact hq
   have h4 := jqQ (p := p) ha _ q hq
   have h5 := jqQ (p := p) (ha.take i) _ q hq'
   have e4 : decide (jqn t p < jqn t p) = false := by simp
   rw [h4, e4] at h5
   have h6 : ¬ jqn t p < jqn (t.take i) p := by simpa using h5.symm
   by_cases h7 : jqn (t.take i) p < jqn t p
   ·obtain ⟨r, hr⟩ : ∃ r, t[jqn (t.take i) p]? = some r := ⟨_, List.getElem?_eq_getElem (by omega)⟩
    have hr' : (t.take i)[jqn (t.take i) p]? = some r := by rw [List.getElem?_take, if_pos (by omega)]; exact hr
    have h8 := jqQ (p := p) ha _ r hr
    have h9 := jqQ (p := p) (ha.take i) _ r hr'
    have e9 : decide (jqn (t.take i) p < jqn (t.take i) p) = false := by simp
    rw [h8, e9] at h9
    have : ¬ jqn (t.take i) p < jqn t p := by simpa using h9
    omega
   ·omega
 unfold dirIn
 rw [hpos]
 congr 1
 by_cases hlt : jqn t p < i
 ·rw [List.getElem?_take, if_pos hlt]
 ·have : jqn t p = i := by omega
  rw [this, he, List.getElem?_take, if_neg (by omega)]
  have : (e.path == p) = false := by
   cases h : (e.path == p) with
   | false => rfl
   | true => rw [eq_of_beq h, bl_irr] at hp; cases hp
  simp [this]
def jzc (t : List Entry) (p : Str) : Bool := dirIn t (bif jq7 p then upL p else [])
theorem v_hasPlaceFor (a) (hs : Bd a.1.1.length) (hp : Bd a.1.2.1.length) (ha : Asc a.1.1) : f99 a = some ((jzc a.1.1 a.1.2.1, ()), ()) := by
 obtain ⟨⟨t, p, u⟩, u'⟩ := a
 have e1 := v_PathUp ((p, ()), ()) hp
 have e2 := v_findEntry ((t, ((bif jq7 p then upL p else []), ())), ()) hs ha
 simp only [f99, e1, e2, Option.bind_some, jzc, dirIn, hasAt, jjq]
 generalize (bif jq7 p then upL p else []) = up
 cases (up == []) with
 | true => rfl
 | false =>
  cases ht : t[jqn t up]? with
  | none => rfl
  | some e => simp only [cond_false, cond_true, Option.bind_some, Bool.false_or]; cases (e.path == up) <;> rfl
theorem treeOk_eq (t : List Entry) : jj3 t = (decide (t.length ≤ 16) && jqz (fun i e => okAt t i e && jzc (t.take i) e.path) 0 t) := by
 unfold jj3
 rw [allI_and]
 cases h : jqz (okAt t) 0 t with
 | false => simp
 | true =>
  have ha := asc_of h
  have : jqz (fun i e => jzc (t.take i) e.path) 0 t = t.all (fun e => dirIn t (upL e.path)) := by
   rw [← jjZ _ 0 t]
   refine allI_congr' t 0 (fun i e he => ?_)
   rw [Nat.zero_add]
   have hok := allI_get t 0 h i e he
   rw [Nat.zero_add] at hok
   have hpo : jq7 e.path = true := by
    unfold okAt entOk at hok
    simp only [Bool.and_eq_true] at hok
    exact hok.1.1
   unfold jzc
   rw [hpo, cond_true]
   cases hu : (upL e.path == []) with
   | true => unfold dirIn; rw [hu]; rfl
   | false => exact dirIn_take ha he (upL_less hu)
  rw [this]; simp only [Bool.true_and]; rw [Bool.and_comm]
theorem jzo (a) (hs : BdEs a.1.1) : f51 a = some ((jj3 a.1.1, ()), ()) := by
 obtain ⟨⟨t, u⟩, u'⟩ := a
 obtain ⟨hl, he⟩ := hs
 have hl : t.length ≤ 2097152 := hl
 have key : l51_58 ((t, (t, ((t.length : Int), ((0 : Int), ())))), ()) = some (bif jqz (fun i e => okAt t i e && jzc (t.take i) e.path) 0 t then .inr ((), ()) else .inl ((false, ()), ())) := by
  have := jq1 g51_58 t (fun i (_ : Unit) => ((t, (t, ((t.length : Int), ((i : Int), ())))), ())) (fun i e _ => some (bif okAt t i e && jzc (t.take i) e.path then .inl () else .inr ((.inl ((false, ()), ())) : YS t51_58))) (fun _ => (.inr ((), ()) : YS t51_58))
   (fun i _ => Asc (t.take i)) () (by simp [Asc]) (fun i x _ hx hI => ?_) (fun _ _ => ?_)
  ·exact this.trans (jJm (fun i e => okAt t i e && jzc (t.take i) e.path) (fun _ s => s) _ _ t 0 ())
  ·have hi := jjx hx
   have hw : Sm i := by unfold Sm; omega
   have hb := he x (List.mem_of_getElem? hx)
   refine ⟨?_, fun s' h' => ?_⟩
   ·have hpl := v_hasPlaceFor ((t.take i, (x.path, ())), ()) (show (t.take i).length ≤ 2097152 by rw [List.length_take]; omega) hb.1 hI
    simp only [g51_58, jjv hi, cond_true, jjq, hx, Option.bind_some, g51_7474]
    rw [v_entryOk _ hb.1 hb.2]
    simp only [Option.bind_some, okAt, dgt0]
    cases entOk x with
    | false => rfl
    | true =>
     simp only [Bool.not_true, cond_false, Bool.true_and, lessAt]
     cases i with
     | zero =>
      have hsub : jq5 t 0 0 = some (t.take 0) := subl_to (b := 0) (Nat.zero_le _)
      have hsub : jq5 t 0 ((0 : Nat) : Int) = some (t.take 0) := hsub
      simp only [beq_self_eq_true, Bool.not_true, cond_false, hsub, Option.bind_some, hpl, Bool.true_or, Bool.true_and]
      cases jzc (t.take 0) x.path with
      | false => rfl
      | true => simp only [Bool.not_true, cond_false, cond_true, jjj hw]; rfl
     | succ i =>
      have h0 : (i + 1 == 0) = false := rfl
      have hi' : i < t.length := by omega
      obtain ⟨q, hq⟩ : ∃ q, t[i]? = some q := ⟨t[i], List.getElem?_eq_getElem hi'⟩
      have hsub : jq5 t 0 ((i + 1 : Nat) : Int) = some (t.take (i + 1)) := subl_to (by omega)
      simp only [h0, Bool.not_false, cond_true, wrap_sub1 (i := i) (by unfold Sm; omega), jjq, hq, hx, Option.bind_some, Bool.false_or, Nat.add_sub_cancel]
      cases Op.bytesLess q.path x.path with
      | false => rfl
      | true =>
       simp only [Bool.not_true, cond_false, cond_true, hsub, Option.bind_some, hpl, Bool.true_and]
       cases jzc (t.take (i + 1)) x.path with
       | false => rfl
       | true => simp only [Bool.not_true, cond_false, cond_true, jjj hw]; rfl
   ·simp only [Option.some.injEq] at h'
    cases hq : (okAt t i x && jzc (t.take i) x.path) with
    | false => rw [hq] at h'; cases h'
    | true =>
     simp only [Bool.and_eq_true] at hq
     have := hq.1
     simp only [okAt, Bool.and_eq_true] at this
     exact asc_step hx hI this.2
  ·simp only [g51_58, jju, cond_false]
 have h16 : decide ((t.length : Int) > 16) = !decide (t.length ≤ 16) := by by_cases h : t.length ≤ 16 <;> simp only [h, decide_true, decide_false, Bool.not_true, Bool.not_false, decide_eq_true_eq, decide_eq_false_iff_not] <;> omega
 simp only [f51, h16, key, Option.bind_some]
 rw [treeOk_eq]
 cases decide (t.length ≤ 16) <;> cases jqz (fun i e => okAt t i e && jzc (t.take i) e.path) 0 t <;> rfl
noncomputable abbrev L13 : LS := [(45, S45), (46, S46), (47, S47v0), (49, S49v0), (51, S51)]
theorem G13 : CtxGood Pz (cx EE L13) := gd ⟨z45, z46, z47v0, z49v0, z51, ⟨⟩⟩
abbrev s13_12 : Shape := ⟨[tP 1 1 0], [zB 1 [eS, eS, eL .need, eL .entry]], 36⟩
abbrev t13_12 : List OSh := [(.norm, ⟨[tP 1 1 0, tB 18], [zB 1 [eS, eS, eL .need, eL .entry]], 36⟩)]
noncomputable def g13_12 (y : s13_12.Y) : Option (YS t13_12) :=
(f45 ((y.2.1.1, ()), ())).bind fun r1415 =>
 bif (!(!r1415.1.1)) then
(f46 ((y.2.1.2.1, ()), ())).bind fun r1416 =>
 bif (!(!r1416.1.1)) then
 some ((((), ((decide ((y.2.1.2.2.1.length : Int) > (6 : Int))), ())), ((y.2.1.1, (y.2.1.2.1, (y.2.1.2.2.1, (y.2.1.2.2.2.1, ())))), ())))
else
 some ((((), (true, ())), ((y.2.1.1, (y.2.1.2.1, (y.2.1.2.2.1, (y.2.1.2.2.2.1, ())))), ())))
else
 some ((((), (true, ())), ((y.2.1.1, (y.2.1.2.1, (y.2.1.2.2.1, (y.2.1.2.2.2.1, ())))), ())))
theorem q13_12 : jjk Pz (jjc (jji Tryz.f13) 1 12) (jjg s13_12 t13_12 g13_12) := jjD G13 (by kernel_rfl) jja fun y => by kernel_rfl
abbrev i13 : Shape := ⟨[tA 0 [eS, eS, eL .need, eL .entry]], [], 36⟩
abbrev o13 : Shape := ⟨[tB 2], [], 36⟩
noncomputable def f13 (a : i13.Y) : Option o13.Y :=
(g13_12 (((), ()), ((a.1.1.1, (a.1.1.2.1, (a.1.1.2.2.1, (a.1.1.2.2.2.1, ())))), ()))).bind fun r1648 =>
 bif r1648.1.2.1 then
 some ((false, ()), ())
else
(f47v0 ((r1648.2.1.2.2.1, ((), ())), ())).bind fun r1649 =>
 bif r1649.1.1 then
(f49v0 ((r1648.2.1.2.2.1, ((), (([r1648.2.1.1] : List Str), ()))), ())).bind fun r1650 =>
 bif (!r1650.1.1) then
(f51 ((r1648.2.1.2.2.2.1, ()), ())).bind fun r1651 =>
 some ((r1651.1.1, ()), ())
else
 some ((false, ()), ())
else
 some ((false, ()), ())
noncomputable def S13 : jjC := jjG EE Tryz.f13 i13 o13 [] f13
theorem z13 : jjf Pz 13 S13 := jjb G13 Tryz.func13 (by kernel_rfl) (frc q13_12 jja) (fun y => by kernel_rfl) fun a => by kernel_rfl
noncomputable abbrev L115v0 : LS := [(13, S13)]
theorem G115v0 : CtxGood Pz (cx EE L115v0) := gd ⟨z13, ⟨⟩⟩
abbrev s115v0_26 : Shape := ⟨[(1, .lf (.fn 13 [])), tL 7 .pack, tI 8, tI 9], [], 18⟩
abbrev t115v0_26 : List OSh := [(.ret, ⟨[tB 4], [], 18⟩), (.exit 0, ⟨[], [], 18⟩)]
noncomputable def g115v0_26 (y : s115v0_26.Y) : LR s115v0_26 t115v0_26 :=
 bif (decide (y.1.2.2.2.1 < y.1.2.2.1)) then
(ix y.1.2.1 y.1.2.2.2.1).bind fun x1670 =>
(f13 (((x1670.name, (x1670.version, (x1670.needs, (x1670.tree, ())))), ()), ())).bind fun r1672 =>
 bif (!r1672.1.1) then
 some (.inr (.inl ((false, ()), ())))
else
 some (.inl (((), (y.1.2.1, (y.1.2.2.1, ((IntKind.i64.wrap (y.1.2.2.2.1 + (1 : Int))), ())))), ()))
else
 some (.inr (.inr ((), ())))
noncomputable def l115v0_26 : s115v0_26.Y → Option (YS t115v0_26) := jjt g115v0_26
theorem q115v0_26 : jjk Pz (jjc (jji Tryz.f115) 1 26) (jjg s115v0_26 t115v0_26 l115v0_26) := jje G115v0 (by kernel_rfl) jja fun y => by kernel_rfl
abbrev i115v0 : Shape := ⟨[tL 0 .pack, (1, .lf (.fn 13 []))], [], 18⟩
abbrev o115v0 : Shape := ⟨[tB 4], [], 18⟩
noncomputable def f115v0 (a : i115v0.Y) : Option o115v0.Y :=
(l115v0_26 (((), (a.1.1, ((a.1.1.length : Int), ((0 : Int), ())))), ())).bind fun r1676 =>
(match r1676 with
| .inl r1677 =>
 some ((r1677.1.1, ()), ())
| .inr r1678 =>
 some ((true, ()), ()))
noncomputable def S115v0 : jjC := jjG EE Tryz.f115 i115v0 o115v0 [] f115v0
theorem z115v0 : jjf Pz 115 S115v0 := jjb G115v0 Tryz.func115 (by kernel_rfl) (frc q115v0_26 jja) (fun y => by kernel_rfl) fun a => by kernel_rfl
abbrev s116_26 : Shape := ⟨[tL 0 .pack, tI 3], [], 22⟩
abbrev t116_26 : List OSh := [(.ret, ⟨[tB 2], [], 22⟩), (.exit 0, ⟨[], [], 22⟩)]
noncomputable def g116_26 (y : s116_26.Y) : LR s116_26 t116_26 :=
 bif (decide (y.1.2.1 < (y.1.1.length : Int))) then
(ix y.1.1 (IntKind.i64.wrap (y.1.2.1 - (1 : Int)))).bind fun x1686 =>
(ix y.1.1 y.1.2.1).bind fun x1687 =>
 bif (!(Op.bytesLess x1686.name x1687.name)) then
 some (.inr (.inl ((false, ()), ())))
else
 some (.inl ((y.1.1, ((IntKind.i64.wrap (y.1.2.1 + (1 : Int))), ())), ()))
else
 some (.inr (.inr ((), ())))
noncomputable def l116_26 : s116_26.Y → Option (YS t116_26) := jjt g116_26
theorem q116_26 : jjk Pz (jjc (jji Tryz.f116) 1 26) (jjg s116_26 t116_26 l116_26) := jje g0 (by kernel_rfl) jja fun y => by kernel_rfl
abbrev i116 : Shape := ⟨[tL 0 .pack], [], 22⟩
abbrev o116 : Shape := ⟨[tB 2], [], 22⟩
noncomputable def f116 (a : i116.Y) : Option o116.Y :=
(l116_26 ((a.1.1, ((1 : Int), ())), ())).bind fun r1691 =>
(match r1691 with
| .inl r1692 =>
 some ((r1692.1.1, ()), ())
| .inr r1693 =>
 some ((true, ()), ()))
noncomputable def S116 : jjC := jjG EE Tryz.f116 i116 o116 [] f116
theorem z116 : jjf Pz 116 S116 := jjb g0 Tryz.func116 (by kernel_rfl) (frc q116_26 jja) (fun y => by kernel_rfl) fun a => by kernel_rfl
noncomputable abbrev L14 : LS := [(52, S52), (53, S53), (54, S54), (55, S55)]
theorem G14 : CtxGood Pz (cx EE L14) := gd ⟨z52, z53, z54, z55, ⟨⟩⟩
abbrev i14 : Shape := ⟨[tA 0 [eS, eS, eL .need, eL .entry]], [], 23⟩
abbrev o14 : Shape := ⟨[tB 2], [], 23⟩
noncomputable def f14 (a : i14.Y) : Option o14.Y :=
(f52 ((a.1.1.1, ()), ())).bind fun r910 =>
 bif r910.1.1 then
(f53 ((a.1.1.2.1, ()), ())).bind fun r911 =>
 bif r911.1.1 then
(f54 ((a.1.1.1, (a.1.1.2.2.1, ())), ())).bind fun r912 =>
 bif r912.1.1 then
(f55 ((a.1.1.2.2.2.1, ()), ())).bind fun r913 =>
 some ((r913.1.1, ()), ())
else
 some ((false, ()), ())
else
 some ((false, ()), ())
else
 some ((false, ()), ())
noncomputable def S14 : jjC := jjG EE Tryz.f14 i14 o14 [] f14
theorem z14 : jjf Pz 14 S14 := jjb G14 Tryz.func14 (by kernel_rfl) jja (fun y => by kernel_rfl) fun a => by kernel_rfl
abbrev i170 : Shape := ⟨[tL 0 .entry], [], 6⟩
abbrev o170 : Shape := ⟨[tO 2 3000128], [zR 3000128 .entry 2 0], 6⟩
noncomputable def f170 (a : i170.Y) : Option o170.Y :=
(apd 48 ([] : List Entry) a.1.1).bind fun x76 =>
 some (((), ()), (x76, ()))
noncomputable def S170 : jjC := jjG EE Tryz.f170 i170 o170 [] f170
theorem z170 : jjf Pz 170 S170 := jjb g0 Tryz.func170 (by kernel_rfl) jja (fun y => by kernel_rfl) fun a => by kernel_rfl
noncomputable abbrev L263 : LS := [(55, S55), (170, S170), (184, S184)]
theorem G263 : CtxGood Pz (cx EE L263) := gd ⟨z55, z170, z184, ⟨⟩⟩
abbrev s263_7460 : Shape := ⟨[tL 1 .entry, tO 6 3000384, tI 7, tI 8, tB 9], [zR 3000384 .entry 6 0], 69⟩
abbrev t263_7460 : List OSh := [(.norm, ⟨[tL 1 .entry, tO 6 3000384, tI 7, tI 8, tB 9, tB 28, tB 29, tB 47], [zR 3000384 .entry 6 0], 69⟩)]
noncomputable def g263_7460 (y : s263_7460.Y) : Option (YS t263_7460) :=
 bif y.1.2.2.2.2.1 then
(inb y.2.1.length y.1.2.2.2.1).bind fun x996 =>
(y.2.1[x996]?).bind fun x997 =>
 bif (x997.kind != (1 : Int)) then
 some (((y.1.1, ((), (y.1.2.2.1, (y.1.2.2.2.1, (y.1.2.2.2.2.1, (y.1.2.2.2.2.1, (true, (true, ())))))))), (y.2.1, ())))
else
(ix y.1.1 y.1.2.2.1).bind fun x998 =>
(inb y.2.1.length y.1.2.2.2.1).bind fun x999 =>
(y.2.1[x999]?).bind fun x1000 =>
 some (((y.1.1, ((), (y.1.2.2.1, (y.1.2.2.2.1, (y.1.2.2.2.2.1, (y.1.2.2.2.2.1, (true, ((!((x998.path == x1000.path) && ((x998.kind == x1000.kind) && ((x998.mode == x1000.mode) && (x998.text == x1000.text))))), ())))))))), (y.2.1, ())))
else
 some (((y.1.1, ((), (y.1.2.2.1, (y.1.2.2.2.1, (y.1.2.2.2.2.1, (y.1.2.2.2.2.1, (false, (false, ())))))))), (y.2.1, ())))
theorem q263_7460 : jjk Pz (jjc (jjI (jjc (jji Tryz.f263) 1 58)) 116 7460) (jjg s263_7460 t263_7460 g263_7460) := jjD G263 (by kernel_rfl) jja fun y => by kernel_rfl
abbrev s263_58 : Shape := ⟨[tL 1 .entry, tO 6 3000384, tI 7], [zR 3000384 .entry 6 0], 69⟩
abbrev jzq : List OSh := [(.ret, ⟨[tO 4 3000256, tB 5], [zR 3000256 .entry 4 0], 69⟩), (.exit 0, ⟨[tO 6 3000384], [zR 3000384 .entry 6 0], 69⟩)]
noncomputable def g263_58 (y : s263_58.Y) : LR s263_58 jzq :=
 bif (decide (y.1.2.2.1 < (y.1.1.length : Int))) then
(ix y.1.1 y.1.2.2.1).bind fun x1011 =>
(f184 ((y.2.1, (x1011.path, ())), ())).bind fun r1012 =>
(g263_7460 ((y.1.1, ((), (y.1.2.2.1, (r1012.1.1, (r1012.1.2.1, ()))))), (y.2.1, ()))).bind fun r1014 =>
 bif r1014.1.2.2.2.2.2.2.2.1 then
 some (.inr (.inl (((), (false, ())), (([] : List Entry), ()))))
else
 bif (!r1014.1.2.2.2.2.1) then
(jq5 r1014.2.1 (0 : Int) r1014.1.2.2.2.1).bind fun x1015 =>
(apd 48 ([] : List Entry) x1015).bind fun x1016 =>
(ix r1014.1.1 r1014.1.2.2.1).bind fun x1017 =>
(apd 48 x1016 ([x1017] : List Entry)).bind fun x1018 =>
(jq5 r1014.2.1 r1014.1.2.2.2.1 (r1014.2.1.length : Int)).bind fun x1019 =>
(apd 48 x1018 x1019).bind fun x1020 =>
 some (.inl ((r1014.1.1, ((), ((IntKind.i64.wrap (r1014.1.2.2.1 + (1 : Int))), ()))), (x1020, ())))
else
 some (.inl ((r1014.1.1, ((), ((IntKind.i64.wrap (r1014.1.2.2.1 + (1 : Int))), ()))), (r1014.2.1, ())))
else
 some (.inr (.inr (((), ()), (y.2.1, ()))))
noncomputable def l263_58 : s263_58.Y → Option (YS jzq) := jjt g263_58
theorem q263_58 : jjk Pz (jjc (jji Tryz.f263) 1 58) (jjg s263_58 jzq l263_58) := jje G263 (by kernel_rfl) (frc q263_7460 jja) fun y => by kernel_rfl
abbrev i263 : Shape := ⟨[tL 0 .entry, tL 1 .entry], [], 69⟩
abbrev o263 : Shape := ⟨[tO 4 3000256, tB 5], [zR 3000256 .entry 4 0], 69⟩
noncomputable def f263 (a : i263.Y) : Option o263.Y :=
(f170 ((a.1.1, ()), ())).bind fun r1029 =>
(l263_58 ((a.1.2.1, ((), ((0 : Int), ()))), (r1029.2.1, ()))).bind fun r1033 =>
(match r1033 with
| .inl r1034 =>
 some (((), (r1034.1.2.1, ())), (r1034.2.1, ()))
| .inr r1035 =>
(f55 ((r1035.2.1, ()), ())).bind fun r1036 =>
 some (((), (r1036.1.1, ())), (r1035.2.1, ())))
noncomputable def S263 : jjC := jjG EE Tryz.f263 i263 o263 [] f263
theorem z263 : jjf Pz 263 S263 := jjb G263 Tryz.func263 (by kernel_rfl) (frc q263_58 jja) (fun y => by kernel_rfl) fun a => by kernel_rfl
abbrev BdP (p : Pack) : Prop := Bd p.name.length ∧ Bd p.version.length ∧ BdNs p.needs ∧ BdEs p.tree
abbrev BdPs (ps : List Pack) : Prop := Bd ps.length ∧ ∀ p, p ∈ ps → BdP p
def jxE (p : Pack) : Bool := jzd p.name && jj5 p.version && jJi p.name p.needs && jj3 p.tree
theorem v_PackOk (a) (hb : BdP ⟨a.1.1.1, a.1.1.2.1, a.1.1.2.2.1, a.1.1.2.2.2.1⟩) : f14 a = some ((jxE ⟨a.1.1.1, a.1.1.2.1, a.1.1.2.2.1, a.1.1.2.2.2.1⟩, ()), ()) := by
 obtain ⟨⟨⟨n, v, ns, t, u⟩, u'⟩, u''⟩ := a
 obtain ⟨h1, h2, h3, h4⟩ := hb
 have h1 : n.length ≤ 2097152 := h1
 have e1 := v_l3Pack ((n, ()), ()) (show n.length ≤ 1099511627776 by omega)
 have e2 := v_VersionOk ((v, ()), ()) h2
 have e3 := v_l7Needs ((n, (ns, ())), ()) h3 h1
 have e4 := v_TreeOk ((t, ()), ()) h4
 simp only [f14, e1, e2, e3, e4, Option.bind_some, jxE]
 cases jzd n <;> cases jj5 v <;> cases jJi n ns <;> rfl
theorem v_iPackOk (a) (hb : BdP ⟨a.1.1.1, a.1.1.2.1, a.1.1.2.2.1, a.1.1.2.2.2.1⟩) : f13 a = some ((jxE ⟨a.1.1.1, a.1.1.2.1, a.1.1.2.2.1, a.1.1.2.2.2.1⟩, ()), ()) := by
 obtain ⟨⟨⟨n, v, ns, t, u⟩, u'⟩, u''⟩ := a
 obtain ⟨h1, h2, h3, h4⟩ := hb
 have h1 : n.length ≤ 2097152 := h1
 have e1 := v_packNameOk ((n, ()), ()) (show n.length ≤ 1099511627776 by omega)
 have e2 := jzn ((v, ()), ()) h2
 have e3 := v_allNeed ((ns, ((), ())), ()) h3
 have e4 := jzo ((t, ()), ()) h4
 have e5 := v_namesTwice ((ns, ((), (([n] : List Str), ()))), ()) h3 (Nat.le_refl _)
 have h6 : decide ((ns.length : Int) > 6) = !decide (ns.length ≤ 6) := by by_cases h : ns.length ≤ 6 <;> simp only [h, decide_true, decide_false, Bool.not_true, Bool.not_false, decide_eq_true_eq, decide_eq_false_iff_not] <;> omega
 have hd : dupA [] (n :: ns.map (·.name)) = dupA [n] (ns.map (·.name)) := by simp [dupA]
 simp only [f13, g13_12, e1, e2, Option.bind_some, jxE, jJi, hd, h6, Bool.not_not]
 cases jzd n with
 | false => rfl
 | true =>
  cases jj5 v with
  | false => rfl
  | true =>
   cases decide (ns.length ≤ 6) with
   | false => simp only [cond_true, Bool.not_false, Option.bind_some, Bool.and_false, Bool.false_and]
   | true =>
    simp only [cond_true, Bool.not_true, cond_false, Option.bind_some, e3, e5, e4, Bool.true_and, Bool.and_true]
    cases List.all ns jqq <;> cases dupA [n] (ns.map (·.name)) <;> rfl
theorem v_allPack (a) (hs : BdPs a.1.1) : f115v0 a = some ((a.1.1.all jxE, ()), ()) := by
 obtain ⟨⟨ps, u⟩, u'⟩ := a
 obtain ⟨hl, hn⟩ := hs
 have hl : ps.length ≤ 2097152 := hl
 have key : l115v0_26 (((), (ps, ((ps.length : Int), ((0 : Int), ())))), ()) = some (bif jqz (fun _ n => jxE n) 0 ps then .inr ((), ()) else .inl ((false, ()), ())) := by
  refine jjP g115v0_26 ps (fun i => (((), (ps, ((ps.length : Int), ((i : Int), ())))), ())) _ _ _ (fun i x hx => ?_) ?_
  ·have hi := jjx hx
   have hw : Sm i := by unfold Sm; omega
   have hb := hn x (List.mem_of_getElem? hx)
   simp only [g115v0_26, jjv hi, cond_true, jjq, hx, Option.bind_some]
   rw [v_iPackOk _ hb]
   simp only [Option.bind_some, jjj hw]
   cases jxE x <;> rfl
  ·simp only [g115v0_26, jju, cond_false]
 rw [jjZ] at key
 simp only [f115v0, key, Option.bind_some]
 cases List.all ps jxE <;> rfl
def lessP (ps : List Pack) (i : Nat) (x : Pack) : Bool := match ps[i]? with
 | some q => Op.bytesLess q.name x.name
 | none => false
def ascP (ps : List Pack) : Bool := jqz (lessP ps) 0 ps.tail
theorem v_packsAscend (a) (hs : Bd a.1.1.length) : f116 a = some ((ascP a.1.1, ()), ()) := by
 obtain ⟨⟨ps, u⟩, u'⟩ := a
 have hs : ps.length ≤ 2097152 := hs
 have key : l116_26 ((ps, ((1 : Int), ())), ()) = some (bif jqz (lessP ps) 0 ps.tail then .inr ((), ()) else .inl ((false, ()), ())) := by
  refine jjP g116_26 ps.tail (fun i => ((ps, (((i + 1 : Nat) : Int), ())), ())) _ _ _ (fun i x hx => ?_) ?_
  ·have hx' : ps[i + 1]? = some x := by rw [List.getElem?_tail] at hx; exact hx
   have hi := jjx hx'
   have hw : Sm (i + 1) := by unfold Sm; omega
   obtain ⟨q, hq⟩ : ∃ q, ps[i]? = some q := ⟨ps[i], List.getElem?_eq_getElem (by omega)⟩
   simp only [g116_26, jjv hi, cond_true, wrap_sub1 (i := i) (by unfold Sm; omega), jjq, hq, hx', Option.bind_some, jjj hw, lessP]
   cases Op.bytesLess q.name x.name <;> rfl
  ·have : decide (((ps.tail.length + 1 : Nat) : Int) < (ps.length : Int)) = false := by
    simp only [decide_eq_false_iff_not, List.length_tail]; omega
   simp only [g116_26, this, cond_false]
 simp only [f116, key, Option.bind_some, ascP]
 cases jqz (lessP ps) 0 ps.tail <;> rfl
def eqE (a b : Entry) : Bool := a.path == b.path && (a.kind == b.kind && (a.mode == b.mode && a.text == b.text))
def conf (e q : Entry) : Bool := e.kind != 1 || !eqE e q
theorem eqE_comm (a b : Entry) : eqE a b = eqE b a := by
 unfold eqE
 have h1 : (a.path == b.path) = (b.path == a.path) := BEq.comm
 have h2 : (a.kind == b.kind) = (b.kind == a.kind) := BEq.comm
 have h3 : (a.mode == b.mode) = (b.mode == a.mode) := BEq.comm
 have h4 : (a.text == b.text) = (b.text == a.text) := BEq.comm
 rw [h1, h2, h3, h4]
theorem conf_eq (e q : Entry) : conf e q = (q.kind != 1 || !eqE e q) := by
 unfold conf
 cases h : eqE e q with
 | false => simp
 | true =>
  unfold eqE at h
  simp only [Bool.and_eq_true] at h
  rw [show e.kind = q.kind from eq_of_beq h.2.1]
def insAt (t : List Entry) (k : Nat) (e : Entry) : List Entry := t.take k ++ [e] ++ t.drop k
def jxL (out : List Entry) : List Entry → Option (List Entry)
 | [] => some out
 | e :: r => match out[jqn out e.path]? with
  | some q => bif q.path == e.path then (bif conf e q then none else jxL out r) else jxL (insAt out (jqn out e.path) e) r
  | none => jxL (insAt out (jqn out e.path) e) r
theorem insAt_len (t : List Entry) (k : Nat) (e : Entry) (h : k ≤ t.length) : (insAt t k e).length = t.length + 1 := by
 unfold insAt
 simp only [List.length_append, List.length_take, List.length_cons, List.length_nil, List.length_drop]; omega
theorem insAt_mem {t : List Entry} {k : Nat} {e x : Entry} (h : x ∈ insAt t k e) : x = e ∨ x ∈ t := by
 unfold insAt at h
 rcases List.mem_append.1 h with h | h
 ·rcases List.mem_append.1 h with h | h
  ·exact .inr (List.mem_of_mem_take h)
  ·exact .inl (by simpa using h)
 ·exact .inr (List.mem_of_mem_drop h)
def jzh (out : List Entry) (e : Entry) : Option (List Entry) := match out[jqn out e.path]? with
 | some q => bif q.path == e.path then (bif conf e q then none else some out) else some (insAt out (jqn out e.path) e)
 | none => some (insAt out (jqn out e.path) e)
theorem jzX (out : List Entry) (e : Entry) (r : List Entry) : jxL out (e :: r) = (jzh out e).bind fun o => jxL o r := by
 unfold jzh
 rw [jxL]
 cases out[jqn out e.path]? with
 | none => rfl
 | some q =>
  simp only
  cases (q.path == e.path) with
  | false => rfl
  | true => cases conf e q <;> rfl
theorem stepJ_len {out o : List Entry} {e : Entry} (h : jzh out e = some o) : o.length ≤ out.length + 1 := by
 unfold jzh at h
 split at h
 ·rename_i q hq
  cases hp : (q.path == e.path) with
  | true =>
   rw [hp] at h
   cases hc : conf e q with
   | true => rw [hc] at h; cases h
   | false => rw [hc] at h; cases h; omega
  | false => rw [hp] at h; cases h; rw [insAt_len _ _ _ (posL_le _ _)]; omega
 ·cases h; rw [insAt_len _ _ _ (posL_le _ _)]; omega
theorem stepJ_mem {out o : List Entry} {e x : Entry} (h : jzh out e = some o) (hx : x ∈ o) : x = e ∨ x ∈ out := by
 unfold jzh at h
 split at h
 ·rename_i q hq
  cases hp : (q.path == e.path) with
  | true =>
   rw [hp] at h
   cases hc : conf e q with
   | true => rw [hc] at h; cases h
   | false => rw [hc] at h; cases h; exact .inr hx
  | false => rw [hp] at h; cases h; exact insAt_mem hx
 ·cases h; exact insAt_mem hx
theorem asc_ins {t : List Entry} {e : Entry} (ha : Asc t) (hn : hasAt t e.path = false) : Asc (insAt t (jqn t e.path) e) := by
 have hlow : ∀ a, a ∈ t.take (jqn t e.path) → Op.bytesLess a.path e.path = true := by
  intro a h
  obtain ⟨k, hk⟩ := List.mem_iff_getElem?.1 h
  have hkp : k < jqn t e.path := by have := jjx hk; rw [List.length_take] at this; omega
  have hk' : t[k]? = some a := by rw [List.getElem?_take, if_pos hkp] at hk; exact hk
  rw [jqQ ha k a hk']; simpa using hkp
 have hhigh : ∀ a, a ∈ t.drop (jqn t e.path) → Op.bytesLess e.path a.path = true := by
  intro a h
  obtain ⟨k, hk⟩ := List.mem_iff_getElem?.1 h
  rw [List.getElem?_drop] at hk
  have h1 := jqQ (p := e.path) ha _ a hk
  have h2 : Op.bytesLess a.path e.path = false := by rw [h1]; simp
  refine bl_tri _ _ h2 ?_
  cases hq : (a.path == e.path) with
  | false => rfl
  | true =>
   exfalso
   cases k with
   | zero =>
    unfold hasAt at hn
    rw [Nat.add_zero] at hk
    rw [hk] at hn
    simp only [hq] at hn
    cases hn
   | succ k =>
    have hlt := jjx hk
    obtain ⟨q, hq0⟩ : ∃ q, t[jqn t e.path]? = some q := ⟨_, List.getElem?_eq_getElem (by omega)⟩
    have h3 := List.pairwise_iff_getElem.1 ha (jqn t e.path) (jqn t e.path + (k + 1)) (jjx hq0) hlt (by omega)
    rw [(List.getElem?_eq_some_iff.1 hq0).2, (List.getElem?_eq_some_iff.1 hk).2] at h3
    have h4 := jqQ (p := e.path) ha _ q hq0
    rw [← eq_of_beq hq, h3] at h4
    simp at h4
 unfold Asc insAt
 refine List.pairwise_append.2 ⟨List.pairwise_append.2 ⟨ha.take _, by simp, ?_⟩, List.Pairwise.sublist (List.drop_sublist _ _) ha, ?_⟩
 ·intro a h b hb
  have hb : b = e := by simpa using hb
  subst hb
  exact hlow a h
 ·intro a h b hb
  rcases List.mem_append.1 h with h | h
  ·exact bl_trans _ _ _ (hlow a h) (hhigh b hb)
  ·have h : a = e := by simpa using h
   subst h
   exact hhigh b hb
theorem stepJ_asc {out o : List Entry} {e : Entry} (ha : Asc out) (h : jzh out e = some o) : Asc o := by
 unfold jzh at h
 have hno : ∀ {b : Bool}, hasAt out e.path = b → b = false → Asc (insAt out (jqn out e.path) e) := fun h1 h2 => asc_ins ha (h1.trans h2)
 split at h
 ·rename_i q hq
  cases hp : (q.path == e.path) with
  | true =>
   rw [hp] at h
   cases hc : conf e q with
   | true => rw [hc] at h; cases h
   | false => rw [hc] at h; cases h; exact ha
  | false => rw [hp] at h; cases h; exact hno (by unfold hasAt; rw [hq]) hp
 ·rename_i hq; cases h; exact hno (by unfold hasAt; rw [hq]) rfl
theorem v_l2Join (a) (ha : BdEs a.1.1) (hb : BdEs a.1.2.1) (hl : a.1.1.length + a.1.2.1.length ≤ 2097152) : f263 a =
  some (match jxL a.1.1 a.1.2.1 with | some out => (((), (jj3 out, ())), (out, ())) | none => (((), (false, ())), (([] : List Entry), ()))) := by
 obtain ⟨⟨xs, ys, u⟩, u'⟩ := a
 have hl : xs.length + ys.length ≤ 2097152 := hl
 have hc : f170 ((xs, ()), ()) = some (((), ()), (xs, ())) := by
  simp only [f170]
  rw [jqu (by decide) (by unfold Sm; simp only [List.length_nil]; omega)]
  rfl
 have key : l263_58 ((ys, ((), ((0 : Int), ()))), (xs, ())) = _ := jq1 g263_58 ys (fun i (out : List Entry) => ((ys, ((), ((i : Int), ()))), (out, ())))
  (fun i e out => some (match jzh out e with | some o => .inl o | none => .inr ((.inl (((), (false, ())), (([] : List Entry), ()))) : YS jzq))) (fun out => ((.inr (((), ()), (out, ()))) : YS jzq))
  (fun i out => out.length ≤ xs.length + i ∧ ∀ e, e ∈ out → BdE e) xs ⟨Nat.le_refl _, ha.2⟩ (fun i x out hx hI => ?_) (fun out _ => ?_)
 ·have fold : ∀ (r : List Entry) (k : Nat) (out : List Entry), jqG (fun i e out => some (match jzh out e with | some o => .inl o | none => .inr ((.inl (((), (false, ())), (([] : List Entry), ()))) : YS jzq))) (fun out => ((.inr (((), ()), (out, ()))) : YS jzq)) k r out =
    some (match jxL out r with | some o => .inr (((), ()), (o, ())) | none => .inl (((), (false, ())), (([] : List Entry), ()))) := by
   intro r
   induction r with
   | nil => intro k out; rfl
   | cons e r ih =>
    intro k out
    rw [jzX]
    simp only [jqG]
    cases jzh out e with
    | none => rfl
    | some o => simp only [Option.bind_some]; exact ih _ _
  have mem : ∀ (r : List Entry) (out o : List Entry), (∀ e, e ∈ r → BdE e) → (∀ e, e ∈ out → BdE e) → jxL out r = some o → o.length ≤ out.length + r.length ∧ ∀ e, e ∈ o → BdE e := by
   intro r
   induction r with
   | nil => intro out o _ h2 h; cases h; exact ⟨Nat.le_refl _, h2⟩
   | cons e r ih =>
    intro out o h1 h2 h
    rw [jzX] at h
    obtain ⟨o1, h3, h4⟩ := Option.bind_eq_some_iff.1 h
    have h5 := ih o1 o (fun x hx => h1 x (List.mem_cons_of_mem _ hx)) (fun x hx => by
     rcases stepJ_mem h3 hx with rfl | h
     ·exact h1 x List.mem_cons_self
     ·exact h2 x h) h4
    have h6 := stepJ_len h3
    exact ⟨by simp only [List.length_cons]; omega, h5.2⟩
  rw [fold] at key
  simp only [f263, hc, Option.bind_some, key]
  cases hj : jxL xs ys with
  | none => rfl
  | some o =>
   have hm := mem ys xs o hb.2 ha.2 hj
   simp only [Option.bind_some]
   rw [v_TreeOk _ ⟨show o.length ≤ 2097152 by omega, hm.2⟩]
   rfl
 ·have hi := jjx hx
  have hw : Sm i := by unfold Sm; omega
  refine ⟨?_, fun s' h' => ?_⟩
  ·have hat := v_l2At ((out, (x.path, ())), ()) (show out.length ≤ 2097152 by omega)
   have hpl := posL_le out x.path
   simp only [g263_58, jjv hi, cond_true, jjq, hx, Option.bind_some, hat, g263_7460, hasAt, jzh]
   have grow : ((jq5 out 0 (jqn out x.path : Int)).bind fun x527 => (apd 48 ([] : List Entry) x527).bind fun x528 => (apd 48 x528 ([x] : List Entry)).bind fun x530 => (jq5 out (jqn out x.path : Int) (out.length : Int)).bind fun x531 => (apd 48 x530 x531).bind fun x532 =>
     (some (.inl ((ys, ((), ((IntKind.i64.wrap ((i : Int) + (1 : Int))), ()))), (x532, ()))) : Option (Sum s263_58.Y (YS jzq)))) = some (.inl ((ys, ((), (((i + 1 : Nat) : Int), ()))), (insAt out (jqn out x.path) x, ()))) := by
    have hlen : (out.take (jqn out x.path)).length ≤ out.length := by rw [List.length_take]; omega
    have hlen2 : (out.drop (jqn out x.path)).length ≤ out.length := by rw [List.length_drop]; omega
    rw [subl_to hpl, Option.bind_some, jqu (by decide) (by unfold Sm; simp only [List.length_nil]; omega), Option.bind_some, jqu (by decide) (by unfold Sm; simp only [List.length_nil, List.length_cons, List.nil_append]; omega), Option.bind_some, subl_from hpl, Option.bind_some,
     jqu (by decide) (by unfold Sm; simp only [List.length_append, List.length_nil, List.length_cons, List.nil_append]; omega), Option.bind_some, jjj hw]
    rfl
   cases hq : out[jqn out x.path]? with
   | none => simp only [cond_false, Option.bind_some, Bool.not_false, cond_true, jjq, hx]; exact grow
   | some q =>
    have hin := jqx (jjx hq)
    simp only
    cases hp : (q.path == x.path) with
    | false => simp only [cond_false, Option.bind_some, Bool.not_false, cond_true, jjq, hx]; exact grow
    | true =>
     have hce : ((x.path == q.path) && ((x.kind == q.kind) && ((x.mode == q.mode) && (x.text == q.text)))) = eqE x q := rfl
     rw [conf_eq]
     simp only [cond_true, hin, hq, Option.bind_some, jjq, hx, hce]
     cases hk : (q.kind != 1) with
     | true => rfl
     | false =>
      simp only [cond_false, Option.bind_some, Bool.false_or]
      cases eqE x q with
      | false => rfl
      | true => simp only [Bool.not_true, cond_false, Option.bind_some, jjj hw]; rfl
  ·simp only [Option.some.injEq] at h'
   cases hs : jzh out x with
   | none => rw [hs] at h'; cases h'
   | some o =>
    rw [hs] at h'
    cases h'
    have h6 := stepJ_len hs
    refine ⟨by omega, fun e he => ?_⟩
    rcases stepJ_mem hs he with rfl | h
    ·exact hb.2 e (List.mem_of_getElem? hx)
    ·exact hI.2 e h
 ·simp only [g263_58, jju, cond_false]
abbrev i187 : Shape := ⟨[tL 0 .entry], [], 8⟩
abbrev o187 : Shape := ⟨[tO 2 3000128], [zR 3000128 .entry 2 0], 8⟩
noncomputable def f187 (a : i187.Y) : Option o187.Y :=
 jxT (t := .entry) a.1.1 (some (((), ()), (([] : List Entry), ()))) ((apd 48 ([] : List Entry) a.1.1).bind fun x1828 =>
 some (((), ()), (x1828, ())))
noncomputable def S187 : jjC := jjG EE Tryz.f187 i187 o187 [] f187
theorem z187 : jjf Pz 187 S187 := jjb g0 Tryz.func187 (by kernel_rfl) jja (fun y => by kernel_rfl) fun a => by kernel_rfl
theorem ins_shift (g n c i vb m vc : Nat) (cur vcur : Array Value) (te ve : TypeId) (w : World) (hi : i < n) (hm : 0 < m) (hroom : n + m ≤ c) (hc63 : c ≤ 9223372036854775807) (hne : vb ≠ g)
  (hg : w.heap[g]? = some (.cells cur te (0, 0))) (hv : w.heap[vb]? = some (.cells vcur ve (0, 0))) (hcs : cur.size = c * 4) (hvs : m * 4 ≤ vcur.size)
  (h1c : ∀ v ∈ cur.toList.take (n * 4), v.oneCell' = true) (h1v : ∀ v ∈ vcur.toList.take (m * 4), v.oneCell' = true) :
  Calls Pz 190 #[.slice (some ⟨g, 0, none⟩) n c, .int .i64 i, .slice (some ⟨vb, 0, none⟩) m vc] w fun e w' =>
   e = .returned (.slice (some ⟨g, 0, none⟩) (n + m) c) ∧ w' = w.drew.setRow g (splice (splice cur.toList ((i + m) * 4) ((cur.toList.take (n * 4)).drop (i * 4))) (i * 4) (vcur.toList.take (m * 4))).toArray := by
 have t33 : Pz.underlying 27 = some (.slice 91) := by kernel_rfl
 have hsz : (Pz.info? 91).map (·.size) = some 4 := by kernel_rfl
 have hz1 : ¬ ((m : Int) = 0) := by omega
 have hz2 : ¬ ((i : Int) = (n : Int)) := by omega
 have hov : ∀ off lb cb, (callFunc 253 #[.slice (some ⟨vb, 0, none⟩) m vc, .slice (some ⟨g, off, none⟩) lb cb]).run Pz w = .ok (.value (.bool false)) w := fun off lb cb => by
  rw [run_callFunc_extern Tryz.func253 (by kernel_rfl) (by kernel_rfl) (by kernel_rfl) (e := Extern.SlicesOverlaps.overlaps #[27, 27] #[4]) (by kernel_rfl),
   Lib.run_overlaps_apart w 27 4 91 t33 4 (fun w => by kernel_rfl) ⟨vb, 0, none⟩ ⟨g, off, none⟩ m vc lb cb hne ve te vcur.size cur.size (by simp [World.shape?, hv]) (by simp [World.shape?, hg]) (by omega) (by simp [World.frozen?, hv]) (by simp [World.frozen?, hv])]
  rfl
 have hdl : ((cur.toList.take (n * 4)).drop (i * 4)).length = (n - i) * 4 := by simp only [List.length_drop, List.length_take, Array.length_toList, hcs]; rw [Nat.min_eq_left (by omega), Nat.sub_mul]
 have hcl : ∀ j v, (cur.toList.take (n * 4))[j]? = some v → w.cell? ⟨g, j, none⟩ = some v := fun j v h => by
  rw [List.getElem?_take] at h
  split at h
  ·simpa [World.cell?, hg] using h
  ·cases h
 have hcv : ∀ j v, (vcur.toList.take (m * 4))[j]? = some v → w.cell? ⟨vb, j, none⟩ = some v := fun j v h => by
  rw [List.getElem?_take] at h
  split at h
  ·simpa [World.cell?, hv] using h
  ·cases h
 have hcp1 : ∀ ty dc sc, (Builtin.copy_ #[27, 27] ty #[.slice (some ⟨g, (i + m) * 4, none⟩) (n + m - (i + m)) dc, .slice (some ⟨g, i * 4, none⟩) (n + m - i) sc]).run Pz w.drew =
   .ok (goInt (Nat.min (n + m - i) (n + m - (i + m)))) (w.drew.setRow g (splice cur.toList ((i + m) * 4) ((cur.toList.take (n * 4)).drop (i * 4))).toArray) := fun ty dc sc =>
  jzT w.drew _ _ ty 91 4 g ((i + m) * 4) (n + m - (i + m)) dc ⟨g, i * 4, none⟩ (n + m - i) sc cur te _ t33 hsz hg (by rw [hdl]; simp only [Nat.min_def]; split <;> omega)
   (fun j v hj => by rw [Addr.add_lit]; exact hcl (i * 4 + j) v (by rwa [List.getElem?_drop] at hj)) (by rw [hdl, hcs]; omega) (fun v hv => h1c v (List.mem_of_mem_drop hv))
 obtain ⟨cur1, hcur1⟩ : ∃ cur1, cur1 = (splice cur.toList ((i + m) * 4) ((cur.toList.take (n * 4)).drop (i * 4))).toArray := ⟨_, rfl⟩
 rw [← hcur1] at hcp1
 have hc1s : cur1.size = c * 4 := by rw [hcur1]; simp only [splice, List.size_toArray, List.length_append, List.length_drop, List.length_take, Array.length_toList, hcs]; omega
 have hcp2 : ∀ (W : World), W.heap = (w.drew.setRow g cur1).heap → ∀ ty dc, (Builtin.copy_ #[27, 27] ty #[.slice (some ⟨g, i * 4, none⟩) (n + m - i) dc, .slice (some ⟨vb, 0, none⟩) m vc]).run Pz W =
   .ok (goInt (Nat.min m (n + m - i))) (W.setRow g (splice cur1.toList (i * 4) (vcur.toList.take (m * 4))).toArray) := fun W hW ty dc =>
  jzT W _ _ ty 91 4 g (i * 4) (n + m - i) dc ⟨vb, 0, none⟩ m vc cur1 te _ t33 hsz (by rw [hW]; exact setRow_heap w.drew g cur cur1 te (0, 0) hg)
   (by simp only [List.length_take, Array.length_toList, Nat.min_def]; split <;> split <;> omega)
   (fun j v hj => by
    have := hcv j v hj
    rw [Addr.add_lit, Nat.zero_add]
    unfold World.cell? at this ⊢
    rw [hW, show (w.drew.setRow g cur1).heap[vb]? = w.heap[vb]? from setRow_other w.drew g vb cur1 hne]; exact this) (by simp only [List.length_take, Array.length_toList]; omega) h1v
 have hE : w.drew.setRow g (splice (splice cur.toList ((i + m) * 4) ((cur.toList.take (n * 4)).drop (i * 4))) (i * 4) (vcur.toList.take (m * 4))).toArray = (w.drew.setRow g cur1).setRow g (splice cur1.toList (i * 4) (vcur.toList.take (m * 4))).toArray := by
  rw [setRow_setRow, hcur1]
 rw [hE]
 clear hE hcur1
 have hw1 : IntKind.i64.wrap ((i : Int) + (m : Int)) = (i : Int) + (m : Int) := by rw [IntKind.wrap_i64]; omega
 have hb1 : (0 : Int) ≤ (i : Int) + (m : Int) := by omega
 have hin : i ≤ n := by omega
 have htn : ((i : Int) + (m : Int)).toNat = i + m := by omega
 have hb2 : ¬ (c = i + m) := by omega
 have hb3 : (i : Int) ≤ (n : Int) + (m : Int) := by omega
 have hb4 : ¬ (c = i) := by omega
 go_enter Tryz.func190, Tryz.ntmps190
 go_wp2_with (simp only [hov])
 go_region_law (refine step_copy_k rfl _ _ 27 27 rfl (.slice (some ⟨g, (i + m) * 4, none⟩) (n + m - (i + m)) (c - (i + m))) (.slice (some ⟨g, i * 4, none⟩) (n + m - i) (c - i)) (by simp [Act.eval, Act.put]) (by simp [Act.eval, Act.put]) (hcp1 _ _ _) ?_)
 go_wp2_with (at_builtin; refine wpList_copy_k _ rfl _ _ 27 27 rfl _ _ rfl rfl (hcp2 _ rfl _ _) ?_)
 go_ret
 exact ⟨rfl, rfl⟩
theorem ins_none0 (xa : Option Addr) (vc : Nat) (w : World) :
  Calls Pz 190 #[.slice none 0 0, .int .i64 0, .slice xa 0 vc] w fun e w' => e = .returned (.slice none 0 0) ∧ w' = w := by
 go_enter Tryz.func190, Tryz.ntmps190
 go_wp2
 go_ret
 exact ⟨rfl, rfl⟩
theorem ins_none1 (g n c i : Nat) (xa : Option Addr) (vc : Nat) (w : World) (hi : i ≤ n) (hnc : n ≤ c) (hc63 : c ≤ 9223372036854775807) :
  Calls Pz 190 #[.slice (some ⟨g, 0, none⟩) n c, .int .i64 i, .slice xa 0 vc] w fun e w' => e = .returned (.slice (some ⟨g, 0, none⟩) n c) ∧ w' = w := by
 go_enter Tryz.func190, Tryz.ntmps190
 go_wp2
 all_goals (go_ret; exact ⟨rfl, rfl⟩)
theorem ins_end0 (xa : Option Addr) (m vc : Nat) (w : World) (hm : 0 < m) (v' : Value) (W : World) (hr : ∀ ty, (Builtin.append_ #[27, 27] ty #[.slice none 0 0, .slice xa m vc]).run Pz w = .ok v' W) :
  Calls Pz 190 #[.slice none 0 0, .int .i64 0, .slice xa m vc] w fun e w' => e = .returned v' ∧ w' = W := by
 have hz1 : ¬ ((m : Int) = 0) := by omega
 go_enter Tryz.func190, Tryz.ntmps190
 go_wp2_with (at_builtin; refine jxk _ rfl _ _ 27 27 rfl _ _ rfl rfl (hr _) ?_)
 go_ret
 exact ⟨rfl, rfl⟩
theorem ins_end1 (g n c : Nat) (xa : Option Addr) (m vc : Nat) (w : World) (hnc : n ≤ c) (hc63 : c ≤ 9223372036854775807) (hm : 0 < m) (v' : Value) (W : World) (hr : ∀ ty, (Builtin.append_ #[27, 27] ty #[.slice (some ⟨g, 0, none⟩) n c, .slice xa m vc]).run Pz w = .ok v' W) :
  Calls Pz 190 #[.slice (some ⟨g, 0, none⟩) n c, .int .i64 n, .slice xa m vc] w fun e w' => e = .returned v' ∧ w' = W := by
 have hz1 : ¬ ((m : Int) = 0) := by omega
 go_enter Tryz.func190, Tryz.ntmps190
 go_wp2_with (at_builtin; refine jxk _ rfl _ _ 27 27 rfl _ _ rfl rfl (hr _) ?_)
 all_goals (go_ret; exact ⟨rfl, rfl⟩)
theorem ins_grow (g n c i vb m vc : Nat) (cur vcur : Array Value) (te ve : TypeId) (w : World) (hi : i < n) (hm : 0 < m) (hnc : n ≤ c) (hroom : c < n + m) (hc63 : c ≤ 9223372036854775807) (hbig : (n + m) * 48 ≤ 140737488355328)
  (hg : w.heap[g]? = some (.cells cur te (0, 0))) (hv : w.heap[vb]? = some (.cells vcur ve (0, 0))) (hcs : cur.size = c * 4) (hvs : m * 4 ≤ vcur.size)
  (h1c : ∀ v ∈ cur.toList.take (n * 4), v.oneCell' = true) (h1v : ∀ v ∈ vcur.toList.take (m * 4), v.oneCell' = true) :
  ∃ G ROW, ∃ W : World, G ≤ maxLen ∧ n + m ≤ G ∧ ROW.size = G * 4 ∧ ROW.toList.take (i * 4) = cur.toList.take (i * 4) ∧ W.os = w.os ∧ W.tape = w.tape ∧ W.output = w.output ∧ W.heap = w.heap.push (.cells ROW 91 (0, 0)) ∧
  Calls Pz 190 #[.slice (some ⟨g, 0, none⟩) n c, .int .i64 i, .slice (some ⟨vb, 0, none⟩) m vc] w fun e w' =>
   e = .returned (.slice (some ⟨w.heap.size, 0, none⟩) (n + m) G) ∧ w'.os = w.os ∧ w'.tape = w.tape ∧ w'.output = w.output ∧
    w'.heap = (W.setRow w.heap.size (splice (splice ROW.toList (i * 4) (vcur.toList.take (m * 4))) ((i + m) * 4) ((cur.toList.take (n * 4)).drop (i * 4))).toArray).heap := by
 have t33 : Pz.underlying 27 = some (.slice 91) := by kernel_rfl
 have t3 : Pz.underlying 3 = some (.int .i64) := by kernel_rfl
 have hsz : (Pz.info? 91).map (·.size) = some 4 := by kernel_rfl
 have hinfo : (Pz.info? 91).map (fun i => (i.zero.map (·.cells.size), i.size, i.bytes)) = some (some 4, 4, 48) := by kernel_rfl
 obtain ⟨i0, hi0, hzz⟩ := Option.map_eq_some_iff.1 hinfo
 simp only [Prod.mk.injEq] at hzz
 obtain ⟨hz0, hzs, hzb⟩ := hzz
 obtain ⟨z, hz, hzc⟩ := Option.map_eq_some_iff.1 hz0
 have hz1 : ¬ ((m : Int) = 0) := by omega
 have hz2 : ¬ ((i : Int) = (n : Int)) := by omega
 have hz3 : (c : Int) < (n : Int) + (m : Int) := by omega
 have hgw : g < w.heap.size := (Array.getElem?_eq_some_iff.1 hg).1
 have hvw : vb < w.heap.size := (Array.getElem?_eq_some_iff.1 hv).1
 have hkk : (n : Int) + (m : Int) - (i : Int) = ((n + m - i : Nat) : Int) := by omega
 have hik : i + (n + m - i) = n + m := by omega
 have hdl : ((cur.toList.take (n * 4)).drop (i * 4)).length = (n - i) * 4 := by simp only [List.length_drop, List.length_take, Array.length_toList, hcs]; rw [Nat.min_eq_left (by omega), Nat.sub_mul]
 have hcl : ∀ j v, (cur.toList.take (n * 4))[j]? = some v → w.cell? ⟨g, j, none⟩ = some v := fun j v h => by
  rw [List.getElem?_take] at h
  split at h
  ·simpa [World.cell?, hg] using h
  ·cases h
 have hcv : ∀ j v, (vcur.toList.take (m * 4))[j]? = some v → w.cell? ⟨vb, j, none⟩ = some v := fun j v h => by
  rw [List.getElem?_take] at h
  split at h
  ·simpa [World.cell?, hv] using h
  ·cases h
 have hold : (Builtin.firstCells i0.size i (.slice (some ⟨g, 0, none⟩) i c)).run Pz w.drew = .ok (cur.toList.take (i * 4)).toArray w.drew := by
  rw [hzs]
  exact run_firstCells_some w.drew 4 i ⟨g, 0, none⟩ i c (cur.toList.take (i * 4)) (by simp only [List.length_take, Array.length_toList, hcs]; omega) (fun j v hj => by
   rw [Addr.add_lit, Nat.zero_add]
   refine hcl j v ?_
   rw [List.getElem?_take] at hj ⊢
   split at hj
   ·rw [if_pos (by omega)]; exact hj
   ·cases hj)
 have hrz : ∀ ty, (Builtin.append_ #[27, 3] ty #[.slice (some ⟨g, 0, none⟩) i c, .int .i64 ((n : Int) + (m : Int) - (i : Int))]).run Pz w =
   .ok (.slice (some ⟨w.heap.size, 0, none⟩) (n + m) (grownCap w (n + m) c 91)) (w.drew.alloc (.cells ((cur.toList.take (i * 4)).toArray ++ Builtin.zeroCells z.cells (n + m - i) ++ Builtin.zeroCells z.cells (grownCap w (n + m) c 91 - (n + m))) 91)) := fun ty => by
  have h := Lib.run_append_grow_zeros w 27 3 ty 91 i0 z .i64 .i64 t33 t3 hi0 hz (some ⟨g, 0, none⟩) i c (cur.toList.take (i * 4)) hold (n + m - i) (by omega) (by omega) (by omega) (by omega) (by rw [hzb]; omega) (by rw [hzb, hik]; exact growslice_fits hroom hbig)
  rw [hik] at h
  rw [hkk]
  exact h
 obtain ⟨G, hG⟩ : ∃ G, G = grownCap w (n + m) c 91 := ⟨_, rfl⟩
 obtain ⟨ROW, hROW⟩ : ∃ ROW : Array Value, ROW = (cur.toList.take (i * 4)).toArray ++ Builtin.zeroCells z.cells (n + m - i) ++ Builtin.zeroCells z.cells (G - (n + m)) := ⟨_, rfl⟩
 rw [← hG] at hrz
 rw [← hROW] at hrz
 have hGn : n + m ≤ G := by rw [hG]; exact grownCap_ge w _ _ _
 have hGm : G ≤ maxLen := by rw [hG]; exact grownCap_le_maxLen w (n + m) c 91 (by unfold maxLen; omega)
 have hG63 : G ≤ 9223372036854775807 := by unfold maxLen at hGm; omega
 have hRl : ROW.size = G * 4 := by
  rw [hROW]
  simp only [Array.size_append, List.size_toArray, size_zeroCells, hzc, List.length_take, Array.length_toList, hcs]
  omega
 have hRt : ROW.toList.take (i * 4) = cur.toList.take (i * 4) := by
  rw [hROW]
  simp only [Array.toList_append, List.append_assoc]
  have : i * 4 = (cur.toList.take (i * 4)).length := by simp only [List.length_take, Array.length_toList, hcs]; omega
  exact List.take_left' this.symm
 refine ⟨G, ROW, w.drew.alloc (.cells ROW 91), hGm, hGn, hRl, hRt, rfl, rfl, rfl, rfl, ?_⟩
 obtain ⟨W1, hW1⟩ : ∃ W1, W1 = w.drew.alloc (.cells ROW 91) := ⟨_, rfl⟩
 rw [← hW1] at hrz ⊢
 have hNew : W1.heap[w.heap.size]? = some (.cells ROW 91 (0, 0)) := by rw [hW1]; exact heap_alloc_new w.drew _
 have hOld : ∀ b, b < w.heap.size → W1.heap[b]? = w.heap[b]? := fun b hb => by rw [hW1]; exact RowKit.Below.heap_alloc w.drew _ b hb
 have hos : W1.os = w.os ∧ W1.tape = w.tape ∧ W1.output = w.output := by rw [hW1]; exact ⟨rfl, rfl, rfl⟩
 have hgN : g ≠ w.heap.size := by omega
 have hvN : vb ≠ w.heap.size := by omega
 have hcpA : ∀ (W : World), W.heap = W1.heap → ∀ ty dc, (Builtin.copy_ #[27, 27] ty #[.slice (some ⟨w.heap.size, i * 4, none⟩) (n + m - i) dc, .slice (some ⟨vb, 0, none⟩) m vc]).run Pz W =
   .ok (goInt (Nat.min m (n + m - i))) (W.setRow w.heap.size (splice ROW.toList (i * 4) (vcur.toList.take (m * 4))).toArray) := fun W hW ty dc =>
  jzT W _ _ ty 91 4 w.heap.size (i * 4) (n + m - i) dc ⟨vb, 0, none⟩ m vc ROW 91 _ t33 hsz (by rw [hW]; exact hNew)
   (by simp only [List.length_take, Array.length_toList, Nat.min_def]; split <;> split <;> omega)
   (fun j v hj => by
    have := hcv j v hj
    rw [Addr.add_lit, Nat.zero_add]
    unfold World.cell? at this ⊢
    rw [hW, show W1.heap[vb]? = w.heap[vb]? from hOld vb hvw]; exact this) (by simp only [List.length_take, Array.length_toList]; omega) h1v
 obtain ⟨R2, hR2⟩ : ∃ R2, R2 = (splice ROW.toList (i * 4) (vcur.toList.take (m * 4))).toArray := ⟨_, rfl⟩
 have hE : W1.setRow w.heap.size (splice (splice ROW.toList (i * 4) (vcur.toList.take (m * 4))) ((i + m) * 4) ((cur.toList.take (n * 4)).drop (i * 4))).toArray =
   (W1.setRow w.heap.size R2).setRow w.heap.size (splice R2.toList ((i + m) * 4) ((cur.toList.take (n * 4)).drop (i * 4))).toArray := by rw [setRow_setRow, hR2]
 rw [hE]
 have hR2s : R2.size = G * 4 := by rw [hR2]; simp only [splice, List.size_toArray, List.length_append, List.length_drop, List.length_take, Array.length_toList, hRl]; omega
 rw [← hR2] at hcpA
 clear hE hR2
 have hcpB : ∀ (W : World), W.heap = (W1.setRow w.heap.size R2).heap → ∀ ty dc sc, (Builtin.copy_ #[27, 27] ty #[.slice (some ⟨w.heap.size, (i + m) * 4, none⟩) (n + m - (i + m)) dc, .slice (some ⟨g, i * 4, none⟩) (n - i) sc]).run Pz W =
   .ok (goInt (Nat.min (n - i) (n + m - (i + m)))) (W.setRow w.heap.size (splice R2.toList ((i + m) * 4) ((cur.toList.take (n * 4)).drop (i * 4))).toArray) := fun W hW ty dc sc =>
  jzT W _ _ ty 91 4 w.heap.size ((i + m) * 4) (n + m - (i + m)) dc ⟨g, i * 4, none⟩ (n - i) sc R2 91 _ t33 hsz (by rw [hW]; exact setRow_heap W1 w.heap.size ROW R2 91 (0, 0) hNew)
   (by rw [hdl]; simp only [Nat.min_def]; split <;> omega)
   (fun j v hj => by
    have := hcl (i * 4 + j) v (by rwa [List.getElem?_drop] at hj)
    rw [Addr.add_lit]
    unfold World.cell? at this ⊢
    rw [hW, show (W1.setRow w.heap.size R2).heap[g]? = w.heap[g]? from (setRow_other W1 w.heap.size g R2 hgN).trans (hOld g hgw)]; exact this) (by rw [hdl, hR2s]; omega) (fun v hv => h1c v (List.mem_of_mem_drop hv))
 have hGi : ¬ (G = i) := by omega
 have hGim : ¬ (G = i + m) := by omega
 have hci : ¬ (c = i) := by omega
 have hw1 : IntKind.i64.wrap ((i : Int) + (m : Int)) = (i : Int) + (m : Int) := by rw [IntKind.wrap_i64]; omega
 have hb1 : (0 : Int) ≤ (i : Int) + (m : Int) := by omega
 have hin : i ≤ n := by omega
 have htn : ((i : Int) + (m : Int)).toNat = i + m := by omega
 have hb3 : (i : Int) ≤ (n : Int) := by omega
 clear hkk hik hold hROW hG hRl hW1
 go_enter Tryz.func190, Tryz.ntmps190
 go_wp2_with (first
  | (at_builtin; refine jxk _ rfl _ _ 27 3 rfl _ _ rfl rfl (hrz _) ?_)
  | (at_builtin; refine wpList_copy_k _ rfl _ _ 27 27 rfl _ _ rfl rfl (hcpA _ rfl _ _) ?_))
 go_region_law (refine step_copy_k rfl _ _ 27 27 rfl (.slice (some ⟨w.heap.size, (i + m) * 4, none⟩) (n + m - (i + m)) (G - (i + m))) (.slice (some ⟨g, i * 4, none⟩) (n - i) (c - i)) (by simp [Act.eval, Act.put]) (by simp [Act.eval, Act.put]) (hcpB (W1.setRow w.heap.size R2).drew rfl 3 (G - (i + m)) (c - i)) ?_)
 go_wp2
 go_ret
 exact ⟨rfl, hos.1, hos.2.1, hos.2.2, rfl⟩
noncomputable def SH190 : jjC := insSumm .entry 48
theorem zH190 : jjf Pz 190 SH190 := insert_ok (t := .entry) (bt := 48) rfl (by decide) (T := 27) (e := 91) ⟨ins_none0, ins_none1, ins_end0, ins_end1, ins_shift, ins_grow⟩ (fun vs w => enters_of Tryz.func190 (by kernel_rfl) rfl _ _) (by kernel_rfl) (by kernel_rfl)
noncomputable abbrev L113 : LS := [(51, S51), (178, S178), (187, S187), (190, SH190)]
theorem G113 : CtxGood Pz (cx EE L113) := gd ⟨z51, z178, z187, zH190, ⟨⟩⟩
abbrev s113_12 : Shape := ⟨[tL 0 .entry, tL 1 .entry], [], 59⟩
abbrev t113_12 : List OSh := [(.norm, ⟨[tL 0 .entry, tL 1 .entry, tB 18], [], 59⟩)]
noncomputable def g113_12 (y : s113_12.Y) : Option (YS t113_12) :=
(f51 ((y.1.1, ()), ())).bind fun r1823 =>
 bif (!(!r1823.1.1)) then
(f51 ((y.1.2.1, ()), ())).bind fun r1824 =>
 some (((y.1.1, (y.1.2.1, ((!r1824.1.1), ()))), ()))
else
 some (((y.1.1, (y.1.2.1, (true, ()))), ()))
theorem q113_12 : jjk Pz (jjc (jji Tryz.f113) 1 12) (jjg s113_12 t113_12 g113_12) := jjD G113 (by kernel_rfl) jja fun y => by kernel_rfl
abbrev s113_250678 : Shape := ⟨[tO 6 3000384, tP 8 8 0, tI 9, tL 21 .entry, tI 22, tI 23], [zR 3000384 .entry 6 0, zB 8 [eS, eI, eI, eS]], 59⟩
abbrev t113_250678 : List OSh := [(.norm, ⟨[tO 6 3000384, tL 21 .entry, tI 22, tI 23, tB 42, tP 43 8 1, tI 44, tB 45, tB 46, tB 53], [zR 3000384 .entry 6 0, zB 8 [eS, eI, eI, eS]], 59⟩)]
noncomputable def jJl (y : s113_250678.Y) : Option (YS t113_250678) :=
 bif (y.2.2.1.2.1 != (1 : Int)) then
 some ((((), (y.1.2.2.2.1, (y.1.2.2.2.2.1, (y.1.2.2.2.2.2.1, (true, ((), (y.2.2.1.2.1, ((y.2.2.1.2.1 != (1 : Int)), (true, (true, ())))))))))), (y.2.1, ((y.2.2.1.1, (y.2.2.1.2.1, (y.2.2.1.2.2.1, (y.2.2.1.2.2.2.1, ())))), ()))))
else
(inb y.2.1.length y.1.2.2.1).bind fun x1849 =>
(y.2.1[x1849]?).bind fun x1850 =>
 some ((((), (y.1.2.2.2.1, (y.1.2.2.2.2.1, (y.1.2.2.2.2.2.1, ((!((x1850.path == y.2.2.1.1) && ((x1850.kind == y.2.2.1.2.1) && ((x1850.mode == y.2.2.1.2.2.1) && (x1850.text == y.2.2.1.2.2.2.1))))), ((), (y.2.2.1.2.1, ((y.2.2.1.2.1 != (1 : Int)), (false, ((!((x1850.path == y.2.2.1.1) && ((x1850.kind == y.2.2.1.2.1) && ((x1850.mode == y.2.2.1.2.2.1) && (x1850.text == y.2.2.1.2.2.2.1))))), ())))))))))), (y.2.1, ((y.2.2.1.1, (y.2.2.1.2.1, (y.2.2.1.2.2.1, (y.2.2.1.2.2.2.1, ())))), ()))))
theorem q113_250678 : jjk Pz (jjc (jjI (jjc (jji Tryz.f113) 1 122)) 244 250678) (jjg s113_250678 t113_250678 jJl) := jjD G113 (by kernel_rfl) jja fun y => by kernel_rfl
abbrev s113_122 : Shape := ⟨[tO 6 3000384, tL 21 .entry, tI 22, tI 23], [zR 3000384 .entry 6 0], 59⟩
abbrev jxV : List OSh := [(.ret, ⟨[tO 4 3000256, tB 5], [zR 3000256 .entry 4 0], 59⟩), (.exit 0, ⟨[tO 6 3000384], [zR 3000384 .entry 6 0], 59⟩)]
noncomputable def g113_122 (y : s113_122.Y) : LR s113_122 jxV :=
 bif (decide (y.1.2.2.2.1 < y.1.2.2.1)) then
(ix y.1.2.1 y.1.2.2.2.1).bind fun x1853 =>
(f178 ((y.2.1, (x1853.path, ())), ())).bind fun r1855 =>
 bif (!r1855.1.2.1) then
(insL 48 y.2.1 r1855.1.1 ([x1853] : List Entry)).bind fun r1856 =>
 some (.inl (((), (y.1.2.1, (y.1.2.2.1, ((IntKind.i64.wrap (y.1.2.2.2.1 + (1 : Int))), ())))), (r1856, ())))
else
(jJl (((), ((), (r1855.1.1, (y.1.2.1, (y.1.2.2.1, (y.1.2.2.2.1, ())))))), (y.2.1, ((x1853.path, (x1853.kind, (x1853.mode, (x1853.text, ())))), ())))).bind fun r1857 =>
 bif r1857.1.2.2.2.2.1 then
 some (.inr (.inl (((), (false, ())), (([] : List Entry), ()))))
else
 some (.inl (((), (r1857.1.2.1, (r1857.1.2.2.1, ((IntKind.i64.wrap (r1857.1.2.2.2.1 + (1 : Int))), ())))), (r1857.2.1, ())))
else
 some (.inr (.inr (((), ()), (y.2.1, ()))))
noncomputable def l113_122 : s113_122.Y → Option (YS jxV) := jjt g113_122
theorem q113_122 : jjk Pz (jjc (jji Tryz.f113) 1 122) (jjg s113_122 jxV l113_122) := jje G113 (by kernel_rfl) (frc q113_250678 jja) fun y => by kernel_rfl
abbrev i113 : Shape := ⟨[tL 0 .entry, tL 1 .entry], [], 59⟩
abbrev o113 : Shape := ⟨[tO 4 3000256, tB 5], [zR 3000256 .entry 4 0], 59⟩
noncomputable def f113 (a : i113.Y) : Option o113.Y :=
(g113_12 ((a.1.1, (a.1.2.1, ())), ())).bind fun r1832 =>
 bif r1832.1.2.2.1 then
 some (((), (false, ())), (([] : List Entry), ()))
else
(f187 ((r1832.1.1, ()), ())).bind fun r1834 =>
(l113_122 (((), (r1832.1.2.1, ((r1832.1.2.1.length : Int), ((0 : Int), ())))), (r1834.2.1, ()))).bind fun r1861 =>
(match r1861 with
| .inl r1862 =>
 some (((), (r1862.1.2.1, ())), (r1862.2.1, ()))
| .inr r1863 =>
(f51 ((r1863.2.1, ()), ())).bind fun r1867 =>
 bif (!r1867.1.1) then
 some (((), (false, ())), (([] : List Entry), ()))
else
 some (((), (true, ())), (r1863.2.1, ())))
noncomputable def S113 : jjC := jjG EE Tryz.f113 i113 o113 [] f113
theorem z113 : jjf Pz 113 S113 := jjb G113 Tryz.func113 (by kernel_rfl) (frc q113_12 (frc q113_122 jja)) (fun y => by kernel_rfl) fun a => by kernel_rfl
noncomputable abbrev L201 : LS := [(263, S263)]
theorem G201 : CtxGood Pz (cx EE L201) := gd ⟨z263, ⟨⟩⟩
abbrev s201_58 : Shape := ⟨[tL 0 .pack, tO 4 3000256, tI 5], [zR 3000256 .entry 4 0], 30⟩
abbrev jJd : List OSh := [(.ret, ⟨[tO 2 3000128, tB 3], [zR 3000128 .entry 2 0], 30⟩), (.exit 0, ⟨[tO 4 3000256], [zR 3000256 .entry 4 0], 30⟩)]
noncomputable def g201_58 (y : s201_58.Y) : LR s201_58 jJd :=
 bif (decide (y.1.2.2.1 < (y.1.1.length : Int))) then
(ix y.1.1 y.1.2.2.1).bind fun x1042 =>
(f263 ((y.2.1, (x1042.tree, ())), ())).bind fun r1043 =>
 bif (!r1043.1.2.1) then
 some (.inr (.inl (((), (false, ())), (([] : List Entry), ()))))
else
 some (.inl ((y.1.1, ((), ((IntKind.i64.wrap (y.1.2.2.1 + (1 : Int))), ()))), (r1043.2.1, ())))
else
 some (.inr (.inr (((), ()), (y.2.1, ()))))
noncomputable def l201_58 : s201_58.Y → Option (YS jJd) := jjt g201_58
theorem q201_58 : jjk Pz (jjc (jji Tryz.f201) 1 58) (jjg s201_58 jJd l201_58) := jje G201 (by kernel_rfl) jja fun y => by kernel_rfl
abbrev i201 : Shape := ⟨[tL 0 .pack], [], 30⟩
abbrev o201 : Shape := ⟨[tO 2 3000128, tB 3], [zR 3000128 .entry 2 0], 30⟩
noncomputable def f201 (a : i201.Y) : Option o201.Y :=
(l201_58 ((a.1.1, ((), ((0 : Int), ()))), (([] : List Entry), ()))).bind fun r1053 =>
(match r1053 with
| .inl r1054 =>
 some (((), (r1054.1.2.1, ())), (r1054.2.1, ()))
| .inr r1055 =>
 some (((), (true, ())), (r1055.2.1, ())))
noncomputable def S201 : jjC := jjG EE Tryz.f201 i201 o201 [] f201
theorem z201 : jjf Pz 201 S201 := jjb G201 Tryz.func201 (by kernel_rfl) (frc q201_58 jja) (fun y => by kernel_rfl) fun a => by kernel_rfl
noncomputable abbrev L60 : LS := [(113, S113)]
theorem G60 : CtxGood Pz (cx EE L60) := gd ⟨z113, ⟨⟩⟩
abbrev s60_58 : Shape := ⟨[tO 4 3000256, tL 9 .pack, tI 10, tI 11], [zR 3000256 .entry 4 0], 27⟩
abbrev t60_58 : List OSh := [(.ret, ⟨[tO 2 3000128, tB 3], [zR 3000128 .entry 2 0], 27⟩), (.exit 0, ⟨[tO 4 3000256], [zR 3000256 .entry 4 0], 27⟩)]
noncomputable def g60_58 (y : s60_58.Y) : LR s60_58 t60_58 :=
 bif (decide (y.1.2.2.2.1 < y.1.2.2.1)) then
(ix y.1.2.1 y.1.2.2.2.1).bind fun x1871 =>
(f113 ((y.2.1, (x1871.tree, ())), ())).bind fun r1873 =>
 bif (!r1873.1.2.1) then
 some (.inr (.inl (((), (false, ())), (([] : List Entry), ()))))
else
 some (.inl (((), (y.1.2.1, (y.1.2.2.1, ((IntKind.i64.wrap (y.1.2.2.2.1 + (1 : Int))), ())))), (r1873.2.1, ())))
else
 some (.inr (.inr (((), ()), (y.2.1, ()))))
noncomputable def l60_58 : s60_58.Y → Option (YS t60_58) := jjt g60_58
theorem q60_58 : jjk Pz (jjc (jji Tryz.f60) 1 58) (jjg s60_58 t60_58 l60_58) := jje G60 (by kernel_rfl) jja fun y => by kernel_rfl
abbrev i60 : Shape := ⟨[tL 0 .pack], [], 27⟩
abbrev o60 : Shape := ⟨[tO 2 3000128, tB 3], [zR 3000128 .entry 2 0], 27⟩
noncomputable def f60 (a : i60.Y) : Option o60.Y :=
(l60_58 (((), (a.1.1, ((a.1.1.length : Int), ((0 : Int), ())))), (([] : List Entry), ()))).bind fun r1883 =>
(match r1883 with
| .inl r1884 =>
 some (((), (r1884.1.2.1, ())), (r1884.2.1, ()))
| .inr r1885 =>
 some (((), (true, ())), (r1885.2.1, ())))
noncomputable def S60 : jjC := jjG EE Tryz.f60 i60 o60 [] f60
theorem z60 : jjf Pz 60 S60 := jjb G60 Tryz.func60 (by kernel_rfl) (frc q60_58 jja) (fun y => by kernel_rfl) fun a => by kernel_rfl
theorem joinL_mem : ∀ (r : List Entry) (out o : List Entry), (∀ e, e ∈ r → BdE e) → (∀ e, e ∈ out → BdE e) → jxL out r = some o → o.length ≤ out.length + r.length ∧ ∀ e, e ∈ o → BdE e := by
 intro r
 induction r with
 | nil => intro out o _ h2 h; cases h; exact ⟨Nat.le_refl _, h2⟩
 | cons e r ih =>
  intro out o h1 h2 h
  rw [jzX] at h
  obtain ⟨o1, h3, h4⟩ := Option.bind_eq_some_iff.1 h
  have h5 := ih o1 o (fun x hx => h1 x (List.mem_cons_of_mem _ hx)) (fun x hx => by
   rcases stepJ_mem h3 hx with rfl | h
   ·exact h1 x List.mem_cons_self
   ·exact h2 x h) h4
  have h6 := stepJ_len h3
  exact ⟨by simp only [List.length_cons]; omega, h5.2⟩
theorem treeOk_asc {t : List Entry} (h : jj3 t = true) : Asc t := by
 unfold jj3 at h
 simp only [Bool.and_eq_true] at h
 exact asc_of h.1.1
theorem jqm {t : List Entry} (h : jj3 t = true) : t.length ≤ 16 := by
 unfold jj3 at h
 simp only [Bool.and_eq_true, decide_eq_true_eq] at h
 exact h.2
theorem v_CloneE (a) (hs : Bd a.1.1.length) : f187 a = some (((), ()), (a.1.1, ())) := by
 obtain ⟨⟨xs, u⟩, u'⟩ := a
 have hs : xs.length ≤ 2097152 := hs
 have h2 : (apd 48 ([] : List Entry) xs).bind (fun x => some (((), ()), (x, ()))) = (some (((), ()), (xs, ())) : Option o187.Y) := by
  rw [jqu (by decide) (by unfold Sm; simp only [List.length_nil]; omega)]; rfl
 simp only [f187]
 rw [h2]
 unfold jxT
 split
 ·rfl
 ·rename_i h
  exact absurd (fun he : xs = [] => by subst he; rfl) h
theorem v_TreeJoin (a) (ha : BdEs a.1.1) (hb : BdEs a.1.2.1) (h1 : jj3 a.1.1 = true) (h2 : jj3 a.1.2.1 = true) : f113 a =
  some (match jxL a.1.1 a.1.2.1 with | some out => (bif jj3 out then (((), (true, ())), (out, ())) else (((), (false, ())), (([] : List Entry), ()))) | none => (((), (false, ())), (([] : List Entry), ()))) := by
 obtain ⟨⟨xs, ys, u⟩, u'⟩ := a
 have h1 : jj3 xs = true := h1
 have h2 : jj3 ys = true := h2
 have hx16 := jqm h1
 have hy16 := jqm h2
 have e1 := jzo ((xs, ()), ()) ha
 have e2 := jzo ((ys, ()), ()) hb
 have e3 := v_CloneE ((xs, ()), ()) (show xs.length ≤ 2097152 by omega)
 have key : l113_122 (((), (ys, ((ys.length : Int), ((0 : Int), ())))), (xs, ())) = _ := jq1 g113_122 ys (fun i (out : List Entry) => (((), (ys, ((ys.length : Int), ((i : Int), ())))), (out, ())))
  (fun i e out => some (match jzh out e with | some o => .inl o | none => .inr ((.inl (((), (false, ())), (([] : List Entry), ()))) : YS jxV))) (fun out => ((.inr (((), ()), (out, ()))) : YS jxV))
  (fun i out => out.length ≤ xs.length + i ∧ Asc out) xs ⟨Nat.le_refl _, treeOk_asc h1⟩ (fun i x out hx hI => ?_) (fun out _ => ?_)
 ·have fold : ∀ (r : List Entry) (k : Nat) (out : List Entry), jqG (fun i e out => some (match jzh out e with | some o => .inl o | none => .inr ((.inl (((), (false, ())), (([] : List Entry), ()))) : YS jxV))) (fun out => ((.inr (((), ()), (out, ()))) : YS jxV)) k r out =
    some (match jxL out r with | some o => .inr (((), ()), (o, ())) | none => .inl (((), (false, ())), (([] : List Entry), ()))) := by
   intro r
   induction r with
   | nil => intro k out; rfl
   | cons e r ih =>
    intro k out
    rw [jzX]
    simp only [jqG]
    cases jzh out e with
    | none => rfl
    | some o => simp only [Option.bind_some]; exact ih _ _
  rw [fold] at key
  simp only [f113, g113_12, e1, e2, h1, h2, e3, Bool.not_true, Bool.not_false, cond_true, cond_false, Option.bind_some, key]
  cases hj : jxL xs ys with
  | none => rfl
  | some o =>
   have hm := joinL_mem ys xs o hb.2 ha.2 hj
   simp only [Option.bind_some]
   rw [jzo _ ⟨show o.length ≤ 2097152 by omega, hm.2⟩]
   simp only [Option.bind_some]
   cases jj3 o <;> rfl
 ·have hi := jjx hx
  have hw : Sm i := by unfold Sm; omega
  refine ⟨?_, fun s' h' => ?_⟩
  ·have hat := v_findEntry ((out, (x.path, ())), ()) (show out.length ≤ 2097152 by omega) hI.2
   have hpl := posL_le out x.path
   simp only [g113_122, jjv hi, cond_true, jjq, hx, Option.bind_some, hat, hasAt, jzh]
   have grow : insL 48 out (jqn out x.path : Int) [x] = some (insAt out (jqn out x.path) x) := by
    unfold insL
    rw [if_pos ⟨by omega, by omega, by unfold room; simp only [List.length_cons, List.length_nil]; omega, by unfold maxLen; simp only [List.length_cons, List.length_nil]; omega⟩, Int.toNat_natCast]
    rfl
   cases hq : out[jqn out x.path]? with
   | none => simp only [Bool.not_false, cond_true, grow, Option.bind_some, jjj hw]; rfl
   | some q =>
    have hin := jqx (jjx hq)
    simp only
    cases hp : (q.path == x.path) with
    | false => simp only [Bool.not_false, cond_true, grow, Option.bind_some, jjj hw, cond_false]; rfl
    | true =>
     have hce : ((q.path == x.path) && ((q.kind == x.kind) && ((q.mode == x.mode) && (q.text == x.text)))) = eqE q x := rfl
     simp only [Bool.not_true, cond_false, cond_true, jJl, hin, hq, Option.bind_some, conf, eqE_comm x q]
     cases hk : (x.kind != 1) with
     | true => rfl
     | false =>
      have hce2 : (eqE q x) = ((q.path == x.path) && ((q.kind == x.kind) && ((q.mode == x.mode) && (q.text == x.text)))) := rfl
      rw [hce2]
      cases ((q.path == x.path) && ((q.kind == x.kind) && ((q.mode == x.mode) && (q.text == x.text)))) with
      | false => rfl
      | true => simp only [Bool.not_true, Bool.false_or, cond_false, Option.bind_some, jjj hw]; rfl
  ·simp only [Option.some.injEq] at h'
   cases hs : jzh out x with
   | none => rw [hs] at h'; cases h'
   | some o =>
    rw [hs] at h'
    cases h'
    have h6 := stepJ_len hs
    exact ⟨by omega, stepJ_asc hI.2 hs⟩
 ·simp only [g113_122, jju, cond_false]
def jqA (out : List Entry) : List Pack → Option (List Entry)
 | [] => some out
 | p :: r => match jxL out p.tree with
  | some o => bif jj3 o then jqA o r else none
  | none => none
def stepT (out : List Entry) (p : Pack) : Option (List Entry) := match jxL out p.tree with
 | some o => bif jj3 o then some o else none
 | none => none
theorem treesL_step (out : List Entry) (p : Pack) (r : List Pack) : jqA out (p :: r) = (stepT out p).bind fun o => jqA o r := by
 unfold stepT
 rw [jqA]
 cases jxL out p.tree with
 | none => rfl
 | some o => simp only; cases jj3 o <;> rfl
theorem stepT_ok {out o : List Entry} {p : Pack} (h : stepT out p = some o) : jj3 o = true ∧ jxL out p.tree = some o := by
 unfold stepT at h
 split at h
 ·rename_i o' ho
  cases ht : jj3 o' with
  | true => rw [ht] at h; cases h; exact ⟨ht, ho⟩
  | false => rw [ht] at h; cases h
 ·cases h
theorem v_l9TreeV (a) (hb : BdPs a.1.1) (hk : a.1.1.all jxE = true) : f201 a = some (((), ((jqA [] a.1.1).isSome, ())), ((jqA [] a.1.1).getD [], ())) := by
 obtain ⟨⟨ps, u⟩, u'⟩ := a
 have hl : ps.length ≤ 2097152 := hb.1
 have htr : ∀ p, p ∈ ps → jj3 p.tree = true ∧ BdEs p.tree := by
  intro p hp
  have := List.all_eq_true.1 hk p hp
  unfold jxE at this
  simp only [Bool.and_eq_true] at this
  exact ⟨this.2, (hb.2 p hp).2.2.2⟩
 have key : l201_58 ((ps, ((), ((0 : Int), ()))), (([] : List Entry), ())) = _ := jq1 g201_58 ps (fun i (out : List Entry) => ((ps, ((), ((i : Int), ()))), (out, ())))
  (fun i p out => some (match stepT out p with | some o => .inl o | none => .inr ((.inl (((), (false, ())), (([] : List Entry), ()))) : YS jJd))) (fun out => ((.inr (((), ()), (out, ()))) : YS jJd))
  (fun i out => out.length ≤ 16 ∧ ∀ e, e ∈ out → BdE e) [] ⟨Nat.zero_le _, fun e h => by cases h⟩ (fun i x out hx hI => ?_) (fun out _ => ?_)
 ·have fold : ∀ (r : List Pack) (k : Nat) (out : List Entry), jqG (fun i p out => some (match stepT out p with | some o => .inl o | none => .inr ((.inl (((), (false, ())), (([] : List Entry), ()))) : YS jJd))) (fun out => ((.inr (((), ()), (out, ()))) : YS jJd)) k r out =
    some (match jqA out r with | some o => .inr (((), ()), (o, ())) | none => .inl (((), (false, ())), (([] : List Entry), ()))) := by
   intro r
   induction r with
   | nil => intro k out; rfl
   | cons p r ih =>
    intro k out
    rw [treesL_step]
    simp only [jqG]
    cases stepT out p with
    | none => rfl
    | some o => simp only [Option.bind_some]; exact ih _ _
  rw [fold] at key
  simp only [f201, key, Option.bind_some]
  cases jqA [] ps with
  | none => rfl
  | some o => rfl
 ·have hi := jjx hx
  have hw : Sm i := by unfold Sm; omega
  obtain ⟨hto, hbe⟩ := htr x (List.mem_of_getElem? hx)
  have h16 := jqm hto
  have hO : BdEs out := ⟨show out.length ≤ 2097152 by omega, hI.2⟩
  refine ⟨?_, fun s' h' => ?_⟩
  ·have hj := v_l2Join ((out, (x.tree, ())), ()) hO hbe (show out.length + x.tree.length ≤ 2097152 by omega)
   simp only [g201_58, jjv hi, cond_true, jjq, hx, Option.bind_some, hj, stepT]
   cases jxL out x.tree with
   | none => rfl
   | some o =>
    simp only
    cases jj3 o with
    | false => rfl
    | true => simp only [Bool.not_true, cond_false, cond_true, jjj hw]; rfl
  ·simp only [Option.some.injEq] at h'
   cases hs : stepT out x with
   | none => rw [hs] at h'; cases h'
   | some o =>
    rw [hs] at h'
    cases h'
    obtain ⟨h5, h6⟩ := stepT_ok hs
    exact ⟨jqm h5, (joinL_mem _ _ _ hbe.2 hI.2 h6).2⟩
 ·simp only [g201_58, jju, cond_false]
theorem v_l9Tree (a) (hb : BdPs a.1.1) (hk : a.1.1.all jxE = true) : ∃ out, f201 a = some (((), ((jqA [] a.1.1).isSome, ())), (out, ())) := ⟨_, v_l9TreeV a hb hk⟩
theorem v_joinTreesV (a) (hb : BdPs a.1.1) (hk : a.1.1.all jxE = true) : f60 a = some (((), ((jqA [] a.1.1).isSome, ())), ((jqA [] a.1.1).getD [], ())) := by
 obtain ⟨⟨ps, u⟩, u'⟩ := a
 have hl : ps.length ≤ 2097152 := hb.1
 have htr : ∀ p, p ∈ ps → jj3 p.tree = true ∧ BdEs p.tree := by
  intro p hp
  have := List.all_eq_true.1 hk p hp
  unfold jxE at this
  simp only [Bool.and_eq_true] at this
  exact ⟨this.2, (hb.2 p hp).2.2.2⟩
 have key : l60_58 (((), (ps, ((ps.length : Int), ((0 : Int), ())))), (([] : List Entry), ())) = _ := jq1 g60_58 ps (fun i (out : List Entry) => (((), (ps, ((ps.length : Int), ((i : Int), ())))), (out, ())))
  (fun i p out => some (match stepT out p with | some o => .inl o | none => .inr ((.inl (((), (false, ())), (([] : List Entry), ()))) : YS t60_58))) (fun out => ((.inr (((), ()), (out, ()))) : YS t60_58))
  (fun i out => jj3 out = true ∧ ∀ e, e ∈ out → BdE e) [] ⟨rfl, fun e h => by cases h⟩ (fun i x out hx hI => ?_) (fun out _ => ?_)
 ·have fold : ∀ (r : List Pack) (k : Nat) (out : List Entry), jqG (fun i p out => some (match stepT out p with | some o => .inl o | none => .inr ((.inl (((), (false, ())), (([] : List Entry), ()))) : YS t60_58))) (fun out => ((.inr (((), ()), (out, ()))) : YS t60_58)) k r out =
    some (match jqA out r with | some o => .inr (((), ()), (o, ())) | none => .inl (((), (false, ())), (([] : List Entry), ()))) := by
   intro r
   induction r with
   | nil => intro k out; rfl
   | cons p r ih =>
    intro k out
    rw [treesL_step]
    simp only [jqG]
    cases stepT out p with
    | none => rfl
    | some o => simp only [Option.bind_some]; exact ih _ _
  rw [fold] at key
  simp only [f60, key, Option.bind_some]
  cases jqA [] ps with
  | none => rfl
  | some o => rfl
 ·have hi := jjx hx
  have hw : Sm i := by unfold Sm; omega
  obtain ⟨hto, hbe⟩ := htr x (List.mem_of_getElem? hx)
  have h16 := jqm hI.1
  have hO : BdEs out := ⟨show out.length ≤ 2097152 by omega, hI.2⟩
  refine ⟨?_, fun s' h' => ?_⟩
  ·have hj := v_TreeJoin ((out, (x.tree, ())), ()) hO hbe hI.1 hto
   simp only [g60_58, jjv hi, cond_true, jjq, hx, Option.bind_some, hj, stepT]
   cases jxL out x.tree with
   | none => rfl
   | some o =>
    simp only
    cases jj3 o with
    | false => rfl
    | true => simp only [Bool.not_true, cond_false, cond_true, jjj hw]; rfl
  ·simp only [Option.some.injEq] at h'
   cases hs : stepT out x with
   | none => rw [hs] at h'; cases h'
   | some o =>
    rw [hs] at h'
    cases h'
    obtain ⟨h5, h6⟩ := stepT_ok hs
    exact ⟨h5, (joinL_mem _ _ _ hbe.2 hI.2 h6).2⟩
 ·simp only [g60_58, jju, cond_false]
theorem v_joinTrees (a) (hb : BdPs a.1.1) (hk : a.1.1.all jxE = true) : ∃ out, f60 a = some (((), ((jqA [] a.1.1).isSome, ())), (out, ())) := ⟨_, v_joinTreesV a hb hk⟩
abbrev s307_104 : Shape := ⟨[tL 0 .i64, tL 1 .i64, tI 5], [], 42⟩
abbrev t307_104 : List OSh := [(.norm, ⟨[tL 0 .i64, tL 1 .i64, tI 5], [], 42⟩), (.exit 0, ⟨[], [], 42⟩)]
noncomputable def jzZ (y : s307_104.Y) : Option (YS t307_104) :=
 bif (!(decide (y.1.2.2.1 < (y.1.1.length : Int)))) then
 bif (decide (y.1.2.2.1 < (y.1.2.1.length : Int))) then
 some (.inl ((y.1.1, (y.1.2.1, (y.1.2.2.1, ()))), ()))
else
 some (.inr ((), ()))
else
 some (.inl ((y.1.1, (y.1.2.1, (y.1.2.2.1, ()))), ()))
theorem q307_104 : jjk Pz (jjc (jjI (jjc (jji Tryz.f307) 1 26)) 52 104) (jjg s307_104 t307_104 jzZ) := jjD g0 (by kernel_rfl) jja fun y => by kernel_rfl
abbrev s307_3366 : Shape := ⟨[tL 0 .i64, tL 1 .i64, tI 5, tI 6, tI 7], [], 42⟩
abbrev t307_3366 : List OSh := [(.norm, ⟨[tL 0 .i64, tL 1 .i64, tI 5, tI 6, tI 7], [], 42⟩)]
noncomputable def jzF (y : s307_3366.Y) : Option (YS t307_3366) :=
 bif (decide (y.1.2.2.1 < (y.1.1.length : Int))) then
(ix y.1.1 y.1.2.2.1).bind fun x1085 =>
 some (((y.1.1, (y.1.2.1, (y.1.2.2.1, (x1085, (y.1.2.2.2.2.1, ()))))), ()))
else
 some (((y.1.1, (y.1.2.1, (y.1.2.2.1, (y.1.2.2.2.1, (y.1.2.2.2.2.1, ()))))), ()))
theorem q307_3366 : jjk Pz (jjc (jjI (jjc (jji Tryz.f307) 1 26)) 52 3366) (jjg s307_3366 t307_3366 jzF) := jjD g0 (by kernel_rfl) jja fun y => by kernel_rfl
abbrev s307_6734 : Shape := ⟨[tL 0 .i64, tL 1 .i64, tI 5, tI 6, tI 7], [], 42⟩
abbrev t307_6734 : List OSh := [(.norm, ⟨[tL 0 .i64, tL 1 .i64, tI 5, tI 6, tI 7], [], 42⟩)]
noncomputable def jzE (y : s307_6734.Y) : Option (YS t307_6734) :=
 bif (decide (y.1.2.2.1 < (y.1.2.1.length : Int))) then
(ix y.1.2.1 y.1.2.2.1).bind fun x1093 =>
 some (((y.1.1, (y.1.2.1, (y.1.2.2.1, (y.1.2.2.2.1, (x1093, ()))))), ()))
else
 some (((y.1.1, (y.1.2.1, (y.1.2.2.1, (y.1.2.2.2.1, (y.1.2.2.2.2.1, ()))))), ()))
theorem q307_6734 : jjk Pz (jjc (jjI (jjc (jji Tryz.f307) 1 26)) 52 6734) (jjg s307_6734 t307_6734 jzE) := jjD g0 (by kernel_rfl) jja fun y => by kernel_rfl
abbrev s307_26 : Shape := ⟨[tL 0 .i64, tL 1 .i64, tI 5], [], 42⟩
abbrev t307_26 : List OSh := [(.ret, ⟨[tI 4], [], 42⟩), (.exit 0, ⟨[], [], 42⟩)]
noncomputable def g307_26 (y : s307_26.Y) : LR s307_26 t307_26 :=
(jzZ ((y.1.1, (y.1.2.1, (y.1.2.2.1, ()))), ())).bind fun r1095 =>
(match r1095 with
| .inl r1096 =>
(jzF ((r1096.1.1, (r1096.1.2.1, (r1096.1.2.2.1, (((-1) : Int), (((-1) : Int), ()))))), ())).bind fun r1098 =>
(jzE ((r1098.1.1, (r1098.1.2.1, (r1098.1.2.2.1, (r1098.1.2.2.2.1, (r1098.1.2.2.2.2.1, ()))))), ())).bind fun r1099 =>
 bif (decide (r1099.1.2.2.2.1 < r1099.1.2.2.2.2.1)) then
 some (.inr (.inl ((((-1) : Int), ()), ())))
else
 bif (decide (r1099.1.2.2.2.1 > r1099.1.2.2.2.2.1)) then
 some (.inr (.inl (((1 : Int), ()), ())))
else
 some (.inl ((r1099.1.1, (r1099.1.2.1, ((IntKind.i64.wrap (r1099.1.2.2.1 + (1 : Int))), ()))), ()))
| .inr r1097 =>
 some (.inr (.inr ((), ()))))
noncomputable def jx2 : s307_26.Y → Option (YS t307_26) := jjt g307_26
theorem q307_26 : jjk Pz (jjc (jji Tryz.f307) 1 26) (jjg s307_26 t307_26 jx2) := jje g0 (by kernel_rfl) (frc q307_104 (frc q307_3366 (frc q307_6734 jja))) fun y => by kernel_rfl
abbrev i307 : Shape := ⟨[tL 0 .i64, tL 1 .i64], [], 42⟩
abbrev o307 : Shape := ⟨[tI 4], [], 42⟩
noncomputable def f307 (a : i307.Y) : Option o307.Y :=
(jx2 ((a.1.1, (a.1.2.1, ((0 : Int), ()))), ())).bind fun r1103 =>
(match r1103 with
| .inl r1104 =>
 some ((r1104.1.1, ()), ())
| .inr r1105 =>
 some (((0 : Int), ()), ()))
noncomputable def S307 : jjC := jjG EE Tryz.f307 i307 o307 [] f307
theorem z307 : jjf Pz 307 S307 := jjb g0 Tryz.func307 (by kernel_rfl) (frc q307_26 jja) (fun y => by kernel_rfl) fun a => by kernel_rfl
noncomputable abbrev L221 : LS := [(101, S101), (307, S307)]
theorem G221 : CtxGood Pz (cx EE L221) := gd ⟨z101, z307, ⟨⟩⟩
abbrev s221_60 : Shape := ⟨[tO 5 3000320, tB 6, tO 7 3000448, tB 8], [zR 3000320 .i64 5 0, zR 3000448 .i64 7 0], 28⟩
abbrev t221_60 : List OSh := [(.norm, ⟨[tO 5 3000320, tO 7 3000448, tB 24], [zR 3000320 .i64 5 0, zR 3000448 .i64 7 0], 28⟩)]
noncomputable def g221_60 (y : s221_60.Y) : Option (YS t221_60) :=
 bif (!(!y.1.2.1)) then
 some ((((), ((), ((!y.1.2.2.2.1), ()))), (y.2.1, (y.2.2.1, ()))))
else
 some ((((), ((), (true, ()))), (y.2.1, (y.2.2.1, ()))))
theorem q221_60 : jjk Pz (jjc (jji Tryz.f221) 1 60) (jjg s221_60 t221_60 g221_60) := jjD G221 (by kernel_rfl) jja fun y => by kernel_rfl
abbrev i221 : Shape := ⟨[tS 0, tS 1], [], 28⟩
abbrev o221 : Shape := ⟨[tI 4], [], 28⟩
noncomputable def f221 (a : i221.Y) : Option o221.Y :=
(f101 ((a.1.1, ()), ())).bind fun r1108 =>
(f101 ((a.1.2.1, ()), ())).bind fun r1110 =>
(g221_60 (((), (r1108.1.2.1, ((), (r1110.1.2.1, ())))), (r1108.2.1, (r1110.2.1, ())))).bind fun r1112 =>
 bif r1112.1.2.2.1 then
 some (((0 : Int), ()), ())
else
(f307 ((r1112.2.1, (r1112.2.2.1, ())), ())).bind fun r1113 =>
 some ((r1113.1.1, ()), ())
noncomputable def S221 : jjC := jjG EE Tryz.f221 i221 o221 [] f221
theorem z221 : jjf Pz 221 S221 := jjb G221 Tryz.func221 (by kernel_rfl) (frc q221_60 jja) (fun y => by kernel_rfl) fun a => by kernel_rfl
noncomputable abbrev L149 : LS := [(221, S221)]
theorem G149 : CtxGood Pz (cx EE L149) := gd ⟨z221, ⟨⟩⟩
abbrev i149 : Shape := ⟨[tA 0 [eS, eI, eS], tS 1, tS 2], [], 30⟩
abbrev o149 : Shape := ⟨[tB 6], [], 30⟩
noncomputable def f149 (a : i149.Y) : Option o149.Y :=
 bif (!(a.1.1.1 == a.1.2.1)) then
 some ((false, ()), ())
else
(f221 ((a.1.2.2.1, (a.1.1.2.2.1, ())), ())).bind fun r1117 =>
 bif (a.1.1.2.1 == (1 : Int)) then
 some (((r1117.1.1 == (0 : Int)), ()), ())
else
 bif (a.1.1.2.1 == (2 : Int)) then
 some (((decide (r1117.1.1 ≥ (0 : Int))), ()), ())
else
 bif (a.1.1.2.1 == (3 : Int)) then
 some (((decide (r1117.1.1 < (0 : Int))), ()), ())
else
 some ((true, ()), ())
noncomputable def S149 : jjC := jjG EE Tryz.f149 i149 o149 [] f149
theorem z149 : jjf Pz 149 S149 := jjb G149 Tryz.func149 (by kernel_rfl) jja (fun y => by kernel_rfl) fun a => by kernel_rfl
abbrev i378 : Shape := ⟨[tI 0], [], 6⟩
abbrev o378 : Shape := ⟨[tB 2], [], 6⟩
noncomputable def f378 (a : i378.Y) : Option o378.Y :=
 some (((a.1.1 != a.1.1), ()), ())
noncomputable def S378 : jjC := jjG EE Tryz.f378 i378 o378 [] f378
theorem z378 : jjf Pz 378 S378 := jjb g0 Tryz.func378 (by kernel_rfl) jja (fun y => by kernel_rfl) fun a => by kernel_rfl
noncomputable abbrev L365 : LS := [(378, S378)]
theorem G365 : CtxGood Pz (cx EE L365) := gd ⟨z378, ⟨⟩⟩
abbrev i365 : Shape := ⟨[tI 0, tI 1], [], 20⟩
abbrev o365 : Shape := ⟨[tI 4], [], 20⟩
noncomputable def f365 (a : i365.Y) : Option o365.Y :=
(f378 ((a.1.1, ()), ())).bind fun r1735 =>
(f378 ((a.1.2.1, ()), ())).bind fun r1737 =>
 bif r1735.1.1 then
 bif r1737.1.1 then
 some (((0 : Int), ()), ())
else
 some ((((-1) : Int), ()), ())
else
 bif r1737.1.1 then
 some (((1 : Int), ()), ())
else
 bif (decide (a.1.1 < a.1.2.1)) then
 some ((((-1) : Int), ()), ())
else
 bif (decide (a.1.1 > a.1.2.1)) then
 some (((1 : Int), ()), ())
else
 some (((0 : Int), ()), ())
noncomputable def S365 : jjC := jjG EE Tryz.f365 i365 o365 [] f365
theorem z365 : jjf Pz 365 S365 := jjb G365 Tryz.func365 (by kernel_rfl) jja (fun y => by kernel_rfl) fun a => by kernel_rfl
noncomputable abbrev L347 : LS := [(365, S365)]
theorem G347 : CtxGood Pz (cx EE L347) := gd ⟨z365, ⟨⟩⟩
abbrev s347_26 : Shape := ⟨[tL 0 .i64, tL 1 .i64, tL 9 .i64, tI 10, tI 11], [], 36⟩
abbrev t347_26 : List OSh := [(.ret, ⟨[tI 4], [], 36⟩), (.exit 0, ⟨[tL 0 .i64, tL 1 .i64], [], 36⟩)]
noncomputable def g347_26 (y : s347_26.Y) : LR s347_26 t347_26 :=
 bif (decide (y.1.2.2.2.2.1 < y.1.2.2.2.1)) then
(ix y.1.2.2.1 y.1.2.2.2.2.1).bind fun x1741 =>
 bif (decide (y.1.2.2.2.2.1 ≥ (y.1.2.1.length : Int))) then
 some (.inr (.inl (((1 : Int), ()), ())))
else
(ix y.1.2.1 y.1.2.2.2.2.1).bind fun x1743 =>
(f365 ((x1741, (x1743, ())), ())).bind fun r1745 =>
 bif (r1745.1.1 != (0 : Int)) then
 some (.inr (.inl ((r1745.1.1, ()), ())))
else
 some (.inl ((y.1.1, (y.1.2.1, (y.1.2.2.1, (y.1.2.2.2.1, ((IntKind.i64.wrap (y.1.2.2.2.2.1 + (1 : Int))), ()))))), ()))
else
 some (.inr (.inr ((y.1.1, (y.1.2.1, ())), ())))
noncomputable def jzz : s347_26.Y → Option (YS t347_26) := jjt g347_26
theorem q347_26 : jjk Pz (jjc (jji Tryz.f347) 1 26) (jjg s347_26 t347_26 jzz) := jje G347 (by kernel_rfl) jja fun y => by kernel_rfl
abbrev i347 : Shape := ⟨[tL 0 .i64, tL 1 .i64], [], 36⟩
abbrev o347 : Shape := ⟨[tI 4], [], 36⟩
noncomputable def f347 (a : i347.Y) : Option o347.Y :=
(jzz ((a.1.1, (a.1.2.1, (a.1.1, ((a.1.1.length : Int), ((0 : Int), ()))))), ())).bind fun r1755 =>
(match r1755 with
| .inl r1756 =>
 some ((r1756.1.1, ()), ())
| .inr r1757 =>
 bif (decide ((r1757.1.1.length : Int) < (r1757.1.2.1.length : Int))) then
 some ((((-1) : Int), ()), ())
else
 some (((0 : Int), ()), ()))
noncomputable def S347 : jjC := jjG EE Tryz.f347 i347 o347 [] f347
theorem z347 : jjf Pz 347 S347 := jjb G347 Tryz.func347 (by kernel_rfl) (frc q347_26 jja) (fun y => by kernel_rfl) fun a => by kernel_rfl
noncomputable abbrev L319 : LS := [(347, S347)]
theorem G319 : CtxGood Pz (cx EE L319) := gd ⟨z347, ⟨⟩⟩
abbrev i319 : Shape := ⟨[tL 0 .i64, tL 1 .i64], [], 8⟩
abbrev o319 : Shape := ⟨[tI 4], [], 8⟩
noncomputable def f319 (a : i319.Y) : Option o319.Y :=
(f347 ((a.1.1, (a.1.2.1, ())), ())).bind fun r1759 =>
 some ((r1759.1.1, ()), ())
noncomputable def S319 : jjC := jjG EE Tryz.f319 i319 o319 [] f319
theorem z319 : jjf Pz 319 S319 := jjb G319 Tryz.func319 (by kernel_rfl) jja (fun y => by kernel_rfl) fun a => by kernel_rfl
noncomputable abbrev L255 : LS := [(95, S95), (319, S319)]
theorem G255 : CtxGood Pz (cx EE L255) := gd ⟨z95, z319, ⟨⟩⟩
abbrev s255_60 : Shape := ⟨[tO 5 3000320, tB 6, tO 7 3000448, tB 8], [zR 3000320 .i64 5 0, zR 3000448 .i64 7 0], 28⟩
abbrev t255_60 : List OSh := [(.norm, ⟨[tO 5 3000320, tO 7 3000448, tB 24], [zR 3000320 .i64 5 0, zR 3000448 .i64 7 0], 28⟩)]
noncomputable def g255_60 (y : s255_60.Y) : Option (YS t255_60) :=
 bif (!(!y.1.2.1)) then
 some ((((), ((), ((!y.1.2.2.2.1), ()))), (y.2.1, (y.2.2.1, ()))))
else
 some ((((), ((), (true, ()))), (y.2.1, (y.2.2.1, ()))))
theorem q255_60 : jjk Pz (jjc (jji Tryz.f255) 1 60) (jjg s255_60 t255_60 g255_60) := jjD G255 (by kernel_rfl) jja fun y => by kernel_rfl
abbrev i255 : Shape := ⟨[tS 0, tS 1], [], 28⟩
abbrev o255 : Shape := ⟨[tI 4], [], 28⟩
noncomputable def f255 (a : i255.Y) : Option o255.Y :=
(f95 ((a.1.1, ()), ())).bind fun r1762 =>
(f95 ((a.1.2.1, ()), ())).bind fun r1764 =>
(g255_60 (((), (r1762.2.2.2.1.1, ((), (r1764.2.2.2.1.1, ())))), (r1762.2.1, (r1764.2.1, ())))).bind fun r1766 =>
 bif r1766.1.2.2.1 then
 some (((0 : Int), ()), ())
else
(f319 ((r1766.2.1, (r1766.2.2.1, ())), ())).bind fun r1767 =>
 some ((r1767.1.1, ()), ())
noncomputable def S255 : jjC := jjG EE Tryz.f255 i255 o255 [] f255
theorem z255 : jjf Pz 255 S255 := jjb G255 Tryz.func255 (by kernel_rfl) (frc q255_60 jja) (fun y => by kernel_rfl) fun a => by kernel_rfl
noncomputable abbrev L192 : LS := [(46, S46), (48, S48), (255, S255)]
theorem G192 : CtxGood Pz (cx EE L192) := gd ⟨z46, z48, z255, ⟨⟩⟩
abbrev s192_12 : Shape := ⟨[tS 1, tS 2, tP 3 3 0], [zB 3 [eS, eI, eS]], 44⟩
abbrev t192_12 : List OSh := [(.norm, ⟨[tS 2, tP 3 3 0, tB 20], [zB 3 [eS, eI, eS]], 44⟩)]
noncomputable def g192_12 (y : s192_12.Y) : Option (YS t192_12) :=
(f48 (((y.2.1.1, (y.2.1.2.1, (y.2.1.2.2.1, ()))), ()), ())).bind fun r1712 =>
 bif (!(!r1712.1.1)) then
(f46 ((y.1.2.1, ()), ())).bind fun r1713 =>
 bif (!(!r1713.1.1)) then
 some (((y.1.2.1, ((), ((!(y.1.1 == y.2.1.1)), ()))), ((y.2.1.1, (y.2.1.2.1, (y.2.1.2.2.1, ()))), ())))
else
 some (((y.1.2.1, ((), (true, ()))), ((y.2.1.1, (y.2.1.2.1, (y.2.1.2.2.1, ()))), ())))
else
 some (((y.1.2.1, ((), (true, ()))), ((y.2.1.1, (y.2.1.2.1, (y.2.1.2.2.1, ()))), ())))
theorem q192_12 : jjk Pz (jjc (jji Tryz.f192) 1 12) (jjg s192_12 t192_12 g192_12) := jjD G192 (by kernel_rfl) jja fun y => by kernel_rfl
abbrev i192 : Shape := ⟨[tA 0 [eS, eI, eS], tS 1, tS 2], [], 44⟩
abbrev o192 : Shape := ⟨[tB 6], [], 44⟩
noncomputable def f192 (a : i192.Y) : Option o192.Y :=
(g192_12 ((a.1.2.1, (a.1.2.2.1, ((), ()))), ((a.1.1.1, (a.1.1.2.1, (a.1.1.2.2.1, ()))), ()))).bind fun r1772 =>
 bif r1772.1.2.2.1 then
 some ((false, ()), ())
else
 bif (r1772.2.1.2.1 == (1 : Int)) then
(f255 ((r1772.1.1, (r1772.2.1.2.2.1, ())), ())).bind fun r1773 =>
 some (((r1773.1.1 == (0 : Int)), ()), ())
else
 bif (r1772.2.1.2.1 == (2 : Int)) then
(f255 ((r1772.1.1, (r1772.2.1.2.2.1, ())), ())).bind fun r1774 =>
 some (((decide (r1774.1.1 ≥ (0 : Int))), ()), ())
else
 bif (r1772.2.1.2.1 == (3 : Int)) then
(f255 ((r1772.1.1, (r1772.2.1.2.2.1, ())), ())).bind fun r1775 =>
 some (((decide (r1775.1.1 < (0 : Int))), ()), ())
else
 some ((true, ()), ())
noncomputable def S192 : jjC := jjG EE Tryz.f192 i192 o192 [] f192
theorem z192 : jjf Pz 192 S192 := jjb G192 Tryz.func192 (by kernel_rfl) (frc q192_12 jja) (fun y => by kernel_rfl) fun a => by kernel_rfl
end Go.Proofs
