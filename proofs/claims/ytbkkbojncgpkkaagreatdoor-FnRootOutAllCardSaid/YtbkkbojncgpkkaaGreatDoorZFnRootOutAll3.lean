/- It is proved that everything can be removed (FnRootOutAll). (part 4 of 7: JkETy, JkEF116, JkEF123, JkEF62, JkEF94, JkEF70, JkEPuA, JkEF122, JkEPuB, JkEF95, JkEF71, JkEF124, JkEF88, JkEF63, JkEF65, JkEPuC, JkEF117, JkEF38, JkEF64v0, JkEF67, JkEF89, JkEF90, JkEF66v0, JkEF96, ) Conditions: none beyond the statement. -/
import Derived.Test.YtbkkbojncgpkkaaGreatDoorZFnRootOutAll2
import Derived.Tactics
import Derived.Deep.RegionLaw
import Derived.Shelf.Abstract
import Derived.Test.YtbkkbojncgpkkaaGreatDoorProg
import Derived.KernelRfl
set_option linter.unusedSimpArgs false
set_option maxRecDepth 100000
set_option linter.unusedVariables false
namespace Go.Proofs
open Go.Jk
noncomputable abbrev Pz : Program := Tryz.prog
noncomputable def jQl (P : Program) (t : TypeId) : Array Field := match P.underlying t with | some (.struct f) => f | _ => #[]
noncomputable def fps (P : Program) (t : TypeId) : Array TypeId := match P.underlying t with | some (.func a _ _) => a | _ => #[]
noncomputable def frs (P : Program) (t : TypeId) : Array TypeId := match P.underlying t with | some (.func _ b _) => b | _ => #[]
noncomputable def fvr (P : Program) (t : TypeId) : Bool := match P.underlying t with | some (.func _ _ v) => v | _ => false
noncomputable def ttL : List (Nat × TI) := [(1, .func),
 (2, .int .i64),
 (3, .int .i64),
 (4, .bool),
 (5, .int .u8),
 (6, .int .u8),
 (7, .struct [(0, 1), (1, 1), (2, 1), (3, 1)] 4 [.d (.int .i64 0), .d (.int .i64 0), .d (.bool false), .d (.int .u8 0)] false),
 (8, .struct [(0, 1), (1, 1), (2, 1), (3, 1)] 4 [.d (.int .i64 0), .d (.int .i64 0), .d (.bool false), .d (.int .u8 0)] false),
 (9, .str),
 (10, .str),
 (11, .str),
 (12, .int .u64),
 (13, .struct [(0, 1), (1, 1)] 2 [.d (.str []), .d (.int .u64 0)] false),
 (14, .struct [(0, 1), (1, 1)] 2 [.d (.str []), .d (.int .u64 0)] false),
 (15, .ptr),
 (16, .ptr),
 (17, .ptr),
 (18, .struct [(0, 1)] 1 [.cst (.pointer none)] false),
 (19, .struct [(0, 1)] 1 [.cst (.pointer none)] false),
 (21, .int .i32),
 (22, .slice 5 .u8 1),
 (23, .slice 35 .pack 80),
 (24, .slice 9 .str 16),
 (26, .func),
 (28, .func),
 (29, .func),
 (30, .func),
 (31, .func),
 (32, .slice 37 .need 40),
 (33, .slice 100 .entry 48),
 (34, .struct [(0, 1), (1, 1), (2, 1), (3, 1)] 4 [.d (.str []), .d (.str []), .nil .need, .nil .entry] false),
 (35, .struct [(0, 1), (1, 1), (2, 1), (3, 1)] 4 [.d (.str []), .d (.str []), .nil .need, .nil .entry] false),
 (36, .struct [(0, 1), (1, 1), (2, 1)] 3 [.d (.str []), .d (.int .i64 0), .d (.str [])] false),
 (37, .struct [(0, 1), (1, 1), (2, 1)] 3 [.d (.str []), .d (.int .i64 0), .d (.str [])] true),
 (38, .struct [(0, 1)] 1 [.nil .pack] false),
 (39, .struct [(0, 1)] 1 [.nil .pack] false),
 (40, .func),
 (41, .func),
 (43, .func),
 (44, .ptr),
 (45, .func),
 (46, .func),
 (47, .func),
 (48, .func),
 (49, .map 9 3 .i64),
 (51, .func),
 (52, .slice 3 .i64 8),
 (53, .struct [(0, 1), (1, 1), (2, 1), (3, 1)] 4 [.nil .pack, .cst (.map none), .nil .i64, .nil .str] false),
 (54, .struct [(0, 1), (1, 1), (2, 1), (3, 1)] 4 [.nil .pack, .cst (.map none), .nil .i64, .nil .str] false),
 (55, .func),
 (56, .func),
 (57, .func),
 (58, .func),
 (60, .func),
 (61, .func),
 (62, .func),
 (63, .func),
 (64, .func),
 (65, .struct [(0, 1), (1, 1)] 2 [.nil .u8, .d (.int .i64 0)] false),
 (66, .struct [(0, 1), (1, 1)] 2 [.nil .u8, .d (.int .i64 0)] false),
 (67, .func),
 (68, .func),
 (69, .func),
 (70, .func),
 (71, .ptr),
 (72, .func),
 (73, .func),
 (74, .func),
 (75, .func),
 (76, .func),
 (78, .func),
 (80, .func),
 (81, .func),
 (82, .func),
 (83, .func),
 (84, .func),
 (85, .func),
 (86, .func),
 (87, .func),
 (88, .func),
 (89, .func),
 (90, .func),
 (91, .func),
 (92, .func),
 (93, .func),
 (94, .func),
 (95, .func),
 (96, .int .u64),
 (97, .func),
 (98, .func),
 (99, .struct [(0, 1), (1, 1), (2, 1), (3, 1)] 4 [.d (.str []), .d (.int .i64 0), .d (.int .i64 0), .d (.str [])] false),
 (100, .struct [(0, 1), (1, 1), (2, 1), (3, 1)] 4 [.d (.str []), .d (.int .i64 0), .d (.int .i64 0), .d (.str [])] true),
 (101, .func),
 (102, .func),
 (103, .slice 3 .i64 8),
 (105, .func),
 (106, .func),
 (107, .func),
 (108, .func),
 (109, .func),
 (110, .func),
 (112, .func),
 (113, .func),
 (114, .func),
 (115, .func),
 (116, .func),
 (117, .func),
 (118, .func),
 (119, .func),
 (120, .func),
 (121, .func),
 (122, .func),
 (123, .func),
 (124, .func),
 (125, .func),
 (126, .func),
 (127, .func),
 (128, .func),
 (129, .func),
 (130, .func),
 (131, .func),
 (132, .func),
 (133, .func),
 (134, .func),
 (135, .func),
 (136, .func),
 (137, .func),
 (138, .func),
 (139, .func),
 (140, .func),
 (141, .func),
 (143, .func),
 (144, .func),
 (145, .func),
 (146, .func),
 (148, .struct [(0, 1), (1, 1)] 2 [.d (.int .u8 0), .d (.int .u8 0)] false),
 (149, .struct [(0, 1), (1, 1)] 2 [.d (.int .u8 0), .d (.int .u8 0)] false),
 (151, .int .u32),
 (153, .func),
 (154, .func),
 (155, .struct [(0, 1), (1, 1), (2, 1), (3, 1)] 4 [.cst (.pointer none), .cst (.pointer none), .cst (.pointer none), .d (.str [])] false),
 (156, .struct [(0, 1), (1, 1), (2, 1), (3, 1)] 4 [.cst (.pointer none), .cst (.pointer none), .cst (.pointer none), .d (.str [])] false),
 (160, .int .u8),
 (161, .int .u8),
 (162, .func),
 (163, .ptr),
 (164, .int .i32),
 (165, .int .i32),
 (166, .struct [(0, 1), (1, 1), (2, 1), (3, 1), (4, 1), (5, 1), (6, 1), (7, 1), (8, 1), (9, 1), (10, 1)] 11 [.d (.int .u64 0), .d (.int .u64 0), .d (.int .u32 0), .d (.int .u8 0), .d (.int .u8 0), .d (.int .u8 0), .d (.int .u8 0), .cst .nilFunc, .cst (.pointer none), .d (.int .i32 0), .d (.int .i32 0)] false),
 (167, .struct [(0, 1), (1, 1), (2, 1), (3, 1), (4, 1), (5, 1), (6, 1), (7, 1), (8, 1), (9, 1), (10, 1)] 11 [.d (.int .u64 0), .d (.int .u64 0), .d (.int .u32 0), .d (.int .u8 0), .d (.int .u8 0), .d (.int .u8 0), .d (.int .u8 0), .cst .nilFunc, .cst (.pointer none), .d (.int .i32 0), .d (.int .i32 0)] false)]
noncomputable def tt : TypeId → TI := tyAt ttL
theorem ty1 : (.func : TI).ok Pz 1 := ⟨fps Pz 1, frs Pz 1, fvr Pz 1, ⟨(by kernel_rfl), (fun _ h => by cases h), (fun _ _ h => by cases h), (by kernel_rfl)⟩⟩
theorem ty2 : (.int .i64 : TI).ok Pz 2 := ⟨(by kernel_rfl), (fun _ h => by cases h), (fun _ _ h => by cases h), (by kernel_rfl)⟩
theorem ty3 : (.int .i64 : TI).ok Pz 3 := ⟨(by kernel_rfl), (fun _ h => by cases h), (fun _ _ h => by cases h), (by kernel_rfl)⟩
theorem ty4 : (.bool : TI).ok Pz 4 := ⟨(by kernel_rfl), (fun _ h => by cases h), (fun _ _ h => by cases h), (by kernel_rfl)⟩
theorem ty5 : (.int .u8 : TI).ok Pz 5 := ⟨(by kernel_rfl), (fun _ h => by cases h), (fun _ _ h => by cases h), (by kernel_rfl)⟩
theorem ty6 : (.int .u8 : TI).ok Pz 6 := ⟨(by kernel_rfl), (fun _ h => by cases h), (fun _ _ h => by cases h), (by kernel_rfl)⟩
theorem ty9 : (.str : TI).ok Pz 9 := ⟨(by kernel_rfl), (fun _ h => by cases h), (fun _ _ h => by cases h), (by kernel_rfl)⟩
theorem ty10 : (.str : TI).ok Pz 10 := ⟨(by kernel_rfl), (fun _ h => by cases h), (fun _ _ h => by cases h), (by kernel_rfl)⟩
theorem ty11 : (.str : TI).ok Pz 11 := ⟨(by kernel_rfl), (fun _ h => by cases h), (fun _ _ h => by cases h), (by kernel_rfl)⟩
theorem ty12 : (.int .u64 : TI).ok Pz 12 := ⟨(by kernel_rfl), (fun _ h => by cases h), (fun _ _ h => by cases h), (by kernel_rfl)⟩
theorem ty15 : (.ptr : TI).ok Pz 15 := ⟨156, ⟨(by kernel_rfl), (fun _ h => by cases h), (fun _ _ h => by cases h), (by kernel_rfl)⟩⟩
theorem ty16 : (.ptr : TI).ok Pz 16 := ⟨159, ⟨(by kernel_rfl), (fun _ h => by cases h), (fun _ _ h => by cases h), (by kernel_rfl)⟩⟩
theorem ty17 : (.ptr : TI).ok Pz 17 := ⟨167, ⟨(by kernel_rfl), (fun _ h => by cases h), (fun _ _ h => by cases h), (by kernel_rfl)⟩⟩
theorem ty21 : (.int .i32 : TI).ok Pz 21 := ⟨(by kernel_rfl), (fun _ h => by cases h), (fun _ _ h => by cases h), (by kernel_rfl)⟩
theorem ty22 : (.slice 5 .u8 1 : TI).ok Pz 22 := ⟨⟨(by kernel_rfl), (fun _ h => by cases h), (fun _ _ h => by cases h), (by kernel_rfl)⟩, .int .u8 0, (by kernel_rfl), rfl⟩
theorem ty23 : (.slice 35 .pack 80 : TI).ok Pz 23 := ⟨⟨(by kernel_rfl), (fun _ h => by cases h), (fun _ _ h => by cases h), (by kernel_rfl)⟩, .agg #[.string ⟨#[]⟩, .string ⟨#[]⟩, .slice none 0 0, .slice none 0 0], (by kernel_rfl), rfl⟩
theorem ty24 : (.slice 9 .str 16 : TI).ok Pz 24 := ⟨⟨(by kernel_rfl), (fun _ h => by cases h), (fun _ _ h => by cases h), (by kernel_rfl)⟩, .string ⟨#[]⟩, (by kernel_rfl), rfl⟩
theorem ty26 : (.func : TI).ok Pz 26 := ⟨fps Pz 26, frs Pz 26, fvr Pz 26, ⟨(by kernel_rfl), (fun _ h => by cases h), (fun _ _ h => by cases h), (by kernel_rfl)⟩⟩
theorem ty28 : (.func : TI).ok Pz 28 := ⟨fps Pz 28, frs Pz 28, fvr Pz 28, ⟨(by kernel_rfl), (fun _ h => by cases h), (fun _ _ h => by cases h), (by kernel_rfl)⟩⟩
theorem ty29 : (.func : TI).ok Pz 29 := ⟨fps Pz 29, frs Pz 29, fvr Pz 29, ⟨(by kernel_rfl), (fun _ h => by cases h), (fun _ _ h => by cases h), (by kernel_rfl)⟩⟩
theorem ty30 : (.func : TI).ok Pz 30 := ⟨fps Pz 30, frs Pz 30, fvr Pz 30, ⟨(by kernel_rfl), (fun _ h => by cases h), (fun _ _ h => by cases h), (by kernel_rfl)⟩⟩
theorem ty31 : (.func : TI).ok Pz 31 := ⟨fps Pz 31, frs Pz 31, fvr Pz 31, ⟨(by kernel_rfl), (fun _ h => by cases h), (fun _ _ h => by cases h), (by kernel_rfl)⟩⟩
theorem ty32 : (.slice 37 .need 40 : TI).ok Pz 32 := ⟨⟨(by kernel_rfl), (fun _ h => by cases h), (fun _ _ h => by cases h), (by kernel_rfl)⟩, .agg #[.string ⟨#[]⟩, .int .i64 0, .string ⟨#[]⟩], (by kernel_rfl), rfl⟩
theorem ty33 : (.slice 100 .entry 48 : TI).ok Pz 33 := ⟨⟨(by kernel_rfl), (fun _ h => by cases h), (fun _ _ h => by cases h), (by kernel_rfl)⟩, .agg #[.string ⟨#[]⟩, .int .i64 0, .int .i64 0, .string ⟨#[]⟩], (by kernel_rfl), rfl⟩
theorem ty40 : (.func : TI).ok Pz 40 := ⟨fps Pz 40, frs Pz 40, fvr Pz 40, ⟨(by kernel_rfl), (fun _ h => by cases h), (fun _ _ h => by cases h), (by kernel_rfl)⟩⟩
theorem ty41 : (.func : TI).ok Pz 41 := ⟨fps Pz 41, frs Pz 41, fvr Pz 41, ⟨(by kernel_rfl), (fun _ h => by cases h), (fun _ _ h => by cases h), (by kernel_rfl)⟩⟩
theorem ty43 : (.func : TI).ok Pz 43 := ⟨fps Pz 43, frs Pz 43, fvr Pz 43, ⟨(by kernel_rfl), (fun _ h => by cases h), (fun _ _ h => by cases h), (by kernel_rfl)⟩⟩
theorem ty44 : (.ptr : TI).ok Pz 44 := ⟨66, ⟨(by kernel_rfl), (fun _ h => by cases h), (fun _ _ h => by cases h), (by kernel_rfl)⟩⟩
theorem ty45 : (.func : TI).ok Pz 45 := ⟨fps Pz 45, frs Pz 45, fvr Pz 45, ⟨(by kernel_rfl), (fun _ h => by cases h), (fun _ _ h => by cases h), (by kernel_rfl)⟩⟩
theorem ty46 : (.func : TI).ok Pz 46 := ⟨fps Pz 46, frs Pz 46, fvr Pz 46, ⟨(by kernel_rfl), (fun _ h => by cases h), (fun _ _ h => by cases h), (by kernel_rfl)⟩⟩
theorem ty47 : (.func : TI).ok Pz 47 := ⟨fps Pz 47, frs Pz 47, fvr Pz 47, ⟨(by kernel_rfl), (fun _ h => by cases h), (fun _ _ h => by cases h), (by kernel_rfl)⟩⟩
theorem ty48 : (.func : TI).ok Pz 48 := ⟨fps Pz 48, frs Pz 48, fvr Pz 48, ⟨(by kernel_rfl), (fun _ h => by cases h), (fun _ _ h => by cases h), (by kernel_rfl)⟩⟩
theorem ty49 : (.map 9 3 .i64 : TI).ok Pz 49 := ⟨⟨(by kernel_rfl), (fun _ h => by cases h), (fun _ _ h => by cases h), (by kernel_rfl)⟩, (by kernel_rfl), ⟨(by kernel_rfl), (fun _ h => by cases h), (fun _ _ h => by cases h), (by kernel_rfl)⟩⟩
theorem ty51 : (.func : TI).ok Pz 51 := ⟨fps Pz 51, frs Pz 51, fvr Pz 51, ⟨(by kernel_rfl), (fun _ h => by cases h), (fun _ _ h => by cases h), (by kernel_rfl)⟩⟩
theorem ty52 : (.slice 3 .i64 8 : TI).ok Pz 52 := ⟨⟨(by kernel_rfl), (fun _ h => by cases h), (fun _ _ h => by cases h), (by kernel_rfl)⟩, .int .i64 0, (by kernel_rfl), rfl⟩
theorem ty55 : (.func : TI).ok Pz 55 := ⟨fps Pz 55, frs Pz 55, fvr Pz 55, ⟨(by kernel_rfl), (fun _ h => by cases h), (fun _ _ h => by cases h), (by kernel_rfl)⟩⟩
theorem ty56 : (.func : TI).ok Pz 56 := ⟨fps Pz 56, frs Pz 56, fvr Pz 56, ⟨(by kernel_rfl), (fun _ h => by cases h), (fun _ _ h => by cases h), (by kernel_rfl)⟩⟩
theorem ty57 : (.func : TI).ok Pz 57 := ⟨fps Pz 57, frs Pz 57, fvr Pz 57, ⟨(by kernel_rfl), (fun _ h => by cases h), (fun _ _ h => by cases h), (by kernel_rfl)⟩⟩
theorem ty58 : (.func : TI).ok Pz 58 := ⟨fps Pz 58, frs Pz 58, fvr Pz 58, ⟨(by kernel_rfl), (fun _ h => by cases h), (fun _ _ h => by cases h), (by kernel_rfl)⟩⟩
theorem ty60 : (.func : TI).ok Pz 60 := ⟨fps Pz 60, frs Pz 60, fvr Pz 60, ⟨(by kernel_rfl), (fun _ h => by cases h), (fun _ _ h => by cases h), (by kernel_rfl)⟩⟩
theorem ty61 : (.func : TI).ok Pz 61 := ⟨fps Pz 61, frs Pz 61, fvr Pz 61, ⟨(by kernel_rfl), (fun _ h => by cases h), (fun _ _ h => by cases h), (by kernel_rfl)⟩⟩
theorem ty62 : (.func : TI).ok Pz 62 := ⟨fps Pz 62, frs Pz 62, fvr Pz 62, ⟨(by kernel_rfl), (fun _ h => by cases h), (fun _ _ h => by cases h), (by kernel_rfl)⟩⟩
theorem ty63 : (.func : TI).ok Pz 63 := ⟨fps Pz 63, frs Pz 63, fvr Pz 63, ⟨(by kernel_rfl), (fun _ h => by cases h), (fun _ _ h => by cases h), (by kernel_rfl)⟩⟩
theorem ty64 : (.func : TI).ok Pz 64 := ⟨fps Pz 64, frs Pz 64, fvr Pz 64, ⟨(by kernel_rfl), (fun _ h => by cases h), (fun _ _ h => by cases h), (by kernel_rfl)⟩⟩
theorem ty67 : (.func : TI).ok Pz 67 := ⟨fps Pz 67, frs Pz 67, fvr Pz 67, ⟨(by kernel_rfl), (fun _ h => by cases h), (fun _ _ h => by cases h), (by kernel_rfl)⟩⟩
theorem ty68 : (.func : TI).ok Pz 68 := ⟨fps Pz 68, frs Pz 68, fvr Pz 68, ⟨(by kernel_rfl), (fun _ h => by cases h), (fun _ _ h => by cases h), (by kernel_rfl)⟩⟩
theorem ty69 : (.func : TI).ok Pz 69 := ⟨fps Pz 69, frs Pz 69, fvr Pz 69, ⟨(by kernel_rfl), (fun _ h => by cases h), (fun _ _ h => by cases h), (by kernel_rfl)⟩⟩
theorem ty70 : (.func : TI).ok Pz 70 := ⟨fps Pz 70, frs Pz 70, fvr Pz 70, ⟨(by kernel_rfl), (fun _ h => by cases h), (fun _ _ h => by cases h), (by kernel_rfl)⟩⟩
theorem ty71 : (.ptr : TI).ok Pz 71 := ⟨54, ⟨(by kernel_rfl), (fun _ h => by cases h), (fun _ _ h => by cases h), (by kernel_rfl)⟩⟩
theorem ty72 : (.func : TI).ok Pz 72 := ⟨fps Pz 72, frs Pz 72, fvr Pz 72, ⟨(by kernel_rfl), (fun _ h => by cases h), (fun _ _ h => by cases h), (by kernel_rfl)⟩⟩
theorem ty73 : (.func : TI).ok Pz 73 := ⟨fps Pz 73, frs Pz 73, fvr Pz 73, ⟨(by kernel_rfl), (fun _ h => by cases h), (fun _ _ h => by cases h), (by kernel_rfl)⟩⟩
theorem ty74 : (.func : TI).ok Pz 74 := ⟨fps Pz 74, frs Pz 74, fvr Pz 74, ⟨(by kernel_rfl), (fun _ h => by cases h), (fun _ _ h => by cases h), (by kernel_rfl)⟩⟩
theorem ty75 : (.func : TI).ok Pz 75 := ⟨fps Pz 75, frs Pz 75, fvr Pz 75, ⟨(by kernel_rfl), (fun _ h => by cases h), (fun _ _ h => by cases h), (by kernel_rfl)⟩⟩
theorem ty76 : (.func : TI).ok Pz 76 := ⟨fps Pz 76, frs Pz 76, fvr Pz 76, ⟨(by kernel_rfl), (fun _ h => by cases h), (fun _ _ h => by cases h), (by kernel_rfl)⟩⟩
theorem ty78 : (.func : TI).ok Pz 78 := ⟨fps Pz 78, frs Pz 78, fvr Pz 78, ⟨(by kernel_rfl), (fun _ h => by cases h), (fun _ _ h => by cases h), (by kernel_rfl)⟩⟩
theorem ty80 : (.func : TI).ok Pz 80 := ⟨fps Pz 80, frs Pz 80, fvr Pz 80, ⟨(by kernel_rfl), (fun _ h => by cases h), (fun _ _ h => by cases h), (by kernel_rfl)⟩⟩
theorem ty81 : (.func : TI).ok Pz 81 := ⟨fps Pz 81, frs Pz 81, fvr Pz 81, ⟨(by kernel_rfl), (fun _ h => by cases h), (fun _ _ h => by cases h), (by kernel_rfl)⟩⟩
theorem ty82 : (.func : TI).ok Pz 82 := ⟨fps Pz 82, frs Pz 82, fvr Pz 82, ⟨(by kernel_rfl), (fun _ h => by cases h), (fun _ _ h => by cases h), (by kernel_rfl)⟩⟩
theorem ty83 : (.func : TI).ok Pz 83 := ⟨fps Pz 83, frs Pz 83, fvr Pz 83, ⟨(by kernel_rfl), (fun _ h => by cases h), (fun _ _ h => by cases h), (by kernel_rfl)⟩⟩
theorem ty84 : (.func : TI).ok Pz 84 := ⟨fps Pz 84, frs Pz 84, fvr Pz 84, ⟨(by kernel_rfl), (fun _ h => by cases h), (fun _ _ h => by cases h), (by kernel_rfl)⟩⟩
theorem ty85 : (.func : TI).ok Pz 85 := ⟨fps Pz 85, frs Pz 85, fvr Pz 85, ⟨(by kernel_rfl), (fun _ h => by cases h), (fun _ _ h => by cases h), (by kernel_rfl)⟩⟩
theorem ty86 : (.func : TI).ok Pz 86 := ⟨fps Pz 86, frs Pz 86, fvr Pz 86, ⟨(by kernel_rfl), (fun _ h => by cases h), (fun _ _ h => by cases h), (by kernel_rfl)⟩⟩
theorem ty87 : (.func : TI).ok Pz 87 := ⟨fps Pz 87, frs Pz 87, fvr Pz 87, ⟨(by kernel_rfl), (fun _ h => by cases h), (fun _ _ h => by cases h), (by kernel_rfl)⟩⟩
theorem ty88 : (.func : TI).ok Pz 88 := ⟨fps Pz 88, frs Pz 88, fvr Pz 88, ⟨(by kernel_rfl), (fun _ h => by cases h), (fun _ _ h => by cases h), (by kernel_rfl)⟩⟩
theorem ty89 : (.func : TI).ok Pz 89 := ⟨fps Pz 89, frs Pz 89, fvr Pz 89, ⟨(by kernel_rfl), (fun _ h => by cases h), (fun _ _ h => by cases h), (by kernel_rfl)⟩⟩
theorem ty90 : (.func : TI).ok Pz 90 := ⟨fps Pz 90, frs Pz 90, fvr Pz 90, ⟨(by kernel_rfl), (fun _ h => by cases h), (fun _ _ h => by cases h), (by kernel_rfl)⟩⟩
theorem ty91 : (.func : TI).ok Pz 91 := ⟨fps Pz 91, frs Pz 91, fvr Pz 91, ⟨(by kernel_rfl), (fun _ h => by cases h), (fun _ _ h => by cases h), (by kernel_rfl)⟩⟩
theorem ty92 : (.func : TI).ok Pz 92 := ⟨fps Pz 92, frs Pz 92, fvr Pz 92, ⟨(by kernel_rfl), (fun _ h => by cases h), (fun _ _ h => by cases h), (by kernel_rfl)⟩⟩
theorem ty93 : (.func : TI).ok Pz 93 := ⟨fps Pz 93, frs Pz 93, fvr Pz 93, ⟨(by kernel_rfl), (fun _ h => by cases h), (fun _ _ h => by cases h), (by kernel_rfl)⟩⟩
theorem ty94 : (.func : TI).ok Pz 94 := ⟨fps Pz 94, frs Pz 94, fvr Pz 94, ⟨(by kernel_rfl), (fun _ h => by cases h), (fun _ _ h => by cases h), (by kernel_rfl)⟩⟩
theorem ty95 : (.func : TI).ok Pz 95 := ⟨fps Pz 95, frs Pz 95, fvr Pz 95, ⟨(by kernel_rfl), (fun _ h => by cases h), (fun _ _ h => by cases h), (by kernel_rfl)⟩⟩
theorem ty96 : (.int .u64 : TI).ok Pz 96 := ⟨(by kernel_rfl), (fun _ h => by cases h), (fun _ _ h => by cases h), (by kernel_rfl)⟩
theorem ty97 : (.func : TI).ok Pz 97 := ⟨fps Pz 97, frs Pz 97, fvr Pz 97, ⟨(by kernel_rfl), (fun _ h => by cases h), (fun _ _ h => by cases h), (by kernel_rfl)⟩⟩
theorem ty98 : (.func : TI).ok Pz 98 := ⟨fps Pz 98, frs Pz 98, fvr Pz 98, ⟨(by kernel_rfl), (fun _ h => by cases h), (fun _ _ h => by cases h), (by kernel_rfl)⟩⟩
theorem ty101 : (.func : TI).ok Pz 101 := ⟨fps Pz 101, frs Pz 101, fvr Pz 101, ⟨(by kernel_rfl), (fun _ h => by cases h), (fun _ _ h => by cases h), (by kernel_rfl)⟩⟩
theorem ty102 : (.func : TI).ok Pz 102 := ⟨fps Pz 102, frs Pz 102, fvr Pz 102, ⟨(by kernel_rfl), (fun _ h => by cases h), (fun _ _ h => by cases h), (by kernel_rfl)⟩⟩
theorem ty103 : (.slice 3 .i64 8 : TI).ok Pz 103 := ⟨⟨(by kernel_rfl), (fun _ h => by cases h), (fun _ _ h => by cases h), (by kernel_rfl)⟩, .int .i64 0, (by kernel_rfl), rfl⟩
theorem ty105 : (.func : TI).ok Pz 105 := ⟨fps Pz 105, frs Pz 105, fvr Pz 105, ⟨(by kernel_rfl), (fun _ h => by cases h), (fun _ _ h => by cases h), (by kernel_rfl)⟩⟩
theorem ty106 : (.func : TI).ok Pz 106 := ⟨fps Pz 106, frs Pz 106, fvr Pz 106, ⟨(by kernel_rfl), (fun _ h => by cases h), (fun _ _ h => by cases h), (by kernel_rfl)⟩⟩
theorem ty107 : (.func : TI).ok Pz 107 := ⟨fps Pz 107, frs Pz 107, fvr Pz 107, ⟨(by kernel_rfl), (fun _ h => by cases h), (fun _ _ h => by cases h), (by kernel_rfl)⟩⟩
theorem ty108 : (.func : TI).ok Pz 108 := ⟨fps Pz 108, frs Pz 108, fvr Pz 108, ⟨(by kernel_rfl), (fun _ h => by cases h), (fun _ _ h => by cases h), (by kernel_rfl)⟩⟩
theorem ty109 : (.func : TI).ok Pz 109 := ⟨fps Pz 109, frs Pz 109, fvr Pz 109, ⟨(by kernel_rfl), (fun _ h => by cases h), (fun _ _ h => by cases h), (by kernel_rfl)⟩⟩
theorem ty110 : (.func : TI).ok Pz 110 := ⟨fps Pz 110, frs Pz 110, fvr Pz 110, ⟨(by kernel_rfl), (fun _ h => by cases h), (fun _ _ h => by cases h), (by kernel_rfl)⟩⟩
theorem ty112 : (.func : TI).ok Pz 112 := ⟨fps Pz 112, frs Pz 112, fvr Pz 112, ⟨(by kernel_rfl), (fun _ h => by cases h), (fun _ _ h => by cases h), (by kernel_rfl)⟩⟩
theorem ty113 : (.func : TI).ok Pz 113 := ⟨fps Pz 113, frs Pz 113, fvr Pz 113, ⟨(by kernel_rfl), (fun _ h => by cases h), (fun _ _ h => by cases h), (by kernel_rfl)⟩⟩
theorem ty114 : (.func : TI).ok Pz 114 := ⟨fps Pz 114, frs Pz 114, fvr Pz 114, ⟨(by kernel_rfl), (fun _ h => by cases h), (fun _ _ h => by cases h), (by kernel_rfl)⟩⟩
theorem ty115 : (.func : TI).ok Pz 115 := ⟨fps Pz 115, frs Pz 115, fvr Pz 115, ⟨(by kernel_rfl), (fun _ h => by cases h), (fun _ _ h => by cases h), (by kernel_rfl)⟩⟩
theorem ty116 : (.func : TI).ok Pz 116 := ⟨fps Pz 116, frs Pz 116, fvr Pz 116, ⟨(by kernel_rfl), (fun _ h => by cases h), (fun _ _ h => by cases h), (by kernel_rfl)⟩⟩
theorem ty117 : (.func : TI).ok Pz 117 := ⟨fps Pz 117, frs Pz 117, fvr Pz 117, ⟨(by kernel_rfl), (fun _ h => by cases h), (fun _ _ h => by cases h), (by kernel_rfl)⟩⟩
theorem ty118 : (.func : TI).ok Pz 118 := ⟨fps Pz 118, frs Pz 118, fvr Pz 118, ⟨(by kernel_rfl), (fun _ h => by cases h), (fun _ _ h => by cases h), (by kernel_rfl)⟩⟩
theorem ty119 : (.func : TI).ok Pz 119 := ⟨fps Pz 119, frs Pz 119, fvr Pz 119, ⟨(by kernel_rfl), (fun _ h => by cases h), (fun _ _ h => by cases h), (by kernel_rfl)⟩⟩
theorem ty120 : (.func : TI).ok Pz 120 := ⟨fps Pz 120, frs Pz 120, fvr Pz 120, ⟨(by kernel_rfl), (fun _ h => by cases h), (fun _ _ h => by cases h), (by kernel_rfl)⟩⟩
theorem ty121 : (.func : TI).ok Pz 121 := ⟨fps Pz 121, frs Pz 121, fvr Pz 121, ⟨(by kernel_rfl), (fun _ h => by cases h), (fun _ _ h => by cases h), (by kernel_rfl)⟩⟩
theorem ty122 : (.func : TI).ok Pz 122 := ⟨fps Pz 122, frs Pz 122, fvr Pz 122, ⟨(by kernel_rfl), (fun _ h => by cases h), (fun _ _ h => by cases h), (by kernel_rfl)⟩⟩
theorem ty123 : (.func : TI).ok Pz 123 := ⟨fps Pz 123, frs Pz 123, fvr Pz 123, ⟨(by kernel_rfl), (fun _ h => by cases h), (fun _ _ h => by cases h), (by kernel_rfl)⟩⟩
theorem ty124 : (.func : TI).ok Pz 124 := ⟨fps Pz 124, frs Pz 124, fvr Pz 124, ⟨(by kernel_rfl), (fun _ h => by cases h), (fun _ _ h => by cases h), (by kernel_rfl)⟩⟩
theorem ty125 : (.func : TI).ok Pz 125 := ⟨fps Pz 125, frs Pz 125, fvr Pz 125, ⟨(by kernel_rfl), (fun _ h => by cases h), (fun _ _ h => by cases h), (by kernel_rfl)⟩⟩
theorem ty126 : (.func : TI).ok Pz 126 := ⟨fps Pz 126, frs Pz 126, fvr Pz 126, ⟨(by kernel_rfl), (fun _ h => by cases h), (fun _ _ h => by cases h), (by kernel_rfl)⟩⟩
theorem ty127 : (.func : TI).ok Pz 127 := ⟨fps Pz 127, frs Pz 127, fvr Pz 127, ⟨(by kernel_rfl), (fun _ h => by cases h), (fun _ _ h => by cases h), (by kernel_rfl)⟩⟩
theorem ty128 : (.func : TI).ok Pz 128 := ⟨fps Pz 128, frs Pz 128, fvr Pz 128, ⟨(by kernel_rfl), (fun _ h => by cases h), (fun _ _ h => by cases h), (by kernel_rfl)⟩⟩
theorem ty129 : (.func : TI).ok Pz 129 := ⟨fps Pz 129, frs Pz 129, fvr Pz 129, ⟨(by kernel_rfl), (fun _ h => by cases h), (fun _ _ h => by cases h), (by kernel_rfl)⟩⟩
theorem ty130 : (.func : TI).ok Pz 130 := ⟨fps Pz 130, frs Pz 130, fvr Pz 130, ⟨(by kernel_rfl), (fun _ h => by cases h), (fun _ _ h => by cases h), (by kernel_rfl)⟩⟩
theorem ty131 : (.func : TI).ok Pz 131 := ⟨fps Pz 131, frs Pz 131, fvr Pz 131, ⟨(by kernel_rfl), (fun _ h => by cases h), (fun _ _ h => by cases h), (by kernel_rfl)⟩⟩
theorem ty132 : (.func : TI).ok Pz 132 := ⟨fps Pz 132, frs Pz 132, fvr Pz 132, ⟨(by kernel_rfl), (fun _ h => by cases h), (fun _ _ h => by cases h), (by kernel_rfl)⟩⟩
theorem ty133 : (.func : TI).ok Pz 133 := ⟨fps Pz 133, frs Pz 133, fvr Pz 133, ⟨(by kernel_rfl), (fun _ h => by cases h), (fun _ _ h => by cases h), (by kernel_rfl)⟩⟩
theorem ty134 : (.func : TI).ok Pz 134 := ⟨fps Pz 134, frs Pz 134, fvr Pz 134, ⟨(by kernel_rfl), (fun _ h => by cases h), (fun _ _ h => by cases h), (by kernel_rfl)⟩⟩
theorem ty135 : (.func : TI).ok Pz 135 := ⟨fps Pz 135, frs Pz 135, fvr Pz 135, ⟨(by kernel_rfl), (fun _ h => by cases h), (fun _ _ h => by cases h), (by kernel_rfl)⟩⟩
theorem ty136 : (.func : TI).ok Pz 136 := ⟨fps Pz 136, frs Pz 136, fvr Pz 136, ⟨(by kernel_rfl), (fun _ h => by cases h), (fun _ _ h => by cases h), (by kernel_rfl)⟩⟩
theorem ty137 : (.func : TI).ok Pz 137 := ⟨fps Pz 137, frs Pz 137, fvr Pz 137, ⟨(by kernel_rfl), (fun _ h => by cases h), (fun _ _ h => by cases h), (by kernel_rfl)⟩⟩
theorem ty138 : (.func : TI).ok Pz 138 := ⟨fps Pz 138, frs Pz 138, fvr Pz 138, ⟨(by kernel_rfl), (fun _ h => by cases h), (fun _ _ h => by cases h), (by kernel_rfl)⟩⟩
theorem ty139 : (.func : TI).ok Pz 139 := ⟨fps Pz 139, frs Pz 139, fvr Pz 139, ⟨(by kernel_rfl), (fun _ h => by cases h), (fun _ _ h => by cases h), (by kernel_rfl)⟩⟩
theorem ty140 : (.func : TI).ok Pz 140 := ⟨fps Pz 140, frs Pz 140, fvr Pz 140, ⟨(by kernel_rfl), (fun _ h => by cases h), (fun _ _ h => by cases h), (by kernel_rfl)⟩⟩
theorem ty141 : (.func : TI).ok Pz 141 := ⟨fps Pz 141, frs Pz 141, fvr Pz 141, ⟨(by kernel_rfl), (fun _ h => by cases h), (fun _ _ h => by cases h), (by kernel_rfl)⟩⟩
theorem ty143 : (.func : TI).ok Pz 143 := ⟨fps Pz 143, frs Pz 143, fvr Pz 143, ⟨(by kernel_rfl), (fun _ h => by cases h), (fun _ _ h => by cases h), (by kernel_rfl)⟩⟩
theorem ty144 : (.func : TI).ok Pz 144 := ⟨fps Pz 144, frs Pz 144, fvr Pz 144, ⟨(by kernel_rfl), (fun _ h => by cases h), (fun _ _ h => by cases h), (by kernel_rfl)⟩⟩
theorem ty145 : (.func : TI).ok Pz 145 := ⟨fps Pz 145, frs Pz 145, fvr Pz 145, ⟨(by kernel_rfl), (fun _ h => by cases h), (fun _ _ h => by cases h), (by kernel_rfl)⟩⟩
theorem ty146 : (.func : TI).ok Pz 146 := ⟨fps Pz 146, frs Pz 146, fvr Pz 146, ⟨(by kernel_rfl), (fun _ h => by cases h), (fun _ _ h => by cases h), (by kernel_rfl)⟩⟩
theorem ty151 : (.int .u32 : TI).ok Pz 151 := ⟨(by kernel_rfl), (fun _ h => by cases h), (fun _ _ h => by cases h), (by kernel_rfl)⟩
theorem ty153 : (.func : TI).ok Pz 153 := ⟨fps Pz 153, frs Pz 153, fvr Pz 153, ⟨(by kernel_rfl), (fun _ h => by cases h), (fun _ _ h => by cases h), (by kernel_rfl)⟩⟩
theorem ty154 : (.func : TI).ok Pz 154 := ⟨fps Pz 154, frs Pz 154, fvr Pz 154, ⟨(by kernel_rfl), (fun _ h => by cases h), (fun _ _ h => by cases h), (by kernel_rfl)⟩⟩
theorem ty160 : (.int .u8 : TI).ok Pz 160 := ⟨(by kernel_rfl), (fun _ h => by cases h), (fun _ _ h => by cases h), (by kernel_rfl)⟩
theorem ty161 : (.int .u8 : TI).ok Pz 161 := ⟨(by kernel_rfl), (fun _ h => by cases h), (fun _ _ h => by cases h), (by kernel_rfl)⟩
theorem ty162 : (.func : TI).ok Pz 162 := ⟨fps Pz 162, frs Pz 162, fvr Pz 162, ⟨(by kernel_rfl), (fun _ h => by cases h), (fun _ _ h => by cases h), (by kernel_rfl)⟩⟩
theorem ty163 : (.ptr : TI).ok Pz 163 := ⟨5, ⟨(by kernel_rfl), (fun _ h => by cases h), (fun _ _ h => by cases h), (by kernel_rfl)⟩⟩
theorem ty164 : (.int .i32 : TI).ok Pz 164 := ⟨(by kernel_rfl), (fun _ h => by cases h), (fun _ _ h => by cases h), (by kernel_rfl)⟩
theorem ty165 : (.int .i32 : TI).ok Pz 165 := ⟨(by kernel_rfl), (fun _ h => by cases h), (fun _ _ h => by cases h), (by kernel_rfl)⟩
theorem ty7 : (.struct [(0, 1), (1, 1), (2, 1), (3, 1)] 4 [.d (.int .i64 0), .d (.int .i64 0), .d (.bool false), .d (.int .u8 0)] false : TI).ok Pz 7 := ⟨jQl Pz 7, (by kernel_rfl), ⟨(by kernel_rfl), (by decide)⟩, ⟨#[.int .i64 0, .int .i64 0, .bool false, .int .u8 0], (by kernel_rfl), (by kernel_rfl), rfl⟩, (fun h => by cases h)⟩
theorem ty8 : (.struct [(0, 1), (1, 1), (2, 1), (3, 1)] 4 [.d (.int .i64 0), .d (.int .i64 0), .d (.bool false), .d (.int .u8 0)] false : TI).ok Pz 8 := ⟨jQl Pz 8, (by kernel_rfl), ⟨(by kernel_rfl), (by decide)⟩, ⟨#[.int .i64 0, .int .i64 0, .bool false, .int .u8 0], (by kernel_rfl), (by kernel_rfl), rfl⟩, (fun h => by cases h)⟩
theorem ty13 : (.struct [(0, 1), (1, 1)] 2 [.d (.str []), .d (.int .u64 0)] false : TI).ok Pz 13 := ⟨jQl Pz 13, (by kernel_rfl), ⟨(by kernel_rfl), (by decide)⟩, ⟨#[.string ⟨#[]⟩, .int .u64 0], (by kernel_rfl), (by kernel_rfl), rfl⟩, (fun h => by cases h)⟩
theorem ty14 : (.struct [(0, 1), (1, 1)] 2 [.d (.str []), .d (.int .u64 0)] false : TI).ok Pz 14 := ⟨jQl Pz 14, (by kernel_rfl), ⟨(by kernel_rfl), (by decide)⟩, ⟨#[.string ⟨#[]⟩, .int .u64 0], (by kernel_rfl), (by kernel_rfl), rfl⟩, (fun h => by cases h)⟩
theorem ty18 : (.struct [(0, 1)] 1 [.cst (.pointer none)] false : TI).ok Pz 18 := ⟨jQl Pz 18, (by kernel_rfl), ⟨(by kernel_rfl), (by decide)⟩, ⟨#[.pointer none], (by kernel_rfl), (by kernel_rfl), rfl⟩, (fun h => by cases h)⟩
theorem ty19 : (.struct [(0, 1)] 1 [.cst (.pointer none)] false : TI).ok Pz 19 := ⟨jQl Pz 19, (by kernel_rfl), ⟨(by kernel_rfl), (by decide)⟩, ⟨#[.pointer none], (by kernel_rfl), (by kernel_rfl), rfl⟩, (fun h => by cases h)⟩
theorem ty34 : (.struct [(0, 1), (1, 1), (2, 1), (3, 1)] 4 [.d (.str []), .d (.str []), .nil .need, .nil .entry] false : TI).ok Pz 34 := ⟨jQl Pz 34, (by kernel_rfl), ⟨(by kernel_rfl), (by decide)⟩, ⟨#[.string ⟨#[]⟩, .string ⟨#[]⟩, .slice none 0 0, .slice none 0 0], (by kernel_rfl), (by kernel_rfl), rfl⟩, (fun h => by cases h)⟩
theorem ty35 : (.struct [(0, 1), (1, 1), (2, 1), (3, 1)] 4 [.d (.str []), .d (.str []), .nil .need, .nil .entry] false : TI).ok Pz 35 := ⟨jQl Pz 35, (by kernel_rfl), ⟨(by kernel_rfl), (by decide)⟩, ⟨#[.string ⟨#[]⟩, .string ⟨#[]⟩, .slice none 0 0, .slice none 0 0], (by kernel_rfl), (by kernel_rfl), rfl⟩, (fun h => by cases h)⟩
theorem ty36 : (.struct [(0, 1), (1, 1), (2, 1)] 3 [.d (.str []), .d (.int .i64 0), .d (.str [])] false : TI).ok Pz 36 := ⟨jQl Pz 36, (by kernel_rfl), ⟨(by kernel_rfl), (by decide)⟩, ⟨#[.string ⟨#[]⟩, .int .i64 0, .string ⟨#[]⟩], (by kernel_rfl), (by kernel_rfl), rfl⟩, (fun h => by cases h)⟩
theorem ty37 : (.struct [(0, 1), (1, 1), (2, 1)] 3 [.d (.str []), .d (.int .i64 0), .d (.str [])] true : TI).ok Pz 37 := ⟨jQl Pz 37, (by kernel_rfl), ⟨(by kernel_rfl), (by decide)⟩, ⟨#[.string ⟨#[]⟩, .int .i64 0, .string ⟨#[]⟩], (by kernel_rfl), (by kernel_rfl), rfl⟩, (fun _ => eq_struct (l := [(9, 0, false), (3, 1, false), (9, 2, false)]) (fields := jQl Pz 37) (by kernel_rfl) (by kernel_rfl) (by kernel_rfl) (by kernel_rfl) (by intro h; have h2 : (jQl Pz 37).toList.length = 0 := (by rw [h]; rfl); have h3 : (jQl Pz 37).toList.length = 3 := (by kernel_rfl); rw [h3] at h2; cases h2) ⟨rfl, rfl, ty9, rfl, rfl, ty3, rfl, rfl, ty9, trivial⟩)⟩
theorem ty38 : (.struct [(0, 1)] 1 [.nil .pack] false : TI).ok Pz 38 := ⟨jQl Pz 38, (by kernel_rfl), ⟨(by kernel_rfl), (by decide)⟩, ⟨#[.slice none 0 0], (by kernel_rfl), (by kernel_rfl), rfl⟩, (fun h => by cases h)⟩
theorem ty39 : (.struct [(0, 1)] 1 [.nil .pack] false : TI).ok Pz 39 := ⟨jQl Pz 39, (by kernel_rfl), ⟨(by kernel_rfl), (by decide)⟩, ⟨#[.slice none 0 0], (by kernel_rfl), (by kernel_rfl), rfl⟩, (fun h => by cases h)⟩
theorem ty53 : (.struct [(0, 1), (1, 1), (2, 1), (3, 1)] 4 [.nil .pack, .cst (.map none), .nil .i64, .nil .str] false : TI).ok Pz 53 := ⟨jQl Pz 53, (by kernel_rfl), ⟨(by kernel_rfl), (by decide)⟩, ⟨#[.slice none 0 0, .map none, .slice none 0 0, .slice none 0 0], (by kernel_rfl), (by kernel_rfl), rfl⟩, (fun h => by cases h)⟩
theorem ty54 : (.struct [(0, 1), (1, 1), (2, 1), (3, 1)] 4 [.nil .pack, .cst (.map none), .nil .i64, .nil .str] false : TI).ok Pz 54 := ⟨jQl Pz 54, (by kernel_rfl), ⟨(by kernel_rfl), (by decide)⟩, ⟨#[.slice none 0 0, .map none, .slice none 0 0, .slice none 0 0], (by kernel_rfl), (by kernel_rfl), rfl⟩, (fun h => by cases h)⟩
theorem ty65 : (.struct [(0, 1), (1, 1)] 2 [.nil .u8, .d (.int .i64 0)] false : TI).ok Pz 65 := ⟨jQl Pz 65, (by kernel_rfl), ⟨(by kernel_rfl), (by decide)⟩, ⟨#[.slice none 0 0, .int .i64 0], (by kernel_rfl), (by kernel_rfl), rfl⟩, (fun h => by cases h)⟩
theorem ty66 : (.struct [(0, 1), (1, 1)] 2 [.nil .u8, .d (.int .i64 0)] false : TI).ok Pz 66 := ⟨jQl Pz 66, (by kernel_rfl), ⟨(by kernel_rfl), (by decide)⟩, ⟨#[.slice none 0 0, .int .i64 0], (by kernel_rfl), (by kernel_rfl), rfl⟩, (fun h => by cases h)⟩
theorem ty99 : (.struct [(0, 1), (1, 1), (2, 1), (3, 1)] 4 [.d (.str []), .d (.int .i64 0), .d (.int .i64 0), .d (.str [])] false : TI).ok Pz 99 := ⟨jQl Pz 99, (by kernel_rfl), ⟨(by kernel_rfl), (by decide)⟩, ⟨#[.string ⟨#[]⟩, .int .i64 0, .int .i64 0, .string ⟨#[]⟩], (by kernel_rfl), (by kernel_rfl), rfl⟩, (fun h => by cases h)⟩
theorem ty100 : (.struct [(0, 1), (1, 1), (2, 1), (3, 1)] 4 [.d (.str []), .d (.int .i64 0), .d (.int .i64 0), .d (.str [])] true : TI).ok Pz 100 := ⟨jQl Pz 100, (by kernel_rfl), ⟨(by kernel_rfl), (by decide)⟩, ⟨#[.string ⟨#[]⟩, .int .i64 0, .int .i64 0, .string ⟨#[]⟩], (by kernel_rfl), (by kernel_rfl), rfl⟩, (fun _ => eq_struct (l := [(9, 0, false), (3, 1, false), (3, 2, false), (9, 3, false)]) (fields := jQl Pz 100) (by kernel_rfl) (by kernel_rfl) (by kernel_rfl) (by kernel_rfl) (by intro h; have h2 : (jQl Pz 100).toList.length = 0 := (by rw [h]; rfl); have h3 : (jQl Pz 100).toList.length = 4 := (by kernel_rfl); rw [h3] at h2; cases h2) ⟨rfl, rfl, ty9, rfl, rfl, ty3, rfl, rfl, ty3, rfl, rfl, ty9, trivial⟩)⟩
theorem ty148 : (.struct [(0, 1), (1, 1)] 2 [.d (.int .u8 0), .d (.int .u8 0)] false : TI).ok Pz 148 := ⟨jQl Pz 148, (by kernel_rfl), ⟨(by kernel_rfl), (by decide)⟩, ⟨#[.int .u8 0, .int .u8 0], (by kernel_rfl), (by kernel_rfl), rfl⟩, (fun h => by cases h)⟩
theorem ty149 : (.struct [(0, 1), (1, 1)] 2 [.d (.int .u8 0), .d (.int .u8 0)] false : TI).ok Pz 149 := ⟨jQl Pz 149, (by kernel_rfl), ⟨(by kernel_rfl), (by decide)⟩, ⟨#[.int .u8 0, .int .u8 0], (by kernel_rfl), (by kernel_rfl), rfl⟩, (fun h => by cases h)⟩
theorem ty155 : (.struct [(0, 1), (1, 1), (2, 1), (3, 1)] 4 [.cst (.pointer none), .cst (.pointer none), .cst (.pointer none), .d (.str [])] false : TI).ok Pz 155 := ⟨jQl Pz 155, (by kernel_rfl), ⟨(by kernel_rfl), (by decide)⟩, ⟨#[.pointer none, .pointer none, .pointer none, .string ⟨#[]⟩], (by kernel_rfl), (by kernel_rfl), rfl⟩, (fun h => by cases h)⟩
theorem ty156 : (.struct [(0, 1), (1, 1), (2, 1), (3, 1)] 4 [.cst (.pointer none), .cst (.pointer none), .cst (.pointer none), .d (.str [])] false : TI).ok Pz 156 := ⟨jQl Pz 156, (by kernel_rfl), ⟨(by kernel_rfl), (by decide)⟩, ⟨#[.pointer none, .pointer none, .pointer none, .string ⟨#[]⟩], (by kernel_rfl), (by kernel_rfl), rfl⟩, (fun h => by cases h)⟩
theorem ty166 : (.struct [(0, 1), (1, 1), (2, 1), (3, 1), (4, 1), (5, 1), (6, 1), (7, 1), (8, 1), (9, 1), (10, 1)] 11 [.d (.int .u64 0), .d (.int .u64 0), .d (.int .u32 0), .d (.int .u8 0), .d (.int .u8 0), .d (.int .u8 0), .d (.int .u8 0), .cst .nilFunc, .cst (.pointer none), .d (.int .i32 0), .d (.int .i32 0)] false : TI).ok Pz 166 := ⟨jQl Pz 166, (by kernel_rfl), ⟨(by kernel_rfl), (by decide)⟩, ⟨#[.int .u64 0, .int .u64 0, .int .u32 0, .int .u8 0, .int .u8 0, .int .u8 0, .int .u8 0, .nilFunc, .pointer none, .int .i32 0, .int .i32 0], (by kernel_rfl), (by kernel_rfl), rfl⟩, (fun h => by cases h)⟩
theorem ty167 : (.struct [(0, 1), (1, 1), (2, 1), (3, 1), (4, 1), (5, 1), (6, 1), (7, 1), (8, 1), (9, 1), (10, 1)] 11 [.d (.int .u64 0), .d (.int .u64 0), .d (.int .u32 0), .d (.int .u8 0), .d (.int .u8 0), .d (.int .u8 0), .d (.int .u8 0), .cst .nilFunc, .cst (.pointer none), .d (.int .i32 0), .d (.int .i32 0)] false : TI).ok Pz 167 := ⟨jQl Pz 167, (by kernel_rfl), ⟨(by kernel_rfl), (by decide)⟩, ⟨#[.int .u64 0, .int .u64 0, .int .u32 0, .int .u8 0, .int .u8 0, .int .u8 0, .int .u8 0, .nilFunc, .pointer none, .int .i32 0, .int .i32 0], (by kernel_rfl), (by kernel_rfl), rfl⟩, (fun h => by cases h)⟩
theorem jjp : Pz.follows .mixedOrders = true := by kernel_rfl
theorem jjq : ∀ T, (tt T).ok Pz T := tyAt_ok (l := ttL) ⟨ty1, ty2, ty3, ty4, ty5, ty6, ty7, ty8, ty9, ty10, ty11, ty12, ty13, ty14, ty15, ty16, ty17, ty18, ty19, ty21, ty22, ty23, ty24, ty26, ty28, ty29, ty30, ty31, ty32, ty33, ty34, ty35, ty36, ty37, ty38, ty39, ty40, ty41, ty43, ty44, ty45, ty46, ty47, ty48, ty49, ty51, ty52, ty53, ty54, ty55, ty56, ty57, ty58, ty60, ty61, ty62, ty63, ty64, ty65, ty66, ty67, ty68, ty69, ty70, ty71, ty72, ty73, ty74, ty75, ty76, ty78, ty80, ty81, ty82, ty83, ty84, ty85, ty86, ty87, ty88, ty89, ty90, ty91, ty92, ty93, ty94, ty95, ty96, ty97, ty98, ty99, ty100, ty101, ty102, ty103, ty105, ty106, ty107, ty108, ty109, ty110, ty112, ty113, ty114, ty115, ty116, ty117, ty118, ty119, ty120, ty121, ty122, ty123, ty124, ty125, ty126, ty127, ty128, ty129, ty130, ty131, ty132, ty133, ty134, ty135, ty136, ty137, ty138, ty139, ty140, ty141, ty143, ty144, ty145, ty146, ty148, ty149, ty151, ty153, ty154, ty155, ty156, ty160, ty161, ty162, ty163, ty164, ty165, ty166, ty167, trivial⟩
noncomputable def c116 : Ctx := { tt := tt, fs := fun n => match n with | _ => none }
theorem k116 (h : ∀ T, (tt T).ok Pz T) : CtxGood Pz c116 := ⟨⟨h⟩, fun g S hg => (by cases hg), jjp, fun _ _ h => (by cases h), fun _ h => (by cases h)⟩
noncomputable def b116 : Code := jji Tryz.f116
@[reducible] noncomputable def s116_12 : Shape := ⟨[(0, .lf (.d (.str))), (1, .lf (.d (.int .i64)))], [], 53⟩
@[reducible] noncomputable def t116_12 : List OSh := [(.norm, ⟨[(0, .lf (.d (.str))), (1, .lf (.d (.int .i64))), (24, .lf (.d (.bool)))], [], 53⟩)]
noncomputable def g116_12 (y : s116_12.Y) : Option (YS t116_12) :=
 bif (!(y.1.1 == ([] : Str))) then
 bif (!(decide ((y.1.1.length : Int) > (9 : Int)))) then
 bif (decide ((y.1.1.length : Int) > (1 : Int))) then
(ix y.1.1 (0 : Int)).bind fun x956 =>
 some (((y.1.1, (y.1.2.1, (((x956.toNat : Int) == (48 : Int)), ()))), ()))
else
 some (((y.1.1, (y.1.2.1, (false, ()))), ()))
else
 some (((y.1.1, (y.1.2.1, (true, ()))), ()))
else
 some (((y.1.1, (y.1.2.1, (true, ()))), ()))
theorem r116_12 : ∀ y, g116_12 y = jjK (jjd c116 []) (jjc b116 1 12) 12 s116_12 t116_12 y := fun y => by kernel_rfl
theorem q116_12 (H : CtxGood Pz c116) : jjn Pz (jjc b116 1 12) (jjb s116_12 t116_12 g116_12) :=
 jjw (fr := []) H (by kernel_rfl) jje r116_12
@[reducible] noncomputable def s116_31332 : Shape := ⟨[(0, .lf (.d (.str))), (1, .lf (.d (.int .i64))), (6, .lf (.d (.int .i64))), (7, .lf (.d (.int .i64))), (26, .lf (.d (.int .i64))), (27, .lf (.d (.int .i64)))], [], 53⟩
@[reducible] noncomputable def jzd : List OSh := [(.norm, ⟨[(0, .lf (.d (.str))), (1, .lf (.d (.int .i64))), (6, .lf (.d (.int .i64))), (7, .lf (.d (.int .i64))), (26, .lf (.d (.int .i64))), (27, .lf (.d (.int .i64))), (39, .lf (.d (.bool)))], [], 53⟩)]
noncomputable def jxC (y : s116_31332.Y) : Option (YS jzd) :=
(ix y.1.1 y.1.2.2.2.1).bind fun x965 =>
 bif (!(decide ((x965.toNat : Int) < (48 : Int)))) then
(ix y.1.1 y.1.2.2.2.1).bind fun x966 =>
 some (((y.1.1, (y.1.2.1, (y.1.2.2.1, (y.1.2.2.2.1, (y.1.2.2.2.2.1, (y.1.2.2.2.2.2.1, ((decide ((x966.toNat : Int) > (57 : Int))), ()))))))), ()))
else
 some (((y.1.1, (y.1.2.1, (y.1.2.2.1, (y.1.2.2.2.1, (y.1.2.2.2.2.1, (y.1.2.2.2.2.2.1, (true, ()))))))), ()))
theorem r116_31332 : ∀ y, jxC y = jjK (jjd c116 []) (jjc (jjl (jjc b116 1 122)) 244 31332) 31332 s116_31332 jzd y := fun y => by kernel_rfl
theorem q116_31332 (H : CtxGood Pz c116) : jjn Pz (jjc (jjl (jjc b116 1 122)) 244 31332) (jjb s116_31332 jzd jxC) :=
 jjw (fr := []) H (by kernel_rfl) jje r116_31332
@[reducible] noncomputable def s116_122 : Shape := ⟨[(0, .lf (.d (.str))), (1, .lf (.d (.int .i64))), (6, .lf (.d (.int .i64))), (26, .lf (.d (.int .i64))), (27, .lf (.d (.int .i64)))], [], 53⟩
@[reducible] noncomputable def jJA : List OSh := [(.ret, ⟨[(4, .lf (.d (.int .i64))), (5, .lf (.d (.bool)))], [], 53⟩), (.exit 0, ⟨[(1, .lf (.d (.int .i64))), (6, .lf (.d (.int .i64)))], [], 53⟩)]
noncomputable def g116_122 (y : s116_122.Y) : Option (Sum s116_122.Y (YS jJA)) :=
 bif (decide (y.1.2.2.2.2.1 < y.1.2.2.2.1)) then
(jxC ((y.1.1, (y.1.2.1, (y.1.2.2.1, (y.1.2.2.2.2.1, (y.1.2.2.2.1, (y.1.2.2.2.2.1, ())))))), ())).bind fun r971 =>
 bif r971.1.2.2.2.2.2.2.1 then
 some (.inr (.inl (((0 : Int), (false, ())), ())))
else
(ix r971.1.1 r971.1.2.2.2.1).bind fun x972 =>
 some (.inl ((r971.1.1, (r971.1.2.1, ((IntKind.i64.wrap ((IntKind.i64.wrap (r971.1.2.2.1 * (10 : Int))) + (IntKind.i64.wrap (IntKind.u8.wrap ((x972.toNat : Int) - (48 : Int)))))), (r971.1.2.2.2.2.1, ((IntKind.i64.wrap (r971.1.2.2.2.2.2.1 + (1 : Int))), ()))))), ()))
else
 some (.inr (.inr ((y.1.2.1, (y.1.2.2.1, ())), ())))
theorem r116_122 : ∀ y, g116_122 y = jjz (jjd c116 [(31332, jjb s116_31332 jzd jxC)]) (jjl (jjc b116 1 122)) 122 s116_122 jJA y := fun y => by kernel_rfl
noncomputable def jJF : s116_122.Y → Option (YS jJA) := jjC g116_122
theorem q116_122 (H : CtxGood Pz c116) : jjn Pz (jjc b116 1 122) (jjb s116_122 jJA jJF) :=
 jjt (fr := [(31332, jjb s116_31332 jzd jxC)]) H (by kernel_rfl) (by kernel_rfl) ⟨q116_31332 H, trivial⟩ (fun y => jjh r116_122 y)
@[reducible] noncomputable def i116 : Shape := ⟨[(0, .lf (.d (.str))), (1, .lf (.d (.int .i64)))], [], 53⟩
@[reducible] noncomputable def o116 : Shape := ⟨[(4, .lf (.d (.int .i64))), (5, .lf (.d (.bool)))], [], 53⟩
noncomputable def f116 (a : i116.Y) : Option o116.Y :=
(g116_12 ((a.1.1, (a.1.2.1, ())), ())).bind fun r960 =>
 bif r960.1.2.2.1 then
 some (((0 : Int), (false, ())), ())
else
(jJF ((r960.1.1, (r960.1.2.1, ((0 : Int), ((r960.1.1.length : Int), ((0 : Int), ()))))), ())).bind fun r976 =>
(match r976 with
| .inl r977 =>
 some ((r977.1.1, (r977.1.2.1, ())), ())
| .inr r978 =>
 bif (decide (r978.1.2.1 > r978.1.1)) then
 some (((0 : Int), (false, ())), ())
else
 some ((r978.1.2.1, (true, ())), ()))
theorem e116 : ∀ a, f116 a = jjo (jjd c116 [(12, jjb s116_12 t116_12 g116_12), (122, jjb s116_122 jJA jJF)]) b116 i116 o116 a := fun a => by kernel_rfl
noncomputable def S116 : jjF := jjf tt 53 i116 o116 [.tmp 4, .tmp 5] [] f116
theorem z116 (h : ∀ T, (tt T).ok Pz T) : jja Pz 116 S116 :=
 have H := k116 h
 jjk (fn := Tryz.f116) (fr := [(12, jjb s116_12 t116_12 g116_12), (122, jjb s116_122 jJA jJF)]) H (by kernel_rfl) (by kernel_rfl) (by kernel_rfl) (by kernel_rfl) (by kernel_rfl) ⟨q116_12 H, q116_122 H, trivial⟩ (by kernel_rfl) (fun y => ⟨_, _, rfl, rfl, rfl⟩) e116
noncomputable def c123 : Ctx := { tt := tt, fs := fun n => match n with | _ => none }
theorem k123 (h : ∀ T, (tt T).ok Pz T) : CtxGood Pz c123 := ⟨⟨h⟩, fun g S hg => (by cases hg), jjp, fun _ _ h => (by cases h), fun _ h => (by cases h)⟩
noncomputable def b123 : Code := jji Tryz.f123
@[reducible] noncomputable def s123_3728 : Shape := ⟨[(0, .lf (.d (.str))), (3, .lf (.d (.int .i64))), (4, .lf (.d (.int .i64)))], [], 47⟩
@[reducible] noncomputable def jz9 : List OSh := [(.norm, ⟨[(0, .lf (.d (.str))), (3, .lf (.d (.int .i64))), (4, .lf (.d (.int .i64))), (24, .lf (.d (.bool)))], [], 47⟩)]
noncomputable def jzj (y : s123_3728.Y) : Option (YS jz9) :=
(ix y.1.1 y.1.2.2.1).bind fun x1467 =>
 bif (!(decide ((x1467.toNat : Int) < (48 : Int)))) then
(ix y.1.1 y.1.2.2.1).bind fun x1468 =>
 bif (!(decide ((x1468.toNat : Int) > (57 : Int)))) then
 some (((y.1.1, (y.1.2.1, (y.1.2.2.1, ((decide (y.1.2.2.1 ≥ (6 : Int))), ())))), ()))
else
 some (((y.1.1, (y.1.2.1, (y.1.2.2.1, (true, ())))), ()))
else
 some (((y.1.1, (y.1.2.1, (y.1.2.2.1, (true, ())))), ()))
theorem r123_3728 : ∀ y, jzj y = jjK (jjd c123 []) (jjc (jjl (jjc b123 1 58)) 116 3728) 3728 s123_3728 jz9 y := fun y => by kernel_rfl
theorem q123_3728 (H : CtxGood Pz c123) : jjn Pz (jjc (jjl (jjc b123 1 58)) 116 3728) (jjb s123_3728 jz9 jzj) :=
 jjw (fr := []) H (by kernel_rfl) jje r123_3728
@[reducible] noncomputable def s123_58 : Shape := ⟨[(0, .lf (.d (.str))), (3, .lf (.d (.int .i64))), (4, .lf (.d (.int .i64)))], [], 47⟩
@[reducible] noncomputable def t123_58 : List OSh := [(.ret, ⟨[(2, .lf (.d (.int .i64)))], [], 47⟩), (.exit 0, ⟨[(0, .lf (.d (.str))), (3, .lf (.d (.int .i64)))], [], 47⟩)]
noncomputable def g123_58 (y : s123_58.Y) : Option (Sum s123_58.Y (YS t123_58)) :=
 bif (decide (y.1.2.2.1 < (y.1.1.length : Int))) then
(jzj ((y.1.1, (y.1.2.1, (y.1.2.2.1, ()))), ())).bind fun r1473 =>
 bif r1473.1.2.2.2.1 then
 some (.inr (.inl ((((-1) : Int), ()), ())))
else
(ix r1473.1.1 r1473.1.2.2.1).bind fun x1474 =>
 some (.inl ((r1473.1.1, ((IntKind.i64.wrap ((IntKind.i64.wrap (r1473.1.2.1 * (10 : Int))) + (IntKind.i64.wrap (IntKind.u8.wrap ((x1474.toNat : Int) - (48 : Int)))))), ((IntKind.i64.wrap (r1473.1.2.2.1 + (1 : Int))), ()))), ()))
else
 some (.inr (.inr ((y.1.1, (y.1.2.1, ())), ())))
theorem r123_58 : ∀ y, g123_58 y = jjz (jjd c123 [(3728, jjb s123_3728 jz9 jzj)]) (jjl (jjc b123 1 58)) 58 s123_58 t123_58 y := fun y => by kernel_rfl
noncomputable def l123_58 : s123_58.Y → Option (YS t123_58) := jjC g123_58
theorem q123_58 (H : CtxGood Pz c123) : jjn Pz (jjc b123 1 58) (jjb s123_58 t123_58 l123_58) :=
 jjt (fr := [(3728, jjb s123_3728 jz9 jzj)]) H (by kernel_rfl) (by kernel_rfl) ⟨q123_3728 H, trivial⟩ (fun y => jjh r123_58 y)
@[reducible] noncomputable def s123_60 : Shape := ⟨[(0, .lf (.d (.str))), (3, .lf (.d (.int .i64)))], [], 47⟩
@[reducible] noncomputable def t123_60 : List OSh := [(.norm, ⟨[(3, .lf (.d (.int .i64))), (45, .lf (.d (.bool)))], [], 47⟩)]
noncomputable def g123_60 (y : s123_60.Y) : Option (YS t123_60) :=
 bif (!((y.1.1.length : Int) == (0 : Int))) then
 bif (decide ((y.1.1.length : Int) > (1 : Int))) then
(ix y.1.1 (0 : Int)).bind fun x1489 =>
 some (((y.1.2.1, (((x1489.toNat : Int) == (48 : Int)), ())), ()))
else
 some (((y.1.2.1, (false, ())), ()))
else
 some (((y.1.2.1, (true, ())), ()))
theorem r123_60 : ∀ y, g123_60 y = jjK (jjd c123 []) (jjc b123 1 60) 60 s123_60 t123_60 y := fun y => by kernel_rfl
theorem q123_60 (H : CtxGood Pz c123) : jjn Pz (jjc b123 1 60) (jjb s123_60 t123_60 g123_60) :=
 jjw (fr := []) H (by kernel_rfl) jje r123_60
@[reducible] noncomputable def i123 : Shape := ⟨[(0, .lf (.d (.str)))], [], 47⟩
@[reducible] noncomputable def o123 : Shape := ⟨[(2, .lf (.d (.int .i64)))], [], 47⟩
noncomputable def f123 (a : i123.Y) : Option o123.Y :=
(l123_58 ((a.1.1, ((0 : Int), ((0 : Int), ()))), ())).bind fun r1485 =>
(match r1485 with
| .inl r1486 =>
 some ((r1486.1.1, ()), ())
| .inr r1487 =>
(g123_60 ((r1487.1.1, (r1487.1.2.1, ())), ())).bind fun r1490 =>
 bif r1490.1.2.1 then
 some ((((-1) : Int), ()), ())
else
 some ((r1490.1.1, ()), ()))
theorem e123 : ∀ a, f123 a = jjo (jjd c123 [(58, jjb s123_58 t123_58 l123_58), (60, jjb s123_60 t123_60 g123_60)]) b123 i123 o123 a := fun a => by kernel_rfl
noncomputable def S123 : jjF := jjf tt 47 i123 o123 [.tmp 2] [] f123
theorem z123 (h : ∀ T, (tt T).ok Pz T) : jja Pz 123 S123 :=
 have H := k123 h
 jjk (fn := Tryz.f123) (fr := [(58, jjb s123_58 t123_58 l123_58), (60, jjb s123_60 t123_60 g123_60)]) H (by kernel_rfl) (by kernel_rfl) (by kernel_rfl) (by kernel_rfl) (by kernel_rfl) ⟨q123_58 H, q123_60 H, trivial⟩ (by kernel_rfl) (fun y => ⟨_, _, rfl, rfl, rfl⟩) e123
noncomputable def c62 : Ctx := { tt := tt, fs := fun n => match n with | _ => none }
theorem k62 (h : ∀ T, (tt T).ok Pz T) : CtxGood Pz c62 := ⟨⟨h⟩, fun g S hg => (by cases hg), jjp, fun _ _ h => (by cases h), fun _ h => (by cases h)⟩
noncomputable def b62 : Code := jji Tryz.f62
@[reducible] noncomputable def s62_12 : Shape := ⟨[(0, .lf (.d (.str)))], [], 49⟩
@[reducible] noncomputable def t62_12 : List OSh := [(.norm, ⟨[(0, .lf (.d (.str))), (20, .lf (.d (.bool)))], [], 49⟩)]
noncomputable def g62_12 (y : s62_12.Y) : Option (YS t62_12) :=
 bif (!(y.1.1 == ([] : Str))) then
 bif (!(decide ((y.1.1.length : Int) > (10 : Int)))) then
(ix y.1.1 (0 : Int)).bind fun x924 =>
 bif (!(decide ((x924.toNat : Int) < (97 : Int)))) then
(ix y.1.1 (0 : Int)).bind fun x925 =>
 some (((y.1.1, ((decide ((x925.toNat : Int) > (122 : Int))), ())), ()))
else
 some (((y.1.1, (true, ())), ()))
else
 some (((y.1.1, (true, ())), ()))
else
 some (((y.1.1, (true, ())), ()))
theorem r62_12 : ∀ y, g62_12 y = jjK (jjd c62 []) (jjc b62 1 12) 12 s62_12 t62_12 y := fun y => by kernel_rfl
theorem q62_12 (H : CtxGood Pz c62) : jjn Pz (jjc b62 1 12) (jjb s62_12 t62_12 g62_12) :=
 jjw (fr := []) H (by kernel_rfl) jje r62_12
@[reducible] noncomputable def s62_7474 : Shape := ⟨[(0, .lf (.d (.str))), (3, .lf (.d (.int .i64))), (22, .lf (.d (.int .i64))), (23, .lf (.d (.int .i64)))], [], 49⟩
@[reducible] noncomputable def t62_7474 : List OSh := [(.norm, ⟨[(0, .lf (.d (.str))), (22, .lf (.d (.int .i64))), (23, .lf (.d (.int .i64))), (47, .lf (.d (.bool)))], [], 49⟩)]
noncomputable def jJL (y : s62_7474.Y) : Option (YS t62_7474) :=
(ix y.1.1 y.1.2.1).bind fun x942 =>
 bif (!(decide ((x942.toNat : Int) < (97 : Int)))) then
(ix y.1.1 y.1.2.1).bind fun x943 =>
 bif (decide ((x943.toNat : Int) > (122 : Int))) then
(ix y.1.1 y.1.2.1).bind fun x944 =>
 bif (!(decide ((x944.toNat : Int) < (48 : Int)))) then
(ix y.1.1 y.1.2.1).bind fun x945 =>
 some (((y.1.1, (y.1.2.2.1, (y.1.2.2.2.1, ((decide ((x945.toNat : Int) > (57 : Int))), ())))), ()))
else
 some (((y.1.1, (y.1.2.2.1, (y.1.2.2.2.1, (true, ())))), ()))
else
 some (((y.1.1, (y.1.2.2.1, (y.1.2.2.2.1, (false, ())))), ()))
else
(ix y.1.1 y.1.2.1).bind fun x946 =>
 bif (!(decide ((x946.toNat : Int) < (48 : Int)))) then
(ix y.1.1 y.1.2.1).bind fun x947 =>
 some (((y.1.1, (y.1.2.2.1, (y.1.2.2.2.1, ((decide ((x947.toNat : Int) > (57 : Int))), ())))), ()))
else
 some (((y.1.1, (y.1.2.2.1, (y.1.2.2.2.1, (true, ())))), ()))
theorem r62_7474 : ∀ y, jJL y = jjK (jjd c62 []) (jjc (jjl (jjc b62 1 58)) 116 7474) 7474 s62_7474 t62_7474 y := fun y => by kernel_rfl
theorem q62_7474 (H : CtxGood Pz c62) : jjn Pz (jjc (jjl (jjc b62 1 58)) 116 7474) (jjb s62_7474 t62_7474 jJL) :=
 jjw (fr := []) H (by kernel_rfl) jje r62_7474
@[reducible] noncomputable def s62_58 : Shape := ⟨[(0, .lf (.d (.str))), (22, .lf (.d (.int .i64))), (23, .lf (.d (.int .i64)))], [], 49⟩
@[reducible] noncomputable def t62_58 : List OSh := [(.ret, ⟨[(2, .lf (.d (.bool)))], [], 49⟩), (.exit 0, ⟨[], [], 49⟩)]
noncomputable def g62_58 (y : s62_58.Y) : Option (Sum s62_58.Y (YS t62_58)) :=
 bif (decide (y.1.2.2.1 < y.1.2.1)) then
(jJL ((y.1.1, (y.1.2.2.1, (y.1.2.1, (y.1.2.2.1, ())))), ())).bind fun r949 =>
 bif r949.1.2.2.2.1 then
 some (.inr (.inl ((false, ()), ())))
else
 some (.inl ((r949.1.1, (r949.1.2.1, ((IntKind.i64.wrap (r949.1.2.2.1 + (1 : Int))), ()))), ()))
else
 some (.inr (.inr ((), ())))
theorem r62_58 : ∀ y, g62_58 y = jjz (jjd c62 [(7474, jjb s62_7474 t62_7474 jJL)]) (jjl (jjc b62 1 58)) 58 s62_58 t62_58 y := fun y => by kernel_rfl
noncomputable def l62_58 : s62_58.Y → Option (YS t62_58) := jjC g62_58
theorem q62_58 (H : CtxGood Pz c62) : jjn Pz (jjc b62 1 58) (jjb s62_58 t62_58 l62_58) :=
 jjt (fr := [(7474, jjb s62_7474 t62_7474 jJL)]) H (by kernel_rfl) (by kernel_rfl) ⟨q62_7474 H, trivial⟩ (fun y => jjh r62_58 y)
@[reducible] noncomputable def i62 : Shape := ⟨[(0, .lf (.d (.str)))], [], 49⟩
@[reducible] noncomputable def o62 : Shape := ⟨[(2, .lf (.d (.bool)))], [], 49⟩
noncomputable def f62 (a : i62.Y) : Option o62.Y :=
(g62_12 ((a.1.1, ()), ())).bind fun r929 =>
 bif r929.1.2.1 then
 some ((false, ()), ())
else
(l62_58 ((r929.1.1, ((r929.1.1.length : Int), ((0 : Int), ()))), ())).bind fun r950 =>
(match r950 with
| .inl r951 =>
 some ((r951.1.1, ()), ())
| .inr r952 =>
 some ((true, ()), ()))
theorem e62 : ∀ a, f62 a = jjo (jjd c62 [(12, jjb s62_12 t62_12 g62_12), (58, jjb s62_58 t62_58 l62_58)]) b62 i62 o62 a := fun a => by kernel_rfl
noncomputable def S62 : jjF := jjf tt 49 i62 o62 [.tmp 2] [] f62
theorem z62 (h : ∀ T, (tt T).ok Pz T) : jja Pz 62 S62 :=
 have H := k62 h
 jjk (fn := Tryz.f62) (fr := [(12, jjb s62_12 t62_12 g62_12), (58, jjb s62_58 t62_58 l62_58)]) H (by kernel_rfl) (by kernel_rfl) (by kernel_rfl) (by kernel_rfl) (by kernel_rfl) ⟨q62_12 H, q62_58 H, trivial⟩ (by kernel_rfl) (fun y => ⟨_, _, rfl, rfl, rfl⟩) e62
noncomputable def c94 : Ctx := { tt := tt, fs := fun n => match n with | _ => none }
theorem k94 (h : ∀ T, (tt T).ok Pz T) : CtxGood Pz c94 := ⟨⟨h⟩, fun g S hg => (by cases hg), jjp, fun _ _ h => (by cases h), fun _ h => (by cases h)⟩
noncomputable def b94 : Code := jji Tryz.f94
@[reducible] noncomputable def i94 : Shape := ⟨[(0, .lf (.d (.int .i64))), (1, .lf (.d (.int .i64))), (2, .lf (.d (.int .i64)))], [], 15⟩
@[reducible] noncomputable def o94 : Shape := ⟨[(6, .lf (.d (.bool)))], [], 15⟩
noncomputable def f94 (a : i94.Y) : Option o94.Y :=
 bif (decide (a.1.1 ≥ a.1.2.1)) then
 some (((decide (a.1.1 ≤ a.1.2.2.1)), ()), ())
else
 some ((false, ()), ())
theorem e94 : ∀ a, f94 a = jjo (jjd c94 []) b94 i94 o94 a := fun a => by kernel_rfl
noncomputable def S94 : jjF := jjf tt 15 i94 o94 [.tmp 6] [] f94
theorem z94 (h : ∀ T, (tt T).ok Pz T) : jja Pz 94 S94 :=
 have H := k94 h
 jjk (fn := Tryz.f94) (fr := []) H (by kernel_rfl) (by kernel_rfl) (by kernel_rfl) (by kernel_rfl) (by kernel_rfl) jje (by kernel_rfl) (fun y => ⟨_, _, rfl, rfl, rfl⟩) e94
noncomputable def c70 : Ctx := { tt := tt, fs := fun n => match n with | 94 => some S94 | _ => none }
theorem k70 (h : ∀ T, (tt T).ok Pz T) (h94 : jja Pz 94 S94) : CtxGood Pz c70 := ⟨⟨h⟩, fun g S hg => (by
 simp only [c70] at hg
 split at hg
 ·cases hg; exact h94
 ·cases hg), jjp, fun _ _ h => (by cases h), fun _ h => (by cases h)⟩
noncomputable def b70 : Code := jji Tryz.f70
@[reducible] noncomputable def s70_840 : Shape := ⟨[(0, .lf (.d (.str))), (3, .lf (.d (.int .i64)))], [], 42⟩
@[reducible] noncomputable def t70_840 : List OSh := [(.norm, ⟨[(0, .lf (.d (.str))), (3, .lf (.d (.int .i64))), (4, .lf (.d (.bool)))], [], 42⟩)]
noncomputable def g70_840 (y : s70_840.Y) : Option (YS t70_840) :=
(ix y.1.1 y.1.2.1).bind fun x1429 =>
 bif (decide ((x1429.toNat : Int) ≥ (97 : Int))) then
(ix y.1.1 y.1.2.1).bind fun x1430 =>
 some (((y.1.1, (y.1.2.1, ((decide ((x1430.toNat : Int) ≤ (122 : Int))), ()))), ()))
else
 some (((y.1.1, (y.1.2.1, (false, ()))), ()))
theorem r70_840 : ∀ y, g70_840 y = jjK (jjd c70 []) (jjc (jjl (jjc b70 1 26)) 52 840) 840 s70_840 t70_840 y := fun y => by kernel_rfl
theorem q70_840 (H : CtxGood Pz c70) : jjn Pz (jjc (jjl (jjc b70 1 26)) 52 840) (jjb s70_840 t70_840 g70_840) :=
 jjw (fr := []) H (by kernel_rfl) jje r70_840
@[reducible] noncomputable def s70_1682 : Shape := ⟨[(0, .lf (.d (.str))), (3, .lf (.d (.int .i64))), (4, .lf (.d (.bool)))], [], 42⟩
@[reducible] noncomputable def t70_1682 : List OSh := [(.norm, ⟨[(0, .lf (.d (.str))), (3, .lf (.d (.int .i64))), (38, .lf (.d (.bool)))], [], 42⟩)]
noncomputable def jJJ (y : s70_1682.Y) : Option (YS t70_1682) :=
 bif (!y.1.2.2.1) then
 bif (!(y.1.2.1 == (0 : Int))) then
(ix y.1.1 y.1.2.1).bind fun x1437 =>
 bif (!(decide ((x1437.toNat : Int) < (48 : Int)))) then
(ix y.1.1 y.1.2.1).bind fun x1438 =>
 some (((y.1.1, (y.1.2.1, ((decide ((x1438.toNat : Int) > (57 : Int))), ()))), ()))
else
 some (((y.1.1, (y.1.2.1, (true, ()))), ()))
else
 some (((y.1.1, (y.1.2.1, (true, ()))), ()))
else
 some (((y.1.1, (y.1.2.1, (false, ()))), ()))
theorem r70_1682 : ∀ y, jJJ y = jjK (jjd c70 []) (jjc (jjl (jjc b70 1 26)) 52 1682) 1682 s70_1682 t70_1682 y := fun y => by kernel_rfl
theorem q70_1682 (H : CtxGood Pz c70) : jjn Pz (jjc (jjl (jjc b70 1 26)) 52 1682) (jjb s70_1682 t70_1682 jJJ) :=
 jjw (fr := []) H (by kernel_rfl) jje r70_1682
@[reducible] noncomputable def s70_26 : Shape := ⟨[(0, .lf (.d (.str))), (3, .lf (.d (.int .i64)))], [], 42⟩
@[reducible] noncomputable def t70_26 : List OSh := [(.ret, ⟨[(2, .lf (.d (.bool)))], [], 42⟩), (.exit 0, ⟨[(0, .lf (.d (.str)))], [], 42⟩)]
noncomputable def g70_26 (y : s70_26.Y) : Option (Sum s70_26.Y (YS t70_26)) :=
 bif (decide (y.1.2.1 < (y.1.1.length : Int))) then
(g70_840 ((y.1.1, (y.1.2.1, ())), ())).bind fun r1440 =>
(jJJ ((r1440.1.1, (r1440.1.2.1, (r1440.1.2.2.1, ()))), ())).bind fun r1441 =>
 bif r1441.1.2.2.1 then
 some (.inr (.inl ((false, ()), ())))
else
 some (.inl ((r1441.1.1, ((IntKind.i64.wrap (r1441.1.2.1 + (1 : Int))), ())), ()))
else
 some (.inr (.inr ((y.1.1, ()), ())))
theorem r70_26 : ∀ y, g70_26 y = jjz (jjd c70 [(840, jjb s70_840 t70_840 g70_840), (1682, jjb s70_1682 t70_1682 jJJ)]) (jjl (jjc b70 1 26)) 26 s70_26 t70_26 y := fun y => by kernel_rfl
noncomputable def l70_26 : s70_26.Y → Option (YS t70_26) := jjC g70_26
theorem q70_26 (H : CtxGood Pz c70) : jjn Pz (jjc b70 1 26) (jjb s70_26 t70_26 l70_26) :=
 jjt (fr := [(840, jjb s70_840 t70_840 g70_840), (1682, jjb s70_1682 t70_1682 jJJ)]) H (by kernel_rfl) (by kernel_rfl) ⟨q70_840 H, q70_1682 H, trivial⟩ (fun y => jjh r70_26 y)
@[reducible] noncomputable def i70 : Shape := ⟨[(0, .lf (.d (.str)))], [], 42⟩
@[reducible] noncomputable def o70 : Shape := ⟨[(2, .lf (.d (.bool)))], [], 42⟩
noncomputable def f70 (a : i70.Y) : Option o70.Y :=
(l70_26 ((a.1.1, ((0 : Int), ())), ())).bind fun r1452 =>
(match r1452 with
| .inl r1453 =>
 some ((r1453.1.1, ()), ())
| .inr r1454 =>
(f94 (((r1454.1.1.length : Int), ((1 : Int), ((10 : Int), ()))), ())).bind fun r1455 =>
 some ((r1455.1.1, ()), ()))
theorem e70 : ∀ a, f70 a = jjo (jjd c70 [(26, jjb s70_26 t70_26 l70_26)]) b70 i70 o70 a := fun a => by kernel_rfl
noncomputable def S70 : jjF := jjf tt 42 i70 o70 [.tmp 2] [] f70
theorem z70 (h : ∀ T, (tt T).ok Pz T) (h94 : jja Pz 94 S94) : jja Pz 70 S70 :=
 have H := k70 h h94
 jjk (fn := Tryz.f70) (fr := [(26, jjb s70_26 t70_26 l70_26)]) H (by kernel_rfl) (by kernel_rfl) (by kernel_rfl) (by kernel_rfl) (by kernel_rfl) ⟨q70_26 H, trivial⟩ (by kernel_rfl) (fun y => ⟨_, _, rfl, rfl, rfl⟩) e70
def lowB (b : UInt8) : Bool := decide ((97 : Int) ≤ (b.toNat : Int)) && decide ((b.toNat : Int) ≤ 122)
def jzW (b : UInt8) : Bool := decide ((48 : Int) ≤ (b.toNat : Int)) && decide ((b.toNat : Int) ≤ 57)
def jj7 (n lo hi : Int) : Bool := decide (lo ≤ n) && decide (n ≤ hi)
theorem v_l1In (a) : f94 a = some ((jj7 a.1.1 a.1.2.1 a.1.2.2.1, ()), ()) := by
 simp only [f94, jj7, ge_iff_le]
 cases decide (a.1.2.1 ≤ a.1.1) <;> rfl
def jzU (s : Str) : Bool := jqz (fun i x => lowB x || (!(i == 0) && jzW x)) 0 s && jj7 s.length 1 10
theorem v_l3Pack (a) (hs : Sm a.1.1.length) : f70 a = some ((jzU a.1.1, ()), ()) := by
 obtain ⟨⟨s, u⟩, u'⟩ := a
 have key : l70_26 ((s, ((0 : Int), ())), ()) = some (bif jqz (fun i x => lowB x || (!(i == 0) && jzW x)) 0 s then .inr ((s, ()), ()) else .inl ((false, ()), ())) := by
  refine jjU g70_26 s (fun i => ((s, ((i : Int), ())), ())) _ _ _ (fun i x hx => ?_) ?_
  ·have hi := jjv hx
   have hw : Sm i := by unfold Sm at *; simp only at hs; omega
   simp only [g70_26, jjA hi, cond_true, g70_840, jJJ, jjs, hx, Option.bind_some, jjj hw, ge_iff_le, beq0]
   unfold lowB jzW
   by_cases h1 : (97 : Int) ≤ (x.toNat : Int) <;> by_cases h2 : (x.toNat : Int) ≤ 122 <;> cases h3 : (i == 0) <;> by_cases h4 : (48 : Int) ≤ (x.toNat : Int) <;> by_cases h5 : (x.toNat : Int) ≤ 57 <;> simp [h1, h2, h3, h4, h5, jjj hw, jjs, hx, beq0, dlt, dgt, -beq_iff_eq]
  ·simp only [g70_26, jjI, cond_false]
 simp only [f70, key, Option.bind_some]
 unfold jzU
 cases jqz (fun i x => lowB x || (!(i == 0) && jzW x)) 0 s with
 | false => rfl
 | true => simp only [cond_true, v_l1In, Option.bind_some, Bool.true_and]
theorem pkName_cons (b : UInt8) (r : Str) : jzU (b :: r) = (lowB b && (b :: r).all (fun x => lowB x || jzW x) && decide (((b :: r).length : Int) ≤ 10)) := by
 unfold jzU
 simp only [jqz, List.all_cons]
 have : jqz (fun i x => lowB x || (!(i == 0) && jzW x)) (0 + 1) r = r.all (fun x => lowB x || jzW x) := by
  have hz : ∀ (i : Nat) (x : UInt8), 1 ≤ i → x ∈ r → (lowB x || (!(i == 0) && jzW x)) = (lowB x || jzW x) := by
   intro i x hi _
   have : (i == 0) = false := by simp; omega
   rw [this]; simp
  rw [allI_congr (ok' := fun _ x => lowB x || jzW x) r 1 hz, jjW]
 rw [this]
 unfold jj7
 have : decide ((1 : Int) ≤ ((b :: r).length : Int)) = true := by simp only [List.length_cons, decide_eq_true_eq]; omega
 rw [this]
 cases lowB b <;> simp
theorem v_packNameOk (a) (hs : Sm a.1.1.length) : f62 a = some ((jzU a.1.1, ()), ()) := by
 obtain ⟨⟨s, u⟩, u'⟩ := a
 have key : l62_58 ((s, ((s.length : Int), ((0 : Int), ()))), ()) = some (bif jqz (fun _ x => lowB x || jzW x) 0 s then .inr ((), ()) else .inl ((false, ()), ())) := by
  refine jjU g62_58 s (fun i => ((s, ((s.length : Int), ((i : Int), ()))), ())) _ _ _ (fun i x hx => ?_) ?_
  ·have hi := jjv hx
   have hw : Sm i := by unfold Sm at *; simp only at hs; omega
   simp only [g62_58, jjA hi, cond_true, jJL, jjs, hx, Option.bind_some, jjj hw, dlt, dgt]
   unfold lowB jzW
   by_cases h1 : (97 : Int) ≤ (x.toNat : Int) <;> by_cases h2 : (x.toNat : Int) ≤ 122 <;> by_cases h4 : (48 : Int) ≤ (x.toNat : Int) <;> by_cases h5 : (x.toNat : Int) ≤ 57 <;> simp [h1, h2, h4, h5, jjj hw, jjs, hx, dlt, dgt]
  ·simp only [g62_58, jjI, cond_false]
 rw [jjW] at key
 cases s with
 | nil => rfl
 | cons b r =>
  have hb : ix (b :: r) 0 = some b := rfl
  simp only [f62, g62_12, hb, Option.bind_some, dlt, dgt, pkName_cons]
  have he : ((b :: r) == ([] : Str)) = false := rfl
  have hl : lowB b = (decide ((97 : Int) ≤ (b.toNat : Int)) && decide ((b.toNat : Int) ≤ 122)) := rfl
  rw [he, hl]
  by_cases h1 : (97 : Int) ≤ (b.toNat : Int) <;> by_cases h2 : (b.toNat : Int) ≤ 122 <;> by_cases h3 : ((b :: r).length : Int) ≤ 10 <;>
   simp only [h1, h2, h3, decide_true, decide_false, Bool.not_true, Bool.not_false, cond_true, cond_false, Option.bind_some, Bool.true_and, Bool.and_true, Bool.false_and, Bool.and_false]
  rw [key]
  generalize List.all (b :: r) (fun x => lowB x || jzW x) = q
  cases q <;> rfl
def jzf (n : Int) (b : UInt8) : Int := n * 10 + ((b.toNat : Int) - 48)
def valN (s : Str) : Int := s.foldl jzf 0
def leadB : Str → Bool
 | b :: _ :: _ => (b.toNat : Int) == 48
 | _ => false
def numB (s : Str) : Bool := s.all jzW && !(s == []) && !leadB s && decide (s.length ≤ 6) && decide (valN s ≤ 999)
theorem jqp {b : UInt8} (h : jzW b = true) : 48 ≤ (b.toNat : Int) ∧ (b.toNat : Int) ≤ 57 := by
 simpa [jzW] using h
theorem wrapU8 {b : UInt8} (h : jzW b = true) : IntKind.u8.wrap ((b.toNat : Int) - 48) = (b.toNat : Int) - 48 := by
 have := jqp h
 rw [IntKind.wrap_u8]; omega
theorem step_bounds {n : Int} {b : UInt8} {i : Nat} (h : jzW b = true) (h0 : 0 ≤ n) (h1 : n < 10 ^ i) : 0 ≤ jzf n b ∧ jzf n b < 10 ^ (i + 1) := by
 have := jqp h
 unfold jzf
 rw [Int.pow_succ]
 omega
theorem pow_le9 {i : Nat} (h : i ≤ 9) : (10 : Int) ^ i ≤ 1000000000 := by
 have : i = 0 ∨ i = 1 ∨ i = 2 ∨ i = 3 ∨ i = 4 ∨ i = 5 ∨ i = 6 ∨ i = 7 ∨ i = 8 ∨ i = 9 := by omega
 rcases this with rfl | rfl | rfl | rfl | rfl | rfl | rfl | rfl | rfl | rfl <;> decide
theorem step_wrap {n : Int} {b : UInt8} {i : Nat} (h : jzW b = true) (hi : i ≤ 8) (h0 : 0 ≤ n) (h1 : n < 10 ^ i) :
  IntKind.i64.wrap (IntKind.i64.wrap (n * 10) + IntKind.i64.wrap (IntKind.u8.wrap ((b.toNat : Int) - 48))) = jzf n b := by
 have hd := jqp h
 have hp := pow_le9 (show i ≤ 9 by omega)
 rw [wrapU8 h, jjG (n := n * 10) (by omega) (by omega), jjG (n := (b.toNat : Int) - 48) (by omega) (by omega), jjG (by omega) (by omega)]
 rfl
theorem v_l1Num (a) (hs : Sm a.1.1.length) : f123 a = some ((bif a.1.1.all jzW && decide (a.1.1.length ≤ 6) && !(a.1.1 == []) && !leadB a.1.1 then valN a.1.1 else -1, ()), ()) := by
 obtain ⟨⟨s, u⟩, u'⟩ := a
 have key : l123_58 ((s, ((0 : Int), ((0 : Int), ()))), ()) = some (bif jqz (fun i x => jzW x && decide (i < 6)) 0 s then .inr ((s, (valN s, ())), ()) else .inl ((((-1) : Int), ()), ())) := by
  have := jq4 g123_58 s (fun i n => ((s, (n, ((i : Int), ()))), ())) (fun i x n => some (bif jzW x && decide (i < 6) then .inl (jzf n x) else .inr (.inl ((((-1) : Int), ()), ())))) (fun n => .inr ((s, (n, ())), ()))
   (fun i n => 0 ≤ n ∧ n < 10 ^ i ∧ (i ≤ 6)) (0 : Int) ⟨by decide, by decide, by decide⟩ (fun i x n hx hI => ?_) (fun n _ => ?_)
  ·exact this.trans (by rw [jQh]; rfl)
  ·have hi := jjv hx
   have hw : Sm i := by unfold Sm at *; simp only at hs; omega
   obtain ⟨h0, h1, h6⟩ := hI
   refine ⟨?_, fun s' h' => ?_⟩
   ·simp only [g123_58, jjA hi, cond_true, jzj, jjs, hx, Option.bind_some, jjj hw, dlt, dgt, dge]
    have hsix : decide ((6 : Int) ≤ (i : Int)) = !decide (i < 6) := by by_cases h : i < 6 <;> simp [h] <;> omega
    rw [hsix]
    cases hd : jzW x with
    | false =>
     unfold jzW at hd
     by_cases h4 : (48 : Int) ≤ (x.toNat : Int) <;> by_cases h5 : (x.toNat : Int) ≤ 57 <;> simp [h4, h5] at hd ⊢
    | true =>
     obtain ⟨h4, h5⟩ := jqp hd
     cases hq : decide (i < 6) with
     | false => simp [h4, h5]
     | true =>
      have hq : i < 6 := by simpa using hq
      have := step_wrap (i := i) hd (by omega) h0 h1
      simp only [h4, h5, decide_true, Bool.not_true, Bool.not_false, cond_true, cond_false, Option.bind_some, jjs, hx, this, jjj hw, Bool.and_true, Option.map_some]
   ·simp only [Option.some.injEq] at h'
    cases hq : (jzW x && decide (i < 6)) with
    | false => rw [hq] at h'; cases h'
    | true =>
     rw [hq] at h'
     simp only [cond_true, Sum.inl.injEq] at h'
     simp only [Bool.and_eq_true, decide_eq_true_eq] at hq
     subst h'
     have := step_bounds hq.1 h0 h1
     exact ⟨this.1, this.2, by omega⟩
  ·simp only [g123_58, jjI, cond_false]
 rw [allI_and, jjW, allI_lt] at key
 simp only [f123, key, Option.bind_some]
 cases s with
 | nil => rfl
 | cons b r =>
  have hb : ix (b :: r) 0 = some b := rfl
  have he : ((b :: r) == ([] : Str)) = false := rfl
  have hz : (((b :: r).length : Int) == 0) = false := by simp only [List.length_cons, beq_eq_false_iff_ne, ne_eq]; omega
  have hl : decide (((b :: r).length : Int) > 1) = !(r == []) := by cases r <;> simp; omega
  simp only [List.isEmpty_cons, Bool.false_or, Nat.zero_add, he, Bool.not_false, Bool.and_true]
  cases hq : (List.all (b :: r) jzW && decide ((b :: r).length ≤ 6)) with
  | false => rfl
  | true =>
   simp only [cond_true, g123_60, hz, Bool.not_false, hl, hb, Option.bind_some, Bool.true_and]
   cases r with
   | nil => rfl
   | cons c r =>
    have : ((c :: r) == ([] : Str)) = false := rfl
    rw [this]
    simp only [Bool.not_false, cond_true, Option.bind_some, leadB]
    cases ((b.toNat : Int) == 48) <;> rfl
theorem val_lower : ∀ (r : Str) (n : Int) (k : Nat), r.all jzW = true → 0 ≤ n → 10 ^ k ≤ n → 10 ^ (k + r.length) ≤ r.foldl jzf n := by
 intro r
 induction r with
 | nil => intro n k _ _ h; exact h
 | cons b r ih =>
  intro n k hd h0 h
  simp only [List.all_cons, Bool.and_eq_true] at hd
  have hb := jqp hd.1
  have hs : 10 ^ (k + 1) ≤ jzf n b := by unfold jzf; rw [Int.pow_succ]; omega
  have := ih (jzf n b) (k + 1) hd.2 (by unfold jzf; omega) hs
  simp only [List.length_cons, List.foldl_cons]
  rw [show k + (r.length + 1) = k + 1 + r.length by omega]
  exact this
theorem pow10_ge {n : Nat} (h : 6 ≤ n) : (1000000 : Int) ≤ 10 ^ n := by
 induction n with
 | zero => omega
 | succ n ih =>
  by_cases h6 : 6 ≤ n
  ·have := ih h6; rw [Int.pow_succ]; omega
  ·have : n = 5 := by omega
   subst this; decide
theorem val_big {s : Str} (hd : s.all jzW = true) (hl : leadB s = false) (h7 : 7 ≤ s.length) : 999 < valN s := by
 match s, h7 with
 | b :: c :: r, h7 =>
  simp only [leadB, beq_eq_false_iff_ne, ne_eq] at hl
  simp only [List.all_cons, Bool.and_eq_true] at hd
  have hb := jqp hd.1
  have hc := jqp hd.2.1
  have hs : (10 : Int) ^ 0 ≤ jzf 0 b := by unfold jzf; simp; omega
  have := val_lower (c :: r) (jzf 0 b) 0 (by simp [hd.2.1, hd.2.2]) (by unfold jzf; omega) hs
  have h2 : (1000000 : Int) ≤ 10 ^ (0 + (c :: r).length) := pow10_ge (by simp only [List.length_cons] at h7 ⊢; omega)
  show 999 < List.foldl jzf (jzf 0 b) (c :: r)
  omega
theorem v_number (a) (hs : Sm a.1.1.length) (h9 : a.1.2.1 = 999) : f116 a = some ((bif numB a.1.1 then valN a.1.1 else 0, (numB a.1.1, ())), ()) := by
 obtain ⟨⟨s, m, u⟩, u'⟩ := a
 obtain rfl : m = 999 := h9
 have key : s.length ≤ 9 → jJF ((s, ((999 : Int), ((0 : Int), ((s.length : Int), ((0 : Int), ()))))), ()) = some (bif jqz (fun i x => jzW x) 0 s then .inr (((999 : Int), (valN s, ())), ()) else .inl (((0 : Int), (false, ())), ())) := by
  intro h9
  have := jq4 g116_122 s (fun i n => ((s, ((999 : Int), (n, ((s.length : Int), ((i : Int), ()))))), ())) (fun i x n => some (bif jzW x then .inl (jzf n x) else .inr (.inl (((0 : Int), (false, ())), ())))) (fun n => .inr (((999 : Int), (n, ())), ()))
   (fun i n => 0 ≤ n ∧ n < 10 ^ i ∧ (i ≤ 9)) (0 : Int) ⟨by decide, by decide, by decide⟩ (fun i x n hx hI => ?_) (fun n _ => ?_)
  ·exact this.trans (by rw [jQh]; rfl)
  ·have hi := jjv hx
   have hw : Sm i := by unfold Sm at *; simp only at hs; omega
   obtain ⟨h0, h1, h6⟩ := hI
   refine ⟨?_, fun s' h' => ?_⟩
   ·simp only [g116_122, jjA hi, cond_true, jxC, jjs, hx, Option.bind_some, jjj hw, dlt, dgt, dge]
    cases hd : jzW x with
    | false =>
     unfold jzW at hd
     by_cases h4 : (48 : Int) ≤ (x.toNat : Int) <;> by_cases h5 : (x.toNat : Int) ≤ 57 <;> simp [h4, h5] at hd ⊢
    | true =>
     obtain ⟨h4, h5⟩ := jqp hd
     have := step_wrap (i := i) hd (by omega) h0 h1
     simp only [h4, h5, decide_true, Bool.not_true, Bool.not_false, cond_true, cond_false, Option.bind_some, jjs, hx, this, jjj hw, Bool.and_true, Option.map_some]
   ·simp only [Option.some.injEq] at h'
    cases hq : jzW x with
    | false => rw [hq] at h'; cases h'
    | true =>
     rw [hq] at h'
     simp only [cond_true, Sum.inl.injEq] at h'
     subst h'
     have := step_bounds hq h0 h1
     exact ⟨this.1, this.2, by omega⟩
  ·simp only [g116_122, jjI, cond_false]
 rw [jjW] at key
 cases s with
 | nil => rfl
 | cons b r =>
  have hb : ix (b :: r) 0 = some b := rfl
  have he : ((b :: r) == ([] : Str)) = false := rfl
  have hl : decide (((b :: r).length : Int) > 1) = !(r == []) := by cases r <;> simp; omega
  have h9 : decide (((b :: r).length : Int) > 9) = !decide ((b :: r).length ≤ 9) := by by_cases h : (b :: r).length ≤ 9 <;> simp only [h, decide_true, decide_false, Bool.not_true, Bool.not_false, decide_eq_true_eq, decide_eq_false_iff_not] <;> omega
  have hlead : leadB (b :: r) = (!(r == []) && (b.toNat : Int) == 48) := by cases r <;> rfl
  simp only [f116, g116_12, he, hl, h9, Bool.not_false, cond_true, Bool.not_not, hb, Option.bind_some]
  have fin : (b :: r).length ≤ 9 → leadB (b :: r) = false → ((jJF ((b :: r, ((999 : Int), ((0 : Int), (((b :: r).length : Int), ((0 : Int), ()))))), ())).bind fun r752 => match r752 with
    | .inl r753 => some ((r753.1.1, (r753.1.2.1, ())), ())
    | .inr r754 => bif decide (r754.1.2.1 > r754.1.1) then some (((0 : Int), (false, ())), ()) else some ((r754.1.2.1, (true, ())), ())) =
    some ((bif numB (b :: r) then valN (b :: r) else 0, (numB (b :: r), ())), ()) := by
   intro h9 hlf
   rw [key h9]
   unfold numB
   rw [he, hlf]
   cases hd : List.all (b :: r) jzW with
   | false => rfl
   | true =>
    simp only [cond_true, Option.bind_some, Bool.not_false, Bool.true_and, dgt]
    by_cases h6 : (b :: r).length ≤ 6
    ·simp only [h6, decide_true, Bool.true_and]
     cases decide (valN (b :: r) ≤ 999) <;> rfl
    ·have := val_big hd hlf (by omega)
     have : decide (valN (b :: r) ≤ 999) = false := by simp only [decide_eq_false_iff_not]; omega
     rw [this]
     simp only [h6, decide_false, Bool.false_and]
     rfl
  by_cases hq : (b :: r).length ≤ 9
  ·simp only [hq, decide_true, cond_true]
   cases hr : (r == []) with
   | true =>
    simp only [Bool.not_true, cond_false, Option.bind_some]
    exact fin hq (by rw [hlead, hr]; rfl)
   | false =>
    simp only [Bool.not_false, cond_true, Option.bind_some]
    cases h48 : ((b.toNat : Int) == 48) with
    | true =>
     have : numB (b :: r) = false := by unfold numB; rw [hlead, hr, h48]; simp
     rw [this]; rfl
    | false =>
     simp only [cond_false]
     exact fin hq (by rw [hlead, hr, h48]; rfl)
  ·have : numB (b :: r) = false := by
    unfold numB
    have : decide ((b :: r).length ≤ 6) = false := by simp only [decide_eq_false_iff_not]; omega
    rw [this]; simp
   simp only [hq, decide_false, cond_false, Option.bind_some, cond_true, this]
noncomputable def c122 : Ctx := { tt := tt, fs := fun n => match n with | _ => none }
theorem k122 (h : ∀ T, (tt T).ok Pz T) : CtxGood Pz c122 := ⟨⟨h⟩, fun g S hg => (by cases hg), jjp, fun _ _ h => (by cases h), fun _ h => (by cases h)⟩
noncomputable def b122 : Code := jji Tryz.f122
@[reducible] noncomputable def s122_122 : Shape := ⟨[(0, .lf (.d (.str))), (1, .lf (.d (.int .u8))), (2, .lf (.d (.int .i64))), (7, .lf (.own 3000448)), (8, .lf (.d (.int .i64))), (9, .lf (.d (.int .i64)))], [(3000448, .row .str, .slot 7 0)], 43⟩
@[reducible] noncomputable def jxT : List OSh := [(.exit 0, ⟨[(0, .lf (.d (.str))), (7, .lf (.own 3000448)), (8, .lf (.d (.int .i64)))], [(3000448, .row .str, .slot 7 0)], 43⟩)]
noncomputable def g122_122 (y : s122_122.Y) : Option (Sum s122_122.Y (YS jxT)) :=
 bif (decide (y.1.2.2.2.2.2.1 < (y.1.1.length : Int))) then
 bif (decide ((y.2.1.length : Int) < y.1.2.2.1)) then
(ix y.1.1 y.1.2.2.2.2.2.1).bind fun x137 =>
 bif ((x137.toNat : Int) == y.1.2.1) then
(jqJ y.1.1 y.1.2.2.2.2.1 y.1.2.2.2.2.2.1).bind fun x140 =>
(apd 16 y.2.1 ([x140] : List Str)).bind fun x141 =>
 some (.inl ((y.1.1, (y.1.2.1, (y.1.2.2.1, ((), ((IntKind.i64.wrap (y.1.2.2.2.2.2.1 + (1 : Int))), ((IntKind.i64.wrap (y.1.2.2.2.2.2.1 + (1 : Int))), ())))))), (x141, ())))
else
 some (.inl ((y.1.1, (y.1.2.1, (y.1.2.2.1, ((), (y.1.2.2.2.2.1, ((IntKind.i64.wrap (y.1.2.2.2.2.2.1 + (1 : Int))), ())))))), (y.2.1, ())))
else
 some (.inr (((y.1.1, ((), (y.1.2.2.2.2.1, ()))), (y.2.1, ()))))
else
 some (.inr (((y.1.1, ((), (y.1.2.2.2.2.1, ()))), (y.2.1, ()))))
theorem r122_122 : ∀ y, g122_122 y = jjz (jjd c122 []) (jjl (jjc b122 1 122)) 122 s122_122 jxT y := fun y => by kernel_rfl
noncomputable def l122_122 : s122_122.Y → Option (YS jxT) := jjC g122_122
theorem q122_122 (H : CtxGood Pz c122) : jjn Pz (jjc b122 1 122) (jjb s122_122 jxT l122_122) :=
 jjt (fr := []) H (by kernel_rfl) (by kernel_rfl) jje (fun y => jjh r122_122 y)
@[reducible] noncomputable def i122 : Shape := ⟨[(0, .lf (.d (.str))), (1, .lf (.d (.int .u8))), (2, .lf (.d (.int .i64)))], [], 43⟩
@[reducible] noncomputable def o122 : Shape := ⟨[(6, .lf (.own 3000384))], [(3000384, .row .str, .slot 6 0)], 43⟩
noncomputable def f122 (a : i122.Y) : Option o122.Y :=
(l122_122 ((a.1.1, (a.1.2.1, (a.1.2.2.1, ((), ((0 : Int), ((0 : Int), ())))))), (([] : List Str), ()))).bind fun r147 =>
(jqJ r147.1.1 r147.1.2.2.1 (r147.1.1.length : Int)).bind fun x148 =>
(apd 16 r147.2.1 ([x148] : List Str)).bind fun x149 =>
 some (((), ()), (x149, ()))
theorem e122 : ∀ a, f122 a = jjo (jjd c122 [(122, jjb s122_122 jxT l122_122)]) b122 i122 o122 a := fun a => by kernel_rfl
noncomputable def S122 : jjF := jjf tt 43 i122 o122 [.tmp 6] [] f122
theorem z122 (h : ∀ T, (tt T).ok Pz T) : jja Pz 122 S122 :=
 have H := k122 h
 jjk (fn := Tryz.f122) (fr := [(122, jjb s122_122 jxT l122_122)]) H (by kernel_rfl) (by kernel_rfl) (by kernel_rfl) (by kernel_rfl) (by kernel_rfl) ⟨q122_122 H, trivial⟩ (by kernel_rfl) (fun y => ⟨_, _, rfl, rfl, rfl⟩) e122
abbrev Bd (n : Nat) : Prop := n ≤ 2097152
theorem jJe (c : UInt8) : ∀ s, jjy c s ≠ [] := by
 intro s
 induction s with
 | nil => intro h; cases h
 | cons b r ih =>
  unfold jjy
  cases b == c with
  | true => intro h; cases h
  | false =>
   simp only [cond_false]
   split <;> intro h <;> cases h
def glue (acc : Str) : List Str → List Str
 | x :: xs => (acc ++ x) :: xs
 | [] => [acc]
theorem glue_nil {L : List Str} (h : L ≠ []) : glue [] L = L := by
 cases L with
 | nil => exact absurd rfl h
 | cons x xs => rfl
theorem jqY (c : UInt8) : ∀ s, (jjy c s).length ≤ s.length + 1 := by
 intro s
 induction s with
 | nil => exact Nat.le_refl _
 | cons b r ih =>
  unfold jjy
  cases b == c with
  | true => simpa using ih
  | false =>
   simp only [cond_false]
   split
   ·rename_i x xs h; rw [h] at ih; simp at ih ⊢; omega
   ·simp
theorem jqX (c : UInt8) : ∀ s x, x ∈ jjy c s → x.length ≤ s.length := by
 intro s
 induction s with
 | nil => intro x h; simp [jjy] at h; simp [h]
 | cons b r ih =>
  intro x h
  unfold jjy at h
  cases hb : b == c with
  | true =>
   rw [hb, cond_true] at h
   rcases List.mem_cons.1 h with rfl | h
   ·simp
   ·have := ih x h; simp; omega
  | false =>
   rw [hb, cond_false] at h
   split at h
   ·rename_i y ys hy
    rcases List.mem_cons.1 h with rfl | h
    ·have := ih y (by rw [hy]; exact List.mem_cons_self); simp; omega
    ·have := ih x (by rw [hy]; exact List.mem_cons_of_mem _ h); simp; omega
   ·simp at h; simp [h]
theorem cut_fold {B : Type} (c : UInt8) (s : Str) (fin : Nat × List Str → B) : ∀ (r : Str) (k : Nat) (q : Nat × List Str), r = s.drop k → k ≤ s.length → q.1 ≤ k →
  ∃ q', jqD (fun i x (q : Nat × List Str) => some (.inl (bif (x.toNat : Int) == (c.toNat : Int) then (i + 1, q.2 ++ [(s.take i).drop q.1]) else q) : Sum (Nat × List Str) B)) fin k r q = some (fin q') ∧ q'.1 ≤ s.length ∧
   q'.2 ++ [s.drop q'.1] = q.2 ++ glue ((s.take k).drop q.1) (jjy c r) := by
 intro r
 induction r with
 | nil =>
  intro k q hr hk hq
  have hkl : k = s.length := by
   have := congrArg List.length hr
   simp at this; omega
  refine ⟨q, rfl, by omega, ?_⟩
  rw [hkl, List.take_length]
  simp [jjy, glue]
 | cons x r ih =>
  intro k q hr hk hq
  have hlt : k < s.length := by
   have := congrArg List.length hr
   simp at this; omega
  have hr' : r = s.drop (k + 1) := by
   have := congrArg List.tail hr
   simpa using this
  have hx : s[k]? = some x := by
   have := congrArg (fun l => l[0]?) hr
   simpa using this.symm
  simp only [jqD]
  cases hc : ((x.toNat : Int) == (c.toNat : Int)) with
  | true =>
   have hxc : x = c := by
    simp only [beq_iff_eq] at hc
    exact UInt8.toNat_inj.1 (by omega)
   simp only [cond_true]
   obtain ⟨q', h1, h2, h3⟩ := ih (k + 1) (k + 1, q.2 ++ [(s.take k).drop q.1]) hr' hlt (Nat.le_refl _)
   refine ⟨q', h1, h2, h3.trans ?_⟩
   have e1 : (s.take (k + 1)).drop (k + 1) = [] := List.drop_eq_nil_of_le (by rw [List.length_take]; omega)
   simp only [e1]
   rw [glue_nil (jJe c r)]
   subst hxc
   have : jjy x (x :: r) = [] :: jjy x r := by simp [jjy]
   rw [this]
   simp [glue]
  | false =>
   have hxc : (x == c) = false := by
    cases h : x == c with
    | false => rfl
    | true => rw [eq_of_beq h] at hc; simp at hc
   simp only [cond_false]
   obtain ⟨q', h1, h2, h3⟩ := ih (k + 1) q hr' hlt (by omega)
   refine ⟨q', h1, h2, h3.trans ?_⟩
   have e1 : (s.take (k + 1)).drop q.1 = (s.take k).drop q.1 ++ [x] := by
    rw [List.take_add_one, hx]
    rw [List.drop_append_of_le_length (by rw [List.length_take]; omega)]
    rfl
   rw [e1]
   have : jjy c (x :: r) = glue [x] (jjy c r) := by
    rw [jjy, hxc, cond_false]
    cases h : jjy c r with
    | nil => rfl
    | cons y ys => rfl
   rw [this]
   cases h : jjy c r with
   | nil => exact absurd h (jJe c r)
   | cons y ys => simp [glue]
theorem v_l1Cut (c : UInt8) (a) (hs : Bd a.1.1.length) (hb : a.1.2.1 = (c.toNat : Int)) (hm : a.1.2.2.1 = ((a.1.1.length + 1 : Nat) : Int)) : f122 a = some (((), ()), (jjy c a.1.1, ())) := by
 obtain ⟨⟨s, b, m, u⟩, u'⟩ := a
 obtain rfl : b = (c.toNat : Int) := hb
 obtain rfl : m = ((s.length + 1 : Nat) : Int) := hm
 have hs : s.length ≤ 2097152 := hs
 have key := jq4 g122_122 s (fun i (q : Nat × List Str) => ((s, ((c.toNat : Int), (((s.length + 1 : Nat) : Int), ((), ((q.1 : Int), ((i : Int), ())))))), (q.2, ())))
  (fun i x (q : Nat × List Str) => some (.inl (bif (x.toNat : Int) == (c.toNat : Int) then (i + 1, q.2 ++ [(s.take i).drop q.1]) else q))) (fun q => (((s, ((), ((q.1 : Int), ()))), (q.2, ())) : YS jxT))
  (fun i q => q.1 ≤ i ∧ q.2.length ≤ i) (0, []) ⟨Nat.le_refl _, Nat.le_refl _⟩ (fun i x q hx hI => ?_) (fun q hI => ?_)
 ·obtain ⟨q', h1, h2, h3⟩ := cut_fold c s (fun q => (((s, ((), ((q.1 : Int), ()))), (q.2, ())) : YS jxT)) s 0 (0, []) rfl (Nat.zero_le _) (Nat.le_refl _)
  have key : l122_122 ((s, ((c.toNat : Int), (((s.length + 1 : Nat) : Int), ((), ((0 : Int), ((0 : Int), ())))))), (([] : List Str), ())) = some ((s, ((), ((q'.1 : Int), ()))), (q'.2, ())) := key.trans h1
  simp only [f122, key, Option.bind_some]
  rw [jxG h2]
  have h3 : q'.2 ++ [s.drop q'.1] = jjy c s := by
   rw [h3]; simp only [List.take_zero, List.drop_nil, List.nil_append]
   exact glue_nil (jJe c s)
  have hl : q'.2.length ≤ s.length + 1 := by
   have := congrArg List.length h3
   have h4 := jqY c s
   simp only [List.length_append, List.length_cons, List.length_nil] at this
   omega
  simp only [Option.bind_some]
  rw [jj0 (by decide) (by unfold Sm; simp only [List.length_cons, List.length_nil]; omega)]
  simp only [Option.bind_some, h3]
 ·have hi := jjv hx
  have hw : Sm i := by unfold Sm; omega
  obtain ⟨h0, h1⟩ := hI
  have hlt : decide ((q.2.length : Int) < ((s.length + 1 : Nat) : Int)) = true := jjA (by omega)
  refine ⟨?_, fun q' hq' => ?_⟩
  ·simp only [g122_122, jjA hi, cond_true, hlt, jjs, hx, Option.bind_some]
   cases hc : ((x.toNat : Int) == (c.toNat : Int)) with
   | true =>
    simp only [cond_true]
    rw [subl_nat h0 (by omega)]
    simp only [Option.bind_some]
    rw [jj0 (by decide) (by unfold Sm; simp only [List.length_cons, List.length_nil]; omega)]
    simp only [Option.bind_some, Option.map_some, jjj hw]
   | false => simp only [cond_false, Option.map_some, jjj hw]
  ·simp only [Option.some.injEq, Sum.inl.injEq] at hq'
   subst hq'
   cases (x.toNat : Int) == (c.toNat : Int) with
   | true => simp only [cond_true, List.length_append, List.length_cons, List.length_nil]; omega
   | false => simp only [cond_false]; omega
 ·simp only [g122_122, jjI, cond_false]
noncomputable def c95 : Ctx := { tt := tt, fs := fun n => match n with | 94 => some S94 | 122 => some S122 | 123 => some S123 | _ => none }
theorem k95 (h : ∀ T, (tt T).ok Pz T) (h94 : jja Pz 94 S94) (h122 : jja Pz 122 S122) (h123 : jja Pz 123 S123) : CtxGood Pz c95 := ⟨⟨h⟩, fun g S hg => (by
 simp only [c95] at hg
 split at hg
 ·cases hg; exact h94
 ·cases hg; exact h122
 ·cases hg; exact h123
 ·cases hg), jjp, fun _ _ h => (by cases h), fun _ h => (by cases h)⟩
noncomputable def b95 : Code := jji Tryz.f95
@[reducible] noncomputable def s95_122 : Shape := ⟨[(4, .lf (.own 3000256)), (5, .lf (.own 3000320)), (6, .lf (.d (.int .i64)))], [(3000256, .row .str, .slot 4 0), (3000320, .row .i64, .slot 5 0)], 37⟩
@[reducible] noncomputable def jxY : List OSh := [(.ret, ⟨[(2, .lf (.own 3000128)), (3, .lf (.d (.bool)))], [(3000128, .row .i64, .slot 2 0)], 37⟩), (.exit 0, ⟨[(4, .lf (.own 3000256)), (5, .lf (.own 3000320))], [(3000256, .row .str, .slot 4 0), (3000320, .row .i64, .slot 5 0)], 37⟩)]
noncomputable def g95_122 (y : s95_122.Y) : Option (Sum s95_122.Y (YS jxY)) :=
 bif (decide (y.1.2.2.1 < (y.2.1.length : Int))) then
(inb y.2.1.length y.1.2.2.1).bind fun x1503 =>
(y.2.1[x1503]?).bind fun x1504 =>
(f123 ((x1504, ()), ())).bind fun r1505 =>
(f94 ((r1505.1.1, ((0 : Int), ((999 : Int), ()))), ())).bind fun r1509 =>
 bif (!r1509.1.1) then
 some (.inr (.inl (((), (false, ())), (y.2.2.1, ()))))
else
(apd 8 y.2.2.1 ([r1505.1.1] : List Int)).bind fun x1510 =>
 some (.inl (((), ((), ((IntKind.i64.wrap (y.1.2.2.1 + (1 : Int))), ()))), (y.2.1, (x1510, ()))))
else
 some (.inr (.inr (((), ((), ())), (y.2.1, (y.2.2.1, ())))))
theorem r95_122 : ∀ y, g95_122 y = jjz (jjd c95 []) (jjl (jjc b95 1 122)) 122 s95_122 jxY y := fun y => by kernel_rfl
noncomputable def l95_122 : s95_122.Y → Option (YS jxY) := jjC g95_122
theorem q95_122 (H : CtxGood Pz c95) : jjn Pz (jjc b95 1 122) (jjb s95_122 jxY l95_122) :=
 jjt (fr := []) H (by kernel_rfl) (by kernel_rfl) jje (fun y => jjh r95_122 y)
@[reducible] noncomputable def i95 : Shape := ⟨[(0, .lf (.d (.str)))], [], 37⟩
@[reducible] noncomputable def o95 : Shape := ⟨[(2, .lf (.own 3000128)), (3, .lf (.d (.bool)))], [(3000128, .row .i64, .slot 2 0)], 37⟩
noncomputable def f95 (a : i95.Y) : Option o95.Y :=
(f122 ((a.1.1, ((46 : Int), ((IntKind.i64.wrap ((a.1.1.length : Int) + (1 : Int))), ()))), ())).bind fun r1518 =>
(l95_122 (((), ((), ((0 : Int), ()))), (r1518.2.1, (([] : List Int), ())))).bind fun r1522 =>
(match r1522 with
| .inl r1523 =>
 some (((), (r1523.1.2.1, ())), (r1523.2.1, ()))
| .inr r1524 =>
 some (((), ((decide ((r1524.2.1.length : Int) ≤ (4 : Int))), ())), (r1524.2.2.1, ())))
theorem e95 : ∀ a, f95 a = jjo (jjd c95 [(122, jjb s95_122 jxY l95_122)]) b95 i95 o95 a := fun a => by kernel_rfl
noncomputable def S95 : jjF := jjf tt 37 i95 o95 [.tmp 2, .tmp 3] [] f95
theorem z95 (h : ∀ T, (tt T).ok Pz T) (h94 : jja Pz 94 S94) (h122 : jja Pz 122 S122) (h123 : jja Pz 123 S123) : jja Pz 95 S95 :=
 have H := k95 h h94 h122 h123
 jjk (fn := Tryz.f95) (fr := [(122, jjb s95_122 jxY l95_122)]) H (by kernel_rfl) (by kernel_rfl) (by kernel_rfl) (by kernel_rfl) (by kernel_rfl) ⟨q95_122 H, trivial⟩ (by kernel_rfl) (fun y => ⟨_, _, rfl, rfl, rfl⟩) e95
noncomputable def c71 : Ctx := { tt := tt, fs := fun n => match n with | 95 => some S95 | _ => none }
theorem k71 (h : ∀ T, (tt T).ok Pz T) (h95 : jja Pz 95 S95) : CtxGood Pz c71 := ⟨⟨h⟩, fun g S hg => (by
 simp only [c71] at hg
 split at hg
 ·cases hg; exact h95
 ·cases hg), jjp, fun _ _ h => (by cases h), fun _ h => (by cases h)⟩
noncomputable def b71 : Code := jji Tryz.f71
@[reducible] noncomputable def i71 : Shape := ⟨[(0, .lf (.d (.str)))], [], 11⟩
@[reducible] noncomputable def o71 : Shape := ⟨[(2, .lf (.d (.bool)))], [], 11⟩
noncomputable def f71 (a : i71.Y) : Option o71.Y :=
(f95 ((a.1.1, ()), ())).bind fun r1526 =>
 some ((r1526.1.2.1, ()), ())
theorem e71 : ∀ a, f71 a = jjo (jjd c71 []) b71 i71 o71 a := fun a => by kernel_rfl
noncomputable def S71 : jjF := jjf tt 11 i71 o71 [.tmp 2] [] f71
theorem z71 (h : ∀ T, (tt T).ok Pz T) (h95 : jja Pz 95 S95) : jja Pz 71 S71 :=
 have H := k71 h h95
 jjk (fn := Tryz.f71) (fr := []) H (by kernel_rfl) (by kernel_rfl) (by kernel_rfl) (by kernel_rfl) (by kernel_rfl) jje (by kernel_rfl) (fun y => ⟨_, _, rfl, rfl, rfl⟩) e71
noncomputable def c124 : Ctx := { tt := tt, fs := fun n => match n with | 70 => some S70 | 71 => some S71 | 94 => some S94 | _ => none }
theorem k124 (h : ∀ T, (tt T).ok Pz T) (h70 : jja Pz 70 S70) (h71 : jja Pz 71 S71) (h94 : jja Pz 94 S94) : CtxGood Pz c124 := ⟨⟨h⟩, fun g S hg => (by
 simp only [c124] at hg
 split at hg
 ·cases hg; exact h70
 ·cases hg; exact h71
 ·cases hg; exact h94
 ·cases hg), jjp, fun _ _ h => (by cases h), fun _ h => (by cases h)⟩
noncomputable def b124 : Code := jji Tryz.f124
@[reducible] noncomputable def i124 : Shape := ⟨[(0, .agg [.d (.str), .d (.int .i64), .d (.str)])], [], 26⟩
@[reducible] noncomputable def o124 : Shape := ⟨[(2, .lf (.d (.bool)))], [], 26⟩
noncomputable def f124 (a : i124.Y) : Option o124.Y :=
(f70 ((a.1.1.1, ()), ())).bind fun r1540 =>
 bif r1540.1.1 then
 bif (a.1.1.2.1 == (0 : Int)) then
 bif (!(a.1.1.2.2.1 == ([] : Str))) then
(f94 ((a.1.1.2.1, ((1 : Int), ((3 : Int), ()))), ())).bind fun r1541 =>
 bif r1541.1.1 then
(f71 ((a.1.1.2.2.1, ()), ())).bind fun r1542 =>
 some ((r1542.1.1, ()), ())
else
 some ((false, ()), ())
else
 some ((true, ()), ())
else
(f94 ((a.1.1.2.1, ((1 : Int), ((3 : Int), ()))), ())).bind fun r1543 =>
 bif r1543.1.1 then
(f71 ((a.1.1.2.2.1, ()), ())).bind fun r1544 =>
 some ((r1544.1.1, ()), ())
else
 some ((false, ()), ())
else
 some ((false, ()), ())
theorem e124 : ∀ a, f124 a = jjo (jjd c124 []) b124 i124 o124 a := fun a => by kernel_rfl
noncomputable def S124 : jjF := jjf tt 26 i124 o124 [.tmp 2] [] f124
theorem z124 (h : ∀ T, (tt T).ok Pz T) (h70 : jja Pz 70 S70) (h71 : jja Pz 71 S71) (h94 : jja Pz 94 S94) : jja Pz 124 S124 :=
 have H := k124 h h70 h71 h94
 jjk (fn := Tryz.f124) (fr := []) H (by kernel_rfl) (by kernel_rfl) (by kernel_rfl) (by kernel_rfl) (by kernel_rfl) jje (by kernel_rfl) (fun y => ⟨_, _, rfl, rfl, rfl⟩) e124
noncomputable def c88 : Ctx := { tt := tt, fs := fun n => match n with | 116 => some S116 | _ => none, sp := fun n => match n with | 115 => some 145 | _ => none }
theorem k88 (h : ∀ T, (tt T).ok Pz T) (h116 : jja Pz 116 S116) (hY : jQk Pz 115 145) (hI : jzq Pz 145) : CtxGood Pz c88 := ⟨⟨h⟩, fun g S hg => (by
 simp only [c88] at hg
 split at hg
 ·cases hg; exact h116
 ·cases hg), jjp, fun g g2 hg => (by
 simp only [c88] at hg
 split at hg
 ·cases hg; exact hY
 ·cases hg), fun _ h => (by cases h)⟩
noncomputable def b88 : Code := jji Tryz.f88
@[reducible] noncomputable def s88_1876 : Shape := ⟨[(2, .lf (.ptr 2 0)), (3, .lf (.ptr 3 0)), (4, .lf (.ptr 4 0)), (6, .lf (.d (.int .i64))), (7, .lf (.d (.bool)))], [(5000128, .row .i64, .cell 2 0), (2, .box [.own 5000128], .same), (3, .box [.d (.bool)], .same), (5000256, .row .i64, .cell 4 0), (4, .box [.own 5000256], .same)], 28⟩
@[reducible] noncomputable def t88_1876 : List OSh := [(.norm, ⟨[(2, .lf (.ptr 2 0)), (3, .lf (.ptr 3 0)), (4, .lf (.ptr 4 0)), (6, .lf (.d (.int .i64))), (22, .lf (.d (.bool)))], [(5000128, .row .i64, .cell 2 0), (2, .box [.own 5000128], .same), (3, .box [.d (.bool)], .same), (5000256, .row .i64, .cell 4 0), (4, .box [.own 5000256], .same)], 28⟩)]
noncomputable def jJH (y : s88_1876.Y) : Option (YS t88_1876) :=
 bif (!(!y.1.2.2.2.2.1)) then
 some ((((), ((), ((), (y.1.2.2.2.1, (((y.2.2.2.2.1.length : Int) == (4 : Int)), ()))))), (y.2.1, (((), ()), ((y.2.2.2.1.1, ()), (y.2.2.2.2.1, (((), ()), ())))))))
else
 some ((((), ((), ((), (y.1.2.2.2.1, (true, ()))))), (y.2.1, (((), ()), ((y.2.2.2.1.1, ()), (y.2.2.2.2.1, (((), ()), ())))))))
theorem r88_1876 : ∀ y, jJH y = jjK (jjd c88 []) (jjc (jzS (jjc b88 1 58)) 117 1876) 1876 s88_1876 t88_1876 y := fun y => by kernel_rfl
theorem q88_1876 (H : CtxGood Pz c88) (hI : jzq Pz 145) : jjn Pz (jjc (jzS (jjc b88 1 58)) 117 1876) (jjb s88_1876 t88_1876 jJH) :=
 jjw (fr := []) H (by kernel_rfl) jje r88_1876
@[reducible] noncomputable def s88_58 : Shape := ⟨[(2, .lf (.ptr 2 0)), (3, .lf (.ptr 3 0)), (4, .lf (.ptr 4 0))], [(5000128, .row .i64, .cell 2 0), (2, .box [.own 5000128], .same), (3, .box [.d (.bool)], .same), (5000256, .row .i64, .cell 4 0), (4, .box [.own 5000256], .same)], 28⟩
@[reducible] noncomputable def t88_58 : List OSh := [(.norm, ⟨[(2, .lf (.ptr 2 0)), (3, .lf (.ptr 3 0)), (4, .lf (.ptr 4 0))], [(5000128, .row .i64, .cell 2 0), (2, .box [.own 5000128], .same), (3, .box [.d (.bool)], .same), (5000256, .row .i64, .cell 4 0), (4, .box [.own 5000256], .same)], 28⟩), (.ret, ⟨[(2, .lf (.ptr 2 0)), (3, .lf (.ptr 3 0))], [(5000128, .row .i64, .cell 2 0), (2, .box [.own 5000128], .same), (3, .box [.d (.bool)], .same)], 28⟩)]
noncomputable def g88_58 (x : Str) (y : s88_58.Y) : Option (Sum s88_58.Y (YS t88_58)) :=
(f116 ((x, ((999 : Int), ())), ())).bind fun r987 =>
(jJH (((), ((), ((), (r987.1.1, (r987.1.2.1, ()))))), (y.2.1, (((), ()), ((y.2.2.2.1.1, ()), (y.2.2.2.2.1, (((), ()), ()))))))).bind fun r989 =>
 bif r989.1.2.2.2.2.1 then
 some (.inr (.inr (((), ((), ())), (([] : List Int), (((), ()), ((false, ()), ()))))))
else
(apd 8 r989.2.2.2.2.1 ([r989.1.2.2.2.1] : List Int)).bind fun x990 =>
 some (.inl (((), ((), ((), ()))), (r989.2.1, (((), ()), ((r989.2.2.2.1.1, ()), (x990, (((), ()), ())))))))
noncomputable def h88_58 (y : s88_58.Y) : Option (YS t88_58) := some (.inl (((), ((), ((), ()))), (y.2.1, (((), ()), ((y.2.2.2.1.1, ()), (y.2.2.2.2.1, (((), ()), ())))))))
theorem r88_58 : ∀ x y, g88_58 x y = roundP (jjd c88 [(1876, jjb s88_1876 t88_1876 jJH)]) (jzy (jjc b88 1 58)) (jzS (jjc b88 1 58)) 58 10 s88_58 t88_58 x y := fun x y => by kernel_rfl
theorem q88_58 (H : CtxGood Pz c88) (hI : jzq Pz 145) : jjn Pz (jjc b88 1 58) (jxp 145 9 s88_58 t88_58 g88_58 h88_58) :=
 range_at (fr := [(1876, jjb s88_1876 t88_1876 jJH)]) (prm := 10) H hI (by kernel_rfl) (by kernel_rfl) (by kernel_rfl) ⟨q88_1876 H hI, trivial⟩ r88_58 (fun y => by kernel_rfl) (by kernel_rfl) (by kernel_rfl) (by kernel_rfl) (by kernel_rfl) (by kernel_rfl)
@[reducible] noncomputable def i88 : Shape := ⟨[(0, .lf (.d (.str)))], [], 28⟩
@[reducible] noncomputable def o88 : Shape := ⟨[(2, .lf (.ptr 2 0)), (3, .lf (.ptr 3 0))], [(5000128, .row .i64, .cell 2 0), (2, .box [.own 5000128], .same), (3, .box [.d (.bool)], .same)], 28⟩
noncomputable def f88 (a : i88.Y) : Option o88.Y :=
(bif Nat.ble a.1.1.length jzn then jzY g88_58 h88_58 (jjy (46 : UInt8) a.1.1) (((), ((), ((), ()))), (([] : List Int), (((), ()), ((false, ()), (([] : List Int), (((), ()), ())))))) else none).bind fun r1000 =>
(match r1000 with
| .inl r1001 =>
 some (((), ((), ())), (r1001.2.2.2.2.1, (((), ()), ((true, ()), ()))))
| .inr r1002 =>
 some (((), ((), ())), (r1002.2.1, (((), ()), ((r1002.2.2.2.1.1, ()), ())))))
theorem e88 : ∀ a, f88 a = jjo (jjd c88 [(58, jxp 145 9 s88_58 t88_58 g88_58 h88_58)]) b88 i88 o88 a := fun a => by kernel_rfl
noncomputable def S88 : jjF := jjf tt 28 i88 o88 [.cell 2 103, .cell 3 4] [] f88
theorem z88 (h : ∀ T, (tt T).ok Pz T) (h116 : jja Pz 116 S116) (hY : jQk Pz 115 145) (hI : jzq Pz 145) : jja Pz 88 S88 :=
 have H := k88 h h116 hY hI
 jjk (fn := Tryz.f88) (fr := [(58, jxp 145 9 s88_58 t88_58 g88_58 h88_58)]) H (by kernel_rfl) (by kernel_rfl) (by kernel_rfl) (by kernel_rfl) (by kernel_rfl) ⟨q88_58 H hI, trivial⟩ (by kernel_rfl) (fun y => ⟨_, _, rfl, rfl, rfl⟩) e88
noncomputable def c63 : Ctx := { tt := tt, fs := fun n => match n with | 88 => some S88 | _ => none }
theorem k63 (h : ∀ T, (tt T).ok Pz T) (h88 : jja Pz 88 S88) : CtxGood Pz c63 := ⟨⟨h⟩, fun g S hg => (by
 simp only [c63] at hg
 split at hg
 ·cases hg; exact h88
 ·cases hg), jjp, fun _ _ h => (by cases h), fun _ h => (by cases h)⟩
noncomputable def b63 : Code := jji Tryz.f63
@[reducible] noncomputable def i63 : Shape := ⟨[(0, .lf (.d (.str)))], [], 11⟩
@[reducible] noncomputable def o63 : Shape := ⟨[(2, .lf (.d (.bool)))], [], 11⟩
noncomputable def f63 (a : i63.Y) : Option o63.Y :=
(f88 ((a.1.1, ()), ())).bind fun r1004 =>
 some ((r1004.2.2.2.1.1, ()), ())
theorem e63 : ∀ a, f63 a = jjo (jjd c63 []) b63 i63 o63 a := fun a => by kernel_rfl
noncomputable def S63 : jjF := jjf tt 11 i63 o63 [.tmp 2] [] f63
theorem z63 (h : ∀ T, (tt T).ok Pz T) (h88 : jja Pz 88 S88) : jja Pz 63 S63 :=
 have H := k63 h h88
 jjk (fn := Tryz.f63) (fr := []) H (by kernel_rfl) (by kernel_rfl) (by kernel_rfl) (by kernel_rfl) (by kernel_rfl) jje (by kernel_rfl) (fun y => ⟨_, _, rfl, rfl, rfl⟩) e63
noncomputable def c65 : Ctx := { tt := tt, fs := fun n => match n with | 62 => some S62 | 63 => some S63 | _ => none }
theorem k65 (h : ∀ T, (tt T).ok Pz T) (h62 : jja Pz 62 S62) (h63 : jja Pz 63 S63) : CtxGood Pz c65 := ⟨⟨h⟩, fun g S hg => (by
 simp only [c65] at hg
 split at hg
 ·cases hg; exact h62
 ·cases hg; exact h63
 ·cases hg), jjp, fun _ _ h => (by cases h), fun _ h => (by cases h)⟩
noncomputable def b65 : Code := jji Tryz.f65
@[reducible] noncomputable def s65_470 : Shape := ⟨[(1, .lf (.ptr 1 0)), (8, .lf (.d (.int .i64)))], [(1, .box [.d (.str), .d (.int .i64), .d (.str)], .same)], 21⟩
@[reducible] noncomputable def t65_470 : List OSh := [(.norm, ⟨[(1, .lf (.ptr 1 0)), (14, .lf (.d (.bool)))], [(1, .box [.d (.str), .d (.int .i64), .d (.str)], .same)], 21⟩)]
noncomputable def g65_470 (y : s65_470.Y) : Option (YS t65_470) :=
 bif (y.1.2.1 == (1 : Int)) then
 some ((((), ((y.1.2.1 == (1 : Int)), ())), ((y.2.1.1, (y.2.1.2.1, (y.2.1.2.2.1, ()))), ())))
else
 bif (y.1.2.1 == (2 : Int)) then
 some ((((), ((y.1.2.1 == (2 : Int)), ())), ((y.2.1.1, (y.2.1.2.1, (y.2.1.2.2.1, ()))), ())))
else
 some ((((), ((y.1.2.1 == (3 : Int)), ())), ((y.2.1.1, (y.2.1.2.1, (y.2.1.2.2.1, ()))), ())))
theorem r65_470 : ∀ y, g65_470 y = jjK (jjd c65 []) (jjc b65 1 470) 470 s65_470 t65_470 y := fun y => by kernel_rfl
theorem q65_470 (H : CtxGood Pz c65) : jjn Pz (jjc b65 1 470) (jjb s65_470 t65_470 g65_470) :=
 jjw (fr := []) H (by kernel_rfl) jje r65_470
@[reducible] noncomputable def i65 : Shape := ⟨[(0, .agg [.d (.str), .d (.int .i64), .d (.str)])], [], 21⟩
@[reducible] noncomputable def o65 : Shape := ⟨[(2, .lf (.d (.bool)))], [], 21⟩
noncomputable def f65 (a : i65.Y) : Option o65.Y :=
(f62 ((a.1.1.1, ()), ())).bind fun r1021 =>
 bif (!r1021.1.1) then
 some ((false, ()), ())
else
 bif (a.1.1.2.1 == (0 : Int)) then
 some (((a.1.1.2.2.1 == ([] : Str)), ()), ())
else
(g65_470 (((), (a.1.1.2.1, ())), ((a.1.1.1, (a.1.1.2.1, (a.1.1.2.2.1, ()))), ()))).bind fun r1022 =>
 bif r1022.1.2.1 then
(f63 ((r1022.2.1.2.2.1, ()), ())).bind fun r1023 =>
 some ((r1023.1.1, ()), ())
else
 some ((false, ()), ())
theorem e65 : ∀ a, f65 a = jjo (jjd c65 [(470, jjb s65_470 t65_470 g65_470)]) b65 i65 o65 a := fun a => by kernel_rfl
noncomputable def S65 : jjF := jjf tt 21 i65 o65 [.tmp 2] [] f65
theorem z65 (h : ∀ T, (tt T).ok Pz T) (h62 : jja Pz 62 S62) (h63 : jja Pz 63 S63) : jja Pz 65 S65 :=
 have H := k65 h h62 h63
 jjk (fn := Tryz.f65) (fr := [(470, jjb s65_470 t65_470 g65_470)]) H (by kernel_rfl) (by kernel_rfl) (by kernel_rfl) (by kernel_rfl) (by kernel_rfl) ⟨q65_470 H, trivial⟩ (by kernel_rfl) (fun y => ⟨_, _, rfl, rfl, rfl⟩) e65
theorem val_nonneg : ∀ (r : Str) (n : Int), r.all jzW = true → 0 ≤ n → 0 ≤ r.foldl jzf n := by
 intro r
 induction r with
 | nil => intro n _ h; exact h
 | cons b r ih =>
  intro n hd h
  simp only [List.all_cons, Bool.and_eq_true] at hd
  have hb := jqp hd.1
  exact ih _ hd.2 (by unfold jzf; omega)
def jqU (s : Str) : List Str := jjy 46 s
def jqb (s : Str) : Bool := (jqU s).all numB && decide ((jqU s).length ≤ 4)
def jx4 (s : Str) : List Int := (jqU s).map valN
theorem numB_within (x : Str) : jj7 (bif x.all jzW && decide (x.length ≤ 6) && !(x == []) && !leadB x then valN x else -1) 0 999 = numB x := by
 unfold numB jj7
 cases h1 : x.all jzW with
 | false => simp
 | true =>
  have := val_nonneg x 0 h1 (Int.le_refl _)
  have hv : decide ((0 : Int) ≤ valN x) = true := by simp only [decide_eq_true_eq]; exact this
  cases h2 : decide (x.length ≤ 6) <;> cases h3 : (x == []) <;> cases h4 : leadB x <;> simp [hv]
theorem v_l3Parts (a) (hs : Bd a.1.1.length) : ∃ out, f95 a = some (((), (jqb a.1.1, ())), (out, ())) ∧ (jqb a.1.1 = true → out = jx4 a.1.1) := by
 obtain ⟨⟨s, u⟩, u'⟩ := a
 have hs : s.length ≤ 2097152 := hs
 have hlen := jqY 46 s
 have hcut : f122 ((s, ((46 : Int), ((IntKind.i64.wrap ((s.length : Int) + (1 : Int))), ()))), ()) = some (((), ()), (jqU s, ())) :=
  v_l1Cut 46 _ hs rfl (jjj (by unfold Sm; omega))
 have key := jq4 g95_122 (jqU s) (fun i (out : List Int) => (((), ((), ((i : Int), ()))), (jqU s, (out, ()))))
  (fun i x out => some (bif numB x then .inl (out ++ [valN x]) else .inr ((.inl (((), (false, ())), (out, ()))) : YS jxY))) (fun out => ((.inr (((), ((), ())), (jqU s, (out, ())))) : YS jxY))
  (fun i out => out.length ≤ i) [] (Nat.le_refl _) (fun i x out hx hI => ?_) (fun out _ => ?_)
 ·have fold : ∀ (r : List Str) (k : Nat) (out : List Int), jqD (fun i x out => some (bif numB x then .inl (out ++ [valN x]) else .inr ((.inl (((), (false, ())), (out, ()))) : YS jxY))) (fun out => ((.inr (((), ((), ())), (jqU s, (out, ())))) : YS jxY)) k r out =
    some (bif r.all numB then (.inr (((), ((), ())), (jqU s, (out ++ r.map valN, ())))) else (.inl (((), (false, ())), (out ++ (r.takeWhile numB).map valN, ())))) := by
   intro r
   induction r with
   | nil => intro k out; simp [jqD]
   | cons x r ih =>
    intro k out
    simp only [jqD, List.all_cons]
    cases hn : numB x with
    | false => simp [hn]
    | true => simp only [cond_true, Bool.true_and]; rw [ih]; simp [hn, List.append_assoc]
  have key : l95_122 (((), ((), ((0 : Int), ()))), (jqU s, (([] : List Int), ()))) = _ := key.trans (fold (jqU s) 0 [])
  simp only [f95, hcut, Option.bind_some, key, List.nil_append]
  unfold jqb
  cases hall : (jqU s).all numB with
  | false => exact ⟨_, rfl, fun h => by cases h⟩
  | true =>
   simp only [cond_true, Bool.true_and]
   have : decide (((jqU s).length : Int) ≤ 4) = decide ((jqU s).length ≤ 4) := by by_cases h : (jqU s).length ≤ 4 <;> simp [h] <;> omega
   rw [this]
   exact ⟨_, rfl, fun _ => rfl⟩
 ·have hi := jjv hx
  have hlen' : (jqU s).length ≤ s.length + 1 := hlen
  have hw : Sm i := by unfold Sm; omega
  have hxl : x.length ≤ s.length := jqX 46 s x (List.mem_of_getElem? hx)
  refine ⟨?_, fun s' h' => ?_⟩
  ·simp only [g95_122, jjA hi, cond_true, jqQ hi, hx, Option.bind_some]
   rw [v_l1Num _ (show Sm x.length by unfold Sm; omega)]
   simp only [Option.bind_some, v_l1In, numB_within]
   cases hn : numB x with
   | false => rfl
   | true =>
    have hv : (bif x.all jzW && decide (x.length ≤ 6) && !(x == []) && !leadB x then valN x else -1) = valN x := by
     unfold numB at hn
     simp only [Bool.and_eq_true] at hn
     obtain ⟨⟨⟨⟨h1, h2⟩, h3⟩, h4⟩, h5⟩ := hn
     rw [h1, h4, h2, h3]; rfl
    simp only [Bool.not_true, cond_false, hv, cond_true]
    rw [jj0 (by decide) (by unfold Sm; simp only [List.length_cons, List.length_nil]; omega)]
    simp only [Option.bind_some, jjj hw, Option.map_some]
  ·simp only [Option.some.injEq] at h'
   cases hn : numB x with
   | false => rw [hn] at h'; cases h'
   | true =>
    rw [hn] at h'
    simp only [cond_true, Sum.inl.injEq] at h'
    subst h'
    simp only [List.length_append, List.length_cons, List.length_nil]; omega
 ·simp only [g95_122, jjI, cond_false]
theorem v_VersionOk (a) (hs : Bd a.1.1.length) : f71 a = some ((jqb a.1.1, ()), ()) := by
 obtain ⟨out, h, _⟩ := v_l3Parts ((a.1.1, ()), ()) hs
 simp only [f71, h, Option.bind_some]
theorem jzt (a) (hs : Bd a.1.1.length) : f88 a = some (((), ((), ())), ((bif jqb a.1.1 then jx4 a.1.1 else []), (((), ()), ((jqb a.1.1, ()), ())))) := by
 obtain ⟨⟨s, u⟩, u'⟩ := a
 have hs : s.length ≤ 2097152 := hs
 have hble : Nat.ble s.length jzn = true := Nat.ble_eq_true_of_le (by unfold jzn; omega)
 have fold : ∀ (r : List Str) (out : List Int), (∀ x, x ∈ r → x.length ≤ s.length) → out.length ≤ 4 →
   jzY g88_58 h88_58 r (((), ((), ((), ()))), (([] : List Int), (((), ()), ((false, ()), (out, (((), ()), ())))))) =
    some (bif r.all numB && decide (out.length + r.length ≤ 4) then (.inl (((), ((), ((), ()))), (([] : List Int), (((), ()), ((false, ()), (out ++ r.map valN, (((), ()), ()))))))) else (.inr (((), ((), ())), (([] : List Int), (((), ()), ((false, ()), ())))))) := by
  intro r
  induction r with
  | nil =>
   intro out _ ho
   have : decide (out.length + 0 ≤ 4) = true := by simpa using ho
   simp only [jzY, h88_58, List.all_nil, List.length_nil, this, Bool.and_self, cond_true, List.map_nil, List.append_nil]
  | cons x r ih =>
   intro out hr ho
   have hx := hr x List.mem_cons_self
   have hnum := v_number ((x, ((999 : Int), ())), ()) (show Sm x.length by unfold Sm; omega) rfl
   have step : g88_58 x (((), ((), ((), ()))), (([] : List Int), (((), ()), ((false, ()), (out, (((), ()), ())))))) =
     some (bif numB x && decide (out.length + 1 ≤ 4) then .inl (((), ((), ((), ()))), (([] : List Int), (((), ()), ((false, ()), (out ++ [valN x], (((), ()), ())))))) else .inr (.inr (((), ((), ())), (([] : List Int), (((), ()), ((false, ()), ())))))) := by
    simp only [g88_58, hnum, Option.bind_some, jJH, Bool.not_not]
    have h4 : ((out.length : Int) == 4) = !decide (out.length + 1 ≤ 4) := by
     by_cases h : out.length = 4
     ·rw [h]; rfl
     ·have h5 : decide (out.length + 1 ≤ 4) = true := by simp only [decide_eq_true_eq]; omega
      rw [h5]; simp only [beq_eq_false_iff_ne, ne_eq, Bool.not_true]; omega
    rw [h4]
    cases hn : numB x with
    | false => rfl
    | true =>
     simp only [cond_true, Option.bind_some, Bool.true_and]
     cases hq : decide (out.length + 1 ≤ 4) with
     | false => rfl
     | true =>
      simp only [Bool.not_true, cond_false, cond_true]
      rw [jj0 (by decide) (by unfold Sm; simp only [List.length_cons, List.length_nil]; omega)]
      rfl
   rw [jzY, step, List.all_cons]
   cases hn : numB x with
   | false => rfl
   | true =>
    simp only [Bool.true_and]
    cases hq : decide (out.length + 1 ≤ 4) with
    | false =>
     have : decide (out.length + (x :: r).length ≤ 4) = false := by simp only [decide_eq_false_iff_not, List.length_cons] at hq ⊢; omega
     rw [this]; simp
    | true =>
     simp only [cond_true]
     rw [ih (out ++ [valN x]) (fun y hy => hr y (List.mem_cons_of_mem _ hy)) (by simp only [List.length_append, List.length_cons, List.length_nil]; simpa using hq)]
     have e1 : (out ++ [valN x]).length + r.length = out.length + (x :: r).length := by simp only [List.length_append, List.length_cons, List.length_nil]; omega
     rw [e1, List.map_cons, List.append_assoc]
     rfl
 have key := fold (jjy (46 : UInt8) s) [] (fun x hx => jqX 46 s x hx) (Nat.zero_le _)
 have key' : jzY g88_58 h88_58 (jjy (46 : UInt8) s) (((), ((), ((), ()))), (([] : List Int), (((), ()), ((false, ()), (([] : List Int), (((), ()), ())))))) =
    some (bif jqb s then (.inl (((), ((), ((), ()))), (([] : List Int), (((), ()), ((false, ()), (jx4 s, (((), ()), ()))))))) else (.inr (((), ((), ())), (([] : List Int), (((), ()), ((false, ()), ())))))) := by
  rw [key]
  unfold jqb jx4 jqU
  simp only [List.length_nil, Nat.zero_add, List.nil_append]
 simp only [f88, hble, cond_true, key', Option.bind_some]
 cases jqb s <;> rfl
theorem jz5 (a) (hs : Bd a.1.1.length) : f63 a = some ((jqb a.1.1, ()), ()) := by
 simp only [f63, jzt ((a.1.1, ()), ()) hs, Option.bind_some]
def jqH (n : Need) : Bool := jzU n.name && (n.kind == 0 && (n.version == []) || jj7 n.kind 1 3 && jqb n.version)
abbrev BdN (n : Need) : Prop := Bd n.name.length ∧ Bd n.version.length
theorem v_NeedOk (a) (h1 : Bd a.1.1.1.length) (h2 : Bd a.1.1.2.2.1.length) : f124 a = some ((jqH ⟨a.1.1.1, a.1.1.2.1, a.1.1.2.2.1⟩, ()), ()) := by
 obtain ⟨⟨⟨n, k, v, u⟩, u'⟩, u''⟩ := a
 have h1 : n.length ≤ 2097152 := h1
 have h2 : v.length ≤ 2097152 := h2
 have e1 := v_l3Pack ((n, ()), ()) (show Sm n.length by unfold Sm; omega)
 have e2 := v_VersionOk ((v, ()), ()) h2
 simp only [f124, e1, e2, v_l1In, Option.bind_some, jqH]
 cases jzU n with
 | false => rfl
 | true =>
  cases hk : (k == 0) with
  | false =>
   simp only [cond_true, cond_false]
   cases jj7 k 1 3 <;> cases jqb v <;> rfl
  | true =>
   have : jj7 k 1 3 = false := by
    have : k = 0 := by simpa using hk
    subst this; decide
   rw [this]
   cases (v == []) <;> rfl
theorem within_no {k : Int} (k0 : ¬ k = 0) (k1 : ¬ k = 1) (k2 : ¬ k = 2) (k3 : ¬ k = 3) : jj7 k 1 3 = false := by
 unfold jj7
 cases h : (decide (1 ≤ k) && decide (k ≤ 3)) with
 | false => rfl
 | true => simp only [Bool.and_eq_true, decide_eq_true_eq] at h; omega
theorem v_iNeedOk (a) (h1 : Bd a.1.1.1.length) (h2 : Bd a.1.1.2.2.1.length) : f65 a = some ((jqH ⟨a.1.1.1, a.1.1.2.1, a.1.1.2.2.1⟩, ()), ()) := by
 obtain ⟨⟨⟨n, k, v, u⟩, u'⟩, u''⟩ := a
 have h1 : n.length ≤ 2097152 := h1
 have h2 : v.length ≤ 2097152 := h2
 have e1 := v_packNameOk ((n, ()), ()) (show Sm n.length by unfold Sm; omega)
 have e2 := jz5 ((v, ()), ()) h2
 simp only [f65, e1, e2, Option.bind_some, jqH, g65_470]
 cases jzU n with
 | false => rfl
 | true =>
  simp only [Bool.not_true, cond_false, Bool.true_and]
  by_cases k0 : k = 0
  ·subst k0
   cases (v == []) <;> rfl
  ·have hk0 : (k == 0) = false := by simpa using k0
   rw [hk0]
   by_cases k1 : k = 1
   ·subst k1; cases hv : jqb v <;> simp [jj7, e2, hv]
   ·have hk1 : (k == 1) = false := by simpa using k1
    rw [hk1]
    by_cases k2 : k = 2
    ·subst k2; cases hv : jqb v <;> simp [jj7, e2, hv]
    ·have hk2 : (k == 2) = false := by simpa using k2
     rw [hk2]
     by_cases k3 : k = 3
     ·subst k3; cases hv : jqb v <;> simp [jj7, e2, hv]
     ·have hk3 : (k == 3) = false := by simpa using k3
      rw [hk3]
      rw [within_no k0 k1 k2 k3]
      rfl
noncomputable def c117 : Ctx := { tt := tt, fs := fun n => match n with | _ => none }
theorem k117 (h : ∀ T, (tt T).ok Pz T) : CtxGood Pz c117 := ⟨⟨h⟩, fun g S hg => (by cases hg), jjp, fun _ _ h => (by cases h), fun _ h => (by cases h)⟩
noncomputable def b117 : Code := jji Tryz.f117
@[reducible] noncomputable def s117_26 : Shape := ⟨[(0, .lf (.d (.sl .str))), (1, .lf (.d (.str))), (7, .lf (.d (.int .i64))), (8, .lf (.d (.int .i64)))], [], 19⟩
@[reducible] noncomputable def jzu : List OSh := [(.ret, ⟨[(4, .lf (.d (.int .i64)))], [], 19⟩), (.exit 0, ⟨[], [], 19⟩)]
noncomputable def g117_26 (y : s117_26.Y) : Option (Sum s117_26.Y (YS jzu)) :=
 bif (decide (y.1.2.2.2.1 < y.1.2.2.1)) then
(ix y.1.1 y.1.2.2.2.1).bind fun x1049 =>
 bif (y.1.2.1 == x1049) then
 some (.inr (.inl ((y.1.2.2.2.1, ()), ())))
else
 some (.inl ((y.1.1, (y.1.2.1, (y.1.2.2.1, ((IntKind.i64.wrap (y.1.2.2.2.1 + (1 : Int))), ())))), ()))
else
 some (.inr (.inr ((), ())))
theorem r117_26 : ∀ y, g117_26 y = jjz (jjd c117 []) (jjl (jjc b117 1 26)) 26 s117_26 jzu y := fun y => by kernel_rfl
noncomputable def l117_26 : s117_26.Y → Option (YS jzu) := jjC g117_26
theorem q117_26 (H : CtxGood Pz c117) : jjn Pz (jjc b117 1 26) (jjb s117_26 jzu l117_26) :=
 jjt (fr := []) H (by kernel_rfl) (by kernel_rfl) jje (fun y => jjh r117_26 y)
@[reducible] noncomputable def i117 : Shape := ⟨[(0, .lf (.d (.sl .str))), (1, .lf (.d (.str)))], [], 19⟩
@[reducible] noncomputable def o117 : Shape := ⟨[(4, .lf (.d (.int .i64)))], [], 19⟩
noncomputable def f117 (a : i117.Y) : Option o117.Y :=
(l117_26 ((a.1.1, (a.1.2.1, ((a.1.1.length : Int), ((0 : Int), ())))), ())).bind fun r1053 =>
(match r1053 with
| .inl r1054 =>
 some ((r1054.1.1, ()), ())
| .inr r1055 =>
 some ((((-1) : Int), ()), ()))
theorem e117 : ∀ a, f117 a = jjo (jjd c117 [(26, jjb s117_26 jzu l117_26)]) b117 i117 o117 a := fun a => by kernel_rfl
noncomputable def S117 : jjF := jjf tt 19 i117 o117 [.tmp 4] [] f117
theorem z117 (h : ∀ T, (tt T).ok Pz T) : jja Pz 117 S117 :=
 have H := k117 h
 jjk (fn := Tryz.f117) (fr := [(26, jjb s117_26 jzu l117_26)]) H (by kernel_rfl) (by kernel_rfl) (by kernel_rfl) (by kernel_rfl) (by kernel_rfl) ⟨q117_26 H, trivial⟩ (by kernel_rfl) (fun y => ⟨_, _, rfl, rfl, rfl⟩) e117
noncomputable def c38 : Ctx := { tt := tt, fs := fun n => match n with | _ => none }
theorem k38 (h : ∀ T, (tt T).ok Pz T) : CtxGood Pz c38 := ⟨⟨h⟩, fun g S hg => (by cases hg), jjp, fun _ _ h => (by cases h), fun _ h => (by cases h)⟩
noncomputable def b38 : Code := jji Tryz.f38
@[reducible] noncomputable def s38_1682 : Shape := ⟨[(0, .lf (.d (.sl .str))), (3, .lf (.d (.int .i64))), (4, .lf (.d (.int .i64)))], [], 25⟩
@[reducible] noncomputable def jJx : List OSh := [(.ret, ⟨[(2, .lf (.d (.bool)))], [], 25⟩), (.exit 2, ⟨[(0, .lf (.d (.sl .str))), (3, .lf (.d (.int .i64)))], [], 25⟩)]
noncomputable def g38_1682 (y : s38_1682.Y) : Option (Sum s38_1682.Y (YS jJx)) :=
 bif (decide (y.1.2.2.1 < y.1.2.1)) then
(ix y.1.1 y.1.2.2.1).bind fun x1571 =>
(ix y.1.1 y.1.2.1).bind fun x1572 =>
 bif (x1571 == x1572) then
 some (.inr (.inl ((true, ()), ())))
else
 some (.inl ((y.1.1, (y.1.2.1, ((IntKind.i64.wrap (y.1.2.2.1 + (1 : Int))), ()))), ()))
else
 some (.inr (.inr ((y.1.1, (y.1.2.1, ())), ())))
theorem r38_1682 : ∀ y, g38_1682 y = jjz (jjd c38 []) (jjl (jjc (jjl (jjc b38 1 26)) 52 1682)) 1682 s38_1682 jJx y := fun y => by kernel_rfl
noncomputable def l38_1682 : s38_1682.Y → Option (YS jJx) := jjC g38_1682
theorem q38_1682 (H : CtxGood Pz c38) : jjn Pz (jjc (jjl (jjc b38 1 26)) 52 1682) (jjb s38_1682 jJx l38_1682) :=
 jjt (fr := []) H (by kernel_rfl) (by kernel_rfl) jje (fun y => jjh r38_1682 y)
@[reducible] noncomputable def s38_26 : Shape := ⟨[(0, .lf (.d (.sl .str))), (3, .lf (.d (.int .i64)))], [], 25⟩
@[reducible] noncomputable def t38_26 : List OSh := [(.ret, ⟨[(2, .lf (.d (.bool)))], [], 25⟩), (.exit 0, ⟨[], [], 25⟩)]
noncomputable def g38_26 (y : s38_26.Y) : Option (Sum s38_26.Y (YS t38_26)) :=
 bif (decide (y.1.2.1 < (y.1.1.length : Int))) then
(l38_1682 ((y.1.1, (y.1.2.1, ((0 : Int), ()))), ())).bind fun r1576 =>
(match r1576 with
| .inl r1577 =>
 some (.inr (.inl ((r1577.1.1, ()), ())))
| .inr r1578 =>
 some (.inl ((r1578.1.1, ((IntKind.i64.wrap (r1578.1.2.1 + (1 : Int))), ())), ())))
else
 some (.inr (.inr ((), ())))
theorem r38_26 : ∀ y, g38_26 y = jjz (jjd c38 [(1682, jjb s38_1682 jJx l38_1682)]) (jjl (jjc b38 1 26)) 26 s38_26 t38_26 y := fun y => by kernel_rfl
noncomputable def l38_26 : s38_26.Y → Option (YS t38_26) := jjC g38_26
theorem q38_26 (H : CtxGood Pz c38) : jjn Pz (jjc b38 1 26) (jjb s38_26 t38_26 l38_26) :=
 jjt (fr := [(1682, jjb s38_1682 jJx l38_1682)]) H (by kernel_rfl) (by kernel_rfl) ⟨q38_1682 H, trivial⟩ (fun y => jjh r38_26 y)
@[reducible] noncomputable def i38 : Shape := ⟨[(0, .lf (.d (.sl .str)))], [], 25⟩
@[reducible] noncomputable def o38 : Shape := ⟨[(2, .lf (.d (.bool)))], [], 25⟩
noncomputable def f38 (a : i38.Y) : Option o38.Y :=
(l38_26 ((a.1.1, ((0 : Int), ())), ())).bind fun r1582 =>
(match r1582 with
| .inl r1583 =>
 some ((r1583.1.1, ()), ())
| .inr r1584 =>
 some ((false, ()), ()))
theorem e38 : ∀ a, f38 a = jjo (jjd c38 [(26, jjb s38_26 t38_26 l38_26)]) b38 i38 o38 a := fun a => by kernel_rfl
noncomputable def S38 : jjF := jjf tt 25 i38 o38 [.tmp 2] [] f38
theorem z38 (h : ∀ T, (tt T).ok Pz T) : jja Pz 38 S38 :=
 have H := k38 h
 jjk (fn := Tryz.f38) (fr := [(26, jjb s38_26 t38_26 l38_26)]) H (by kernel_rfl) (by kernel_rfl) (by kernel_rfl) (by kernel_rfl) (by kernel_rfl) ⟨q38_26 H, trivial⟩ (by kernel_rfl) (fun y => ⟨_, _, rfl, rfl, rfl⟩) e38
noncomputable def c64v0 : Ctx := { tt := tt, fs := fun n => match n with | 65 => some S65 | _ => none }
theorem k64v0 (h : ∀ T, (tt T).ok Pz T) (h65 : jja Pz 65 S65) : CtxGood Pz c64v0 := ⟨⟨h⟩, fun g S hg => (by
 simp only [c64v0] at hg
 split at hg
 ·cases hg; exact h65
 ·cases hg), jjp, fun _ _ h => (by cases h), fun _ h => (by cases h)⟩
noncomputable def b64v0 : Code := jji Tryz.f64
@[reducible] noncomputable def s64v0_26 : Shape := ⟨[(1, .lf (.fn 65 [])), (7, .lf (.d (.sl .need))), (8, .lf (.d (.int .i64))), (9, .lf (.d (.int .i64)))], [], 18⟩
@[reducible] noncomputable def jJs : List OSh := [(.ret, ⟨[(4, .lf (.d (.bool)))], [], 18⟩), (.exit 0, ⟨[], [], 18⟩)]
noncomputable def g64v0_26 (y : s64v0_26.Y) : Option (Sum s64v0_26.Y (YS jJs)) :=
 bif (decide (y.1.2.2.2.1 < y.1.2.2.1)) then
(ix y.1.2.1 y.1.2.2.2.1).bind fun x1027 =>
(f65 (((x1027.name, (x1027.kind, (x1027.version, ()))), ()), ())).bind fun r1029 =>
 bif (!r1029.1.1) then
 some (.inr (.inl ((false, ()), ())))
else
 some (.inl (((), (y.1.2.1, (y.1.2.2.1, ((IntKind.i64.wrap (y.1.2.2.2.1 + (1 : Int))), ())))), ()))
else
 some (.inr (.inr ((), ())))
theorem r64v0_26 : ∀ y, g64v0_26 y = jjz (jjd c64v0 []) (jjl (jjc b64v0 1 26)) 26 s64v0_26 jJs y := fun y => by kernel_rfl
noncomputable def l64v0_26 : s64v0_26.Y → Option (YS jJs) := jjC g64v0_26
theorem q64v0_26 (H : CtxGood Pz c64v0) : jjn Pz (jjc b64v0 1 26) (jjb s64v0_26 jJs l64v0_26) :=
 jjt (fr := []) H (by kernel_rfl) (by kernel_rfl) jje (fun y => jjh r64v0_26 y)
@[reducible] noncomputable def i64v0 : Shape := ⟨[(0, .lf (.d (.sl .need))), (1, .lf (.fn 65 []))], [], 18⟩
@[reducible] noncomputable def o64v0 : Shape := ⟨[(4, .lf (.d (.bool)))], [], 18⟩
noncomputable def f64v0 (a : i64v0.Y) : Option o64v0.Y :=
(l64v0_26 (((), (a.1.1, ((a.1.1.length : Int), ((0 : Int), ())))), ())).bind fun r1033 =>
(match r1033 with
| .inl r1034 =>
 some ((r1034.1.1, ()), ())
| .inr r1035 =>
 some ((true, ()), ()))
theorem e64v0 : ∀ a, f64v0 a = jjo (jjd c64v0 [(26, jjb s64v0_26 jJs l64v0_26)]) b64v0 i64v0 o64v0 a := fun a => by kernel_rfl
noncomputable def S64v0 : jjF := jjf tt 18 i64v0 o64v0 [.tmp 4] [] f64v0
theorem z64v0 (h : ∀ T, (tt T).ok Pz T) (h65 : jja Pz 65 S65) : jja Pz 64 S64v0 :=
 have H := k64v0 h h65
 jjk (fn := Tryz.f64) (fr := [(26, jjb s64v0_26 jJs l64v0_26)]) H (by kernel_rfl) (by kernel_rfl) (by kernel_rfl) (by kernel_rfl) (by kernel_rfl) ⟨q64v0_26 H, trivial⟩ (by kernel_rfl) (fun y => ⟨_, _, rfl, rfl, rfl⟩) e64v0
noncomputable def c67 : Ctx := { tt := tt, fs := fun n => match n with | _ => none }
theorem k67 (h : ∀ T, (tt T).ok Pz T) : CtxGood Pz c67 := ⟨⟨h⟩, fun g S hg => (by cases hg), jjp, fun _ _ h => (by cases h), fun _ h => (by cases h)⟩
noncomputable def b67 : Code := jji Tryz.f67
@[reducible] noncomputable def i67 : Shape := ⟨[(0, .agg [.d (.str), .d (.int .i64), .d (.str)])], [], 5⟩
@[reducible] noncomputable def o67 : Shape := ⟨[(2, .lf (.d (.str)))], [], 5⟩
noncomputable def f67 (a : i67.Y) : Option o67.Y :=
 some ((a.1.1.1, ()), ())
theorem e67 : ∀ a, f67 a = jjo (jjd c67 []) b67 i67 o67 a := fun a => by kernel_rfl
noncomputable def S67 : jjF := jjf tt 5 i67 o67 [.tmp 2] [] f67
theorem z67 (h : ∀ T, (tt T).ok Pz T) : jja Pz 67 S67 :=
 have H := k67 h
 jjk (fn := Tryz.f67) (fr := []) H (by kernel_rfl) (by kernel_rfl) (by kernel_rfl) (by kernel_rfl) (by kernel_rfl) jje (by kernel_rfl) (fun y => ⟨_, _, rfl, rfl, rfl⟩) e67
noncomputable def c89 : Ctx := { tt := tt, fs := fun n => match n with | _ => none }
theorem k89 (h : ∀ T, (tt T).ok Pz T) : CtxGood Pz c89 := ⟨⟨h⟩, fun g S hg => (by cases hg), jjp, fun _ _ h => (by cases h), fun _ h => (by cases h)⟩
noncomputable def b89 : Code := jji Tryz.f89
@[reducible] noncomputable def i89 : Shape := ⟨[(0, .lf (.d (.sl .str)))], [], 8⟩
@[reducible] noncomputable def o89 : Shape := ⟨[(2, .lf (.own 3000128))], [(3000128, .row .str, .slot 2 0)], 8⟩
noncomputable def f89 (a : i89.Y) : Option o89.Y :=
 jxn (t := .str) a.1.1 (some (((), ()), (([] : List Str), ()))) ((apd 16 ([] : List Str) a.1.1).bind fun x1038 =>
 some (((), ()), (x1038, ())))
theorem e89 : ∀ a, f89 a = jjo (jjd c89 []) b89 i89 o89 a := fun a => by kernel_rfl
noncomputable def S89 : jjF := jjf tt 8 i89 o89 [.tmp 2] [] f89
theorem z89 (h : ∀ T, (tt T).ok Pz T) : jja Pz 89 S89 :=
 have H := k89 h
 jjk (fn := Tryz.f89) (fr := []) H (by kernel_rfl) (by kernel_rfl) (by kernel_rfl) (by kernel_rfl) (by kernel_rfl) jje (by kernel_rfl) (fun y => ⟨_, _, rfl, rfl, rfl⟩) e89
noncomputable def c90 : Ctx := { tt := tt, fs := fun n => match n with | 117 => some S117 | _ => none }
theorem k90 (h : ∀ T, (tt T).ok Pz T) (h117 : jja Pz 117 S117) : CtxGood Pz c90 := ⟨⟨h⟩, fun g S hg => (by
 simp only [c90] at hg
 split at hg
 ·cases hg; exact h117
 ·cases hg), jjp, fun _ _ h => (by cases h), fun _ h => (by cases h)⟩
noncomputable def b90 : Code := jji Tryz.f90
@[reducible] noncomputable def i90 : Shape := ⟨[(0, .lf (.d (.sl .str))), (1, .lf (.d (.str)))], [], 9⟩
@[reducible] noncomputable def o90 : Shape := ⟨[(4, .lf (.d (.bool)))], [], 9⟩
noncomputable def f90 (a : i90.Y) : Option o90.Y :=
(f117 ((a.1.1, (a.1.2.1, ())), ())).bind fun r1057 =>
 some (((decide (r1057.1.1 ≥ (0 : Int))), ()), ())
theorem e90 : ∀ a, f90 a = jjo (jjd c90 []) b90 i90 o90 a := fun a => by kernel_rfl
noncomputable def S90 : jjF := jjf tt 9 i90 o90 [.tmp 4] [] f90
theorem z90 (h : ∀ T, (tt T).ok Pz T) (h117 : jja Pz 117 S117) : jja Pz 90 S90 :=
 have H := k90 h h117
 jjk (fn := Tryz.f90) (fr := []) H (by kernel_rfl) (by kernel_rfl) (by kernel_rfl) (by kernel_rfl) (by kernel_rfl) jje (by kernel_rfl) (fun y => ⟨_, _, rfl, rfl, rfl⟩) e90
noncomputable def c66v0 : Ctx := { tt := tt, fs := fun n => match n with | 67 => some S67 | 89 => some S89 | 90 => some S90 | _ => none }
theorem k66v0 (h : ∀ T, (tt T).ok Pz T) (h67 : jja Pz 67 S67) (h89 : jja Pz 89 S89) (h90 : jja Pz 90 S90) : CtxGood Pz c66v0 := ⟨⟨h⟩, fun g S hg => (by
 simp only [c66v0] at hg
 split at hg
 ·cases hg; exact h67
 ·cases hg; exact h89
 ·cases hg; exact h90
 ·cases hg), jjp, fun _ _ h => (by cases h), fun _ h => (by cases h)⟩
noncomputable def b66v0 : Code := jji Tryz.f66
@[reducible] noncomputable def s66v0_58 : Shape := ⟨[(1, .lf (.fn 67 [])), (7, .lf (.own 3000448)), (12, .lf (.d (.sl .need))), (13, .lf (.d (.int .i64))), (14, .lf (.d (.int .i64)))], [(3000448, .row .str, .slot 7 0)], 30⟩
@[reducible] noncomputable def jxo : List OSh := [(.ret, ⟨[(6, .lf (.d (.bool)))], [], 30⟩), (.exit 0, ⟨[], [], 30⟩)]
noncomputable def g66v0_58 (y : s66v0_58.Y) : Option (Sum s66v0_58.Y (YS jxo)) :=
 bif (decide (y.1.2.2.2.2.1 < y.1.2.2.2.1)) then
(ix y.1.2.2.1 y.1.2.2.2.2.1).bind fun x1068 =>
(f67 (((x1068.name, (x1068.kind, (x1068.version, ()))), ()), ())).bind fun r1075 =>
(f90 ((y.2.1, (r1075.1.1, ())), ())).bind fun r1076 =>
 bif r1076.1.1 then
 some (.inr (.inl ((true, ()), ())))
else
(f67 (((x1068.name, (x1068.kind, (x1068.version, ()))), ()), ())).bind fun r1077 =>
(apd 16 y.2.1 ([r1077.1.1] : List Str)).bind fun x1078 =>
 some (.inl (((), ((), (y.1.2.2.1, (y.1.2.2.2.1, ((IntKind.i64.wrap (y.1.2.2.2.2.1 + (1 : Int))), ()))))), (x1078, ())))
else
 some (.inr (.inr ((), ())))
theorem r66v0_58 : ∀ y, g66v0_58 y = jjz (jjd c66v0 []) (jjl (jjc b66v0 1 58)) 58 s66v0_58 jxo y := fun y => by kernel_rfl
noncomputable def l66v0_58 : s66v0_58.Y → Option (YS jxo) := jjC g66v0_58
theorem q66v0_58 (H : CtxGood Pz c66v0) : jjn Pz (jjc b66v0 1 58) (jjb s66v0_58 jxo l66v0_58) :=
 jjt (fr := []) H (by kernel_rfl) (by kernel_rfl) jje (fun y => jjh r66v0_58 y)
@[reducible] noncomputable def i66v0 : Shape := ⟨[(0, .lf (.d (.sl .need))), (1, .lf (.fn 67 [])), (2, .lf (.d (.sl .str)))], [], 30⟩
@[reducible] noncomputable def o66v0 : Shape := ⟨[(6, .lf (.d (.bool)))], [], 30⟩
noncomputable def f66v0 (a : i66v0.Y) : Option o66v0.Y :=
(f89 ((a.1.2.2.1, ()), ())).bind fun r1083 =>
(l66v0_58 (((), ((), (a.1.1, ((a.1.1.length : Int), ((0 : Int), ()))))), (r1083.2.1, ()))).bind fun r1084 =>
(match r1084 with
| .inl r1085 =>
 some ((r1085.1.1, ()), ())
| .inr r1086 =>
 some ((false, ()), ()))
theorem e66v0 : ∀ a, f66v0 a = jjo (jjd c66v0 [(58, jjb s66v0_58 jxo l66v0_58)]) b66v0 i66v0 o66v0 a := fun a => by kernel_rfl
noncomputable def S66v0 : jjF := jjf tt 30 i66v0 o66v0 [.tmp 6] [] f66v0
theorem z66v0 (h : ∀ T, (tt T).ok Pz T) (h67 : jja Pz 67 S67) (h89 : jja Pz 89 S89) (h90 : jja Pz 90 S90) : jja Pz 66 S66v0 :=
 have H := k66v0 h h67 h89 h90
 jjk (fn := Tryz.f66) (fr := [(58, jjb s66v0_58 jxo l66v0_58)]) H (by kernel_rfl) (by kernel_rfl) (by kernel_rfl) (by kernel_rfl) (by kernel_rfl) ⟨q66v0_58 H, trivial⟩ (by kernel_rfl) (fun y => ⟨_, _, rfl, rfl, rfl⟩) e66v0
noncomputable def c96 : Ctx := { tt := tt, fs := fun n => match n with | 124 => some S124 | _ => none }
theorem k96 (h : ∀ T, (tt T).ok Pz T) (h124 : jja Pz 124 S124) : CtxGood Pz c96 := ⟨⟨h⟩, fun g S hg => (by
 simp only [c96] at hg
 split at hg
 ·cases hg; exact h124
 ·cases hg), jjp, fun _ _ h => (by cases h), fun _ h => (by cases h)⟩
noncomputable def b96 : Code := jji Tryz.f96
@[reducible] noncomputable def s96_26 : Shape := ⟨[(0, .lf (.d (.sl .need))), (3, .lf (.d (.int .i64)))], [], 19⟩
@[reducible] noncomputable def t96_26 : List OSh := [(.ret, ⟨[(2, .lf (.d (.bool)))], [], 19⟩), (.exit 0, ⟨[(0, .lf (.d (.sl .need)))], [], 19⟩)]
noncomputable def g96_26 (y : s96_26.Y) : Option (Sum s96_26.Y (YS t96_26)) :=
 bif (decide (y.1.2.1 < (y.1.1.length : Int))) then
(ix y.1.1 y.1.2.1).bind fun x1550 =>
(f124 (((x1550.name, (x1550.kind, (x1550.version, ()))), ()), ())).bind fun r1551 =>
 bif (!r1551.1.1) then
 some (.inr (.inl ((false, ()), ())))
else
 some (.inl ((y.1.1, ((IntKind.i64.wrap (y.1.2.1 + (1 : Int))), ())), ()))
else
 some (.inr (.inr ((y.1.1, ()), ())))
theorem r96_26 : ∀ y, g96_26 y = jjz (jjd c96 []) (jjl (jjc b96 1 26)) 26 s96_26 t96_26 y := fun y => by kernel_rfl
noncomputable def l96_26 : s96_26.Y → Option (YS t96_26) := jjC g96_26
theorem q96_26 (H : CtxGood Pz c96) : jjn Pz (jjc b96 1 26) (jjb s96_26 t96_26 l96_26) :=
 jjt (fr := []) H (by kernel_rfl) (by kernel_rfl) jje (fun y => jjh r96_26 y)
@[reducible] noncomputable def i96 : Shape := ⟨[(0, .lf (.d (.sl .need)))], [], 19⟩
@[reducible] noncomputable def o96 : Shape := ⟨[(2, .lf (.d (.bool)))], [], 19⟩
noncomputable def f96 (a : i96.Y) : Option o96.Y :=
(l96_26 ((a.1.1, ((0 : Int), ())), ())).bind fun r1561 =>
(match r1561 with
| .inl r1562 =>
 some ((r1562.1.1, ()), ())
| .inr r1563 =>
 some (((decide ((r1563.1.1.length : Int) ≤ (6 : Int))), ()), ()))
theorem e96 : ∀ a, f96 a = jjo (jjd c96 [(26, jjb s96_26 t96_26 l96_26)]) b96 i96 o96 a := fun a => by kernel_rfl
noncomputable def S96 : jjF := jjf tt 19 i96 o96 [.tmp 2] [] f96
theorem z96 (h : ∀ T, (tt T).ok Pz T) (h124 : jja Pz 124 S124) : jja Pz 96 S96 :=
 have H := k96 h h124
 jjk (fn := Tryz.f96) (fr := [(26, jjb s96_26 t96_26 l96_26)]) H (by kernel_rfl) (by kernel_rfl) (by kernel_rfl) (by kernel_rfl) (by kernel_rfl) ⟨q96_26 H, trivial⟩ (by kernel_rfl) (fun y => ⟨_, _, rfl, rfl, rfl⟩) e96
noncomputable def c72 : Ctx := { tt := tt, fs := fun n => match n with | 38 => some S38 | 96 => some S96 | _ => none }
theorem k72 (h : ∀ T, (tt T).ok Pz T) (h38 : jja Pz 38 S38) (h96 : jja Pz 96 S96) : CtxGood Pz c72 := ⟨⟨h⟩, fun g S hg => (by
 simp only [c72] at hg
 split at hg
 ·cases hg; exact h38
 ·cases hg; exact h96
 ·cases hg), jjp, fun _ _ h => (by cases h), fun _ h => (by cases h)⟩
noncomputable def b72 : Code := jji Tryz.f72
@[reducible] noncomputable def s72_58 : Shape := ⟨[(1, .lf (.d (.sl .need))), (5, .lf (.own 3000320)), (6, .lf (.d (.int .i64)))], [(3000320, .row .str, .slot 5 0)], 30⟩
@[reducible] noncomputable def t72_58 : List OSh := [(.exit 0, ⟨[(1, .lf (.d (.sl .need))), (5, .lf (.own 3000320))], [(3000320, .row .str, .slot 5 0)], 30⟩)]
noncomputable def g72_58 (y : s72_58.Y) : Option (Sum s72_58.Y (YS t72_58)) :=
 bif (decide (y.1.2.2.1 < (y.1.1.length : Int))) then
(ix y.1.1 y.1.2.2.1).bind fun x1530 =>
(apd 16 y.2.1 ([x1530.name] : List Str)).bind fun x1531 =>
 some (.inl ((y.1.1, ((), ((IntKind.i64.wrap (y.1.2.2.1 + (1 : Int))), ()))), (x1531, ())))
else
 some (.inr (((y.1.1, ((), ())), (y.2.1, ()))))
theorem r72_58 : ∀ y, g72_58 y = jjz (jjd c72 []) (jjl (jjc b72 1 58)) 58 s72_58 t72_58 y := fun y => by kernel_rfl
noncomputable def l72_58 : s72_58.Y → Option (YS t72_58) := jjC g72_58
theorem q72_58 (H : CtxGood Pz c72) : jjn Pz (jjc b72 1 58) (jjb s72_58 t72_58 l72_58) :=
 jjt (fr := []) H (by kernel_rfl) (by kernel_rfl) jje (fun y => jjh r72_58 y)
@[reducible] noncomputable def i72 : Shape := ⟨[(0, .lf (.d (.str))), (1, .lf (.d (.sl .need)))], [], 30⟩
@[reducible] noncomputable def o72 : Shape := ⟨[(4, .lf (.d (.bool)))], [], 30⟩
noncomputable def f72 (a : i72.Y) : Option o72.Y :=
(l72_58 ((a.1.2.1, ((), ((0 : Int), ()))), (([a.1.1] : List Str), ()))).bind fun r1587 =>
(f96 ((r1587.1.1, ()), ())).bind fun r1588 =>
 bif r1588.1.1 then
(f38 ((r1587.2.1, ()), ())).bind fun r1589 =>
 some (((!r1589.1.1), ()), ())
else
 some ((false, ()), ())
theorem e72 : ∀ a, f72 a = jjo (jjd c72 [(58, jjb s72_58 t72_58 l72_58)]) b72 i72 o72 a := fun a => by kernel_rfl
noncomputable def S72 : jjF := jjf tt 30 i72 o72 [.tmp 4] [] f72
theorem z72 (h : ∀ T, (tt T).ok Pz T) (h38 : jja Pz 38 S38) (h96 : jja Pz 96 S96) : jja Pz 72 S72 :=
 have H := k72 h h38 h96
 jjk (fn := Tryz.f72) (fr := [(58, jjb s72_58 t72_58 l72_58)]) H (by kernel_rfl) (by kernel_rfl) (by kernel_rfl) (by kernel_rfl) (by kernel_rfl) ⟨q72_58 H, trivial⟩ (by kernel_rfl) (fun y => ⟨_, _, rfl, rfl, rfl⟩) e72
abbrev BdNs (ns : List Need) : Prop := Bd ns.length ∧ ∀ n, n ∈ ns → BdN n
theorem leb6 (n : Nat) (k : Nat) : decide ((n : Int) ≤ (k : Int)) = decide (n ≤ k) := by by_cases h : n ≤ k <;> simp [h] <;> omega
theorem v_l4Needs (a) (hs : BdNs a.1.1) : f96 a = some ((a.1.1.all jqH && decide (a.1.1.length ≤ 6), ()), ()) := by
 obtain ⟨⟨ns, u⟩, u'⟩ := a
 obtain ⟨hl, hn⟩ := hs
 have hl : ns.length ≤ 2097152 := hl
 have key : l96_26 ((ns, ((0 : Int), ())), ()) = some (bif jqz (fun _ n => jqH n) 0 ns then .inr ((ns, ()), ()) else .inl ((false, ()), ())) := by
  refine jjU g96_26 ns (fun i => ((ns, ((i : Int), ())), ())) _ _ _ (fun i x hx => ?_) ?_
  ·have hi := jjv hx
   have hw : Sm i := by unfold Sm; omega
   have hb := hn x (List.mem_of_getElem? hx)
   simp only [g96_26, jjA hi, cond_true, jjs, hx, Option.bind_some]
   rw [v_NeedOk _ hb.1 hb.2]
   simp only [Option.bind_some, jjj hw]
   cases jqH x <;> rfl
  ·simp only [g96_26, jjI, cond_false]
 rw [jjW] at key
 simp only [f96, key, Option.bind_some]
 cases List.all ns jqH with
 | false => rfl
 | true => have := leb6 ns.length 6; simp only [cond_true, Bool.true_and]; rw [← this]; rfl
theorem v_allNeed (a) (hs : BdNs a.1.1) : f64v0 a = some ((a.1.1.all jqH, ()), ()) := by
 obtain ⟨⟨ns, u⟩, u'⟩ := a
 obtain ⟨hl, hn⟩ := hs
 have hl : ns.length ≤ 2097152 := hl
 have key : l64v0_26 (((), (ns, ((ns.length : Int), ((0 : Int), ())))), ()) = some (bif jqz (fun _ n => jqH n) 0 ns then .inr ((), ()) else .inl ((false, ()), ())) := by
  refine jjU g64v0_26 ns (fun i => (((), (ns, ((ns.length : Int), ((i : Int), ())))), ())) _ _ _ (fun i x hx => ?_) ?_
  ·have hi := jjv hx
   have hw : Sm i := by unfold Sm; omega
   have hb := hn x (List.mem_of_getElem? hx)
   simp only [g64v0_26, jjA hi, cond_true, jjs, hx, Option.bind_some]
   rw [v_iNeedOk _ hb.1 hb.2]
   simp only [Option.bind_some, jjj hw]
   cases jqH x <;> rfl
  ·simp only [g64v0_26, jjI, cond_false]
 rw [jjW] at key
 simp only [f64v0, key, Option.bind_some]
 cases List.all ns jqH <;> rfl
def dupA : List Str → List Str → Bool
 | _, [] => false
 | acc, x :: r => acc.contains x || dupA (acc ++ [x]) r
theorem dup_allI (xs : List Str) : ∀ (r : List Str) (k : Nat), r = xs.drop k → jqz (fun i x => !((xs.take i).contains x)) k r = !dupA (xs.take k) r := by
 intro r
 induction r with
 | nil => intro k _; rfl
 | cons x r ih =>
  intro k hr
  have hr' : r = xs.drop (k + 1) := by
   have := congrArg List.tail hr
   simpa using this
  have hx : xs[k]? = some x := by
   have := congrArg (fun l => l[0]?) hr
   simpa using this.symm
  have e1 : xs.take (k + 1) = xs.take k ++ [x] := by rw [List.take_add_one, hx]; rfl
  simp only [jqz, dupA, ih (k + 1) hr', e1, Bool.not_or]
theorem all_not (ys : List Str) (x : Str) : ys.all (fun y => !(y == x)) = !ys.contains x := by
 induction ys with
 | nil => rfl
 | cons y ys ih =>
  simp only [List.all_cons, ih, List.contains_cons, Bool.not_or]
  congr 2
  cases h : y == x with
  | true => rw [eq_of_beq h]; simp
  | false =>
   cases h2 : x == y with
   | true => rw [eq_of_beq h2] at h; simp at h
   | false => rfl
theorem v_l4Twice (a) (hs : Bd a.1.1.length) : f38 a = some ((dupA [] a.1.1, ()), ()) := by
 obtain ⟨⟨xs, u⟩, u'⟩ := a
 have hs : xs.length ≤ 2097152 := hs
 have inner : ∀ (i : Nat) (x : Str), xs[i]? = some x → l38_1682 ((xs, ((i : Int), ((0 : Int), ()))), ()) = some (bif !((xs.take i).contains x) then .inr ((xs, ((i : Int), ())), ()) else .inl ((true, ()), ())) := by
  intro i x hx
  have hi := jjv hx
  have hl : (xs.take i).length = i := by rw [List.length_take]; omega
  have := jjU g38_1682 (xs.take i) (fun k => ((xs, ((i : Int), ((k : Int), ()))), ())) (fun _ y => !(y == x)) (.inl ((true, ()), ())) (.inr ((xs, ((i : Int), ())), ())) (fun k y hy => ?_) ?_
  ·have := this
   rw [jjW, all_not] at this
   exact this
  ·have hk := jjv hy
   rw [hl] at hk
   have hw : Sm k := by unfold Sm; omega
   have hy' : xs[k]? = some y := by
    rw [List.getElem?_take, if_pos hk] at hy
    exact hy
   simp only [g38_1682, jjA hk, cond_true, jjs, hy', hx, Option.bind_some, jjj hw]
   cases (y == x) <;> rfl
  ·simp only [g38_1682, hl, jjI, cond_false]
 have key : l38_26 ((xs, ((0 : Int), ())), ()) = some (bif jqz (fun i x => !((xs.take i).contains x)) 0 xs then .inr ((), ()) else .inl ((true, ()), ())) := by
  refine jjU g38_26 xs (fun i => ((xs, ((i : Int), ())), ())) _ _ _ (fun i x hx => ?_) ?_
  ·have hi := jjv hx
   have hw : Sm i := by unfold Sm; omega
   simp only [g38_26, jjA hi, cond_true, inner i x hx, Option.bind_some]
   cases (xs.take i).contains x
   ·simp only [Bool.not_false, cond_true, jjj hw]
   ·rfl
  ·simp only [g38_26, jjI, cond_false]
 rw [dup_allI xs xs 0 rfl] at key
 simp only [f38, key, Option.bind_some, List.take_zero]
 cases dupA [] xs <;> rfl
def jQb (name : Str) (ns : List Need) : Bool := ns.all jqH && decide (ns.length ≤ 6) && !dupA [] (name :: ns.map (·.name))
theorem v_l7Needs (a) (hs : BdNs a.1.2.1) (hn : Bd a.1.1.length) : f72 a = some ((jQb a.1.1 a.1.2.1, ()), ()) := by
 obtain ⟨⟨name, ns, u⟩, u'⟩ := a
 have hl : ns.length ≤ 2097152 := hs.1
 have key : l72_58 ((ns, ((), ((0 : Int), ()))), (([name] : List Str), ())) = some (((ns, ((), ())), ((name :: ns.map (·.name)), ()))) := by
  have := loop_fold g72_58 ns (fun i (out : List Str) => ((ns, ((), ((i : Int), ()))), (out, ()))) (fun (n : Need) out => out ++ [n.name]) (fun out => (((ns, ((), ())), (out, ())) : YS t72_58)) (fun i out => out.length = i + 1) [name] rfl (fun i x out hx hI => ?_) (fun out _ => ?_)
  ·refine this.trans ?_
   have e : ∀ (r : List Need) (out : List Str), r.foldl (fun s x => s ++ [x.name]) out = out ++ r.map (·.name) := by
    intro r
    induction r with
    | nil => intro out; simp
    | cons n r ih => intro out; simp [ih]
   rw [e]; rfl
  ·have hi := jjv hx
   have hw : Sm i := by unfold Sm; omega
   refine ⟨?_, by simp [hI]⟩
   simp only [g72_58, jjA hi, cond_true, jjs, hx, Option.bind_some]
   rw [jj0 (by decide) (by unfold Sm; simp only [List.length_cons, List.length_nil]; omega)]
   simp only [Option.bind_some, jjj hw]
  ·simp only [g72_58, jjI, cond_false]
 simp only [f72, key, Option.bind_some]
 rw [v_l4Needs _ hs]
 simp only [Option.bind_some]
 unfold jQb
 cases hq : (List.all ns jqH && decide (ns.length ≤ 6)) with
 | false => rfl
 | true =>
  simp only [Bool.and_eq_true, decide_eq_true_eq] at hq
  have tw := v_l4Twice ((name :: ns.map (·.name), ()), ()) (show (name :: ns.map (·.name)).length ≤ 2097152 by simp only [List.length_cons, List.length_map]; omega)
  simp only [cond_true, Bool.true_and, tw, Option.bind_some]
theorem v_Index (a) (hs : Bd a.1.1.length) : ∃ n : Int, f117 a = some ((n, ()), ()) ∧ decide (n ≥ 0) = a.1.1.contains a.1.2.1 := by
 obtain ⟨⟨xs, x, u⟩, u'⟩ := a
 have hs : xs.length ≤ 2097152 := hs
 have key : l117_26 ((xs, (x, ((xs.length : Int), ((0 : Int), ())))), ()) = _ := loop_list g117_26 xs (fun i (_ : Unit) => ((xs, (x, ((xs.length : Int), ((i : Int), ())))), ()))
  (fun i y _ => some (bif x == y then .inr ((.inl (((i : Int), ()), ())) : YS jzu) else .inl ())) (fun _ => .inr ((), ())) (fun i y s hy => ?_) (fun s => ?_) ()
 ·have fold : ∀ (r : List Str) (k : Nat), ∃ n : Int, (jqD (fun i y (_ : Unit) => some (bif x == y then .inr ((.inl (((i : Int), ()), ())) : YS jzu) else .inl ())) (fun _ => (.inr ((), ()) : YS jzu)) k r ()).bind (fun r833 =>
    (match r833 with
    | .inl r834 => some ((r834.1.1, ()), ())
    | .inr r835 => some ((((-1) : Int), ()), ()) : Option o117.Y)) = some ((n, ()), ()) ∧ decide (n ≥ 0) = r.contains x := by
   intro r
   induction r with
   | nil => intro k; exact ⟨-1, rfl, rfl⟩
   | cons y r ih =>
    intro k
    simp only [jqD, List.contains_cons]
    cases hxy : x == y with
    | true => exact ⟨k, rfl, by simp⟩
    | false =>
     obtain ⟨n, h1, h2⟩ := ih (k + 1)
     exact ⟨n, h1, by simpa using h2⟩
  obtain ⟨n, h1, h2⟩ := fold xs 0
  refine ⟨n, ?_, h2⟩
  simp only [f117]
  rw [key]
  exact h1
 ·have hi := jjv hy
  have hw : Sm i := by unfold Sm; omega
  simp only [g117_26, jjA hi, cond_true, jjs, hy, Option.bind_some, jjj hw]
  cases x == y <;> rfl
 ·simp only [g117_26, jjI, cond_false]
theorem v_Contains (a) (hs : Bd a.1.1.length) : f90 a = some ((a.1.1.contains a.1.2.1, ()), ()) := by
 obtain ⟨n, h1, h2⟩ := v_Index ((a.1.1, (a.1.2.1, ())), ()) hs
 simp only [f90, h1, Option.bind_some, h2]
theorem v_CloneS (a) (hs : Bd a.1.1.length) : f89 a = some (((), ()), (a.1.1, ())) := by
 obtain ⟨⟨xs, u⟩, u'⟩ := a
 have hs : xs.length ≤ 2097152 := hs
 have h2 : (apd 16 ([] : List Str) xs).bind (fun x => some (((), ()), (x, ()))) = (some (((), ()), (xs, ())) : Option o89.Y) := by
  rw [jj0 (by decide) (by unfold Sm; simp only [List.length_nil]; omega)]; rfl
 simp only [f89]
 rw [h2]
 unfold jxn
 split
 ·rfl
 ·rename_i h
  exact absurd (fun he : xs = [] => by subst he; rfl) h
theorem v_namesTwice (a) (hs : BdNs a.1.1) (hm : a.1.2.2.1.length ≤ 1) : f66v0 a = some ((dupA a.1.2.2.1 (a.1.1.map (·.name)), ()), ()) := by
 obtain ⟨⟨ns, u0, more, u⟩, u'⟩ := a
 have hl : ns.length ≤ 2097152 := hs.1
 have hm : more.length ≤ 1 := hm
 have hc := v_CloneS ((more, ()), ()) (show more.length ≤ 2097152 by omega)
 have key : (l66v0_58 (((), ((), (ns, ((ns.length : Int), ((0 : Int), ()))))), (more, ()))) = _ := jq4 g66v0_58 ns (fun i (out : List Str) => (((), ((), (ns, ((ns.length : Int), ((i : Int), ()))))), (out, ())))
  (fun i (n : Need) out => some (bif out.contains n.name then .inr ((.inl ((true, ()), ())) : YS jxo) else .inl (out ++ [n.name]))) (fun _ => .inr ((), ())) (fun i out => out.length ≤ i + 1) more (by omega) (fun i x out hx hI => ?_) (fun out _ => ?_)
 ·have fold : ∀ (r : List Need) (k : Nat) (out : List Str), (jqD (fun i (n : Need) out => some (bif out.contains n.name then .inr ((.inl ((true, ()), ())) : YS jxo) else .inl (out ++ [n.name]))) (fun _ => (.inr ((), ()) : YS jxo)) k r out) =
    some (bif dupA out (r.map (·.name)) then .inl ((true, ()), ()) else .inr ((), ())) := by
   intro r
   induction r with
   | nil => intro k out; rfl
   | cons n r ih =>
    intro k out
    simp only [jqD, List.map_cons, dupA]
    cases out.contains n.name with
    | true => rfl
    | false => simp only [cond_false, Bool.false_or]; exact ih _ _
  rw [fold] at key
  simp only [f66v0, hc, Option.bind_some, key]
  cases dupA more (ns.map (·.name)) <;> rfl
 ·have hi := jjv hx
  have hw : Sm i := by unfold Sm; omega
  refine ⟨?_, fun s' h' => ?_⟩
  ·simp only [g66v0_58, jjA hi, cond_true, jjs, hx, Option.bind_some, f67]
   rw [v_Contains _ (show Bd out.length by show out.length ≤ 2097152; omega)]
   simp only [Option.bind_some]
   cases hq : out.contains x.name with
   | true => rfl
   | false =>
    simp only [cond_false]
    rw [jj0 (by decide) (by unfold Sm; simp only [List.length_cons, List.length_nil]; omega)]
    simp only [Option.bind_some, jjj hw, Option.map_some]
  ·simp only [Option.some.injEq] at h'
   cases hq : out.contains x.name with
   | true => rw [hq] at h'; cases h'
   | false =>
    rw [hq] at h'
    simp only [cond_false, Sum.inl.injEq] at h'
    subst h'
    simp only [List.length_append, List.length_cons, List.length_nil]; omega
 ·simp only [g66v0_58, jjI, cond_false]
noncomputable def c157 : Ctx := { tt := tt, fs := fun n => match n with | _ => none }
theorem k157 (h : ∀ T, (tt T).ok Pz T) : CtxGood Pz c157 := ⟨⟨h⟩, fun g S hg => (by cases hg), jjp, fun _ _ h => (by cases h), fun _ h => (by cases h)⟩
noncomputable def b157 : Code := jji Tryz.f157
@[reducible] noncomputable def i157 : Shape := ⟨[(0, .lf (.d (.int .u8)))], [], 29⟩
@[reducible] noncomputable def o157 : Shape := ⟨[(2, .lf (.d (.bool)))], [], 29⟩
noncomputable def f157 (a : i157.Y) : Option o157.Y :=
 bif (decide (a.1.1 ≥ (97 : Int))) then
 bif (!(decide (a.1.1 ≤ (122 : Int)))) then
 bif (decide (a.1.1 ≥ (48 : Int))) then
 bif (!(decide (a.1.1 ≤ (57 : Int)))) then
 bif (!(a.1.1 == (46 : Int))) then
 bif (!(a.1.1 == (95 : Int))) then
 some (((a.1.1 == (45 : Int)), ()), ())
else
 some ((true, ()), ())
else
 some ((true, ()), ())
else
 some ((true, ()), ())
else
 bif (!(a.1.1 == (46 : Int))) then
 bif (!(a.1.1 == (95 : Int))) then
 some (((a.1.1 == (45 : Int)), ()), ())
else
 some ((true, ()), ())
else
 some ((true, ()), ())
else
 some ((true, ()), ())
else
 bif (decide (a.1.1 ≥ (48 : Int))) then
 bif (!(decide (a.1.1 ≤ (57 : Int)))) then
 bif (!(a.1.1 == (46 : Int))) then
 bif (!(a.1.1 == (95 : Int))) then
 some (((a.1.1 == (45 : Int)), ()), ())
else
 some ((true, ()), ())
else
 some ((true, ()), ())
else
 some ((true, ()), ())
else
 bif (!(a.1.1 == (46 : Int))) then
 bif (!(a.1.1 == (95 : Int))) then
 some (((a.1.1 == (45 : Int)), ()), ())
else
 some ((true, ()), ())
else
 some ((true, ()), ())
theorem e157 : ∀ a, f157 a = jjo (jjd c157 []) b157 i157 o157 a := fun a => by kernel_rfl
noncomputable def S157 : jjF := jjf tt 29 i157 o157 [.tmp 2] [] f157
theorem z157 (h : ∀ T, (tt T).ok Pz T) : jja Pz 157 S157 :=
 have H := k157 h
 jjk (fn := Tryz.f157) (fr := []) H (by kernel_rfl) (by kernel_rfl) (by kernel_rfl) (by kernel_rfl) (by kernel_rfl) jje (by kernel_rfl) (fun y => ⟨_, _, rfl, rfl, rfl⟩) e157
noncomputable def c148 : Ctx := { tt := tt, fs := fun n => match n with | 157 => some S157 | _ => none }
theorem k148 (h : ∀ T, (tt T).ok Pz T) (h157 : jja Pz 157 S157) : CtxGood Pz c148 := ⟨⟨h⟩, fun g S hg => (by
 simp only [c148] at hg
 split at hg
 ·cases hg; exact h157
 ·cases hg), jjp, fun _ _ h => (by cases h), fun _ h => (by cases h)⟩
noncomputable def b148 : Code := jji Tryz.f148
@[reducible] noncomputable def s148_26 : Shape := ⟨[(0, .lf (.d (.str))), (5, .lf (.d (.int .i64))), (6, .lf (.d (.int .i64)))], [], 17⟩
@[reducible] noncomputable def t148_26 : List OSh := [(.ret, ⟨[(2, .lf (.d (.bool)))], [], 17⟩), (.exit 0, ⟨[(0, .lf (.d (.str)))], [], 17⟩)]
noncomputable def g148_26 (y : s148_26.Y) : Option (Sum s148_26.Y (YS t148_26)) :=
 bif (decide (y.1.2.2.1 < y.1.2.1)) then
(ix y.1.1 y.1.2.2.1).bind fun x1096 =>
(f157 (((x1096.toNat : Int), ()), ())).bind fun r1097 =>
 bif (!r1097.1.1) then
 some (.inr (.inl ((false, ()), ())))
else
 some (.inl ((y.1.1, (y.1.2.1, ((IntKind.i64.wrap (y.1.2.2.1 + (1 : Int))), ()))), ()))
else
 some (.inr (.inr ((y.1.1, ()), ())))
theorem r148_26 : ∀ y, g148_26 y = jjz (jjd c148 []) (jjl (jjc b148 1 26)) 26 s148_26 t148_26 y := fun y => by kernel_rfl
noncomputable def l148_26 : s148_26.Y → Option (YS t148_26) := jjC g148_26
theorem q148_26 (H : CtxGood Pz c148) : jjn Pz (jjc b148 1 26) (jjb s148_26 t148_26 l148_26) :=
 jjt (fr := []) H (by kernel_rfl) (by kernel_rfl) jje (fun y => jjh r148_26 y)
@[reducible] noncomputable def i148 : Shape := ⟨[(0, .lf (.d (.str)))], [], 17⟩
@[reducible] noncomputable def o148 : Shape := ⟨[(2, .lf (.d (.bool)))], [], 17⟩
noncomputable def f148 (a : i148.Y) : Option o148.Y :=
(l148_26 ((a.1.1, ((a.1.1.length : Int), ((0 : Int), ()))), ())).bind fun r1107 =>
(match r1107 with
| .inl r1108 =>
 some ((r1108.1.1, ()), ())
| .inr r1109 =>
 some (((!(r1109.1.1 == ([] : Str))), ()), ()))
theorem e148 : ∀ a, f148 a = jjo (jjd c148 [(26, jjb s148_26 t148_26 l148_26)]) b148 i148 o148 a := fun a => by kernel_rfl
noncomputable def S148 : jjF := jjf tt 17 i148 o148 [.tmp 2] [] f148
theorem z148 (h : ∀ T, (tt T).ok Pz T) (h157 : jja Pz 157 S157) : jja Pz 148 S148 :=
 have H := k148 h h157
 jjk (fn := Tryz.f148) (fr := [(26, jjb s148_26 t148_26 l148_26)]) H (by kernel_rfl) (by kernel_rfl) (by kernel_rfl) (by kernel_rfl) (by kernel_rfl) ⟨q148_26 H, trivial⟩ (by kernel_rfl) (fun y => ⟨_, _, rfl, rfl, rfl⟩) e148
noncomputable def c137 : Ctx := { tt := tt, fs := fun n => match n with | 148 => some S148 | _ => none }
theorem k137 (h : ∀ T, (tt T).ok Pz T) (h148 : jja Pz 148 S148) : CtxGood Pz c137 := ⟨⟨h⟩, fun g S hg => (by
 simp only [c137] at hg
 split at hg
 ·cases hg; exact h148
 ·cases hg), jjp, fun _ _ h => (by cases h), fun _ h => (by cases h)⟩
noncomputable def b137 : Code := jji Tryz.f137
@[reducible] noncomputable def i137 : Shape := ⟨[(0, .lf (.d (.str)))], [], 18⟩
@[reducible] noncomputable def o137 : Shape := ⟨[(2, .lf (.d (.bool)))], [], 18⟩
noncomputable def f137 (a : i137.Y) : Option o137.Y :=
 bif (decide ((a.1.1.length : Int) ≤ (10 : Int))) then
 bif (!(a.1.1 == ([46] : Str))) then
 bif (!(a.1.1 == ([46, 46] : Str))) then
(f148 ((a.1.1, ()), ())).bind fun r1111 =>
 some ((r1111.1.1, ()), ())
else
 some ((false, ()), ())
else
 some ((false, ()), ())
else
 some ((false, ()), ())
theorem e137 : ∀ a, f137 a = jjo (jjd c137 []) b137 i137 o137 a := fun a => by kernel_rfl
noncomputable def S137 : jjF := jjf tt 18 i137 o137 [.tmp 2] [] f137
theorem z137 (h : ∀ T, (tt T).ok Pz T) (h148 : jja Pz 148 S148) : jja Pz 137 S137 :=
 have H := k137 h h148
 jjk (fn := Tryz.f137) (fr := []) H (by kernel_rfl) (by kernel_rfl) (by kernel_rfl) (by kernel_rfl) (by kernel_rfl) jje (by kernel_rfl) (fun y => ⟨_, _, rfl, rfl, rfl⟩) e137
noncomputable def c118 : Ctx := { tt := tt, fs := fun n => match n with | 137 => some S137 | _ => none, sp := fun n => match n with | 115 => some 145 | _ => none }
theorem k118 (h : ∀ T, (tt T).ok Pz T) (h137 : jja Pz 137 S137) (hY : jQk Pz 115 145) (hI : jzq Pz 145) : CtxGood Pz c118 := ⟨⟨h⟩, fun g S hg => (by
 simp only [c118] at hg
 split at hg
 ·cases hg; exact h137
 ·cases hg), jjp, fun g g2 hg => (by
 simp only [c118] at hg
 split at hg
 ·cases hg; exact hY
 ·cases hg), fun _ h => (by cases h)⟩
noncomputable def b118 : Code := jji Tryz.f118
@[reducible] noncomputable def s118_938 : Shape := ⟨[(2, .lf (.ptr 2 0)), (3, .lf (.ptr 3 0)), (4, .lf (.d (.str)))], [(2, .box [.d (.bool)], .same), (3, .box [.d (.int .i64)], .same)], 17⟩
@[reducible] noncomputable def t118_938 : List OSh := [(.norm, ⟨[(2, .lf (.ptr 2 0)), (3, .lf (.ptr 3 0)), (16, .lf (.d (.bool)))], [(2, .box [.d (.bool)], .same), (3, .box [.d (.int .i64)], .same)], 17⟩)]
noncomputable def jJO (y : s118_938.Y) : Option (YS t118_938) :=
 bif (!(decide (y.2.2.1.1 > (5 : Int)))) then
(f137 ((y.1.2.2.1, ()), ())).bind fun r1114 =>
 some ((((), ((), ((!r1114.1.1), ()))), ((y.2.1.1, ()), ((y.2.2.1.1, ()), ()))))
else
 some ((((), ((), (true, ()))), ((y.2.1.1, ()), ((y.2.2.1.1, ()), ()))))
theorem r118_938 : ∀ y, jJO y = jjK (jjd c118 []) (jjc (jzS (jjc b118 1 58)) 117 938) 938 s118_938 t118_938 y := fun y => by kernel_rfl
theorem q118_938 (H : CtxGood Pz c118) (hI : jzq Pz 145) : jjn Pz (jjc (jzS (jjc b118 1 58)) 117 938) (jjb s118_938 t118_938 jJO) :=
 jjw (fr := []) H (by kernel_rfl) jje r118_938
@[reducible] noncomputable def s118_58 : Shape := ⟨[(2, .lf (.ptr 2 0)), (3, .lf (.ptr 3 0))], [(2, .box [.d (.bool)], .same), (3, .box [.d (.int .i64)], .same)], 17⟩
@[reducible] noncomputable def t118_58 : List OSh := [(.norm, ⟨[(2, .lf (.ptr 2 0))], [(2, .box [.d (.bool)], .same)], 17⟩), (.ret, ⟨[(2, .lf (.ptr 2 0))], [(2, .box [.d (.bool)], .same)], 17⟩)]
noncomputable def jzG (x : Str) (y : s118_58.Y) : Option (Sum s118_58.Y (YS t118_58)) :=
(jJO (((), ((), (x, ()))), ((y.2.1.1, ()), (((IntKind.i64.wrap (y.2.2.1.1 + (1 : Int))), ()), ())))).bind fun r1116 =>
 bif r1116.1.2.2.1 then
 some (.inr (.inr (((), ()), ((false, ()), ()))))
else
 some (.inl (((), ((), ())), ((r1116.2.1.1, ()), ((r1116.2.2.1.1, ()), ()))))
noncomputable def jQe (y : s118_58.Y) : Option (YS t118_58) := some (.inl (((), ()), ((y.2.1.1, ()), ())))
theorem r118_58 : ∀ x y, jzG x y = roundP (jjd c118 [(938, jjb s118_938 t118_938 jJO)]) (jzy (jjc b118 1 58)) (jzS (jjc b118 1 58)) 58 7 s118_58 t118_58 x y := fun x y => by kernel_rfl
theorem q118_58 (H : CtxGood Pz c118) (hI : jzq Pz 145) : jjn Pz (jjc b118 1 58) (jxp 145 6 s118_58 t118_58 jzG jQe) :=
 range_at (fr := [(938, jjb s118_938 t118_938 jJO)]) (prm := 7) H hI (by kernel_rfl) (by kernel_rfl) (by kernel_rfl) ⟨q118_938 H hI, trivial⟩ r118_58 (fun y => by kernel_rfl) (by kernel_rfl) (by kernel_rfl) (by kernel_rfl) (by kernel_rfl) (by kernel_rfl)
@[reducible] noncomputable def i118 : Shape := ⟨[(0, .lf (.d (.str)))], [], 17⟩
@[reducible] noncomputable def o118 : Shape := ⟨[(2, .lf (.ptr 2 0))], [(2, .box [.d (.bool)], .same)], 17⟩
noncomputable def f118 (a : i118.Y) : Option o118.Y :=
(bif Nat.ble a.1.1.length jzn then jzY jzG jQe (jjy (47 : UInt8) a.1.1) (((), ((), ())), ((false, ()), (((0 : Int), ()), ()))) else none).bind fun r1120 =>
(match r1120 with
| .inl r1121 =>
 some (((), ()), ((true, ()), ()))
| .inr r1122 =>
 some (((), ()), ((r1122.2.1.1, ()), ())))
theorem e118 : ∀ a, f118 a = jjo (jjd c118 [(58, jxp 145 6 s118_58 t118_58 jzG jQe)]) b118 i118 o118 a := fun a => by kernel_rfl
noncomputable def S118 : jjF := jjf tt 17 i118 o118 [.cell 2 4] [] f118
theorem z118 (h : ∀ T, (tt T).ok Pz T) (h137 : jja Pz 137 S137) (hY : jQk Pz 115 145) (hI : jzq Pz 145) : jja Pz 118 S118 :=
 have H := k118 h h137 hY hI
 jjk (fn := Tryz.f118) (fr := [(58, jxp 145 6 s118_58 t118_58 jzG jQe)]) H (by kernel_rfl) (by kernel_rfl) (by kernel_rfl) (by kernel_rfl) (by kernel_rfl) ⟨q118_58 H hI, trivial⟩ (by kernel_rfl) (fun y => ⟨_, _, rfl, rfl, rfl⟩) e118
noncomputable def c138 : Ctx := { tt := tt, fs := fun n => match n with | _ => none }
theorem k138 (h : ∀ T, (tt T).ok Pz T) : CtxGood Pz c138 := ⟨⟨h⟩, fun g S hg => (by cases hg), jjp, fun _ _ h => (by cases h), fun _ h => (by cases h)⟩
noncomputable def b138 : Code := jji Tryz.f138
@[reducible] noncomputable def i138 : Shape := ⟨[(0, .lf (.d (.int .u8)))], [], 9⟩
@[reducible] noncomputable def o138 : Shape := ⟨[(2, .lf (.d (.bool)))], [], 9⟩
noncomputable def f138 (a : i138.Y) : Option o138.Y :=
 bif (decide (a.1.1 ≥ (32 : Int))) then
 some (((decide (a.1.1 ≤ (126 : Int))), ()), ())
else
 some ((false, ()), ())
theorem e138 : ∀ a, f138 a = jjo (jjd c138 []) b138 i138 o138 a := fun a => by kernel_rfl
noncomputable def S138 : jjF := jjf tt 9 i138 o138 [.tmp 2] [] f138
theorem z138 (h : ∀ T, (tt T).ok Pz T) : jja Pz 138 S138 :=
 have H := k138 h
 jjk (fn := Tryz.f138) (fr := []) H (by kernel_rfl) (by kernel_rfl) (by kernel_rfl) (by kernel_rfl) (by kernel_rfl) jje (by kernel_rfl) (fun y => ⟨_, _, rfl, rfl, rfl⟩) e138
noncomputable def c119 : Ctx := { tt := tt, fs := fun n => match n with | 138 => some S138 | _ => none }
theorem k119 (h : ∀ T, (tt T).ok Pz T) (h138 : jja Pz 138 S138) : CtxGood Pz c119 := ⟨⟨h⟩, fun g S hg => (by
 simp only [c119] at hg
 split at hg
 ·cases hg; exact h138
 ·cases hg), jjp, fun _ _ h => (by cases h), fun _ h => (by cases h)⟩
noncomputable def b119 : Code := jji Tryz.f119
@[reducible] noncomputable def s119_7474 : Shape := ⟨[(0, .lf (.d (.str))), (3, .lf (.d (.int .i64))), (8, .lf (.d (.int .i64))), (9, .lf (.d (.int .i64)))], [], 24⟩
@[reducible] noncomputable def jJa : List OSh := [(.norm, ⟨[(0, .lf (.d (.str))), (8, .lf (.d (.int .i64))), (9, .lf (.d (.int .i64))), (22, .lf (.d (.bool)))], [], 24⟩)]
noncomputable def jzk (y : s119_7474.Y) : Option (YS jJa) :=
(ix y.1.1 y.1.2.1).bind fun x1134 =>
(f138 (((x1134.toNat : Int), ()), ())).bind fun r1135 =>
 bif (!r1135.1.1) then
(ix y.1.1 y.1.2.1).bind fun x1136 =>
 some (((y.1.1, (y.1.2.2.1, (y.1.2.2.2.1, (((x1136.toNat : Int) != (10 : Int)), ())))), ()))
else
 some (((y.1.1, (y.1.2.2.1, (y.1.2.2.2.1, (false, ())))), ()))
theorem r119_7474 : ∀ y, jzk y = jjK (jjd c119 []) (jjc (jjl (jjc b119 1 58)) 116 7474) 7474 s119_7474 jJa y := fun y => by kernel_rfl
theorem q119_7474 (H : CtxGood Pz c119) : jjn Pz (jjc (jjl (jjc b119 1 58)) 116 7474) (jjb s119_7474 jJa jzk) :=
 jjw (fr := []) H (by kernel_rfl) jje r119_7474
@[reducible] noncomputable def s119_58 : Shape := ⟨[(0, .lf (.d (.str))), (8, .lf (.d (.int .i64))), (9, .lf (.d (.int .i64)))], [], 24⟩
@[reducible] noncomputable def t119_58 : List OSh := [(.ret, ⟨[(2, .lf (.d (.bool)))], [], 24⟩), (.exit 0, ⟨[], [], 24⟩)]
noncomputable def g119_58 (y : s119_58.Y) : Option (Sum s119_58.Y (YS t119_58)) :=
 bif (decide (y.1.2.2.1 < y.1.2.1)) then
(jzk ((y.1.1, (y.1.2.2.1, (y.1.2.1, (y.1.2.2.1, ())))), ())).bind fun r1138 =>
 bif r1138.1.2.2.2.1 then
 some (.inr (.inl ((false, ()), ())))
else
 some (.inl ((r1138.1.1, (r1138.1.2.1, ((IntKind.i64.wrap (r1138.1.2.2.1 + (1 : Int))), ()))), ()))
else
 some (.inr (.inr ((), ())))
theorem r119_58 : ∀ y, g119_58 y = jjz (jjd c119 [(7474, jjb s119_7474 jJa jzk)]) (jjl (jjc b119 1 58)) 58 s119_58 t119_58 y := fun y => by kernel_rfl
noncomputable def l119_58 : s119_58.Y → Option (YS t119_58) := jjC g119_58
theorem q119_58 (H : CtxGood Pz c119) : jjn Pz (jjc b119 1 58) (jjb s119_58 t119_58 l119_58) :=
 jjt (fr := [(7474, jjb s119_7474 jJa jzk)]) H (by kernel_rfl) (by kernel_rfl) ⟨q119_7474 H, trivial⟩ (fun y => jjh r119_58 y)
@[reducible] noncomputable def i119 : Shape := ⟨[(0, .lf (.d (.str)))], [], 24⟩
@[reducible] noncomputable def o119 : Shape := ⟨[(2, .lf (.d (.bool)))], [], 24⟩
noncomputable def f119 (a : i119.Y) : Option o119.Y :=
 bif (decide ((a.1.1.length : Int) > (80 : Int))) then
 some ((false, ()), ())
else
(l119_58 ((a.1.1, ((a.1.1.length : Int), ((0 : Int), ()))), ())).bind fun r1139 =>
(match r1139 with
| .inl r1140 =>
 some ((r1140.1.1, ()), ())
| .inr r1141 =>
 some ((true, ()), ()))
theorem e119 : ∀ a, f119 a = jjo (jjd c119 [(58, jjb s119_58 t119_58 l119_58)]) b119 i119 o119 a := fun a => by kernel_rfl
noncomputable def S119 : jjF := jjf tt 24 i119 o119 [.tmp 2] [] f119
theorem z119 (h : ∀ T, (tt T).ok Pz T) (h138 : jja Pz 138 S138) : jja Pz 119 S119 :=
 have H := k119 h h138
 jjk (fn := Tryz.f119) (fr := [(58, jjb s119_58 t119_58 l119_58)]) H (by kernel_rfl) (by kernel_rfl) (by kernel_rfl) (by kernel_rfl) (by kernel_rfl) ⟨q119_58 H, trivial⟩ (by kernel_rfl) (fun y => ⟨_, _, rfl, rfl, rfl⟩) e119
noncomputable def c151 : Ctx := { tt := tt, fs := fun n => match n with | _ => none }
theorem k151 (h : ∀ T, (tt T).ok Pz T) : CtxGood Pz c151 := ⟨⟨h⟩, fun g S hg => (by cases hg), jjp, fun _ _ h => (by cases h), fun _ h => (by cases h)⟩
noncomputable def b151 : Code := jji Tryz.f151
@[reducible] noncomputable def i151 : Shape := ⟨[(0, .lf (.d (.int .u8)))], [], 29⟩
@[reducible] noncomputable def o151 : Shape := ⟨[(2, .lf (.d (.bool)))], [], 29⟩
noncomputable def f151 (a : i151.Y) : Option o151.Y :=
 bif (decide (a.1.1 ≥ (97 : Int))) then
 bif (!(decide (a.1.1 ≤ (122 : Int)))) then
 bif (decide (a.1.1 ≥ (48 : Int))) then
 bif (!(decide (a.1.1 ≤ (57 : Int)))) then
 bif (!(a.1.1 == (46 : Int))) then
 bif (!(a.1.1 == (95 : Int))) then
 some (((a.1.1 == (45 : Int)), ()), ())
else
 some ((true, ()), ())
else
 some ((true, ()), ())
else
 some ((true, ()), ())
else
 bif (!(a.1.1 == (46 : Int))) then
 bif (!(a.1.1 == (95 : Int))) then
 some (((a.1.1 == (45 : Int)), ()), ())
else
 some ((true, ()), ())
else
 some ((true, ()), ())
else
 some ((true, ()), ())
else
 bif (decide (a.1.1 ≥ (48 : Int))) then
 bif (!(decide (a.1.1 ≤ (57 : Int)))) then
 bif (!(a.1.1 == (46 : Int))) then
 bif (!(a.1.1 == (95 : Int))) then
 some (((a.1.1 == (45 : Int)), ()), ())
else
 some ((true, ()), ())
else
 some ((true, ()), ())
else
 some ((true, ()), ())
else
 bif (!(a.1.1 == (46 : Int))) then
 bif (!(a.1.1 == (95 : Int))) then
 some (((a.1.1 == (45 : Int)), ()), ())
else
 some ((true, ()), ())
else
 some ((true, ()), ())
theorem e151 : ∀ a, f151 a = jjo (jjd c151 []) b151 i151 o151 a := fun a => by kernel_rfl
noncomputable def S151 : jjF := jjf tt 29 i151 o151 [.tmp 2] [] f151
theorem z151 (h : ∀ T, (tt T).ok Pz T) : jja Pz 151 S151 :=
 have H := k151 h
 jjk (fn := Tryz.f151) (fr := []) H (by kernel_rfl) (by kernel_rfl) (by kernel_rfl) (by kernel_rfl) (by kernel_rfl) jje (by kernel_rfl) (fun y => ⟨_, _, rfl, rfl, rfl⟩) e151
noncomputable def c141 : Ctx := { tt := tt, fs := fun n => match n with | 94 => some S94 | 151 => some S151 | _ => none }
theorem k141 (h : ∀ T, (tt T).ok Pz T) (h94 : jja Pz 94 S94) (h151 : jja Pz 151 S151) : CtxGood Pz c141 := ⟨⟨h⟩, fun g S hg => (by
 simp only [c141] at hg
 split at hg
 ·cases hg; exact h94
 ·cases hg; exact h151
 ·cases hg), jjp, fun _ _ h => (by cases h), fun _ h => (by cases h)⟩
noncomputable def b141 : Code := jji Tryz.f141
@[reducible] noncomputable def s141_26 : Shape := ⟨[(0, .lf (.d (.str))), (3, .lf (.d (.int .i64)))], [], 26⟩
@[reducible] noncomputable def t141_26 : List OSh := [(.ret, ⟨[(2, .lf (.d (.bool)))], [], 26⟩), (.exit 0, ⟨[(0, .lf (.d (.str)))], [], 26⟩)]
noncomputable def g141_26 (y : s141_26.Y) : Option (Sum s141_26.Y (YS t141_26)) :=
 bif (decide (y.1.2.1 < (y.1.1.length : Int))) then
(ix y.1.1 y.1.2.1).bind fun x162 =>
(f151 (((x162.toNat : Int), ()), ())).bind fun r163 =>
 bif (!r163.1.1) then
 some (.inr (.inl ((false, ()), ())))
else
 some (.inl ((y.1.1, ((IntKind.i64.wrap (y.1.2.1 + (1 : Int))), ())), ()))
else
 some (.inr (.inr ((y.1.1, ()), ())))
theorem r141_26 : ∀ y, g141_26 y = jjz (jjd c141 []) (jjl (jjc b141 1 26)) 26 s141_26 t141_26 y := fun y => by kernel_rfl
noncomputable def l141_26 : s141_26.Y → Option (YS t141_26) := jjC g141_26
theorem q141_26 (H : CtxGood Pz c141) : jjn Pz (jjc b141 1 26) (jjb s141_26 t141_26 l141_26) :=
 jjt (fr := []) H (by kernel_rfl) (by kernel_rfl) jje (fun y => jjh r141_26 y)
@[reducible] noncomputable def i141 : Shape := ⟨[(0, .lf (.d (.str)))], [], 26⟩
@[reducible] noncomputable def o141 : Shape := ⟨[(2, .lf (.d (.bool)))], [], 26⟩
noncomputable def f141 (a : i141.Y) : Option o141.Y :=
(l141_26 ((a.1.1, ((0 : Int), ())), ())).bind fun r174 =>
(match r174 with
| .inl r175 =>
 some ((r175.1.1, ()), ())
| .inr r176 =>
(f94 (((r176.1.1.length : Int), ((1 : Int), ((10 : Int), ()))), ())).bind fun r177 =>
 bif r177.1.1 then
 bif (!(r176.1.1 == ([46] : Str))) then
 some (((!(r176.1.1 == ([46, 46] : Str))), ()), ())
else
 some ((false, ()), ())
else
 some ((false, ()), ()))
theorem e141 : ∀ a, f141 a = jjo (jjd c141 [(26, jjb s141_26 t141_26 l141_26)]) b141 i141 o141 a := fun a => by kernel_rfl
noncomputable def S141 : jjF := jjf tt 26 i141 o141 [.tmp 2] [] f141
theorem z141 (h : ∀ T, (tt T).ok Pz T) (h94 : jja Pz 94 S94) (h151 : jja Pz 151 S151) : jja Pz 141 S141 :=
 have H := k141 h h94 h151
 jjk (fn := Tryz.f141) (fr := [(26, jjb s141_26 t141_26 l141_26)]) H (by kernel_rfl) (by kernel_rfl) (by kernel_rfl) (by kernel_rfl) (by kernel_rfl) ⟨q141_26 H, trivial⟩ (by kernel_rfl) (fun y => ⟨_, _, rfl, rfl, rfl⟩) e141
noncomputable def c125 : Ctx := { tt := tt, fs := fun n => match n with | 122 => some S122 | 141 => some S141 | _ => none }
theorem k125 (h : ∀ T, (tt T).ok Pz T) (h122 : jja Pz 122 S122) (h141 : jja Pz 141 S141) : CtxGood Pz c125 := ⟨⟨h⟩, fun g S hg => (by
 simp only [c125] at hg
 split at hg
 ·cases hg; exact h122
 ·cases hg; exact h141
 ·cases hg), jjp, fun _ _ h => (by cases h), fun _ h => (by cases h)⟩
noncomputable def b125 : Code := jji Tryz.f125
@[reducible] noncomputable def s125_58 : Shape := ⟨[(3, .lf (.own 3000192)), (4, .lf (.d (.int .i64)))], [(3000192, .row .str, .slot 3 0)], 25⟩
@[reducible] noncomputable def t125_58 : List OSh := [(.ret, ⟨[(2, .lf (.d (.bool)))], [], 25⟩), (.exit 0, ⟨[(3, .lf (.own 3000192))], [(3000192, .row .str, .slot 3 0)], 25⟩)]
noncomputable def g125_58 (y : s125_58.Y) : Option (Sum s125_58.Y (YS t125_58)) :=
 bif (decide (y.1.2.1 < (y.2.1.length : Int))) then
(inb y.2.1.length y.1.2.1).bind fun x185 =>
(y.2.1[x185]?).bind fun x186 =>
(f141 ((x186, ()), ())).bind fun r187 =>
 bif (!r187.1.1) then
 some (.inr (.inl ((false, ()), ())))
else
 some (.inl (((), ((IntKind.i64.wrap (y.1.2.1 + (1 : Int))), ())), (y.2.1, ())))
else
 some (.inr (.inr (((), ()), (y.2.1, ()))))
theorem r125_58 : ∀ y, g125_58 y = jjz (jjd c125 []) (jjl (jjc b125 1 58)) 58 s125_58 t125_58 y := fun y => by kernel_rfl
noncomputable def l125_58 : s125_58.Y → Option (YS t125_58) := jjC g125_58
theorem q125_58 (H : CtxGood Pz c125) : jjn Pz (jjc b125 1 58) (jjb s125_58 t125_58 l125_58) :=
 jjt (fr := []) H (by kernel_rfl) (by kernel_rfl) jje (fun y => jjh r125_58 y)
@[reducible] noncomputable def i125 : Shape := ⟨[(0, .lf (.d (.str)))], [], 25⟩
@[reducible] noncomputable def o125 : Shape := ⟨[(2, .lf (.d (.bool)))], [], 25⟩
noncomputable def f125 (a : i125.Y) : Option o125.Y :=
(f122 ((a.1.1, ((47 : Int), ((IntKind.i64.wrap ((a.1.1.length : Int) + (1 : Int))), ()))), ())).bind fun r195 =>
(l125_58 (((), ((0 : Int), ())), (r195.2.1, ()))).bind fun r199 =>
(match r199 with
| .inl r200 =>
 some ((r200.1.1, ()), ())
| .inr r201 =>
 some (((decide ((r201.2.1.length : Int) ≤ (5 : Int))), ()), ()))
theorem e125 : ∀ a, f125 a = jjo (jjd c125 [(58, jjb s125_58 t125_58 l125_58)]) b125 i125 o125 a := fun a => by kernel_rfl
noncomputable def S125 : jjF := jjf tt 25 i125 o125 [.tmp 2] [] f125
theorem z125 (h : ∀ T, (tt T).ok Pz T) (h122 : jja Pz 122 S122) (h141 : jja Pz 141 S141) : jja Pz 125 S125 :=
 have H := k125 h h122 h141
 jjk (fn := Tryz.f125) (fr := [(58, jjb s125_58 t125_58 l125_58)]) H (by kernel_rfl) (by kernel_rfl) (by kernel_rfl) (by kernel_rfl) (by kernel_rfl) ⟨q125_58 H, trivial⟩ (by kernel_rfl) (fun y => ⟨_, _, rfl, rfl, rfl⟩) e125
noncomputable def c126 : Ctx := { tt := tt, fs := fun n => match n with | 94 => some S94 | _ => none }
theorem k126 (h : ∀ T, (tt T).ok Pz T) (h94 : jja Pz 94 S94) : CtxGood Pz c126 := ⟨⟨h⟩, fun g S hg => (by
 simp only [c126] at hg
 split at hg
 ·cases hg; exact h94
 ·cases hg), jjp, fun _ _ h => (by cases h), fun _ h => (by cases h)⟩
noncomputable def b126 : Code := jji Tryz.f126
@[reducible] noncomputable def s126_840 : Shape := ⟨[(0, .lf (.d (.str))), (3, .lf (.d (.int .i64)))], [], 25⟩
@[reducible] noncomputable def t126_840 : List OSh := [(.norm, ⟨[(0, .lf (.d (.str))), (3, .lf (.d (.int .i64))), (21, .lf (.d (.bool)))], [], 25⟩)]
noncomputable def jJN (y : s126_840.Y) : Option (YS t126_840) :=
(ix y.1.1 y.1.2.1).bind fun x214 =>
 bif ((x214.toNat : Int) != (10 : Int)) then
(ix y.1.1 y.1.2.1).bind fun x215 =>
(f94 (((IntKind.i64.wrap (x215.toNat : Int)), ((32 : Int), ((126 : Int), ()))), ())).bind fun r216 =>
 some (((y.1.1, (y.1.2.1, ((!r216.1.1), ()))), ()))
else
 some (((y.1.1, (y.1.2.1, (false, ()))), ()))
theorem r126_840 : ∀ y, jJN y = jjK (jjd c126 []) (jjc (jjl (jjc b126 1 26)) 52 840) 840 s126_840 t126_840 y := fun y => by kernel_rfl
theorem q126_840 (H : CtxGood Pz c126) : jjn Pz (jjc (jjl (jjc b126 1 26)) 52 840) (jjb s126_840 t126_840 jJN) :=
 jjw (fr := []) H (by kernel_rfl) jje r126_840
@[reducible] noncomputable def s126_26 : Shape := ⟨[(0, .lf (.d (.str))), (3, .lf (.d (.int .i64)))], [], 25⟩
@[reducible] noncomputable def t126_26 : List OSh := [(.ret, ⟨[(2, .lf (.d (.bool)))], [], 25⟩), (.exit 0, ⟨[(0, .lf (.d (.str)))], [], 25⟩)]
noncomputable def g126_26 (y : s126_26.Y) : Option (Sum s126_26.Y (YS t126_26)) :=
 bif (decide (y.1.2.1 < (y.1.1.length : Int))) then
(jJN ((y.1.1, (y.1.2.1, ())), ())).bind fun r218 =>
 bif r218.1.2.2.1 then
 some (.inr (.inl ((false, ()), ())))
else
 some (.inl ((r218.1.1, ((IntKind.i64.wrap (r218.1.2.1 + (1 : Int))), ())), ()))
else
 some (.inr (.inr ((y.1.1, ()), ())))
theorem r126_26 : ∀ y, g126_26 y = jjz (jjd c126 [(840, jjb s126_840 t126_840 jJN)]) (jjl (jjc b126 1 26)) 26 s126_26 t126_26 y := fun y => by kernel_rfl
noncomputable def l126_26 : s126_26.Y → Option (YS t126_26) := jjC g126_26
theorem q126_26 (H : CtxGood Pz c126) : jjn Pz (jjc b126 1 26) (jjb s126_26 t126_26 l126_26) :=
 jjt (fr := [(840, jjb s126_840 t126_840 jJN)]) H (by kernel_rfl) (by kernel_rfl) ⟨q126_840 H, trivial⟩ (fun y => jjh r126_26 y)
@[reducible] noncomputable def i126 : Shape := ⟨[(0, .lf (.d (.str)))], [], 25⟩
@[reducible] noncomputable def o126 : Shape := ⟨[(2, .lf (.d (.bool)))], [], 25⟩
noncomputable def f126 (a : i126.Y) : Option o126.Y :=
(l126_26 ((a.1.1, ((0 : Int), ())), ())).bind fun r228 =>
(match r228 with
| .inl r229 =>
 some ((r229.1.1, ()), ())
| .inr r230 =>
 some (((decide ((r230.1.1.length : Int) ≤ (80 : Int))), ()), ()))
theorem e126 : ∀ a, f126 a = jjo (jjd c126 [(26, jjb s126_26 t126_26 l126_26)]) b126 i126 o126 a := fun a => by kernel_rfl
noncomputable def S126 : jjF := jjf tt 25 i126 o126 [.tmp 2] [] f126
theorem z126 (h : ∀ T, (tt T).ok Pz T) (h94 : jja Pz 94 S94) : jja Pz 126 S126 :=
 have H := k126 h h94
 jjk (fn := Tryz.f126) (fr := [(26, jjb s126_26 t126_26 l126_26)]) H (by kernel_rfl) (by kernel_rfl) (by kernel_rfl) (by kernel_rfl) (by kernel_rfl) ⟨q126_26 H, trivial⟩ (by kernel_rfl) (fun y => ⟨_, _, rfl, rfl, rfl⟩) e126
noncomputable def c91 : Ctx := { tt := tt, fs := fun n => match n with | 118 => some S118 | 119 => some S119 | _ => none }
theorem k91 (h : ∀ T, (tt T).ok Pz T) (h118 : jja Pz 118 S118) (h119 : jja Pz 119 S119) : CtxGood Pz c91 := ⟨⟨h⟩, fun g S hg => (by
 simp only [c91] at hg
 split at hg
 ·cases hg; exact h118
 ·cases hg; exact h119
 ·cases hg), jjp, fun _ _ h => (by cases h), fun _ h => (by cases h)⟩
noncomputable def b91 : Code := jji Tryz.f91
@[reducible] noncomputable def s91_12 : Shape := ⟨[(1, .lf (.ptr 1 0))], [(1, .box [.d (.str), .d (.int .i64), .d (.int .i64), .d (.str)], .same)], 39⟩
@[reducible] noncomputable def t91_12 : List OSh := [(.norm, ⟨[(1, .lf (.ptr 1 0)), (16, .lf (.d (.bool)))], [(1, .box [.d (.str), .d (.int .i64), .d (.int .i64), .d (.str)], .same)], 39⟩)]
noncomputable def g91_12 (y : s91_12.Y) : Option (YS t91_12) :=
(f118 ((y.2.1.1, ()), ())).bind fun r1125 =>
 bif (!(!r1125.2.1.1)) then
 bif (!(decide (y.2.1.2.2.1 < (0 : Int)))) then
 some ((((), ((decide (y.2.1.2.2.1 > (7 : Int))), ())), ((y.2.1.1, (y.2.1.2.1, (y.2.1.2.2.1, (y.2.1.2.2.2.1, ())))), ())))
else
 some ((((), (true, ())), ((y.2.1.1, (y.2.1.2.1, (y.2.1.2.2.1, (y.2.1.2.2.2.1, ())))), ())))
else
 some ((((), (true, ())), ((y.2.1.1, (y.2.1.2.1, (y.2.1.2.2.1, (y.2.1.2.2.2.1, ())))), ())))
theorem r91_12 : ∀ y, g91_12 y = jjK (jjd c91 []) (jjc b91 1 12) 12 s91_12 t91_12 y := fun y => by kernel_rfl
theorem q91_12 (H : CtxGood Pz c91) : jjn Pz (jjc b91 1 12) (jjb s91_12 t91_12 g91_12) :=
 jjw (fr := []) H (by kernel_rfl) jje r91_12
@[reducible] noncomputable def i91 : Shape := ⟨[(0, .agg [.d (.str), .d (.int .i64), .d (.int .i64), .d (.str)])], [], 39⟩
@[reducible] noncomputable def o91 : Shape := ⟨[(2, .lf (.d (.bool)))], [], 39⟩
noncomputable def f91 (a : i91.Y) : Option o91.Y :=
(g91_12 (((), ()), ((a.1.1.1, (a.1.1.2.1, (a.1.1.2.2.1, (a.1.1.2.2.2.1, ())))), ()))).bind fun r1145 =>
 bif r1145.1.2.1 then
 some ((false, ()), ())
else
 bif (r1145.2.1.2.1 == (1 : Int)) then
 some (((r1145.2.1.2.2.2.1 == ([] : Str)), ()), ())
else
 bif (r1145.2.1.2.1 == (2 : Int)) then
(f119 ((r1145.2.1.2.2.2.1, ()), ())).bind fun r1146 =>
 some ((r1146.1.1, ()), ())
else
 bif (r1145.2.1.2.1 == (3 : Int)) then
 bif (r1145.2.1.2.2.1 == (0 : Int)) then
(f118 ((r1145.2.1.2.2.2.1, ()), ())).bind fun r1147 =>
 some ((r1147.2.1.1, ()), ())
else
 some ((false, ()), ())
else
 some ((false, ()), ())
theorem e91 : ∀ a, f91 a = jjo (jjd c91 [(12, jjb s91_12 t91_12 g91_12)]) b91 i91 o91 a := fun a => by kernel_rfl
noncomputable def S91 : jjF := jjf tt 39 i91 o91 [.tmp 2] [] f91
theorem z91 (h : ∀ T, (tt T).ok Pz T) (h118 : jja Pz 118 S118) (h119 : jja Pz 119 S119) : jja Pz 91 S91 :=
 have H := k91 h h118 h119
 jjk (fn := Tryz.f91) (fr := [(12, jjb s91_12 t91_12 g91_12)]) H (by kernel_rfl) (by kernel_rfl) (by kernel_rfl) (by kernel_rfl) (by kernel_rfl) ⟨q91_12 H, trivial⟩ (by kernel_rfl) (fun y => ⟨_, _, rfl, rfl, rfl⟩) e91
noncomputable def c97 : Ctx := { tt := tt, fs := fun n => match n with | 94 => some S94 | 125 => some S125 | 126 => some S126 | _ => none }
theorem k97 (h : ∀ T, (tt T).ok Pz T) (h94 : jja Pz 94 S94) (h125 : jja Pz 125 S125) (h126 : jja Pz 126 S126) : CtxGood Pz c97 := ⟨⟨h⟩, fun g S hg => (by
 simp only [c97] at hg
 split at hg
 ·cases hg; exact h94
 ·cases hg; exact h125
 ·cases hg; exact h126
 ·cases hg), jjp, fun _ _ h => (by cases h), fun _ h => (by cases h)⟩
noncomputable def b97 : Code := jji Tryz.f97
@[reducible] noncomputable def i97 : Shape := ⟨[(0, .agg [.d (.str), .d (.int .i64), .d (.int .i64), .d (.str)])], [], 42⟩
@[reducible] noncomputable def o97 : Shape := ⟨[(2, .lf (.d (.bool)))], [], 42⟩
noncomputable def f97 (a : i97.Y) : Option o97.Y :=
(f125 ((a.1.1.1, ()), ())).bind fun r239 =>
 bif (!r239.1.1) then
 some ((false, ()), ())
else
 bif (a.1.1.2.1 == (1 : Int)) then
(f94 ((a.1.1.2.2.1, ((0 : Int), ((7 : Int), ()))), ())).bind fun r243 =>
 bif r243.1.1 then
 some (((a.1.1.2.2.2.1 == ([] : Str)), ()), ())
else
 some ((false, ()), ())
else
 bif (a.1.1.2.1 == (2 : Int)) then
(f94 ((a.1.1.2.2.1, ((0 : Int), ((7 : Int), ()))), ())).bind fun r244 =>
 bif r244.1.1 then
(f126 ((a.1.1.2.2.2.1, ()), ())).bind fun r245 =>
 some ((r245.1.1, ()), ())
else
 some ((false, ()), ())
else
 bif (a.1.1.2.1 == (3 : Int)) then
 bif (a.1.1.2.2.1 == (0 : Int)) then
(f125 ((a.1.1.2.2.2.1, ()), ())).bind fun r246 =>
 some ((r246.1.1, ()), ())
else
 some ((false, ()), ())
else
 some ((false, ()), ())
theorem e97 : ∀ a, f97 a = jjo (jjd c97 []) b97 i97 o97 a := fun a => by kernel_rfl
noncomputable def S97 : jjF := jjf tt 42 i97 o97 [.tmp 2] [] f97
theorem z97 (h : ∀ T, (tt T).ok Pz T) (h94 : jja Pz 94 S94) (h125 : jja Pz 125 S125) (h126 : jja Pz 126 S126) : jja Pz 97 S97 :=
 have H := k97 h h94 h125 h126
 jjk (fn := Tryz.f97) (fr := []) H (by kernel_rfl) (by kernel_rfl) (by kernel_rfl) (by kernel_rfl) (by kernel_rfl) jje (by kernel_rfl) (fun y => ⟨_, _, rfl, rfl, rfl⟩) e97
def jzg (n : Int) : Bool := (decide (97 ≤ n) && decide (n ≤ 122)) || (decide (48 ≤ n) && decide (n ≤ 57)) || n == 46 || n == 95 || n == 45
theorem v_l1Small (a) : f151 a = some ((jzg a.1.1, ()), ()) := by
 obtain ⟨⟨n, u⟩, u'⟩ := a
 simp only [f151, jzg, ge_iff_le]
 generalize decide ((97 : Int) ≤ n) = b1
 generalize decide (n ≤ (122 : Int)) = b2
 generalize decide ((48 : Int) ≤ n) = b3
 generalize decide (n ≤ (57 : Int)) = b4
 generalize (n == (46 : Int)) = b5
 generalize (n == (95 : Int)) = b6
 generalize (n == (45 : Int)) = b7
 cases b1 <;> cases b2 <;> cases b3 <;> cases b4 <;> cases b5 <;> cases b6 <;> cases b7 <;> rfl
theorem v_nameByte (a) : f157 a = some ((jzg a.1.1, ()), ()) := by
 obtain ⟨⟨n, u⟩, u'⟩ := a
 simp only [f157, jzg, ge_iff_le]
 generalize decide ((97 : Int) ≤ n) = b1
 generalize decide (n ≤ (122 : Int)) = b2
 generalize decide ((48 : Int) ≤ n) = b3
 generalize decide (n ≤ (57 : Int)) = b4
 generalize (n == (46 : Int)) = b5
 generalize (n == (95 : Int)) = b6
 generalize (n == (45 : Int)) = b7
 cases b1 <;> cases b2 <;> cases b3 <;> cases b4 <;> cases b5 <;> cases b6 <;> cases b7 <;> rfl
def nmOk (s : Str) : Bool := s.all (fun b => jzg b.toNat) && jj7 s.length 1 10 && !(s == [46]) && !(s == [46, 46])
theorem v_l1Name (a) (hs : Bd a.1.1.length) : f141 a = some ((nmOk a.1.1, ()), ()) := by
 obtain ⟨⟨s, u⟩, u'⟩ := a
 have hs : s.length ≤ 2097152 := hs
 have key : l141_26 ((s, ((0 : Int), ())), ()) = some (bif jqz (fun _ b => jzg b.toNat) 0 s then .inr ((s, ()), ()) else .inl ((false, ()), ())) := by
  refine jjU g141_26 s (fun i => ((s, ((i : Int), ())), ())) _ _ _ (fun i x hx => ?_) ?_
  ·have hi := jjv hx
   have hw : Sm i := by unfold Sm; omega
   simp only [g141_26, jjA hi, cond_true, jjs, hx, Option.bind_some, v_l1Small, jjj hw]
   cases jzg x.toNat <;> rfl
  ·simp only [g141_26, jjI, cond_false]
 rw [jjW] at key
 simp only [f141, key, Option.bind_some, nmOk]
 cases List.all s (fun b => jzg b.toNat) with
 | false => rfl
 | true =>
  simp only [cond_true, v_l1In, Option.bind_some, Bool.true_and]
  cases jj7 (s.length : Int) 1 10 <;> cases (s == [46]) <;> rfl
theorem v_nameOk (a) (hs : Bd a.1.1.length) : f137 a = some ((nmOk a.1.1, ()), ()) := by
 obtain ⟨⟨s, u⟩, u'⟩ := a
 have hs : s.length ≤ 2097152 := hs
 have key : l148_26 ((s, ((s.length : Int), ((0 : Int), ()))), ()) = some (bif jqz (fun _ b => jzg b.toNat) 0 s then .inr ((s, ()), ()) else .inl ((false, ()), ())) := by
  refine jjU g148_26 s (fun i => ((s, ((s.length : Int), ((i : Int), ()))), ())) _ _ _ (fun i x hx => ?_) ?_
  ·have hi := jjv hx
   have hw : Sm i := by unfold Sm; omega
   simp only [g148_26, jjA hi, cond_true, jjs, hx, Option.bind_some, v_nameByte, jjj hw]
   cases jzg x.toNat <;> rfl
  ·simp only [g148_26, jjI, cond_false]
 rw [jjW] at key
 have hnb : f148 ((s, ()), ()) = some ((List.all s (fun b => jzg b.toNat) && !(s == ([] : Str)), ()), ()) := by
  simp only [f148, key, Option.bind_some]
  cases List.all s (fun b => jzg b.toNat) <;> rfl
 have h1 : decide ((1 : Int) ≤ (s.length : Int)) = !(s == ([] : Str)) := by
  cases s with
  | nil => rfl
  | cons b r =>
   have : ((b :: r) == ([] : Str)) = false := rfl
   simp only [List.length_cons]
   rw [this]; simp only [Bool.not_false, decide_eq_true_eq]; omega
 simp only [f137, hnb, Option.bind_some, nmOk, jj7, h1]
 cases decide ((s.length : Int) ≤ 10) <;> cases (s == [46]) <;> cases (s == [46, 46]) <;> cases List.all s (fun b => jzg b.toNat) <;> cases (s == ([] : Str)) <;> rfl
def jxk (s : Str) : Bool := (jjy 47 s).all nmOk && decide ((jjy 47 s).length ≤ 5)
theorem v_l1Path (a) (hs : Bd a.1.1.length) : f125 a = some ((jxk a.1.1, ()), ()) := by
 obtain ⟨⟨s, u⟩, u'⟩ := a
 have hs : s.length ≤ 2097152 := hs
 have hlen := jqY 47 s
 have hcut : f122 ((s, ((47 : Int), ((IntKind.i64.wrap ((s.length : Int) + (1 : Int))), ()))), ()) = some (((), ()), (jjy 47 s, ())) :=
  v_l1Cut 47 _ hs rfl (jjj (by unfold Sm; omega))
 have key : l125_58 (((), ((0 : Int), ())), (jjy 47 s, ())) = some (bif jqz (fun _ x => nmOk x) 0 (jjy 47 s) then .inr (((), ()), (jjy 47 s, ())) else .inl ((false, ()), ())) := by
  refine jjU g125_58 (jjy 47 s) (fun i => (((), ((i : Int), ())), (jjy 47 s, ()))) _ _ _ (fun i x hx => ?_) ?_
  ·have hi := jjv hx
   have hw : Sm i := by unfold Sm; omega
   have hxl : x.length ≤ s.length := jqX 47 s x (List.mem_of_getElem? hx)
   simp only [g125_58, jjA hi, cond_true, jqQ hi, hx, Option.bind_some]
   rw [v_l1Name _ (show x.length ≤ 2097152 by omega)]
   simp only [Option.bind_some, jjj hw]
   cases nmOk x <;> rfl
  ·simp only [g125_58, jjI, cond_false]
 rw [jjW] at key
 simp only [f125, hcut, Option.bind_some, key, jxk]
 cases List.all (jjy 47 s) nmOk with
 | false => rfl
 | true => have := leb6 (jjy 47 s).length 5; simp only [cond_true, Bool.true_and]; rw [← this]; rfl
theorem v_PathOk (a) (hs : Bd a.1.1.length) : f118 a = some (((), ()), ((jxk a.1.1, ()), ())) := by
 obtain ⟨⟨s, u⟩, u'⟩ := a
 have hs : s.length ≤ 2097152 := hs
 have hble : Nat.ble s.length jzn = true := Nat.ble_eq_true_of_le (by unfold jzn; omega)
 have fold : ∀ (r : List Str) (k : Nat), (∀ x, x ∈ r → x.length ≤ s.length) → k ≤ 5 →
   jzY jzG jQe r (((), ((), ())), ((false, ()), (((k : Int), ()), ()))) =
    some (bif r.all nmOk && decide (k + r.length ≤ 5) then (.inl (((), ()), ((false, ()), ()))) else (.inr (((), ()), ((false, ()), ())))) := by
  intro r
  induction r with
  | nil =>
   intro k _ hk
   have : decide (k + 0 ≤ 5) = true := by simpa using hk
   simp only [jzY, jQe, List.all_nil, List.length_nil, this, Bool.and_self, cond_true]
  | cons x r ih =>
   intro k hr hk
   have hx := hr x List.mem_cons_self
   have hnm := v_nameOk ((x, ()), ()) (show x.length ≤ 2097152 by omega)
   have hw := jjj (i := k) (by unfold Sm; omega)
   have hk5 : decide (((k + 1 : Nat) : Int) > 5) = !decide (k + 1 ≤ 5) := by by_cases h : k + 1 ≤ 5 <;> simp only [h, decide_true, decide_false, Bool.not_true, Bool.not_false, decide_eq_true_eq, decide_eq_false_iff_not] <;> omega
   have step : jzG x (((), ((), ())), ((false, ()), (((k : Int), ()), ()))) =
     some (bif nmOk x && decide (k + 1 ≤ 5) then .inl (((), ((), ())), ((false, ()), ((((k + 1 : Nat) : Int), ()), ()))) else .inr (.inr (((), ()), ((false, ()), ())))) := by
    simp only [jzG, jJO, hw, hk5, Bool.not_not, hnm, Option.bind_some]
    cases decide (k + 1 ≤ 5) with
    | false => cases nmOk x <;> rfl
    | true => cases nmOk x <;> rfl
   rw [jzY, step, List.all_cons]
   cases hn : nmOk x with
   | false => rfl
   | true =>
    simp only [Bool.true_and]
    cases hq : decide (k + 1 ≤ 5) with
    | false =>
     have : decide (k + (x :: r).length ≤ 5) = false := by simp only [decide_eq_false_iff_not, List.length_cons] at hq ⊢; omega
     rw [this]; simp
    | true =>
     simp only [cond_true]
     rw [ih (k + 1) (fun y hy => hr y (List.mem_cons_of_mem _ hy)) (by simpa using hq)]
     have e1 : k + 1 + r.length = k + (x :: r).length := by simp only [List.length_cons]; omega
     rw [e1]
 have key := fold (jjy (47 : UInt8) s) 0 (fun x hx => jqX 47 s x hx) (Nat.zero_le _)
 have key' : jzY jzG jQe (jjy (47 : UInt8) s) (((), ((), ())), ((false, ()), (((0 : Int), ()), ()))) = some (bif jxk s then (.inl (((), ()), ((false, ()), ()))) else (.inr (((), ()), ((false, ()), ())))) := by
  refine key.trans ?_
  unfold jxk
  rw [Nat.zero_add]
 simp only [f118, hble, cond_true, key', Option.bind_some]
 cases jxk s <;> rfl
def textOk (s : Str) : Bool := s.all (fun b => (b.toNat : Int) == 10 || jj7 b.toNat 32 126) && decide (s.length ≤ 80)
theorem wrap_byte (b : UInt8) : IntKind.i64.wrap (b.toNat : Int) = (b.toNat : Int) := by
 have := b.toNat_lt
 rw [jjG (by omega) (by omega)]
theorem v_l2Text (a) (hs : Bd a.1.1.length) : f126 a = some ((textOk a.1.1, ()), ()) := by
 obtain ⟨⟨s, u⟩, u'⟩ := a
 have hs : s.length ≤ 2097152 := hs
 have key : l126_26 ((s, ((0 : Int), ())), ()) = some (bif jqz (fun _ b => (b.toNat : Int) == 10 || jj7 b.toNat 32 126) 0 s then .inr ((s, ()), ()) else .inl ((false, ()), ())) := by
  refine jjU g126_26 s (fun i => ((s, ((i : Int), ())), ())) _ _ _ (fun i x hx => ?_) ?_
  ·have hi := jjv hx
   have hw : Sm i := by unfold Sm; omega
   have hne : ((x.toNat : Int) != 10) = !((x.toNat : Int) == 10) := rfl
   simp only [g126_26, jjA hi, cond_true, jJN, jjs, hx, Option.bind_some, hne, v_l1In, wrap_byte]
   cases ((x.toNat : Int) == 10) <;> cases jj7 (x.toNat : Int) 32 126 <;> simp only [Bool.not_true, Bool.not_false, cond_true, cond_false, Option.bind_some, jjj hw, Bool.or_true, Bool.true_or, Bool.or_false]
  ·simp only [g126_26, jjI, cond_false]
 rw [jjW] at key
 simp only [f126, key, Option.bind_some, textOk]
 cases List.all s (fun b => (b.toNat : Int) == 10 || jj7 b.toNat 32 126) with
 | false => rfl
 | true => have := leb6 s.length 80; simp only [cond_true, Bool.true_and]; rw [← this]; rfl
theorem v_plainByte (a) : f138 a = some ((jj7 a.1.1 32 126, ()), ()) := by
 simp only [f138, jj7, ge_iff_le]
 cases decide ((32 : Int) ≤ a.1.1) <;> rfl
theorem v_fileText (a) (hs : Bd a.1.1.length) : f119 a = some ((textOk a.1.1, ()), ()) := by
 obtain ⟨⟨s, u⟩, u'⟩ := a
 have hs : s.length ≤ 2097152 := hs
 have key : l119_58 ((s, ((s.length : Int), ((0 : Int), ()))), ()) = some (bif jqz (fun _ b => (b.toNat : Int) == 10 || jj7 b.toNat 32 126) 0 s then .inr ((), ()) else .inl ((false, ()), ())) := by
  refine jjU g119_58 s (fun i => ((s, ((s.length : Int), ((i : Int), ()))), ())) _ _ _ (fun i x hx => ?_) ?_
  ·have hi := jjv hx
   have hw : Sm i := by unfold Sm; omega
   have hne : ((x.toNat : Int) != 10) = !((x.toNat : Int) == 10) := rfl
   simp only [g119_58, jjA hi, cond_true, jzk, jjs, hx, Option.bind_some, hne, v_plainByte]
   cases ((x.toNat : Int) == 10) <;> cases jj7 (x.toNat : Int) 32 126 <;> simp only [Bool.not_true, Bool.not_false, cond_true, cond_false, Option.bind_some, jjj hw, Bool.or_true, Bool.true_or, Bool.or_false]
  ·simp only [g119_58, jjI, cond_false]
 rw [jjW] at key
 have h80 : decide ((s.length : Int) > 80) = !decide (s.length ≤ 80) := by by_cases h : s.length ≤ 80 <;> simp only [h, decide_true, decide_false, Bool.not_true, Bool.not_false, decide_eq_true_eq, decide_eq_false_iff_not] <;> omega
 simp only [f119, key, Option.bind_some, textOk, h80]
 cases decide (s.length ≤ 80) <;> cases List.all s (fun b => (b.toNat : Int) == 10 || jj7 b.toNat 32 126) <;> rfl
def entOk (e : Entry) : Bool := jxk e.path && (bif e.kind == 1 then jj7 e.mode 0 7 && e.text == [] else bif e.kind == 2 then jj7 e.mode 0 7 && textOk e.text else bif e.kind == 3 then e.mode == 0 && jxk e.text else false)
abbrev BdE (e : Entry) : Prop := Bd e.path.length ∧ Bd e.text.length
theorem v_l2Entry (a) (h1 : Bd a.1.1.1.length) (h2 : Bd a.1.1.2.2.2.1.length) : f97 a = some ((entOk ⟨a.1.1.1, a.1.1.2.1, a.1.1.2.2.1, a.1.1.2.2.2.1⟩, ()), ()) := by
 obtain ⟨⟨⟨p, k, m, t, u⟩, u'⟩, u''⟩ := a
 have e1 := v_l1Path ((p, ()), ()) h1
 have e2 := v_l1Path ((t, ()), ()) h2
 have e3 := v_l2Text ((t, ()), ()) h2
 simp only [f97, e1, e2, e3, v_l1In, Option.bind_some, entOk]
 cases jxk p with
 | false => rfl
 | true => cases (k == 1) <;> cases (k == 2) <;> cases (k == 3) <;> cases jj7 m 0 7 <;> cases (m == 0) <;> rfl
theorem v_entryOk (a) (h1 : Bd a.1.1.1.length) (h2 : Bd a.1.1.2.2.2.1.length) : f91 a = some ((entOk ⟨a.1.1.1, a.1.1.2.1, a.1.1.2.2.1, a.1.1.2.2.2.1⟩, ()), ()) := by
 obtain ⟨⟨⟨p, k, m, t, u⟩, u'⟩, u''⟩ := a
 have e1 := v_PathOk ((p, ()), ()) h1
 have e2 := v_PathOk ((t, ()), ()) h2
 have e3 := v_fileText ((t, ()), ()) h2
 have hm : jj7 m 0 7 = true ∨ (m == 0) = false := by
  cases h : (m == 0) with
  | false => exact .inr rfl
  | true => left; rw [show m = (0 : Int) from eq_of_beq h]; rfl
 simp only [f91, g91_12, e1, e2, e3, Option.bind_some, entOk, dlt, dgt, Bool.not_not]
 unfold jj7 at hm ⊢
 cases jxk p with
 | false => rfl
 | true =>
  cases h0 : decide ((0 : Int) ≤ m) <;> cases h7 : decide (m ≤ 7) <;> rw [h0, h7] at hm <;> cases h00 : (m == 0) <;> rw [h00] at hm <;>
   first | (simp at hm; done) | (simp only [Bool.not_true, Bool.not_false, cond_true, cond_false, Option.bind_some, h00, e2, e3, Bool.and_true, Bool.and_false, Bool.true_and, Bool.false_and]; cases (k == 1) <;> cases (k == 2) <;> cases (k == 3) <;> rfl)
noncomputable def c81 : Ctx := { tt := tt, fs := fun n => match n with | _ => none }
theorem k81 (h : ∀ T, (tt T).ok Pz T) : CtxGood Pz c81 := ⟨⟨h⟩, fun g S hg => (by cases hg), jjp, fun _ _ h => (by cases h), fun _ h => (by cases h)⟩
noncomputable def b81 : Code := jji Tryz.f81
@[reducible] noncomputable def i81 : Shape := ⟨[(0, .lf (.d (.str)))], [], 6⟩
@[reducible] noncomputable def o81 : Shape := ⟨[(2, .lf (.d (.bool)))], [], 6⟩
noncomputable def f81 (a : i81.Y) : Option o81.Y :=
 some (((!(a.1.1 == a.1.1)), ()), ())
theorem e81 : ∀ a, f81 a = jjo (jjd c81 []) b81 i81 o81 a := fun a => by kernel_rfl
noncomputable def S81 : jjF := jjf tt 6 i81 o81 [.tmp 2] [] f81
theorem z81 (h : ∀ T, (tt T).ok Pz T) : jja Pz 81 S81 :=
 have H := k81 h
 jjk (fn := Tryz.f81) (fr := []) H (by kernel_rfl) (by kernel_rfl) (by kernel_rfl) (by kernel_rfl) (by kernel_rfl) jje (by kernel_rfl) (fun y => ⟨_, _, rfl, rfl, rfl⟩) e81
noncomputable def c55 : Ctx := { tt := tt, fs := fun n => match n with | 81 => some S81 | _ => none }
theorem k55 (h : ∀ T, (tt T).ok Pz T) (h81 : jja Pz 81 S81) : CtxGood Pz c55 := ⟨⟨h⟩, fun g S hg => (by
 simp only [c55] at hg
 split at hg
 ·cases hg; exact h81
 ·cases hg), jjp, fun _ _ h => (by cases h), fun _ h => (by cases h)⟩
noncomputable def b55 : Code := jji Tryz.f55
@[reducible] noncomputable def i55 : Shape := ⟨[(0, .lf (.d (.str))), (1, .lf (.d (.str)))], [], 20⟩
@[reducible] noncomputable def o55 : Shape := ⟨[(4, .lf (.d (.int .i64)))], [], 20⟩
noncomputable def f55 (a : i55.Y) : Option o55.Y :=
(f81 ((a.1.1, ()), ())).bind fun r1185 =>
(f81 ((a.1.2.1, ()), ())).bind fun r1187 =>
 bif r1185.1.1 then
 bif r1187.1.1 then
 some (((0 : Int), ()), ())
else
 some ((((-1) : Int), ()), ())
else
 bif r1187.1.1 then
 some (((1 : Int), ()), ())
else
 bif (Op.bytesLess a.1.1 a.1.2.1) then
 some ((((-1) : Int), ()), ())
else
 bif (!(Op.bytesLess a.1.1 a.1.2.1 || a.1.1 == a.1.2.1)) then
 some (((1 : Int), ()), ())
else
 some (((0 : Int), ()), ())
theorem e55 : ∀ a, f55 a = jjo (jjd c55 []) b55 i55 o55 a := fun a => by kernel_rfl
noncomputable def S55 : jjF := jjf tt 20 i55 o55 [.tmp 4] [] f55
theorem z55 (h : ∀ T, (tt T).ok Pz T) (h81 : jja Pz 81 S81) : jja Pz 55 S55 :=
 have H := k55 h h81
 jjk (fn := Tryz.f55) (fr := []) H (by kernel_rfl) (by kernel_rfl) (by kernel_rfl) (by kernel_rfl) (by kernel_rfl) jje (by kernel_rfl) (fun y => ⟨_, _, rfl, rfl, rfl⟩) e55
noncomputable def c128 : Ctx := { tt := tt, fs := fun n => match n with | 55 => some S55 | _ => none }
theorem k128 (h : ∀ T, (tt T).ok Pz T) (h55 : jja Pz 55 S55) : CtxGood Pz c128 := ⟨⟨h⟩, fun g S hg => (by
 simp only [c128] at hg
 split at hg
 ·cases hg; exact h55
 ·cases hg), jjp, fun _ _ h => (by cases h), fun _ h => (by cases h)⟩
noncomputable def b128 : Code := jji Tryz.f128
@[reducible] noncomputable def i128 : Shape := ⟨[(0, .agg [.d (.str), .d (.int .i64), .d (.int .i64), .d (.str)]), (1, .agg [.d (.str), .d (.int .i64), .d (.int .i64), .d (.str)])], [], 10⟩
@[reducible] noncomputable def o128 : Shape := ⟨[(4, .lf (.d (.int .i64)))], [], 10⟩
noncomputable def f128 (a : i128.Y) : Option o128.Y :=
(f55 ((a.1.1.1, (a.1.2.1.1, ())), ())).bind fun r1189 =>
 some ((r1189.1.1, ()), ())
theorem e128 : ∀ a, f128 a = jjo (jjd c128 []) b128 i128 o128 a := fun a => by kernel_rfl
noncomputable def S128 : jjF := jjf tt 10 i128 o128 [.tmp 4] [] f128
theorem z128 (h : ∀ T, (tt T).ok Pz T) (h55 : jja Pz 55 S55) : jja Pz 128 S128 :=
 have H := k128 h h55
 jjk (fn := Tryz.f128) (fr := []) H (by kernel_rfl) (by kernel_rfl) (by kernel_rfl) (by kernel_rfl) (by kernel_rfl) jje (by kernel_rfl) (fun y => ⟨_, _, rfl, rfl, rfl⟩) e128
noncomputable def c127v0 : Ctx := { tt := tt, fs := fun n => match n with | 128 => some S128 | _ => none }
theorem k127v0 (h : ∀ T, (tt T).ok Pz T) (h128 : jja Pz 128 S128) : CtxGood Pz c127v0 := ⟨⟨h⟩, fun g S hg => (by
 simp only [c127v0] at hg
 split at hg
 ·cases hg; exact h128
 ·cases hg), jjp, fun _ _ h => (by cases h), fun _ h => (by cases h)⟩
noncomputable def b127v0 : Code := jji Tryz.f127
@[reducible] noncomputable def s127v0_60 : Shape := ⟨[(0, .lf (.d (.sl .entry))), (2, .lf (.fn 128 [])), (4, .lf (.ptr 4 0)), (6, .lf (.d (.int .i64))), (7, .lf (.d (.bool))), (8, .lf (.d (.int .i64))), (9, .lf (.d (.int .i64))), (10, .lf (.d (.int .i64)))], [(4, .box [.d (.str), .d (.int .i64), .d (.int .i64), .d (.str)], .same)], 49⟩
@[reducible] noncomputable def jzc : List OSh := [(.exit 0, ⟨[(0, .lf (.d (.sl .entry))), (2, .lf (.fn 128 [])), (4, .lf (.ptr 4 0)), (6, .lf (.d (.int .i64))), (7, .lf (.d (.bool))), (8, .lf (.d (.int .i64))), (9, .lf (.d (.int .i64)))], [(4, .box [.d (.str), .d (.int .i64), .d (.int .i64), .d (.str)], .same)], 49⟩)]
noncomputable def jJn (y : s127v0_60.Y) : Option (Sum s127v0_60.Y (YS jzc)) :=
 bif (decide (y.1.2.2.2.2.2.2.1 < y.1.2.2.2.2.2.2.2.1)) then
(shrI .u64 (IntKind.u64.wrap (IntKind.i64.wrap (y.1.2.2.2.2.2.2.1 + y.1.2.2.2.2.2.2.2.1))) (1 : Int)).bind fun x1194 =>
(ix y.1.1 (IntKind.i64.wrap x1194)).bind fun x1197 =>
(f128 (((x1197.path, (x1197.kind, (x1197.mode, (x1197.text, ())))), ((y.2.1.1, (y.2.1.2.1, (y.2.1.2.2.1, (y.2.1.2.2.2.1, ())))), ())), ())).bind fun r1198 =>
 bif (decide (r1198.1.1 < (0 : Int))) then
 some (.inl ((y.1.1, ((), ((), (y.1.2.2.2.1, (y.1.2.2.2.2.1, (y.1.2.2.2.2.2.1, ((IntKind.i64.wrap ((IntKind.i64.wrap x1194) + (1 : Int))), (y.1.2.2.2.2.2.2.2.1, ())))))))), ((y.2.1.1, (y.2.1.2.1, (y.2.1.2.2.1, (y.2.1.2.2.2.1, ())))), ())))
else
 some (.inl ((y.1.1, ((), ((), (y.1.2.2.2.1, (y.1.2.2.2.2.1, (y.1.2.2.2.2.2.1, (y.1.2.2.2.2.2.2.1, ((IntKind.i64.wrap x1194), ())))))))), ((y.2.1.1, (y.2.1.2.1, (y.2.1.2.2.1, (y.2.1.2.2.2.1, ())))), ())))
else
 some (.inr (((y.1.1, ((), ((), (y.1.2.2.2.1, (y.1.2.2.2.2.1, (y.1.2.2.2.2.2.1, (y.1.2.2.2.2.2.2.1, ()))))))), ((y.2.1.1, (y.2.1.2.1, (y.2.1.2.2.1, (y.2.1.2.2.2.1, ())))), ()))))
theorem r127v0_60 : ∀ y, jJn y = jjz (jjd c127v0 []) (jjl (jjc b127v0 1 60)) 60 s127v0_60 jzc y := fun y => by kernel_rfl
noncomputable def jzi : s127v0_60.Y → Option (YS jzc) := jjC jJn
theorem q127v0_60 (H : CtxGood Pz c127v0) : jjn Pz (jjc b127v0 1 60) (jjb s127v0_60 jzc jzi) :=
 jjt (fr := []) H (by kernel_rfl) (by kernel_rfl) jje (fun y => jjh r127v0_60 y)
@[reducible] noncomputable def i127v0 : Shape := ⟨[(0, .lf (.d (.sl .entry))), (1, .agg [.d (.str), .d (.int .i64), .d (.int .i64), .d (.str)]), (2, .lf (.fn 128 []))], [], 49⟩
@[reducible] noncomputable def o127v0 : Shape := ⟨[(6, .lf (.d (.int .i64))), (7, .lf (.d (.bool)))], [], 49⟩
noncomputable def f127v0 (a : i127v0.Y) : Option o127v0.Y :=
(jzi ((a.1.1, ((), ((), ((0 : Int), (false, ((a.1.1.length : Int), ((0 : Int), ((a.1.1.length : Int), ())))))))), ((a.1.2.1.1, (a.1.2.1.2.1, (a.1.2.1.2.2.1, (a.1.2.1.2.2.2.1, ())))), ()))).bind fun r1202 =>
 bif (decide (r1202.1.2.2.2.2.2.2.1 < r1202.1.2.2.2.2.2.1)) then
(ix r1202.1.1 r1202.1.2.2.2.2.2.2.1).bind fun x1203 =>
(f128 (((x1203.path, (x1203.kind, (x1203.mode, (x1203.text, ())))), ((r1202.2.1.1, (r1202.2.1.2.1, (r1202.2.1.2.2.1, (r1202.2.1.2.2.2.1, ())))), ())), ())).bind fun r1204 =>
 some ((r1202.1.2.2.2.2.2.2.1, ((r1204.1.1 == (0 : Int)), ())), ())
else
 some ((r1202.1.2.2.2.2.2.2.1, (false, ())), ())
theorem e127v0 : ∀ a, f127v0 a = jjo (jjd c127v0 [(60, jjb s127v0_60 jzc jzi)]) b127v0 i127v0 o127v0 a := fun a => by kernel_rfl
noncomputable def S127v0 : jjF := jjf tt 49 i127v0 o127v0 [.tmp 6, .tmp 7] [] f127v0
theorem z127v0 (h : ∀ T, (tt T).ok Pz T) (h128 : jja Pz 128 S128) : jja Pz 127 S127v0 :=
 have H := k127v0 h h128
 jjk (fn := Tryz.f127) (fr := [(60, jjb s127v0_60 jzc jzi)]) H (by kernel_rfl) (by kernel_rfl) (by kernel_rfl) (by kernel_rfl) (by kernel_rfl) ⟨q127v0_60 H, trivial⟩ (by kernel_rfl) (fun y => ⟨_, _, rfl, rfl, rfl⟩) e127v0
noncomputable def c104 : Ctx := { tt := tt, fs := fun n => match n with | 127 => some S127v0 | _ => none }
theorem k104 (h : ∀ T, (tt T).ok Pz T) (h127v0 : jja Pz 127 S127v0) : CtxGood Pz c104 := ⟨⟨h⟩, fun g S hg => (by
 simp only [c104] at hg
 split at hg
 ·cases hg; exact h127v0
 ·cases hg), jjp, fun _ _ h => (by cases h), fun _ h => (by cases h)⟩
noncomputable def b104 : Code := jji Tryz.f104
@[reducible] noncomputable def i104 : Shape := ⟨[(0, .lf (.d (.sl .entry))), (1, .lf (.d (.str)))], [], 12⟩
@[reducible] noncomputable def o104 : Shape := ⟨[(4, .lf (.d (.int .i64))), (5, .lf (.d (.bool)))], [], 12⟩
noncomputable def f104 (a : i104.Y) : Option o104.Y :=
(f127v0 ((a.1.1, ((a.1.2.1, ((0 : Int), ((0 : Int), (([] : Str), ())))), ((), ()))), ())).bind fun r1206 =>
 some ((r1206.1.1, (r1206.1.2.1, ())), ())
theorem e104 : ∀ a, f104 a = jjo (jjd c104 []) b104 i104 o104 a := fun a => by kernel_rfl
noncomputable def S104 : jjF := jjf tt 12 i104 o104 [.tmp 4, .tmp 5] [] f104
theorem z104 (h : ∀ T, (tt T).ok Pz T) (h127v0 : jja Pz 127 S127v0) : jja Pz 104 S104 :=
 have H := k104 h h127v0
 jjk (fn := Tryz.f104) (fr := []) H (by kernel_rfl) (by kernel_rfl) (by kernel_rfl) (by kernel_rfl) (by kernel_rfl) jje (by kernel_rfl) (fun y => ⟨_, _, rfl, rfl, rfl⟩) e104
noncomputable def c106 : Ctx := { tt := tt, fs := fun n => match n with | _ => none }
theorem k106 (h : ∀ T, (tt T).ok Pz T) : CtxGood Pz c106 := ⟨⟨h⟩, fun g S hg => (by cases hg), jjp, fun _ _ h => (by cases h), fun _ h => (by cases h)⟩
noncomputable def b106 : Code := jji Tryz.f106
@[reducible] noncomputable def s106_28 : Shape := ⟨[(0, .lf (.d (.sl .entry))), (1, .lf (.d (.str))), (4, .lf (.d (.int .i64))), (5, .lf (.d (.bool))), (6, .lf (.d (.int .i64)))], [], 36⟩
@[reducible] noncomputable def jzv : List OSh := [(.exit 0, ⟨[(0, .lf (.d (.sl .entry))), (1, .lf (.d (.str))), (4, .lf (.d (.int .i64))), (5, .lf (.d (.bool))), (6, .lf (.d (.int .i64)))], [], 36⟩)]
noncomputable def g106_28 (y : s106_28.Y) : Option (Sum s106_28.Y (YS jzv)) :=
 bif (decide (y.1.2.2.2.2.1 < (y.1.1.length : Int))) then
(ix y.1.1 y.1.2.2.2.2.1).bind fun x119 =>
 bif (Op.bytesLess x119.path y.1.2.1) then
 some (.inl ((y.1.1, (y.1.2.1, (y.1.2.2.1, (y.1.2.2.2.1, ((IntKind.i64.wrap (y.1.2.2.2.2.1 + (1 : Int))), ()))))), ()))
else
 some (.inr (((y.1.1, (y.1.2.1, (y.1.2.2.1, (y.1.2.2.2.1, (y.1.2.2.2.2.1, ()))))), ())))
else
 some (.inr (((y.1.1, (y.1.2.1, (y.1.2.2.1, (y.1.2.2.2.1, (y.1.2.2.2.2.1, ()))))), ())))
theorem r106_28 : ∀ y, g106_28 y = jjz (jjd c106 []) (jjl (jjc b106 1 28)) 28 s106_28 jzv y := fun y => by kernel_rfl
noncomputable def l106_28 : s106_28.Y → Option (YS jzv) := jjC g106_28
theorem q106_28 (H : CtxGood Pz c106) : jjn Pz (jjc b106 1 28) (jjb s106_28 jzv l106_28) :=
 jjt (fr := []) H (by kernel_rfl) (by kernel_rfl) jje (fun y => jjh r106_28 y)
@[reducible] noncomputable def i106 : Shape := ⟨[(0, .lf (.d (.sl .entry))), (1, .lf (.d (.str)))], [], 36⟩
@[reducible] noncomputable def o106 : Shape := ⟨[(4, .lf (.d (.int .i64))), (5, .lf (.d (.bool)))], [], 36⟩
noncomputable def f106 (a : i106.Y) : Option o106.Y :=
(l106_28 ((a.1.1, (a.1.2.1, ((0 : Int), (false, ((0 : Int), ()))))), ())).bind fun r122 =>
 bif (decide (r122.1.2.2.2.2.1 < (r122.1.1.length : Int))) then
(ix r122.1.1 r122.1.2.2.2.2.1).bind fun x123 =>
 some ((r122.1.2.2.2.2.1, ((x123.path == r122.1.2.1), ())), ())
else
 some ((r122.1.2.2.2.2.1, (false, ())), ())
theorem e106 : ∀ a, f106 a = jjo (jjd c106 [(28, jjb s106_28 jzv l106_28)]) b106 i106 o106 a := fun a => by kernel_rfl
noncomputable def S106 : jjF := jjf tt 36 i106 o106 [.tmp 4, .tmp 5] [] f106
theorem z106 (h : ∀ T, (tt T).ok Pz T) : jja Pz 106 S106 :=
 have H := k106 h
 jjk (fn := Tryz.f106) (fr := [(28, jjb s106_28 jzv l106_28)]) H (by kernel_rfl) (by kernel_rfl) (by kernel_rfl) (by kernel_rfl) (by kernel_rfl) ⟨q106_28 H, trivial⟩ (by kernel_rfl) (fun y => ⟨_, _, rfl, rfl, rfl⟩) e106
noncomputable def c149 : Ctx := { tt := tt, fs := fun n => match n with | _ => none }
theorem k149 (h : ∀ T, (tt T).ok Pz T) : CtxGood Pz c149 := ⟨⟨h⟩, fun g S hg => (by cases hg), jjp, fun _ _ h => (by cases h), fun _ h => (by cases h)⟩
noncomputable def b149 : Code := jji Tryz.f149
@[reducible] noncomputable def s149_26 : Shape := ⟨[(0, .lf (.d (.str))), (1, .lf (.d (.int .u8))), (5, .lf (.d (.int .i64)))], [], 19⟩
@[reducible] noncomputable def t149_26 : List OSh := [(.ret, ⟨[(4, .lf (.d (.int .i64)))], [], 19⟩), (.exit 0, ⟨[], [], 19⟩)]
noncomputable def g149_26 (y : s149_26.Y) : Option (Sum s149_26.Y (YS t149_26)) :=
 bif (decide (y.1.2.2.1 ≥ (0 : Int))) then
(ix y.1.1 y.1.2.2.1).bind fun x1158 =>
 bif ((x1158.toNat : Int) == y.1.2.1) then
 some (.inr (.inl ((y.1.2.2.1, ()), ())))
else
 some (.inl ((y.1.1, (y.1.2.1, ((IntKind.i64.wrap (y.1.2.2.1 - (1 : Int))), ()))), ()))
else
 some (.inr (.inr ((), ())))
theorem r149_26 : ∀ y, g149_26 y = jjz (jjd c149 []) (jjl (jjc b149 1 26)) 26 s149_26 t149_26 y := fun y => by kernel_rfl
noncomputable def l149_26 : s149_26.Y → Option (YS t149_26) := jjC g149_26
theorem q149_26 (H : CtxGood Pz c149) : jjn Pz (jjc b149 1 26) (jjb s149_26 t149_26 l149_26) :=
 jjt (fr := []) H (by kernel_rfl) (by kernel_rfl) jje (fun y => jjh r149_26 y)
@[reducible] noncomputable def i149 : Shape := ⟨[(0, .lf (.d (.str))), (1, .lf (.d (.int .u8)))], [], 19⟩
@[reducible] noncomputable def o149 : Shape := ⟨[(4, .lf (.d (.int .i64)))], [], 19⟩
noncomputable def f149 (a : i149.Y) : Option o149.Y :=
(l149_26 ((a.1.1, (a.1.2.1, ((IntKind.i64.wrap ((a.1.1.length : Int) - (1 : Int))), ()))), ())).bind fun r1162 =>
(match r1162 with
| .inl r1163 =>
 some ((r1163.1.1, ()), ())
| .inr r1164 =>
 some ((((-1) : Int), ()), ()))
theorem e149 : ∀ a, f149 a = jjo (jjd c149 [(26, jjb s149_26 t149_26 l149_26)]) b149 i149 o149 a := fun a => by kernel_rfl
noncomputable def S149 : jjF := jjf tt 19 i149 o149 [.tmp 4] [] f149
theorem z149 (h : ∀ T, (tt T).ok Pz T) : jja Pz 149 S149 :=
 have H := k149 h
 jjk (fn := Tryz.f149) (fr := [(26, jjb s149_26 t149_26 l149_26)]) H (by kernel_rfl) (by kernel_rfl) (by kernel_rfl) (by kernel_rfl) (by kernel_rfl) ⟨q149_26 H, trivial⟩ (by kernel_rfl) (fun y => ⟨_, _, rfl, rfl, rfl⟩) e149
noncomputable def c139 : Ctx := { tt := tt, fs := fun n => match n with | 149 => some S149 | _ => none }
theorem k139 (h : ∀ T, (tt T).ok Pz T) (h149 : jja Pz 149 S149) : CtxGood Pz c139 := ⟨⟨h⟩, fun g S hg => (by
 simp only [c139] at hg
 split at hg
 ·cases hg; exact h149
 ·cases hg), jjp, fun _ _ h => (by cases h), fun _ h => (by cases h)⟩
noncomputable def b139 : Code := jji Tryz.f139
@[reducible] noncomputable def i139 : Shape := ⟨[(0, .lf (.d (.str))), (1, .lf (.d (.int .u8)))], [], 8⟩
@[reducible] noncomputable def o139 : Shape := ⟨[(4, .lf (.d (.int .i64)))], [], 8⟩
noncomputable def f139 (a : i139.Y) : Option o139.Y :=
(f149 ((a.1.1, (a.1.2.1, ())), ())).bind fun r1166 =>
 some ((r1166.1.1, ()), ())
theorem e139 : ∀ a, f139 a = jjo (jjd c139 []) b139 i139 o139 a := fun a => by kernel_rfl
noncomputable def S139 : jjF := jjf tt 8 i139 o139 [.tmp 4] [] f139
theorem z139 (h : ∀ T, (tt T).ok Pz T) (h149 : jja Pz 149 S149) : jja Pz 139 S139 :=
 have H := k139 h h149
 jjk (fn := Tryz.f139) (fr := []) H (by kernel_rfl) (by kernel_rfl) (by kernel_rfl) (by kernel_rfl) (by kernel_rfl) jje (by kernel_rfl) (fun y => ⟨_, _, rfl, rfl, rfl⟩) e139
noncomputable def c120 : Ctx := { tt := tt, fs := fun n => match n with | 118 => some S118 | 139 => some S139 | _ => none }
theorem k120 (h : ∀ T, (tt T).ok Pz T) (h118 : jja Pz 118 S118) (h139 : jja Pz 139 S139) : CtxGood Pz c120 := ⟨⟨h⟩, fun g S hg => (by
 simp only [c120] at hg
 split at hg
 ·cases hg; exact h118
 ·cases hg; exact h139
 ·cases hg), jjp, fun _ _ h => (by cases h), fun _ h => (by cases h)⟩
noncomputable def b120 : Code := jji Tryz.f120
@[reducible] noncomputable def i120 : Shape := ⟨[(0, .lf (.d (.str)))], [], 11⟩
@[reducible] noncomputable def o120 : Shape := ⟨[(2, .lf (.d (.str)))], [], 11⟩
noncomputable def f120 (a : i120.Y) : Option o120.Y :=
(f118 ((a.1.1, ()), ())).bind fun r1172 =>
 bif (!r1172.2.1.1) then
 some ((([] : Str), ()), ())
else
(f139 ((a.1.1, ((47 : Int), ())), ())).bind fun r1173 =>
(jqJ a.1.1 (0 : Int) (maxI r1173.1.1 (0 : Int))).bind fun x1174 =>
 some ((x1174, ()), ())
theorem e120 : ∀ a, f120 a = jjo (jjd c120 []) b120 i120 o120 a := fun a => by kernel_rfl
noncomputable def S120 : jjF := jjf tt 11 i120 o120 [.tmp 2] [] f120
theorem z120 (h : ∀ T, (tt T).ok Pz T) (h118 : jja Pz 118 S118) (h139 : jja Pz 139 S139) : jja Pz 120 S120 :=
 have H := k120 h h118 h139
 jjk (fn := Tryz.f120) (fr := []) H (by kernel_rfl) (by kernel_rfl) (by kernel_rfl) (by kernel_rfl) (by kernel_rfl) jje (by kernel_rfl) (fun y => ⟨_, _, rfl, rfl, rfl⟩) e120
noncomputable def c98 : Ctx := { tt := tt, fs := fun n => match n with | 106 => some S106 | _ => none }
theorem k98 (h : ∀ T, (tt T).ok Pz T) (h106 : jja Pz 106 S106) : CtxGood Pz c98 := ⟨⟨h⟩, fun g S hg => (by
 simp only [c98] at hg
 split at hg
 ·cases hg; exact h106
 ·cases hg), jjp, fun _ _ h => (by cases h), fun _ h => (by cases h)⟩
noncomputable def b98 : Code := jji Tryz.f98
@[reducible] noncomputable def i98 : Shape := ⟨[(0, .lf (.d (.sl .entry))), (1, .lf (.d (.str)))], [], 26⟩
@[reducible] noncomputable def o98 : Shape := ⟨[(4, .lf (.d (.bool)))], [], 26⟩
noncomputable def f98 (a : i98.Y) : Option o98.Y :=
(f106 ((a.1.1, (a.1.2.1, ())), ())).bind fun r265 =>
 bif (!(a.1.2.1 == ([] : Str))) then
 bif r265.1.2.1 then
(ix a.1.1 r265.1.1).bind fun x266 =>
 some (((x266.kind == (1 : Int)), ()), ())
else
 some ((false, ()), ())
else
 some ((true, ()), ())
theorem e98 : ∀ a, f98 a = jjo (jjd c98 []) b98 i98 o98 a := fun a => by kernel_rfl
noncomputable def S98 : jjF := jjf tt 26 i98 o98 [.tmp 4] [] f98
theorem z98 (h : ∀ T, (tt T).ok Pz T) (h106 : jja Pz 106 S106) : jja Pz 98 S98 :=
 have H := k98 h h106
 jjk (fn := Tryz.f98) (fr := []) H (by kernel_rfl) (by kernel_rfl) (by kernel_rfl) (by kernel_rfl) (by kernel_rfl) jje (by kernel_rfl) (fun y => ⟨_, _, rfl, rfl, rfl⟩) e98
noncomputable def c99 : Ctx := { tt := tt, fs := fun n => match n with | _ => none }
theorem k99 (h : ∀ T, (tt T).ok Pz T) : CtxGood Pz c99 := ⟨⟨h⟩, fun g S hg => (by cases hg), jjp, fun _ _ h => (by cases h), fun _ h => (by cases h)⟩
noncomputable def b99 : Code := jji Tryz.f99
@[reducible] noncomputable def s99_26 : Shape := ⟨[(0, .lf (.d (.str))), (3, .lf (.d (.int .i64)))], [], 18⟩
@[reducible] noncomputable def t99_26 : List OSh := [(.ret, ⟨[(2, .lf (.d (.str)))], [], 18⟩), (.exit 0, ⟨[], [], 18⟩)]
noncomputable def g99_26 (y : s99_26.Y) : Option (Sum s99_26.Y (YS t99_26)) :=
 bif (decide (y.1.2.1 ≥ (0 : Int))) then
(ix y.1.1 y.1.2.1).bind fun x252 =>
 bif ((x252.toNat : Int) == (47 : Int)) then
(jqJ y.1.1 (0 : Int) y.1.2.1).bind fun x253 =>
 some (.inr (.inl ((x253, ()), ())))
else
 some (.inl ((y.1.1, ((IntKind.i64.wrap (y.1.2.1 - (1 : Int))), ())), ()))
else
 some (.inr (.inr ((), ())))
theorem r99_26 : ∀ y, g99_26 y = jjz (jjd c99 []) (jjl (jjc b99 1 26)) 26 s99_26 t99_26 y := fun y => by kernel_rfl
noncomputable def l99_26 : s99_26.Y → Option (YS t99_26) := jjC g99_26
theorem q99_26 (H : CtxGood Pz c99) : jjn Pz (jjc b99 1 26) (jjb s99_26 t99_26 l99_26) :=
 jjt (fr := []) H (by kernel_rfl) (by kernel_rfl) jje (fun y => jjh r99_26 y)
@[reducible] noncomputable def i99 : Shape := ⟨[(0, .lf (.d (.str)))], [], 18⟩
@[reducible] noncomputable def o99 : Shape := ⟨[(2, .lf (.d (.str)))], [], 18⟩
noncomputable def f99 (a : i99.Y) : Option o99.Y :=
(l99_26 ((a.1.1, ((IntKind.i64.wrap ((a.1.1.length : Int) - (1 : Int))), ())), ())).bind fun r257 =>
(match r257 with
| .inl r258 =>
 some ((r258.1.1, ()), ())
| .inr r259 =>
 some ((([] : Str), ()), ()))
theorem e99 : ∀ a, f99 a = jjo (jjd c99 [(26, jjb s99_26 t99_26 l99_26)]) b99 i99 o99 a := fun a => by kernel_rfl
noncomputable def S99 : jjF := jjf tt 18 i99 o99 [.tmp 2] [] f99
theorem z99 (h : ∀ T, (tt T).ok Pz T) : jja Pz 99 S99 :=
 have H := k99 h
 jjk (fn := Tryz.f99) (fr := [(26, jjb s99_26 t99_26 l99_26)]) H (by kernel_rfl) (by kernel_rfl) (by kernel_rfl) (by kernel_rfl) (by kernel_rfl) ⟨q99_26 H, trivial⟩ (by kernel_rfl) (fun y => ⟨_, _, rfl, rfl, rfl⟩) e99
theorem jzm : ∀ a : Str, Op.bytesLess a a = false := by
 intro a
 induction a with
 | nil => rfl
 | cons b r ih => simp [Op.bytesLess, ih]
theorem jJR : ∀ a b c : Str, Op.bytesLess a b = true → Op.bytesLess b c = true → Op.bytesLess a c = true := by
 intro a
 induction a with
 | nil => intro b c h1 h2; cases c with
  | nil => cases b <;> simp [Op.bytesLess] at h2
  | cons z c => rfl
 | cons x a ih =>
  intro b c h1 h2
  cases b with
  | nil => simp [Op.bytesLess] at h1
  | cons y b =>
   cases c with
   | nil => simp [Op.bytesLess] at h2
   | cons z c =>
    simp only [Op.bytesLess, Bool.or_eq_true, decide_eq_true_eq, Bool.and_eq_true, beq_iff_eq] at h1 h2 ⊢
    rcases h1 with h1 | ⟨rfl, h1⟩
    ·rcases h2 with h2 | ⟨rfl, h2⟩
     ·exact .inl (UInt8.lt_trans h1 h2)
     ·exact .inl h1
    ·rcases h2 with h2 | ⟨rfl, h2⟩
     ·exact .inl h2
     ·exact .inr ⟨rfl, ih b c h1 h2⟩
theorem bl_tri : ∀ a b : Str, Op.bytesLess a b = false → (a == b) = false → Op.bytesLess b a = true := by
 intro a
 induction a with
 | nil => intro b h1 h2; cases b with
  | nil => simp at h2
  | cons y b => simp [Op.bytesLess] at h1
 | cons x a ih =>
  intro b h1 h2
  cases b with
  | nil => rfl
  | cons y b =>
   simp only [Op.bytesLess, Bool.or_eq_false_iff, decide_eq_false_iff_not, Bool.and_eq_false_iff, beq_eq_false_iff_ne, ne_eq] at h1
   simp only [Op.bytesLess, Bool.or_eq_true, decide_eq_true_eq, Bool.and_eq_true, beq_iff_eq]
   by_cases hxy : x = y
   ·subst hxy
    refine .inr ⟨rfl, ih b ?_ ?_⟩
    ·rcases h1.2 with h | h
     ·exact absurd rfl h
     ·exact h
    ·cases h : (a == b) with
     | false => rfl
     | true => rw [eq_of_beq h] at h2; simp at h2
   ·exact .inl (by
     have := h1.1
     rcases UInt8.lt_or_lt_of_ne (fun h => hxy h) with h | h
     ·exact absurd h this
     ·exact h)
theorem bl_asym {a b : Str} (h : Op.bytesLess a b = true) : Op.bytesLess b a = false := by
 cases h2 : Op.bytesLess b a with
 | false => rfl
 | true => have := jJR a b a h h2; rw [jzm] at this; cases this
theorem bl_ne {a b : Str} (h : Op.bytesLess a b = true) : (a == b) = false := by
 cases h2 : (a == b) with
 | false => rfl
 | true => rw [eq_of_beq h2, jzm] at h; cases h
theorem bl_take : ∀ (s : Str) (i : Nat), i < s.length → Op.bytesLess (s.take i) s = true := by
 intro s
 induction s with
 | nil => intro i h; simp at h
 | cons b r ih =>
  intro i h
  cases i with
  | zero => rfl
  | succ i => simp only [List.take_succ_cons, Op.bytesLess]; simp [ih i (by simpa using h)]
def jqs (c : UInt8) (s : Str) : Nat → Option Nat
 | 0 => none
 | n + 1 => match s[n]? with
  | some b => bif (b.toNat : Int) == (c.toNat : Int) then some n else jqs c s n
  | none => none
theorem lastBelow_lt {c : UInt8} {s : Str} : ∀ {n i : Nat}, jqs c s n = some i → i < n ∧ i < s.length := by
 intro n
 induction n with
 | zero => intro i h; cases h
 | succ n ih =>
  intro i h
  simp only [jqs] at h
  split at h
  ·rename_i b hb
   cases hc : ((b.toNat : Int) == (c.toNat : Int)) with
   | true => rw [hc] at h; cases h; exact ⟨Nat.lt_succ_self _, jjv hb⟩
   | false => rw [hc] at h; have := ih h; omega
  ·cases h
def upL (s : Str) : Str := match jqs 47 s s.length with
 | some i => s.take i
 | none => []
theorem upL_less {s : Str} (h : (upL s == []) = false) : Op.bytesLess (upL s) s = true := by
 unfold upL at h ⊢
 split
 ·rename_i i hi; exact bl_take s i (lastBelow_lt hi).2
 ·rename_i hi; rw [hi] at h; cases h
theorem v_l1Up (a) (hs : Bd a.1.1.length) : f99 a = some ((upL a.1.1, ()), ()) := by
 obtain ⟨⟨s, u⟩, u'⟩ := a
 have hs : s.length ≤ 2097152 := hs
 have key : ∀ n, n ≤ s.length → l99_26 ((s, ((n : Int) - 1, ())), ()) = some (match jqs 47 s n with | some i => .inl ((s.take i, ()), ()) | none => .inr ((), ())) := by
  intro n
  induction n with
  | zero => intro _; exact jjE (by rfl)
  | succ n ih =>
   intro hn
   have e : ((n + 1 : Nat) : Int) - 1 = (n : Int) := by omega
   obtain ⟨b, hb⟩ : ∃ b, s[n]? = some b := ⟨s[n], List.getElem?_eq_getElem hn⟩
   have h0 : decide ((n : Int) ≥ 0) = true := by simp
   rw [e]
   simp only [jqs, hb]
   cases hc : ((b.toNat : Int) == ((47 : UInt8).toNat : Int)) with
   | true =>
    refine jjE ?_
    simp only [g99_26, h0, cond_true, jjs, hb, Option.bind_some]
    rw [show ((b.toNat : Int) == 47) = true from hc, jzw (by omega)]
    rfl
   | false =>
    refine (jqc ?_).trans (ih (by omega))
    simp only [g99_26, h0, cond_true, jjs, hb, Option.bind_some]
    rw [show ((b.toNat : Int) == 47) = false from hc, jjG (by omega) (by omega)]
    rfl
 have hw : IntKind.i64.wrap ((s.length : Int) - 1) = (s.length : Int) - 1 := jjG (by omega) (by omega)
 simp only [f99, hw, key s.length (Nat.le_refl _), Option.bind_some, upL]
 cases jqs 47 s s.length <;> rfl
theorem v_LastIndex (a) (hs : Bd a.1.1.length) (h47 : a.1.2.1 = 47) : f149 a = some (((match jqs 47 a.1.1 a.1.1.length with | some i => (i : Int) | none => -1), ()), ()) := by
 obtain ⟨⟨s, c, u⟩, u'⟩ := a
 obtain rfl : c = 47 := h47
 have hs : s.length ≤ 2097152 := hs
 have key : ∀ n, n ≤ s.length → l149_26 ((s, ((47 : Int), ((n : Int) - 1, ()))), ()) = some (match jqs 47 s n with | some i => .inl (((i : Int), ()), ()) | none => .inr ((), ())) := by
  intro n
  induction n with
  | zero => intro _; exact jjE (by rfl)
  | succ n ih =>
   intro hn
   have e : ((n + 1 : Nat) : Int) - 1 = (n : Int) := by omega
   obtain ⟨b, hb⟩ : ∃ b, s[n]? = some b := ⟨s[n], List.getElem?_eq_getElem hn⟩
   have h0 : decide ((n : Int) ≥ 0) = true := by simp
   rw [e]
   simp only [jqs, hb]
   cases hc : ((b.toNat : Int) == ((47 : UInt8).toNat : Int)) with
   | true =>
    refine jjE ?_
    simp only [g149_26, h0, cond_true, jjs, hb, Option.bind_some]
    rw [show ((b.toNat : Int) == 47) = true from hc]
    rfl
   | false =>
    refine (jqc ?_).trans (ih (by omega))
    simp only [g149_26, h0, cond_true, jjs, hb, Option.bind_some]
    rw [show ((b.toNat : Int) == 47) = false from hc, jjG (by omega) (by omega)]
    rfl
 have hw : IntKind.i64.wrap ((s.length : Int) - 1) = (s.length : Int) - 1 := jjG (by omega) (by omega)
 simp only [f149, hw, key s.length (Nat.le_refl _), Option.bind_some]
 cases jqs 47 s s.length <;> rfl
theorem v_PathUp (a) (hs : Bd a.1.1.length) : f120 a = some (((bif jxk a.1.1 then upL a.1.1 else []), ()), ()) := by
 obtain ⟨⟨s, u⟩, u'⟩ := a
 have hs : s.length ≤ 2097152 := hs
 have e1 := v_PathOk ((s, ()), ()) hs
 have e2 := v_LastIndex ((s, ((47 : Int), ())), ()) hs rfl
 simp only [f120, e1, Option.bind_some, f139, e2]
 cases jxk s with
 | false => rfl
 | true =>
  simp only [Bool.not_true, cond_false, cond_true]
  unfold upL
  cases hl : jqs 47 s s.length with
  | none =>
   have : maxI (-1) 0 = 0 := by decide
   simp only [this]
   have := jzw (xs := s) (b := 0) (Nat.zero_le _)
   have this : jqJ s 0 0 = some (s.take 0) := this
   rw [this]; rfl
  | some i =>
   have hi := (lastBelow_lt hl).2
   have : maxI (i : Int) 0 = (i : Int) := by unfold maxI; rw [if_neg (by omega)]
   simp only [this]
   rw [jzw (by omega)]; rfl
def jj4 (t : List Entry) (p : Str) : Nat := (t.takeWhile fun e => Op.bytesLess e.path p).length
def jxR (t : List Entry) (p : Str) : Bool := match t[jj4 t p]? with
 | some e => e.path == p
 | none => false
def jz1 (t : List Entry) (p : Str) : Bool := p == [] || match t[jj4 t p]? with
 | some e => e.path == p && e.kind == 1
 | none => false
theorem jJ7 (t : List Entry) (p : Str) : jj4 t p ≤ t.length := (List.takeWhile_prefix _).length_le
theorem v_l2At (a) (hs : Bd a.1.1.length) : f106 a = some (((jj4 a.1.1 a.1.2.1 : Int), (jxR a.1.1 a.1.2.1, ())), ()) := by
 obtain ⟨⟨t, p, u⟩, u'⟩ := a
 have hs : t.length ≤ 2097152 := hs
 have key : l106_28 ((t, (p, ((0 : Int), (false, ((0 : Int), ()))))), ()) = _ := loop_list g106_28 t (fun i (_ : Unit) => ((t, (p, ((0 : Int), (false, ((i : Int), ()))))), ()))
  (fun i e _ => some (bif Op.bytesLess e.path p then .inl () else .inr ((((t, (p, ((0 : Int), (false, ((i : Int), ()))))), ())) : YS jzv))) (fun _ => ((t, (p, ((0 : Int), (false, ((t.length : Int), ()))))), ())) (fun i e s he => ?_) (fun s => ?_) ()
 ·have fold : ∀ (r : List Entry) (k : Nat), k + r.length = t.length → jqD (fun i (e : Entry) (_ : Unit) => some (bif Op.bytesLess e.path p then .inl () else .inr ((((t, (p, ((0 : Int), (false, ((i : Int), ()))))), ())) : YS jzv))) (fun _ => (((t, (p, ((0 : Int), (false, ((t.length : Int), ()))))), ()) : YS jzv)) k r () =
    some ((t, (p, ((0 : Int), (false, (((k + (r.takeWhile fun e => Op.bytesLess e.path p).length : Nat) : Int), ()))))), ()) := by
   intro r
   induction r with
   | nil => intro k hk; simp only [jqD, List.takeWhile_nil, List.length_nil, Nat.add_zero] at hk ⊢; rw [hk]
   | cons e r ih =>
    intro k hk
    simp only [jqD, List.takeWhile_cons]
    cases hl : Op.bytesLess e.path p with
    | false => rfl
    | true =>
     simp only [cond_true, if_true, List.length_cons]
     rw [ih (k + 1) (by simp only [List.length_cons] at hk; omega)]
     have : k + 1 + (r.takeWhile fun e => Op.bytesLess e.path p).length = k + ((r.takeWhile fun e => Op.bytesLess e.path p).length + 1) := by omega
     rw [this]
  rw [fold t 0 (Nat.zero_add _), Nat.zero_add] at key
  have hk : (t.takeWhile fun e => Op.bytesLess e.path p).length = jj4 t p := rfl
  rw [hk] at key
  simp only [f106, key, Option.bind_some, jxR, jjs]
  cases ht : t[jj4 t p]? with
  | none =>
   have := List.getElem?_eq_none_iff.1 ht
   have : decide ((jj4 t p : Int) < (t.length : Int)) = false := by simp only [decide_eq_false_iff_not]; omega
   rw [this]; rfl
  | some e => rw [jjA (jjv ht)]; rfl
 ·have hi := jjv he
  have hw : Sm i := by unfold Sm; omega
  simp only [g106_28, jjA hi, cond_true, jjs, he, Option.bind_some, jjj hw]
  cases Op.bytesLess e.path p <;> rfl
 ·simp only [g106_28, jjI, cond_false]
theorem v_l2Dir (a) (hs : Bd a.1.1.length) : f98 a = some ((jz1 a.1.1 a.1.2.1, ()), ()) := by
 obtain ⟨⟨t, p, u⟩, u'⟩ := a
 have e1 := v_l2At ((t, (p, ())), ()) hs
 simp only [f98, e1, Option.bind_some, jz1, jxR, jjs]
 cases (p == []) with
 | true => rfl
 | false =>
  cases ht : t[jj4 t p]? with
  | none => rfl
  | some e => simp only [Bool.not_false, cond_true, Option.bind_some, Bool.false_or]; cases (e.path == p) <;> rfl
def Asc (t : List Entry) : Prop := t.Pairwise fun a b => Op.bytesLess a.path b.path = true
theorem Asc.take {t : List Entry} (h : Asc t) (i : Nat) : Asc (t.take i) := List.Pairwise.sublist (List.take_sublist i t) h
theorem jqu : ∀ {t : List Entry} {p : Str}, Asc t → ∀ (h : Nat) (e : Entry), t[h]? = some e → Op.bytesLess e.path p = decide (h < jj4 t p) := by
 intro t p
 induction t with
 | nil => intro _ h e he; simp at he
 | cons x t ih =>
  intro ha h e he
  have ha' := List.pairwise_cons.1 ha
  unfold jj4
  rw [List.takeWhile_cons]
  cases hx : Op.bytesLess x.path p with
  | true =>
   simp only [if_true, List.length_cons]
   cases h with
   | zero => simp only [List.getElem?_cons_zero, Option.some.injEq] at he; subst he; rw [hx]; simp
   | succ h =>
    simp only [List.getElem?_cons_succ] at he
    rw [ih ha'.2 h e he]
    unfold jj4
    congr 1; apply propext; omega
  | false =>
   have : (decide (h < (if false = true then x :: t.takeWhile (fun e => Op.bytesLess e.path p) else []).length)) = false := by simp
   rw [this]
   cases h with
   | zero => simp only [List.getElem?_cons_zero, Option.some.injEq] at he; subst he; exact hx
   | succ h =>
    simp only [List.getElem?_cons_succ] at he
    have h2 := ha'.1 e (List.mem_of_getElem? he)
    cases h3 : Op.bytesLess e.path p with
    | false => rfl
    | true => have := jJR _ _ _ h2 h3; rw [hx] at this; cases this
def cmpI (a b : Str) : Int := bif Op.bytesLess a b then -1 else bif a == b then 0 else 1
theorem v_byPath (a) : f128 a = some ((cmpI a.1.1.1 a.1.2.1.1, ()), ()) := by
 obtain ⟨⟨⟨p, x1⟩, ⟨⟨q, x2⟩, x3⟩⟩, x4⟩ := a
 have h1 : (p == p) = true := by simp
 have h2 : (q == q) = true := by simp
 simp only [f128, f55, f81, Option.bind_some, h1, h2, Bool.not_true, cond_false, cmpI]
 cases Op.bytesLess p q <;> cases (p == q) <;> rfl
theorem cmpI_neg (a b : Str) : decide (cmpI a b < 0) = Op.bytesLess a b := by
 unfold cmpI
 cases Op.bytesLess a b <;> cases (a == b) <;> rfl
theorem cmpI_zero (a b : Str) : (cmpI a b == 0) = (a == b) := by
 unfold cmpI
 cases h : Op.bytesLess a b with
 | true => rw [bl_ne h]; rfl
 | false => cases (a == b) <;> rfl
theorem shr1 {n : Nat} (h : n ≤ 1099511627776) : shrI .u64 (IntKind.u64.wrap (IntKind.i64.wrap (n : Int))) 1 = some (((n / 2 : Nat)) : Int) := by
 rw [jjG (by omega) (by omega)]
 have : IntKind.u64.wrap (n : Int) = (n : Int) := by
  simp [IntKind.wrap, IntKind.bits, IntKind.signed]
  omega
 rw [this]
 unfold shrI
 rw [if_neg (by decide)]
 congr 1
 show Int.fdiv (n : Int) 2 = _
 rw [Int.fdiv_eq_ediv_of_nonneg _ (by decide)]
 omega
theorem v_findEntry (a) (hs : Bd a.1.1.length) (ha : Asc a.1.1) : f104 a = some (((jj4 a.1.1 a.1.2.1 : Int), (jxR a.1.1 a.1.2.1, ())), ()) := by
 obtain ⟨⟨t, p, u⟩, u'⟩ := a
 have hs : t.length ≤ 2097152 := hs
 have hP := jJ7 t p
 have key : ∀ d i j : Nat, j - i = d → i ≤ jj4 t p → jj4 t p ≤ j → j ≤ t.length →
   jzi ((t, ((), ((), ((0 : Int), (false, ((t.length : Int), ((i : Int), ((j : Int), ())))))))), ((p, ((0 : Int), ((0 : Int), (([] : Str), ())))), ())) =
    some (((t, ((), ((), ((0 : Int), (false, ((t.length : Int), ((jj4 t p : Int), ()))))))), ((p, ((0 : Int), ((0 : Int), (([] : Str), ())))), ()))) := by
  intro d
  induction d using Nat.strongRecOn with
  | _ d ih =>
   intro i j hd hi hj hl
   by_cases hij : i < j
   ·have hh : (i + j) / 2 < t.length := by omega
    obtain ⟨e, he⟩ : ∃ e, t[(i + j) / 2]? = some e := ⟨t[(i + j) / 2], List.getElem?_eq_getElem hh⟩
    have hsh : shrI .u64 (IntKind.u64.wrap (IntKind.i64.wrap ((i : Int) + (j : Int)))) 1 = some ((((i + j) / 2 : Nat)) : Int) := by
     rw [← shr1 (n := i + j) (by omega)]; rw [Int.natCast_add]
    have hwh : IntKind.i64.wrap (((i + j) / 2 : Nat) : Int) = (((i + j) / 2 : Nat) : Int) := jjG (by omega) (by omega)
    have hps := jqu (t := t) (p := p) ha ((i + j) / 2) e he
    cases hb : Op.bytesLess e.path p with
    | true =>
     rw [hb] at hps
     have hlt : (i + j) / 2 < jj4 t p := by simpa using hps.symm
     refine (jqc ?_).trans (ih (j - ((i + j) / 2 + 1)) (by omega) ((i + j) / 2 + 1) j rfl (by omega) hj hl)
     simp only [jJn, jjA hij, cond_true, hsh, hwh, jjs, he, Option.bind_some, v_byPath, cmpI_neg, hb, jjj (i := (i + j) / 2) (by unfold Sm; omega)]
    | false =>
     rw [hb] at hps
     have hge : ¬ (i + j) / 2 < jj4 t p := by simpa using hps.symm
     refine (jqc ?_).trans (ih ((i + j) / 2 - i) (by omega) i ((i + j) / 2) rfl hi (by omega) (by omega))
     simp only [jJn, jjA hij, cond_true, hsh, hwh, jjs, he, Option.bind_some, v_byPath, cmpI_neg, hb, cond_false]
   ·have hi' : i = jj4 t p := by omega
    have hlt : decide ((i : Int) < (j : Int)) = false := by simp only [decide_eq_false_iff_not]; omega
    refine jjE ?_
    simp only [jJn, hlt, cond_false]
    rw [hi']
 have k0 : jzi ((t, ((), ((), ((0 : Int), (false, ((t.length : Int), ((0 : Int), ((t.length : Int), ())))))))), ((p, ((0 : Int), ((0 : Int), (([] : Str), ())))), ())) = _ := key t.length 0 t.length (Nat.sub_zero _) (Nat.zero_le _) hP (Nat.le_refl _)
 have fb : f127v0 ((t, ((p, ((0 : Int), ((0 : Int), (([] : Str), ())))), ((), ()))), ()) = some (((jj4 t p : Int), (jxR t p, ())), ()) := by
  simp only [f127v0, k0, Option.bind_some, jxR, jjs, v_byPath, cmpI_zero]
  cases ht : t[jj4 t p]? with
  | none =>
   have := List.getElem?_eq_none_iff.1 ht
   have : decide ((jj4 t p : Int) < (t.length : Int)) = false := by simp only [decide_eq_false_iff_not]; omega
   rw [this]; rfl
  | some e => rw [jjA (jjv ht)]; rfl
 simp only [f104, fb, Option.bind_some]
noncomputable def c92 : Ctx := { tt := tt, fs := fun n => match n with | 104 => some S104 | 120 => some S120 | _ => none }
theorem k92 (h : ∀ T, (tt T).ok Pz T) (h104 : jja Pz 104 S104) (h120 : jja Pz 120 S120) : CtxGood Pz c92 := ⟨⟨h⟩, fun g S hg => (by
 simp only [c92] at hg
 split at hg
 ·cases hg; exact h104
 ·cases hg; exact h120
 ·cases hg), jjp, fun _ _ h => (by cases h), fun _ h => (by cases h)⟩
noncomputable def b92 : Code := jji Tryz.f92
@[reducible] noncomputable def i92 : Shape := ⟨[(0, .lf (.d (.sl .entry))), (1, .lf (.d (.str)))], [], 27⟩
@[reducible] noncomputable def o92 : Shape := ⟨[(4, .lf (.d (.bool)))], [], 27⟩
noncomputable def f92 (a : i92.Y) : Option o92.Y :=
(f120 ((a.1.2.1, ()), ())).bind fun r1211 =>
 bif (r1211.1.1 == ([] : Str)) then
 some ((true, ()), ())
else
(f104 ((a.1.1, (r1211.1.1, ())), ())).bind fun r1213 =>
 bif r1213.1.2.1 then
(ix a.1.1 r1213.1.1).bind fun x1214 =>
 some (((x1214.kind == (1 : Int)), ()), ())
else
 some ((false, ()), ())
theorem e92 : ∀ a, f92 a = jjo (jjd c92 []) b92 i92 o92 a := fun a => by kernel_rfl
noncomputable def S92 : jjF := jjf tt 27 i92 o92 [.tmp 4] [] f92
theorem z92 (h : ∀ T, (tt T).ok Pz T) (h104 : jja Pz 104 S104) (h120 : jja Pz 120 S120) : jja Pz 92 S92 :=
 have H := k92 h h104 h120
 jjk (fn := Tryz.f92) (fr := []) H (by kernel_rfl) (by kernel_rfl) (by kernel_rfl) (by kernel_rfl) (by kernel_rfl) jje (by kernel_rfl) (fun y => ⟨_, _, rfl, rfl, rfl⟩) e92
noncomputable def c68 : Ctx := { tt := tt, fs := fun n => match n with | 91 => some S91 | 92 => some S92 | _ => none }
theorem k68 (h : ∀ T, (tt T).ok Pz T) (h91 : jja Pz 91 S91) (h92 : jja Pz 92 S92) : CtxGood Pz c68 := ⟨⟨h⟩, fun g S hg => (by
 simp only [c68] at hg
 split at hg
 ·cases hg; exact h91
 ·cases hg; exact h92
 ·cases hg), jjp, fun _ _ h => (by cases h), fun _ h => (by cases h)⟩
noncomputable def b68 : Code := jji Tryz.f68
@[reducible] noncomputable def s68_7474 : Shape := ⟨[(0, .lf (.d (.sl .entry))), (3, .lf (.d (.int .i64))), (4, .lf (.ptr 4 0)), (8, .lf (.d (.sl .entry))), (9, .lf (.d (.int .i64))), (10, .lf (.d (.int .i64)))], [(4, .box [.d (.str), .d (.int .i64), .d (.int .i64), .d (.str)], .same)], 43⟩
@[reducible] noncomputable def t68_7474 : List OSh := [(.norm, ⟨[(0, .lf (.d (.sl .entry))), (8, .lf (.d (.sl .entry))), (9, .lf (.d (.int .i64))), (10, .lf (.d (.int .i64))), (15, .agg [.d (.str), .d (.int .i64), .d (.int .i64), .d (.str)]), (16, .lf (.d (.bool))), (17, .lf (.d (.bool))), (18, .lf (.d (.bool))), (32, .lf (.d (.bool))), (33, .lf (.d (.bool))), (41, .lf (.d (.bool)))], [], 43⟩)]
noncomputable def jJK (y : s68_7474.Y) : Option (YS t68_7474) :=
(f91 (((y.2.1.1, (y.2.1.2.1, (y.2.1.2.2.1, (y.2.1.2.2.2.1, ())))), ()), ())).bind fun r1226 =>
 bif (!r1226.1.1) then
 some (((y.1.1, (y.1.2.2.2.1, (y.1.2.2.2.2.1, (y.1.2.2.2.2.2.1, ((y.2.1.1, (y.2.1.2.1, (y.2.1.2.2.1, (y.2.1.2.2.2.1, ())))), (r1226.1.1, ((!r1226.1.1), (true, (true, (true, (true, ()))))))))))), ()))
else
 bif (decide (y.1.2.1 > (0 : Int))) then
(ix y.1.1 (IntKind.i64.wrap (y.1.2.1 - (1 : Int)))).bind fun x1227 =>
 bif (!(Op.bytesLess x1227.path y.2.1.1)) then
 some (((y.1.1, (y.1.2.2.2.1, (y.1.2.2.2.2.1, (y.1.2.2.2.2.2.1, ((y.2.1.1, (y.2.1.2.1, (y.2.1.2.2.1, (y.2.1.2.2.2.1, ())))), (r1226.1.1, ((!r1226.1.1), (false, ((!(Op.bytesLess x1227.path y.2.1.1)), (true, (true, ()))))))))))), ()))
else
(jqJ y.1.1 (0 : Int) y.1.2.1).bind fun x1228 =>
(f92 ((x1228, (y.2.1.1, ())), ())).bind fun r1229 =>
 some (((y.1.1, (y.1.2.2.2.1, (y.1.2.2.2.2.1, (y.1.2.2.2.2.2.1, ((y.2.1.1, (y.2.1.2.1, (y.2.1.2.2.1, (y.2.1.2.2.2.1, ())))), (r1226.1.1, ((!r1226.1.1), (false, ((!(Op.bytesLess x1227.path y.2.1.1)), (false, ((!r1229.1.1), ()))))))))))), ()))
else
(jqJ y.1.1 (0 : Int) y.1.2.1).bind fun x1230 =>
(f92 ((x1230, (y.2.1.1, ())), ())).bind fun r1231 =>
 some (((y.1.1, (y.1.2.2.2.1, (y.1.2.2.2.2.1, (y.1.2.2.2.2.2.1, ((y.2.1.1, (y.2.1.2.1, (y.2.1.2.2.1, (y.2.1.2.2.2.1, ())))), (r1226.1.1, ((!r1226.1.1), (false, (false, (false, ((!r1231.1.1), ()))))))))))), ()))
theorem r68_7474 : ∀ y, jJK y = jjK (jjd c68 []) (jjc (jjl (jjc b68 1 58)) 116 7474) 7474 s68_7474 t68_7474 y := fun y => by kernel_rfl
theorem q68_7474 (H : CtxGood Pz c68) : jjn Pz (jjc (jjl (jjc b68 1 58)) 116 7474) (jjb s68_7474 t68_7474 jJK) :=
 jjw (fr := []) H (by kernel_rfl) jje r68_7474
@[reducible] noncomputable def s68_58 : Shape := ⟨[(0, .lf (.d (.sl .entry))), (8, .lf (.d (.sl .entry))), (9, .lf (.d (.int .i64))), (10, .lf (.d (.int .i64)))], [], 43⟩
@[reducible] noncomputable def t68_58 : List OSh := [(.ret, ⟨[(2, .lf (.d (.bool)))], [], 43⟩), (.exit 0, ⟨[], [], 43⟩)]
noncomputable def g68_58 (y : s68_58.Y) : Option (Sum s68_58.Y (YS t68_58)) :=
 bif (decide (y.1.2.2.2.1 < y.1.2.2.1)) then
(ix y.1.2.1 y.1.2.2.2.1).bind fun x1234 =>
(jJK ((y.1.1, (y.1.2.2.2.1, ((), (y.1.2.1, (y.1.2.2.1, (y.1.2.2.2.1, ())))))), ((x1234.path, (x1234.kind, (x1234.mode, (x1234.text, ())))), ()))).bind fun r1235 =>
 bif r1235.1.2.2.2.2.2.2.2.2.2.2.1 then
 some (.inr (.inl ((false, ()), ())))
else
 some (.inl ((r1235.1.1, (r1235.1.2.1, (r1235.1.2.2.1, ((IntKind.i64.wrap (r1235.1.2.2.2.1 + (1 : Int))), ())))), ()))
else
 some (.inr (.inr ((), ())))
theorem r68_58 : ∀ y, g68_58 y = jjz (jjd c68 [(7474, jjb s68_7474 t68_7474 jJK)]) (jjl (jjc b68 1 58)) 58 s68_58 t68_58 y := fun y => by kernel_rfl
noncomputable def l68_58 : s68_58.Y → Option (YS t68_58) := jjC g68_58
theorem q68_58 (H : CtxGood Pz c68) : jjn Pz (jjc b68 1 58) (jjb s68_58 t68_58 l68_58) :=
 jjt (fr := [(7474, jjb s68_7474 t68_7474 jJK)]) H (by kernel_rfl) (by kernel_rfl) ⟨q68_7474 H, trivial⟩ (fun y => jjh r68_58 y)
@[reducible] noncomputable def i68 : Shape := ⟨[(0, .lf (.d (.sl .entry)))], [], 43⟩
@[reducible] noncomputable def o68 : Shape := ⟨[(2, .lf (.d (.bool)))], [], 43⟩
noncomputable def f68 (a : i68.Y) : Option o68.Y :=
 bif (decide ((a.1.1.length : Int) > (16 : Int))) then
 some ((false, ()), ())
else
(l68_58 ((a.1.1, (a.1.1, ((a.1.1.length : Int), ((0 : Int), ())))), ())).bind fun r1236 =>
(match r1236 with
| .inl r1237 =>
 some ((r1237.1.1, ()), ())
| .inr r1238 =>
 some ((true, ()), ()))
theorem e68 : ∀ a, f68 a = jjo (jjd c68 [(58, jjb s68_58 t68_58 l68_58)]) b68 i68 o68 a := fun a => by kernel_rfl
noncomputable def S68 : jjF := jjf tt 43 i68 o68 [.tmp 2] [] f68
theorem z68 (h : ∀ T, (tt T).ok Pz T) (h91 : jja Pz 91 S91) (h92 : jja Pz 92 S92) : jja Pz 68 S68 :=
 have H := k68 h h91 h92
 jjk (fn := Tryz.f68) (fr := [(58, jjb s68_58 t68_58 l68_58)]) H (by kernel_rfl) (by kernel_rfl) (by kernel_rfl) (by kernel_rfl) (by kernel_rfl) ⟨q68_58 H, trivial⟩ (by kernel_rfl) (fun y => ⟨_, _, rfl, rfl, rfl⟩) e68
noncomputable def c73 : Ctx := { tt := tt, fs := fun n => match n with | 97 => some S97 | 98 => some S98 | 99 => some S99 | _ => none }
theorem k73 (h : ∀ T, (tt T).ok Pz T) (h97 : jja Pz 97 S97) (h98 : jja Pz 98 S98) (h99 : jja Pz 99 S99) : CtxGood Pz c73 := ⟨⟨h⟩, fun g S hg => (by
 simp only [c73] at hg
 split at hg
 ·cases hg; exact h97
 ·cases hg; exact h98
 ·cases hg; exact h99
 ·cases hg), jjp, fun _ _ h => (by cases h), fun _ h => (by cases h)⟩
noncomputable def b73 : Code := jji Tryz.f73
@[reducible] noncomputable def s73_840 : Shape := ⟨[(0, .lf (.d (.sl .entry))), (3, .lf (.d (.int .i64)))], [], 53⟩
@[reducible] noncomputable def t73_840 : List OSh := [(.norm, ⟨[(0, .lf (.d (.sl .entry))), (3, .lf (.d (.int .i64))), (11, .lf (.d (.sl .entry))), (12, .lf (.d (.int .i64))), (13, .lf (.rptr [.str, .int .i64, .int .i64, .str] 0)), (14, .agg [.d (.str), .d (.int .i64), .d (.int .i64), .d (.str)]), (15, .lf (.d (.bool))), (16, .lf (.d (.bool))), (17, .lf (.d (.bool))), (34, .lf (.d (.bool)))], [], 53⟩)]
noncomputable def g73_840 (y : s73_840.Y) : Option (YS t73_840) :=
(ix y.1.1 y.1.2.1).bind fun x420 =>
(f97 (((x420.path, (x420.kind, (x420.mode, (x420.text, ())))), ()), ())).bind fun r421 =>
 bif (!r421.1.1) then
 some (((y.1.1, (y.1.2.1, (y.1.1, (y.1.2.1, ((x420.path, (x420.kind, (x420.mode, (x420.text, ())))), ((x420.path, (x420.kind, (x420.mode, (x420.text, ())))), (r421.1.1, ((!r421.1.1), (true, (true, ())))))))))), ()))
else
 bif (decide (y.1.2.1 > (0 : Int))) then
(ix y.1.1 (IntKind.i64.wrap (y.1.2.1 - (1 : Int)))).bind fun x422 =>
(ix y.1.1 y.1.2.1).bind fun x423 =>
 some (((y.1.1, (y.1.2.1, (y.1.1, (y.1.2.1, ((x420.path, (x420.kind, (x420.mode, (x420.text, ())))), ((x420.path, (x420.kind, (x420.mode, (x420.text, ())))), (r421.1.1, ((!r421.1.1), (false, ((!(Op.bytesLess x422.path x423.path)), ())))))))))), ()))
else
 some (((y.1.1, (y.1.2.1, (y.1.1, (y.1.2.1, ((x420.path, (x420.kind, (x420.mode, (x420.text, ())))), ((x420.path, (x420.kind, (x420.mode, (x420.text, ())))), (r421.1.1, ((!r421.1.1), (false, (false, ())))))))))), ()))
theorem r73_840 : ∀ y, g73_840 y = jjK (jjd c73 []) (jjc (jjl (jjc b73 1 26)) 52 840) 840 s73_840 t73_840 y := fun y => by kernel_rfl
theorem q73_840 (H : CtxGood Pz c73) : jjn Pz (jjc (jjl (jjc b73 1 26)) 52 840) (jjb s73_840 t73_840 g73_840) :=
 jjw (fr := []) H (by kernel_rfl) jje r73_840
@[reducible] noncomputable def s73_26 : Shape := ⟨[(0, .lf (.d (.sl .entry))), (3, .lf (.d (.int .i64)))], [], 53⟩
@[reducible] noncomputable def t73_26 : List OSh := [(.ret, ⟨[(2, .lf (.d (.bool)))], [], 53⟩), (.exit 0, ⟨[(0, .lf (.d (.sl .entry)))], [], 53⟩)]
noncomputable def g73_26 (y : s73_26.Y) : Option (Sum s73_26.Y (YS t73_26)) :=
 bif (decide (y.1.2.1 < (y.1.1.length : Int))) then
(g73_840 ((y.1.1, (y.1.2.1, ())), ())).bind fun r425 =>
 bif r425.1.2.2.2.2.2.2.2.2.2.1 then
 some (.inr (.inl ((false, ()), ())))
else
 some (.inl ((r425.1.1, ((IntKind.i64.wrap (r425.1.2.1 + (1 : Int))), ())), ()))
else
 some (.inr (.inr ((y.1.1, ()), ())))
theorem r73_26 : ∀ y, g73_26 y = jjz (jjd c73 [(840, jjb s73_840 t73_840 g73_840)]) (jjl (jjc b73 1 26)) 26 s73_26 t73_26 y := fun y => by kernel_rfl
noncomputable def l73_26 : s73_26.Y → Option (YS t73_26) := jjC g73_26
theorem q73_26 (H : CtxGood Pz c73) : jjn Pz (jjc b73 1 26) (jjb s73_26 t73_26 l73_26) :=
 jjt (fr := [(840, jjb s73_840 t73_840 g73_840)]) H (by kernel_rfl) (by kernel_rfl) ⟨q73_840 H, trivial⟩ (fun y => jjh r73_26 y)
@[reducible] noncomputable def s73_58 : Shape := ⟨[(0, .lf (.d (.sl .entry))), (4, .lf (.d (.int .i64)))], [], 53⟩
@[reducible] noncomputable def t73_58 : List OSh := [(.ret, ⟨[(2, .lf (.d (.bool)))], [], 53⟩), (.exit 2, ⟨[(0, .lf (.d (.sl .entry)))], [], 53⟩)]
noncomputable def g73_58 (y : s73_58.Y) : Option (Sum s73_58.Y (YS t73_58)) :=
 bif (decide (y.1.2.1 < (y.1.1.length : Int))) then
(ix y.1.1 y.1.2.1).bind fun x447 =>
(f99 ((x447.path, ()), ())).bind fun r448 =>
(f98 ((y.1.1, (r448.1.1, ())), ())).bind fun r449 =>
 bif (!r449.1.1) then
 some (.inr (.inl ((false, ()), ())))
else
 some (.inl ((y.1.1, ((IntKind.i64.wrap (y.1.2.1 + (1 : Int))), ())), ()))
else
 some (.inr (.inr ((y.1.1, ()), ())))
theorem r73_58 : ∀ y, g73_58 y = jjz (jjd c73 []) (jjl (jjc b73 1 58)) 58 s73_58 t73_58 y := fun y => by kernel_rfl
noncomputable def l73_58 : s73_58.Y → Option (YS t73_58) := jjC g73_58
theorem q73_58 (H : CtxGood Pz c73) : jjn Pz (jjc b73 1 58) (jjb s73_58 t73_58 l73_58) :=
 jjt (fr := []) H (by kernel_rfl) (by kernel_rfl) jje (fun y => jjh r73_58 y)
@[reducible] noncomputable def i73 : Shape := ⟨[(0, .lf (.d (.sl .entry)))], [], 53⟩
@[reducible] noncomputable def o73 : Shape := ⟨[(2, .lf (.d (.bool)))], [], 53⟩
noncomputable def f73 (a : i73.Y) : Option o73.Y :=
(l73_26 ((a.1.1, ((0 : Int), ())), ())).bind fun r435 =>
(match r435 with
| .inl r436 =>
 some ((r436.1.1, ()), ())
| .inr r437 =>
(l73_58 ((r437.1.1, ((0 : Int), ())), ())).bind fun r453 =>
(match r453 with
| .inl r454 =>
 some ((r454.1.1, ()), ())
| .inr r455 =>
 some (((decide ((r455.1.1.length : Int) ≤ (16 : Int))), ()), ())))
theorem e73 : ∀ a, f73 a = jjo (jjd c73 [(26, jjb s73_26 t73_26 l73_26), (58, jjb s73_58 t73_58 l73_58)]) b73 i73 o73 a := fun a => by kernel_rfl
noncomputable def S73 : jjF := jjf tt 53 i73 o73 [.tmp 2] [] f73
theorem z73 (h : ∀ T, (tt T).ok Pz T) (h97 : jja Pz 97 S97) (h98 : jja Pz 98 S98) (h99 : jja Pz 99 S99) : jja Pz 73 S73 :=
 have H := k73 h h97 h98 h99
 jjk (fn := Tryz.f73) (fr := [(26, jjb s73_26 t73_26 l73_26), (58, jjb s73_58 t73_58 l73_58)]) H (by kernel_rfl) (by kernel_rfl) (by kernel_rfl) (by kernel_rfl) (by kernel_rfl) ⟨q73_26 H, q73_58 H, trivial⟩ (by kernel_rfl) (fun y => ⟨_, _, rfl, rfl, rfl⟩) e73
theorem jQj {α : Type} {ok ok' : Nat → α → Bool} : ∀ (xs : List α) (j : Nat), (∀ i x, xs[i]? = some x → ok (j + i) x = ok' (j + i) x) → jqz ok j xs = jqz ok' j xs := by
 intro xs
 induction xs with
 | nil => intro j _; rfl
 | cons x r ih =>
  intro j h
  simp only [jqz]
  rw [show ok j x = ok' j x from h 0 x rfl, ih (j + 1) (fun i y hy => by have := h (i + 1) y (by simpa using hy); rw [show j + (i + 1) = j + 1 + i by omega] at this; exact this)]
theorem allI_get {α : Type} {ok : Nat → α → Bool} : ∀ (xs : List α) (j : Nat), jqz ok j xs = true → ∀ i x, xs[i]? = some x → ok (j + i) x = true := by
 intro xs
 induction xs with
 | nil => intro j _ i x h; simp at h
 | cons y r ih =>
  intro j h i x hx
  simp only [jqz, Bool.and_eq_true] at h
  cases i with
  | zero => simp only [List.getElem?_cons_zero, Option.some.injEq] at hx; subst hx; exact h.1
  | succ i => have := ih (j + 1) h.2 i x (by simpa using hx); rwa [show j + 1 + i = j + (i + 1) by omega] at this
abbrev BdEs (t : List Entry) : Prop := Bd t.length ∧ ∀ e, e ∈ t → BdE e
def lessAt (t : List Entry) (i : Nat) (e : Entry) : Bool := i == 0 || match t[i - 1]? with
 | some q => Op.bytesLess q.path e.path
 | none => false
def okAt (t : List Entry) (i : Nat) (e : Entry) : Bool := entOk e && lessAt t i e
def jjS (t : List Entry) : Bool := jqz (okAt t) 0 t && t.all (fun e => jz1 t (upL e.path)) && decide (t.length ≤ 16)
theorem dgt0 (i : Nat) : decide ((i : Int) > 0) = !(i == 0) := by
 cases i with
 | zero => rfl
 | succ i => simp
theorem v_TreeOk (a) (hs : BdEs a.1.1) : f73 a = some ((jjS a.1.1, ()), ()) := by
 obtain ⟨⟨t, u⟩, u'⟩ := a
 obtain ⟨hl, he⟩ := hs
 have hl : t.length ≤ 2097152 := hl
 have key : l73_26 ((t, ((0 : Int), ())), ()) = some (bif jqz (okAt t) 0 t then .inr ((t, ()), ()) else .inl ((false, ()), ())) := by
  refine jjU g73_26 t (fun i => ((t, ((i : Int), ())), ())) _ _ _ (fun i x hx => ?_) ?_
  ·have hi := jjv hx
   have hw : Sm i := by unfold Sm; omega
   have hb := he x (List.mem_of_getElem? hx)
   simp only [g73_26, jjA hi, cond_true, g73_840, jjs, hx, Option.bind_some]
   rw [v_l2Entry _ hb.1 hb.2]
   simp only [Option.bind_some, okAt, dgt0]
   cases entOk x with
   | false => rfl
   | true =>
    simp only [Bool.not_true, cond_false, Bool.true_and, lessAt]
    cases i with
    | zero => simp only [beq_self_eq_true, Bool.not_true, cond_false, Option.bind_some, Bool.true_or, cond_true, jjj hw]
    | succ i =>
     have h0 : (i + 1 == 0) = false := rfl
     have hi' : i < t.length := by omega
     obtain ⟨q, hq⟩ : ∃ q, t[i]? = some q := ⟨t[i], List.getElem?_eq_getElem hi'⟩
     simp only [h0, Bool.not_false, cond_true, jz2 (i := i) (by unfold Sm; omega), jjs, hq, hx, Option.bind_some, Bool.false_or, Nat.add_sub_cancel]
     cases Op.bytesLess q.path x.path with
     | false => rfl
     | true => simp only [Bool.not_true, cond_false, cond_true, jjj hw]
  ·simp only [g73_26, jjI, cond_false]
 have key2 : l73_58 ((t, ((0 : Int), ())), ()) = some (bif jqz (fun _ e => jz1 t (upL e.path)) 0 t then .inr ((t, ()), ()) else .inl ((false, ()), ())) := by
  refine jjU g73_58 t (fun i => ((t, ((i : Int), ())), ())) _ _ _ (fun i x hx => ?_) ?_
  ·have hi := jjv hx
   have hw : Sm i := by unfold Sm; omega
   have hb := he x (List.mem_of_getElem? hx)
   simp only [g73_58, jjA hi, cond_true, jjs, hx, Option.bind_some]
   rw [v_l1Up _ hb.1]
   simp only [Option.bind_some]
   rw [v_l2Dir _ hl]
   simp only [Option.bind_some, jjj hw]
   cases jz1 t (upL x.path) <;> rfl
  ·simp only [g73_58, jjI, cond_false]
 rw [jjW] at key2
 simp only [f73, key, Option.bind_some, jjS]
 cases jqz (okAt t) 0 t with
 | false => rfl
 | true =>
  simp only [cond_true, key2, Option.bind_some, Bool.true_and]
  cases List.all t (fun e => jz1 t (upL e.path)) with
  | false => rfl
  | true => have := leb6 t.length 16; simp only [cond_true, Bool.true_and]; rw [← this]; rfl
theorem asc_step {t : List Entry} {i : Nat} {e : Entry} (he : t[i]? = some e) (h : Asc (t.take i)) (hl : lessAt t i e = true) : Asc (t.take (i + 1)) := by
 rw [List.take_add_one, he]
 unfold Asc
 refine List.pairwise_append.2 ⟨h, by simp, ?_⟩
 intro a ha b hb
 have hb : b = e := by simpa using hb
 subst hb
 obtain ⟨k, hk⟩ := List.mem_iff_getElem?.1 ha
 have hki : k < i := by
  have := jjv hk
  rw [List.length_take] at this; omega
 unfold lessAt at hl
 have h0 : (i == 0) = false := by simp; omega
 rw [h0, Bool.false_or] at hl
 split at hl
 ·rename_i q hq
  by_cases hkl : k = i - 1
  ·have : t[k]? = some a := by rw [List.getElem?_take, if_pos hki] at hk; exact hk
   rw [hkl, hq] at this
   cases this; exact hl
  ·have hq' : (t.take i)[i - 1]? = some q := by rw [List.getElem?_take, if_pos (by omega)]; exact hq
   have := List.pairwise_iff_getElem.1 h k (i - 1) (jjv hk) (jjv hq') (by omega)
   rw [(List.getElem?_eq_some_iff.1 hk).2, (List.getElem?_eq_some_iff.1 hq').2] at this
   exact jJR _ _ _ this hl
 ·cases hl
theorem asc_of {t : List Entry} (h : jqz (okAt t) 0 t = true) : Asc t := by
 have : ∀ i, i ≤ t.length → Asc (t.take i) := by
  intro i
  induction i with
  | zero => intro _; simp [Asc]
  | succ i ih =>
   intro hi
   have he : t[i]? = some t[i] := List.getElem?_eq_getElem hi
   have := allI_get t 0 h i _ he
   rw [Nat.zero_add] at this
   simp only [okAt, Bool.and_eq_true] at this
   exact asc_step he (ih (by omega)) this.2
 have := this t.length (Nat.le_refl _)
 rwa [List.take_length] at this
theorem dirIn_take {t : List Entry} {i : Nat} {e : Entry} {p : Str} (ha : Asc t) (he : t[i]? = some e) (hp : Op.bytesLess p e.path = true) : jz1 (t.take i) p = jz1 t p := by
 have hi := jjv he
 have h1 := jqu (p := p) ha i e he
 rw [bl_asym hp] at h1
 have hle : jj4 t p ≤ i := by
  have : ¬ i < jj4 t p := by simpa using h1.symm
  omega
 have hpos : jj4 (t.take i) p = jj4 t p := by
  by_cases hlt : jj4 t p = i
  ·have hlen : (t.take i).length = i := by rw [List.length_take]; omega
   have h2 := jJ7 (t.take i) p
   rw [hlen] at h2
   by_cases h3 : jj4 (t.take i) p < i
   ·obtain ⟨q, hq⟩ : ∃ q, (t.take i)[jj4 (t.take i) p]? = some q := ⟨_, List.getElem?_eq_getElem (by rw [hlen]; exact h3)⟩
    have h4 := jqu (p := p) (ha.take i) _ q hq
    have hq' : t[jj4 (t.take i) p]? = some q := by rw [List.getElem?_take, if_pos h3] at hq; exact hq
    have h5 := jqu (p := p) ha _ q hq'
    rw [h4] at h5
    have : decide (jj4 (t.take i) p < jj4 (t.take i) p) = false := by simp
    rw [this] at h5
    have : ¬ jj4 (t.take i) p < jj4 t p := by simpa using h5.symm
    omega
   ·omega
  ·have hlt : jj4 t p < i := by omega
   obtain ⟨q, hq⟩ : ∃ q, t[jj4 t p]? = some q := ⟨_, List.getElem?_eq_getElem (by omega)⟩
   have hq' : (t.take i)[jj4 t p]? = some q := by rw [List.getElem?_take, if_pos hlt]; exact hq
   have h4 := jqu (p := p) ha _ q hq
   have h5 := jqu (p := p) (ha.take i) _ q hq'
   have e4 : decide (jj4 t p < jj4 t p) = false := by simp
   rw [h4, e4] at h5
   have h6 : ¬ jj4 t p < jj4 (t.take i) p := by simpa using h5.symm
   by_cases h7 : jj4 (t.take i) p < jj4 t p
   ·obtain ⟨r, hr⟩ : ∃ r, t[jj4 (t.take i) p]? = some r := ⟨_, List.getElem?_eq_getElem (by omega)⟩
    have hr' : (t.take i)[jj4 (t.take i) p]? = some r := by rw [List.getElem?_take, if_pos (by omega)]; exact hr
    have h8 := jqu (p := p) ha _ r hr
    have h9 := jqu (p := p) (ha.take i) _ r hr'
    have e9 : decide (jj4 (t.take i) p < jj4 (t.take i) p) = false := by simp
    rw [h8, e9] at h9
    have : ¬ jj4 (t.take i) p < jj4 t p := by simpa using h9
    omega
   ·omega
 unfold jz1
 rw [hpos]
 congr 1
 by_cases hlt : jj4 t p < i
 ·rw [List.getElem?_take, if_pos hlt]
 ·have : jj4 t p = i := by omega
  rw [this, he, List.getElem?_take, if_neg (by omega)]
  have : (e.path == p) = false := by
   cases h : (e.path == p) with
   | false => rfl
   | true => rw [eq_of_beq h, jzm] at hp; cases hp
  simp [this]
def jzT (t : List Entry) (p : Str) : Bool := jz1 t (bif jxk p then upL p else [])
theorem v_hasPlaceFor (a) (hs : Bd a.1.1.length) (hp : Bd a.1.2.1.length) (ha : Asc a.1.1) : f92 a = some ((jzT a.1.1 a.1.2.1, ()), ()) := by
 obtain ⟨⟨t, p, u⟩, u'⟩ := a
 have e1 := v_PathUp ((p, ()), ()) hp
 have e2 := v_findEntry ((t, ((bif jxk p then upL p else []), ())), ()) hs ha
 simp only [f92, e1, e2, Option.bind_some, jzT, jz1, jxR, jjs]
 generalize (bif jxk p then upL p else []) = up
 cases (up == []) with
 | true => rfl
 | false =>
  cases ht : t[jj4 t up]? with
  | none => rfl
  | some e => simp only [cond_false, cond_true, Option.bind_some, Bool.false_or]; cases (e.path == up) <;> rfl
theorem treeOk_eq (t : List Entry) : jjS t = (decide (t.length ≤ 16) && jqz (fun i e => okAt t i e && jzT (t.take i) e.path) 0 t) := by
 unfold jjS
 rw [allI_and]
 cases h : jqz (okAt t) 0 t with
 | false => simp
 | true =>
  have ha := asc_of h
  have : jqz (fun i e => jzT (t.take i) e.path) 0 t = t.all (fun e => jz1 t (upL e.path)) := by
   rw [← jjW _ 0 t]
   refine jQj t 0 (fun i e he => ?_)
   rw [Nat.zero_add]
   have hok := allI_get t 0 h i e he
   rw [Nat.zero_add] at hok
   have hpo : jxk e.path = true := by
    unfold okAt entOk at hok
    simp only [Bool.and_eq_true] at hok
    exact hok.1.1
   unfold jzT
   rw [hpo, cond_true]
   cases hu : (upL e.path == []) with
   | true => unfold jz1; rw [hu]; rfl
   | false => exact dirIn_take ha he (upL_less hu)
  rw [this]; simp only [Bool.true_and]; rw [Bool.and_comm]
theorem v_iTreeOk (a) (hs : BdEs a.1.1) : f68 a = some ((jjS a.1.1, ()), ()) := by
 obtain ⟨⟨t, u⟩, u'⟩ := a
 obtain ⟨hl, he⟩ := hs
 have hl : t.length ≤ 2097152 := hl
 have key : l68_58 ((t, (t, ((t.length : Int), ((0 : Int), ())))), ()) = some (bif jqz (fun i e => okAt t i e && jzT (t.take i) e.path) 0 t then .inr ((), ()) else .inl ((false, ()), ())) := by
  have := jq4 g68_58 t (fun i (_ : Unit) => ((t, (t, ((t.length : Int), ((i : Int), ())))), ())) (fun i e _ => some (bif okAt t i e && jzT (t.take i) e.path then .inl () else .inr ((.inl ((false, ()), ())) : YS t68_58))) (fun _ => (.inr ((), ()) : YS t68_58))
   (fun i _ => Asc (t.take i)) () (by simp [Asc]) (fun i x _ hx hI => ?_) (fun _ _ => ?_)
  ·exact this.trans (jQh (fun i e => okAt t i e && jzT (t.take i) e.path) (fun _ s => s) _ _ t 0 ())
  ·have hi := jjv hx
   have hw : Sm i := by unfold Sm; omega
   have hb := he x (List.mem_of_getElem? hx)
   refine ⟨?_, fun s' h' => ?_⟩
   ·have hpl := v_hasPlaceFor ((t.take i, (x.path, ())), ()) (show (t.take i).length ≤ 2097152 by rw [List.length_take]; omega) hb.1 hI
    simp only [g68_58, jjA hi, cond_true, jjs, hx, Option.bind_some, jJK]
    rw [v_entryOk _ hb.1 hb.2]
    simp only [Option.bind_some, okAt, dgt0]
    cases entOk x with
    | false => rfl
    | true =>
     simp only [Bool.not_true, cond_false, Bool.true_and, lessAt]
     cases i with
     | zero =>
      have hsub : jqJ t 0 0 = some (t.take 0) := jzw (b := 0) (Nat.zero_le _)
      have hsub : jqJ t 0 ((0 : Nat) : Int) = some (t.take 0) := hsub
      simp only [beq_self_eq_true, Bool.not_true, cond_false, hsub, Option.bind_some, hpl, Bool.true_or, Bool.true_and]
      cases jzT (t.take 0) x.path with
      | false => rfl
      | true => simp only [Bool.not_true, cond_false, cond_true, jjj hw]; rfl
     | succ i =>
      have h0 : (i + 1 == 0) = false := rfl
      have hi' : i < t.length := by omega
      obtain ⟨q, hq⟩ : ∃ q, t[i]? = some q := ⟨t[i], List.getElem?_eq_getElem hi'⟩
      have hsub : jqJ t 0 ((i + 1 : Nat) : Int) = some (t.take (i + 1)) := jzw (by omega)
      simp only [h0, Bool.not_false, cond_true, jz2 (i := i) (by unfold Sm; omega), jjs, hq, hx, Option.bind_some, Bool.false_or, Nat.add_sub_cancel]
      cases Op.bytesLess q.path x.path with
      | false => rfl
      | true =>
       simp only [Bool.not_true, cond_false, cond_true, hsub, Option.bind_some, hpl, Bool.true_and]
       cases jzT (t.take (i + 1)) x.path with
       | false => rfl
       | true => simp only [Bool.not_true, cond_false, cond_true, jjj hw]; rfl
   ·simp only [Option.some.injEq] at h'
    cases hq : (okAt t i x && jzT (t.take i) x.path) with
    | false => rw [hq] at h'; cases h'
    | true =>
     simp only [Bool.and_eq_true] at hq
     have := hq.1
     simp only [okAt, Bool.and_eq_true] at this
     exact asc_step hx hI this.2
  ·simp only [g68_58, jjI, cond_false]
 have h16 : decide ((t.length : Int) > 16) = !decide (t.length ≤ 16) := by by_cases h : t.length ≤ 16 <;> simp only [h, decide_true, decide_false, Bool.not_true, Bool.not_false, decide_eq_true_eq, decide_eq_false_iff_not] <;> omega
 simp only [f68, h16, key, Option.bind_some]
 rw [treeOk_eq]
 cases decide (t.length ≤ 16) <;> cases jqz (fun i e => okAt t i e && jzT (t.take i) e.path) 0 t <;> rfl
noncomputable def c35 : Ctx := { tt := tt, fs := fun n => match n with | 62 => some S62 | 63 => some S63 | 64 => some S64v0 | 66 => some S66v0 | 68 => some S68 | _ => none }
theorem k35 (h : ∀ T, (tt T).ok Pz T) (h62 : jja Pz 62 S62) (h63 : jja Pz 63 S63) (h64v0 : jja Pz 64 S64v0) (h66v0 : jja Pz 66 S66v0) (h68 : jja Pz 68 S68) : CtxGood Pz c35 := ⟨⟨h⟩, fun g S hg => (by
 simp only [c35] at hg
 split at hg
 ·cases hg; exact h62
 ·cases hg; exact h63
 ·cases hg; exact h64v0
 ·cases hg; exact h66v0
 ·cases hg; exact h68
 ·cases hg), jjp, fun _ _ h => (by cases h), fun _ h => (by cases h)⟩
noncomputable def b35 : Code := jji Tryz.f35
@[reducible] noncomputable def s35_12 : Shape := ⟨[(1, .lf (.ptr 1 0))], [(1, .box [.d (.str), .d (.str), .d (.sl .need), .d (.sl .entry)], .same)], 36⟩
@[reducible] noncomputable def t35_12 : List OSh := [(.norm, ⟨[(1, .lf (.ptr 1 0)), (18, .lf (.d (.bool)))], [(1, .box [.d (.str), .d (.str), .d (.sl .need), .d (.sl .entry)], .same)], 36⟩)]
noncomputable def g35_12 (y : s35_12.Y) : Option (YS t35_12) :=
(f62 ((y.2.1.1, ()), ())).bind fun r1008 =>
 bif (!(!r1008.1.1)) then
(f63 ((y.2.1.2.1, ()), ())).bind fun r1009 =>
 bif (!(!r1009.1.1)) then
 some ((((), ((decide ((y.2.1.2.2.1.length : Int) > (6 : Int))), ())), ((y.2.1.1, (y.2.1.2.1, (y.2.1.2.2.1, (y.2.1.2.2.2.1, ())))), ())))
else
 some ((((), (true, ())), ((y.2.1.1, (y.2.1.2.1, (y.2.1.2.2.1, (y.2.1.2.2.2.1, ())))), ())))
else
 some ((((), (true, ())), ((y.2.1.1, (y.2.1.2.1, (y.2.1.2.2.1, (y.2.1.2.2.2.1, ())))), ())))
theorem r35_12 : ∀ y, g35_12 y = jjK (jjd c35 []) (jjc b35 1 12) 12 s35_12 t35_12 y := fun y => by kernel_rfl
theorem q35_12 (H : CtxGood Pz c35) : jjn Pz (jjc b35 1 12) (jjb s35_12 t35_12 g35_12) :=
 jjw (fr := []) H (by kernel_rfl) jje r35_12
@[reducible] noncomputable def i35 : Shape := ⟨[(0, .agg [.d (.str), .d (.str), .d (.sl .need), .d (.sl .entry)])], [], 36⟩
@[reducible] noncomputable def o35 : Shape := ⟨[(2, .lf (.d (.bool)))], [], 36⟩
noncomputable def f35 (a : i35.Y) : Option o35.Y :=
(g35_12 (((), ()), ((a.1.1.1, (a.1.1.2.1, (a.1.1.2.2.1, (a.1.1.2.2.2.1, ())))), ()))).bind fun r1241 =>
 bif r1241.1.2.1 then
 some ((false, ()), ())
else
(f64v0 ((r1241.2.1.2.2.1, ((), ())), ())).bind fun r1242 =>
 bif r1242.1.1 then
(f66v0 ((r1241.2.1.2.2.1, ((), (([r1241.2.1.1] : List Str), ()))), ())).bind fun r1243 =>
 bif (!r1243.1.1) then
(f68 ((r1241.2.1.2.2.2.1, ()), ())).bind fun r1244 =>
 some ((r1244.1.1, ()), ())
else
 some ((false, ()), ())
else
 some ((false, ()), ())
theorem e35 : ∀ a, f35 a = jjo (jjd c35 [(12, jjb s35_12 t35_12 g35_12)]) b35 i35 o35 a := fun a => by kernel_rfl
noncomputable def S35 : jjF := jjf tt 36 i35 o35 [.tmp 2] [] f35
theorem z35 (h : ∀ T, (tt T).ok Pz T) (h62 : jja Pz 62 S62) (h63 : jja Pz 63 S63) (h64v0 : jja Pz 64 S64v0) (h66v0 : jja Pz 66 S66v0) (h68 : jja Pz 68 S68) : jja Pz 35 S35 :=
 have H := k35 h h62 h63 h64v0 h66v0 h68
 jjk (fn := Tryz.f35) (fr := [(12, jjb s35_12 t35_12 g35_12)]) H (by kernel_rfl) (by kernel_rfl) (by kernel_rfl) (by kernel_rfl) (by kernel_rfl) ⟨q35_12 H, trivial⟩ (by kernel_rfl) (fun y => ⟨_, _, rfl, rfl, rfl⟩) e35
noncomputable def c34v0 : Ctx := { tt := tt, fs := fun n => match n with | 35 => some S35 | _ => none }
theorem k34v0 (h : ∀ T, (tt T).ok Pz T) (h35 : jja Pz 35 S35) : CtxGood Pz c34v0 := ⟨⟨h⟩, fun g S hg => (by
 simp only [c34v0] at hg
 split at hg
 ·cases hg; exact h35
 ·cases hg), jjp, fun _ _ h => (by cases h), fun _ h => (by cases h)⟩
noncomputable def b34v0 : Code := jji Tryz.f34
@[reducible] noncomputable def s34v0_26 : Shape := ⟨[(1, .lf (.fn 35 [])), (7, .lf (.d (.sl .pack))), (8, .lf (.d (.int .i64))), (9, .lf (.d (.int .i64)))], [], 18⟩
@[reducible] noncomputable def jJy : List OSh := [(.ret, ⟨[(4, .lf (.d (.bool)))], [], 18⟩), (.exit 0, ⟨[], [], 18⟩)]
noncomputable def g34v0_26 (y : s34v0_26.Y) : Option (Sum s34v0_26.Y (YS jJy)) :=
 bif (decide (y.1.2.2.2.1 < y.1.2.2.1)) then
(ix y.1.2.1 y.1.2.2.2.1).bind fun x1248 =>
(f35 (((x1248.name, (x1248.version, (x1248.needs, (x1248.tree, ())))), ()), ())).bind fun r1250 =>
 bif (!r1250.1.1) then
 some (.inr (.inl ((false, ()), ())))
else
 some (.inl (((), (y.1.2.1, (y.1.2.2.1, ((IntKind.i64.wrap (y.1.2.2.2.1 + (1 : Int))), ())))), ()))
else
 some (.inr (.inr ((), ())))
theorem r34v0_26 : ∀ y, g34v0_26 y = jjz (jjd c34v0 []) (jjl (jjc b34v0 1 26)) 26 s34v0_26 jJy y := fun y => by kernel_rfl
noncomputable def l34v0_26 : s34v0_26.Y → Option (YS jJy) := jjC g34v0_26
theorem q34v0_26 (H : CtxGood Pz c34v0) : jjn Pz (jjc b34v0 1 26) (jjb s34v0_26 jJy l34v0_26) :=
 jjt (fr := []) H (by kernel_rfl) (by kernel_rfl) jje (fun y => jjh r34v0_26 y)
@[reducible] noncomputable def i34v0 : Shape := ⟨[(0, .lf (.d (.sl .pack))), (1, .lf (.fn 35 []))], [], 18⟩
@[reducible] noncomputable def o34v0 : Shape := ⟨[(4, .lf (.d (.bool)))], [], 18⟩
noncomputable def f34v0 (a : i34v0.Y) : Option o34v0.Y :=
(l34v0_26 (((), (a.1.1, ((a.1.1.length : Int), ((0 : Int), ())))), ())).bind fun r1254 =>
(match r1254 with
| .inl r1255 =>
 some ((r1255.1.1, ()), ())
| .inr r1256 =>
 some ((true, ()), ()))
theorem e34v0 : ∀ a, f34v0 a = jjo (jjd c34v0 [(26, jjb s34v0_26 jJy l34v0_26)]) b34v0 i34v0 o34v0 a := fun a => by kernel_rfl
noncomputable def S34v0 : jjF := jjf tt 18 i34v0 o34v0 [.tmp 4] [] f34v0
theorem z34v0 (h : ∀ T, (tt T).ok Pz T) (h35 : jja Pz 35 S35) : jja Pz 34 S34v0 :=
 have H := k34v0 h h35
 jjk (fn := Tryz.f34) (fr := [(26, jjb s34v0_26 jJy l34v0_26)]) H (by kernel_rfl) (by kernel_rfl) (by kernel_rfl) (by kernel_rfl) (by kernel_rfl) ⟨q34v0_26 H, trivial⟩ (by kernel_rfl) (fun y => ⟨_, _, rfl, rfl, rfl⟩) e34v0
noncomputable def c37 : Ctx := { tt := tt, fs := fun n => match n with | 70 => some S70 | 71 => some S71 | 72 => some S72 | 73 => some S73 | _ => none }
theorem k37 (h : ∀ T, (tt T).ok Pz T) (h70 : jja Pz 70 S70) (h71 : jja Pz 71 S71) (h72 : jja Pz 72 S72) (h73 : jja Pz 73 S73) : CtxGood Pz c37 := ⟨⟨h⟩, fun g S hg => (by
 simp only [c37] at hg
 split at hg
 ·cases hg; exact h70
 ·cases hg; exact h71
 ·cases hg; exact h72
 ·cases hg; exact h73
 ·cases hg), jjp, fun _ _ h => (by cases h), fun _ h => (by cases h)⟩
noncomputable def b37 : Code := jji Tryz.f37
@[reducible] noncomputable def i37 : Shape := ⟨[(0, .agg [.d (.str), .d (.str), .d (.sl .need), .d (.sl .entry)])], [], 23⟩
@[reducible] noncomputable def o37 : Shape := ⟨[(2, .lf (.d (.bool)))], [], 23⟩
noncomputable def f37 (a : i37.Y) : Option o37.Y :=
(f70 ((a.1.1.1, ()), ())).bind fun r1592 =>
 bif r1592.1.1 then
(f71 ((a.1.1.2.1, ()), ())).bind fun r1593 =>
 bif r1593.1.1 then
(f72 ((a.1.1.1, (a.1.1.2.2.1, ())), ())).bind fun r1594 =>
 bif r1594.1.1 then
(f73 ((a.1.1.2.2.2.1, ()), ())).bind fun r1595 =>
 some ((r1595.1.1, ()), ())
else
 some ((false, ()), ())
else
 some ((false, ()), ())
else
 some ((false, ()), ())
theorem e37 : ∀ a, f37 a = jjo (jjd c37 []) b37 i37 o37 a := fun a => by kernel_rfl
noncomputable def S37 : jjF := jjf tt 23 i37 o37 [.tmp 2] [] f37
theorem z37 (h : ∀ T, (tt T).ok Pz T) (h70 : jja Pz 70 S70) (h71 : jja Pz 71 S71) (h72 : jja Pz 72 S72) (h73 : jja Pz 73 S73) : jja Pz 37 S37 :=
 have H := k37 h h70 h71 h72 h73
 jjk (fn := Tryz.f37) (fr := []) H (by kernel_rfl) (by kernel_rfl) (by kernel_rfl) (by kernel_rfl) (by kernel_rfl) jje (by kernel_rfl) (fun y => ⟨_, _, rfl, rfl, rfl⟩) e37
noncomputable def c45 : Ctx := { tt := tt, fs := fun n => match n with | _ => none }
theorem k45 (h : ∀ T, (tt T).ok Pz T) : CtxGood Pz c45 := ⟨⟨h⟩, fun g S hg => (by cases hg), jjp, fun _ _ h => (by cases h), fun _ h => (by cases h)⟩
noncomputable def b45 : Code := jji Tryz.f45
@[reducible] noncomputable def s45_26 : Shape := ⟨[(0, .lf (.d (.sl .pack))), (3, .lf (.d (.int .i64)))], [], 22⟩
@[reducible] noncomputable def t45_26 : List OSh := [(.ret, ⟨[(2, .lf (.d (.bool)))], [], 22⟩), (.exit 0, ⟨[], [], 22⟩)]
noncomputable def g45_26 (y : s45_26.Y) : Option (Sum s45_26.Y (YS t45_26)) :=
 bif (decide (y.1.2.1 < (y.1.1.length : Int))) then
(ix y.1.1 (IntKind.i64.wrap (y.1.2.1 - (1 : Int)))).bind fun x2403 =>
(ix y.1.1 y.1.2.1).bind fun x2404 =>
 bif (!(Op.bytesLess x2403.name x2404.name)) then
 some (.inr (.inl ((false, ()), ())))
else
 some (.inl ((y.1.1, ((IntKind.i64.wrap (y.1.2.1 + (1 : Int))), ())), ()))
else
 some (.inr (.inr ((), ())))
theorem r45_26 : ∀ y, g45_26 y = jjz (jjd c45 []) (jjl (jjc b45 1 26)) 26 s45_26 t45_26 y := fun y => by kernel_rfl
noncomputable def l45_26 : s45_26.Y → Option (YS t45_26) := jjC g45_26
theorem q45_26 (H : CtxGood Pz c45) : jjn Pz (jjc b45 1 26) (jjb s45_26 t45_26 l45_26) :=
 jjt (fr := []) H (by kernel_rfl) (by kernel_rfl) jje (fun y => jjh r45_26 y)
@[reducible] noncomputable def i45 : Shape := ⟨[(0, .lf (.d (.sl .pack)))], [], 22⟩
@[reducible] noncomputable def o45 : Shape := ⟨[(2, .lf (.d (.bool)))], [], 22⟩
noncomputable def f45 (a : i45.Y) : Option o45.Y :=
(l45_26 ((a.1.1, ((1 : Int), ())), ())).bind fun r2408 =>
(match r2408 with
| .inl r2409 =>
 some ((r2409.1.1, ()), ())
| .inr r2410 =>
 some ((true, ()), ()))
theorem e45 : ∀ a, f45 a = jjo (jjd c45 [(26, jjb s45_26 t45_26 l45_26)]) b45 i45 o45 a := fun a => by kernel_rfl
noncomputable def S45 : jjF := jjf tt 22 i45 o45 [.tmp 2] [] f45
theorem z45 (h : ∀ T, (tt T).ok Pz T) : jja Pz 45 S45 :=
 have H := k45 h
 jjk (fn := Tryz.f45) (fr := [(26, jjb s45_26 t45_26 l45_26)]) H (by kernel_rfl) (by kernel_rfl) (by kernel_rfl) (by kernel_rfl) (by kernel_rfl) ⟨q45_26 H, trivial⟩ (by kernel_rfl) (fun y => ⟨_, _, rfl, rfl, rfl⟩) e45
noncomputable def c86 : Ctx := { tt := tt, fs := fun n => match n with | _ => none }
theorem k86 (h : ∀ T, (tt T).ok Pz T) : CtxGood Pz c86 := ⟨⟨h⟩, fun g S hg => (by cases hg), jjp, fun _ _ h => (by cases h), fun _ h => (by cases h)⟩
noncomputable def b86 : Code := jji Tryz.f86
@[reducible] noncomputable def i86 : Shape := ⟨[(0, .lf (.d (.sl .entry)))], [], 6⟩
@[reducible] noncomputable def o86 : Shape := ⟨[(2, .lf (.own 3000128))], [(3000128, .row .entry, .slot 2 0)], 6⟩
noncomputable def f86 (a : i86.Y) : Option o86.Y :=
(apd 48 ([] : List Entry) a.1.1).bind fun x127 =>
 some (((), ()), (x127, ()))
theorem e86 : ∀ a, f86 a = jjo (jjd c86 []) b86 i86 o86 a := fun a => by kernel_rfl
noncomputable def S86 : jjF := jjf tt 6 i86 o86 [.tmp 2] [] f86
theorem z86 (h : ∀ T, (tt T).ok Pz T) : jja Pz 86 S86 :=
 have H := k86 h
 jjk (fn := Tryz.f86) (fr := []) H (by kernel_rfl) (by kernel_rfl) (by kernel_rfl) (by kernel_rfl) (by kernel_rfl) jje (by kernel_rfl) (fun y => ⟨_, _, rfl, rfl, rfl⟩) e86
noncomputable def c80 : Ctx := { tt := tt, fs := fun n => match n with | 73 => some S73 | 86 => some S86 | 106 => some S106 | _ => none }
theorem k80 (h : ∀ T, (tt T).ok Pz T) (h73 : jja Pz 73 S73) (h86 : jja Pz 86 S86) (h106 : jja Pz 106 S106) : CtxGood Pz c80 := ⟨⟨h⟩, fun g S hg => (by
 simp only [c80] at hg
 split at hg
 ·cases hg; exact h73
 ·cases hg; exact h86
 ·cases hg; exact h106
 ·cases hg), jjp, fun _ _ h => (by cases h), fun _ h => (by cases h)⟩
noncomputable def b80 : Code := jji Tryz.f80
@[reducible] noncomputable def s80_7460 : Shape := ⟨[(1, .lf (.d (.sl .entry))), (6, .lf (.own 3000384)), (7, .lf (.d (.int .i64))), (8, .lf (.d (.int .i64))), (9, .lf (.d (.bool)))], [(3000384, .row .entry, .slot 6 0)], 69⟩
@[reducible] noncomputable def t80_7460 : List OSh := [(.norm, ⟨[(1, .lf (.d (.sl .entry))), (6, .lf (.own 3000384)), (7, .lf (.d (.int .i64))), (8, .lf (.d (.int .i64))), (9, .lf (.d (.bool))), (28, .lf (.d (.bool))), (29, .lf (.d (.bool))), (47, .lf (.d (.bool)))], [(3000384, .row .entry, .slot 6 0)], 69⟩)]
noncomputable def jJI (y : s80_7460.Y) : Option (YS t80_7460) :=
 bif y.1.2.2.2.2.1 then
(inb y.2.1.length y.1.2.2.2.1).bind fun x2226 =>
(y.2.1[x2226]?).bind fun x2227 =>
 bif (x2227.kind != (1 : Int)) then
 some (((y.1.1, ((), (y.1.2.2.1, (y.1.2.2.2.1, (y.1.2.2.2.2.1, (y.1.2.2.2.2.1, (true, (true, ())))))))), (y.2.1, ())))
else
(ix y.1.1 y.1.2.2.1).bind fun x2228 =>
(inb y.2.1.length y.1.2.2.2.1).bind fun x2229 =>
(y.2.1[x2229]?).bind fun x2230 =>
 some (((y.1.1, ((), (y.1.2.2.1, (y.1.2.2.2.1, (y.1.2.2.2.2.1, (y.1.2.2.2.2.1, (true, ((!((x2228.path == x2230.path) && ((x2228.kind == x2230.kind) && ((x2228.mode == x2230.mode) && (x2228.text == x2230.text))))), ())))))))), (y.2.1, ())))
else
 some (((y.1.1, ((), (y.1.2.2.1, (y.1.2.2.2.1, (y.1.2.2.2.2.1, (y.1.2.2.2.2.1, (false, (false, ())))))))), (y.2.1, ())))
theorem r80_7460 : ∀ y, jJI y = jjK (jjd c80 []) (jjc (jjl (jjc b80 1 58)) 116 7460) 7460 s80_7460 t80_7460 y := fun y => by kernel_rfl
theorem q80_7460 (H : CtxGood Pz c80) : jjn Pz (jjc (jjl (jjc b80 1 58)) 116 7460) (jjb s80_7460 t80_7460 jJI) :=
 jjw (fr := []) H (by kernel_rfl) jje r80_7460
@[reducible] noncomputable def s80_58 : Shape := ⟨[(1, .lf (.d (.sl .entry))), (6, .lf (.own 3000384)), (7, .lf (.d (.int .i64)))], [(3000384, .row .entry, .slot 6 0)], 69⟩
@[reducible] noncomputable def jz6 : List OSh := [(.ret, ⟨[(4, .lf (.own 3000256)), (5, .lf (.d (.bool)))], [(3000256, .row .entry, .slot 4 0)], 69⟩), (.exit 0, ⟨[(6, .lf (.own 3000384))], [(3000384, .row .entry, .slot 6 0)], 69⟩)]
noncomputable def g80_58 (y : s80_58.Y) : Option (Sum s80_58.Y (YS jz6)) :=
 bif (decide (y.1.2.2.1 < (y.1.1.length : Int))) then
(ix y.1.1 y.1.2.2.1).bind fun x2241 =>
(f106 ((y.2.1, (x2241.path, ())), ())).bind fun r2242 =>
(jJI ((y.1.1, ((), (y.1.2.2.1, (r2242.1.1, (r2242.1.2.1, ()))))), (y.2.1, ()))).bind fun r2244 =>
 bif r2244.1.2.2.2.2.2.2.2.1 then
 some (.inr (.inl (((), (false, ())), (([] : List Entry), ()))))
else
 bif (!r2244.1.2.2.2.2.1) then
(jqJ r2244.2.1 (0 : Int) r2244.1.2.2.2.1).bind fun x2245 =>
(apd 48 ([] : List Entry) x2245).bind fun x2246 =>
(ix r2244.1.1 r2244.1.2.2.1).bind fun x2247 =>
(apd 48 x2246 ([x2247] : List Entry)).bind fun x2248 =>
(jqJ r2244.2.1 r2244.1.2.2.2.1 (r2244.2.1.length : Int)).bind fun x2249 =>
(apd 48 x2248 x2249).bind fun x2250 =>
 some (.inl ((r2244.1.1, ((), ((IntKind.i64.wrap (r2244.1.2.2.1 + (1 : Int))), ()))), (x2250, ())))
else
 some (.inl ((r2244.1.1, ((), ((IntKind.i64.wrap (r2244.1.2.2.1 + (1 : Int))), ()))), (r2244.2.1, ())))
else
 some (.inr (.inr (((), ()), (y.2.1, ()))))
theorem r80_58 : ∀ y, g80_58 y = jjz (jjd c80 [(7460, jjb s80_7460 t80_7460 jJI)]) (jjl (jjc b80 1 58)) 58 s80_58 jz6 y := fun y => by kernel_rfl
noncomputable def l80_58 : s80_58.Y → Option (YS jz6) := jjC g80_58
theorem q80_58 (H : CtxGood Pz c80) : jjn Pz (jjc b80 1 58) (jjb s80_58 jz6 l80_58) :=
 jjt (fr := [(7460, jjb s80_7460 t80_7460 jJI)]) H (by kernel_rfl) (by kernel_rfl) ⟨q80_7460 H, trivial⟩ (fun y => jjh r80_58 y)
@[reducible] noncomputable def i80 : Shape := ⟨[(0, .lf (.d (.sl .entry))), (1, .lf (.d (.sl .entry)))], [], 69⟩
@[reducible] noncomputable def o80 : Shape := ⟨[(4, .lf (.own 3000256)), (5, .lf (.d (.bool)))], [(3000256, .row .entry, .slot 4 0)], 69⟩
noncomputable def f80 (a : i80.Y) : Option o80.Y :=
(f86 ((a.1.1, ()), ())).bind fun r2259 =>
(l80_58 ((a.1.2.1, ((), ((0 : Int), ()))), (r2259.2.1, ()))).bind fun r2263 =>
(match r2263 with
| .inl r2264 =>
 some (((), (r2264.1.2.1, ())), (r2264.2.1, ()))
| .inr r2265 =>
(f73 ((r2265.2.1, ()), ())).bind fun r2266 =>
 some (((), (r2266.1.1, ())), (r2265.2.1, ())))
theorem e80 : ∀ a, f80 a = jjo (jjd c80 [(58, jjb s80_58 jz6 l80_58)]) b80 i80 o80 a := fun a => by kernel_rfl
noncomputable def S80 : jjF := jjf tt 69 i80 o80 [.tmp 4, .tmp 5] [] f80
theorem z80 (h : ∀ T, (tt T).ok Pz T) (h73 : jja Pz 73 S73) (h86 : jja Pz 86 S86) (h106 : jja Pz 106 S106) : jja Pz 80 S80 :=
 have H := k80 h h73 h86 h106
 jjk (fn := Tryz.f80) (fr := [(58, jjb s80_58 jz6 l80_58)]) H (by kernel_rfl) (by kernel_rfl) (by kernel_rfl) (by kernel_rfl) (by kernel_rfl) ⟨q80_58 H, trivial⟩ (by kernel_rfl) (fun y => ⟨_, _, rfl, rfl, rfl⟩) e80
abbrev BdP (p : Pack) : Prop := Bd p.name.length ∧ Bd p.version.length ∧ BdNs p.needs ∧ BdEs p.tree
abbrev BdPs (ps : List Pack) : Prop := Bd ps.length ∧ ∀ p, p ∈ ps → BdP p
def jxP (p : Pack) : Bool := jzU p.name && jqb p.version && jQb p.name p.needs && jjS p.tree
theorem v_PackOk (a) (hb : BdP ⟨a.1.1.1, a.1.1.2.1, a.1.1.2.2.1, a.1.1.2.2.2.1⟩) : f37 a = some ((jxP ⟨a.1.1.1, a.1.1.2.1, a.1.1.2.2.1, a.1.1.2.2.2.1⟩, ()), ()) := by
 obtain ⟨⟨⟨n, v, ns, t, u⟩, u'⟩, u''⟩ := a
 obtain ⟨h1, h2, h3, h4⟩ := hb
 have h1 : n.length ≤ 2097152 := h1
 have e1 := v_l3Pack ((n, ()), ()) (show n.length ≤ 1099511627776 by omega)
 have e2 := v_VersionOk ((v, ()), ()) h2
 have e3 := v_l7Needs ((n, (ns, ())), ()) h3 h1
 have e4 := v_TreeOk ((t, ()), ()) h4
 simp only [f37, e1, e2, e3, e4, Option.bind_some, jxP]
 cases jzU n <;> cases jqb v <;> cases jQb n ns <;> rfl
theorem v_iPackOk (a) (hb : BdP ⟨a.1.1.1, a.1.1.2.1, a.1.1.2.2.1, a.1.1.2.2.2.1⟩) : f35 a = some ((jxP ⟨a.1.1.1, a.1.1.2.1, a.1.1.2.2.1, a.1.1.2.2.2.1⟩, ()), ()) := by
 obtain ⟨⟨⟨n, v, ns, t, u⟩, u'⟩, u''⟩ := a
 obtain ⟨h1, h2, h3, h4⟩ := hb
 have h1 : n.length ≤ 2097152 := h1
 have e1 := v_packNameOk ((n, ()), ()) (show n.length ≤ 1099511627776 by omega)
 have e2 := jz5 ((v, ()), ()) h2
 have e3 := v_allNeed ((ns, ((), ())), ()) h3
 have e4 := v_iTreeOk ((t, ()), ()) h4
 have e5 := v_namesTwice ((ns, ((), (([n] : List Str), ()))), ()) h3 (Nat.le_refl _)
 have h6 : decide ((ns.length : Int) > 6) = !decide (ns.length ≤ 6) := by by_cases h : ns.length ≤ 6 <;> simp only [h, decide_true, decide_false, Bool.not_true, Bool.not_false, decide_eq_true_eq, decide_eq_false_iff_not] <;> omega
 have hd : dupA [] (n :: ns.map (·.name)) = dupA [n] (ns.map (·.name)) := by simp [dupA]
 simp only [f35, g35_12, e1, e2, Option.bind_some, jxP, jQb, hd, h6, Bool.not_not]
 cases jzU n with
 | false => rfl
 | true =>
  cases jqb v with
  | false => rfl
  | true =>
   cases decide (ns.length ≤ 6) with
   | false => simp only [cond_true, Bool.not_false, Option.bind_some, Bool.and_false, Bool.false_and]
   | true =>
    simp only [cond_true, Bool.not_true, cond_false, Option.bind_some, e3, e5, e4, Bool.true_and, Bool.and_true]
    cases List.all ns jqH <;> cases dupA [n] (ns.map (·.name)) <;> rfl
theorem v_allPack (a) (hs : BdPs a.1.1) : f34v0 a = some ((a.1.1.all jxP, ()), ()) := by
 obtain ⟨⟨ps, u⟩, u'⟩ := a
 obtain ⟨hl, hn⟩ := hs
 have hl : ps.length ≤ 2097152 := hl
 have key : l34v0_26 (((), (ps, ((ps.length : Int), ((0 : Int), ())))), ()) = some (bif jqz (fun _ n => jxP n) 0 ps then .inr ((), ()) else .inl ((false, ()), ())) := by
  refine jjU g34v0_26 ps (fun i => (((), (ps, ((ps.length : Int), ((i : Int), ())))), ())) _ _ _ (fun i x hx => ?_) ?_
  ·have hi := jjv hx
   have hw : Sm i := by unfold Sm; omega
   have hb := hn x (List.mem_of_getElem? hx)
   simp only [g34v0_26, jjA hi, cond_true, jjs, hx, Option.bind_some]
   rw [v_iPackOk _ hb]
   simp only [Option.bind_some, jjj hw]
   cases jxP x <;> rfl
  ·simp only [g34v0_26, jjI, cond_false]
 rw [jjW] at key
 simp only [f34v0, key, Option.bind_some]
 cases List.all ps jxP <;> rfl
def lessP (ps : List Pack) (i : Nat) (x : Pack) : Bool := match ps[i]? with
 | some q => Op.bytesLess q.name x.name
 | none => false
def ascP (ps : List Pack) : Bool := jqz (lessP ps) 0 ps.tail
theorem v_packsAscend (a) (hs : Bd a.1.1.length) : f45 a = some ((ascP a.1.1, ()), ()) := by
 obtain ⟨⟨ps, u⟩, u'⟩ := a
 have hs : ps.length ≤ 2097152 := hs
 have key : l45_26 ((ps, ((1 : Int), ())), ()) = some (bif jqz (lessP ps) 0 ps.tail then .inr ((), ()) else .inl ((false, ()), ())) := by
  refine jjU g45_26 ps.tail (fun i => ((ps, (((i + 1 : Nat) : Int), ())), ())) _ _ _ (fun i x hx => ?_) ?_
  ·have hx' : ps[i + 1]? = some x := by rw [List.getElem?_tail] at hx; exact hx
   have hi := jjv hx'
   have hw : Sm (i + 1) := by unfold Sm; omega
   obtain ⟨q, hq⟩ : ∃ q, ps[i]? = some q := ⟨ps[i], List.getElem?_eq_getElem (by omega)⟩
   simp only [g45_26, jjA hi, cond_true, jz2 (i := i) (by unfold Sm; omega), jjs, hq, hx', Option.bind_some, jjj hw, lessP]
   cases Op.bytesLess q.name x.name <;> rfl
  ·have : decide (((ps.tail.length + 1 : Nat) : Int) < (ps.length : Int)) = false := by
    simp only [decide_eq_false_iff_not, List.length_tail]; omega
   simp only [g45_26, this, cond_false]
 simp only [f45, key, Option.bind_some, ascP]
 cases jqz (lessP ps) 0 ps.tail <;> rfl
def eqE (a b : Entry) : Bool := a.path == b.path && (a.kind == b.kind && (a.mode == b.mode && a.text == b.text))
def conf (e q : Entry) : Bool := e.kind != 1 || !eqE e q
theorem eqE_comm (a b : Entry) : eqE a b = eqE b a := by
 unfold eqE
 have h1 : (a.path == b.path) = (b.path == a.path) := BEq.comm
 have h2 : (a.kind == b.kind) = (b.kind == a.kind) := BEq.comm
 have h3 : (a.mode == b.mode) = (b.mode == a.mode) := BEq.comm
 have h4 : (a.text == b.text) = (b.text == a.text) := BEq.comm
 rw [h1, h2, h3, h4]
theorem conf_eq (e q : Entry) : conf e q = (q.kind != 1 || !eqE e q) := by
 unfold conf
 cases h : eqE e q with
 | false => simp
 | true =>
  unfold eqE at h
  simp only [Bool.and_eq_true] at h
  rw [show e.kind = q.kind from eq_of_beq h.2.1]
def jQd (t : List Entry) (k : Nat) (e : Entry) : List Entry := t.take k ++ [e] ++ t.drop k
def jq9 (out : List Entry) : List Entry → Option (List Entry)
 | [] => some out
 | e :: r => match out[jj4 out e.path]? with
  | some q => bif q.path == e.path then (bif conf e q then none else jq9 out r) else jq9 (jQd out (jj4 out e.path) e) r
  | none => jq9 (jQd out (jj4 out e.path) e) r
theorem insAt_len (t : List Entry) (k : Nat) (e : Entry) (h : k ≤ t.length) : (jQd t k e).length = t.length + 1 := by
 unfold jQd
 simp only [List.length_append, List.length_take, List.length_cons, List.length_nil, List.length_drop]; omega
theorem insAt_mem {t : List Entry} {k : Nat} {e x : Entry} (h : x ∈ jQd t k e) : x = e ∨ x ∈ t := by
 unfold jQd at h
 rcases List.mem_append.1 h with h | h
 ·rcases List.mem_append.1 h with h | h
  ·exact .inr (List.mem_of_mem_take h)
  ·exact .inl (by simpa using h)
 ·exact .inr (List.mem_of_mem_drop h)
def jxH (out : List Entry) (e : Entry) : Option (List Entry) := match out[jj4 out e.path]? with
 | some q => bif q.path == e.path then (bif conf e q then none else some out) else some (jQd out (jj4 out e.path) e)
 | none => some (jQd out (jj4 out e.path) e)
theorem jqI (out : List Entry) (e : Entry) (r : List Entry) : jq9 out (e :: r) = (jxH out e).bind fun o => jq9 o r := by
 unfold jxH
 rw [jq9]
 cases out[jj4 out e.path]? with
 | none => rfl
 | some q =>
  simp only
  cases (q.path == e.path) with
  | false => rfl
  | true => cases conf e q <;> rfl
theorem stepJ_len {out o : List Entry} {e : Entry} (h : jxH out e = some o) : o.length ≤ out.length + 1 := by
 unfold jxH at h
 split at h
 ·rename_i q hq
  cases hp : (q.path == e.path) with
  | true =>
   rw [hp] at h
   cases hc : conf e q with
   | true => rw [hc] at h; cases h
   | false => rw [hc] at h; cases h; omega
  | false => rw [hp] at h; cases h; rw [insAt_len _ _ _ (jJ7 _ _)]; omega
 ·cases h; rw [insAt_len _ _ _ (jJ7 _ _)]; omega
theorem stepJ_mem {out o : List Entry} {e x : Entry} (h : jxH out e = some o) (hx : x ∈ o) : x = e ∨ x ∈ out := by
 unfold jxH at h
 split at h
 ·rename_i q hq
  cases hp : (q.path == e.path) with
  | true =>
   rw [hp] at h
   cases hc : conf e q with
   | true => rw [hc] at h; cases h
   | false => rw [hc] at h; cases h; exact .inr hx
  | false => rw [hp] at h; cases h; exact insAt_mem hx
 ·cases h; exact insAt_mem hx
theorem asc_ins {t : List Entry} {e : Entry} (ha : Asc t) (hn : jxR t e.path = false) : Asc (jQd t (jj4 t e.path) e) := by
 have hlow : ∀ a, a ∈ t.take (jj4 t e.path) → Op.bytesLess a.path e.path = true := by
  intro a h
  obtain ⟨k, hk⟩ := List.mem_iff_getElem?.1 h
  have hkp : k < jj4 t e.path := by have := jjv hk; rw [List.length_take] at this; omega
  have hk' : t[k]? = some a := by rw [List.getElem?_take, if_pos hkp] at hk; exact hk
  rw [jqu ha k a hk']; simpa using hkp
 have hhigh : ∀ a, a ∈ t.drop (jj4 t e.path) → Op.bytesLess e.path a.path = true := by
  intro a h
  obtain ⟨k, hk⟩ := List.mem_iff_getElem?.1 h
  rw [List.getElem?_drop] at hk
  have h1 := jqu (p := e.path) ha _ a hk
  have h2 : Op.bytesLess a.path e.path = false := by rw [h1]; simp
  refine bl_tri _ _ h2 ?_
  cases hq : (a.path == e.path) with
  | false => rfl
  | true =>
   exfalso
   cases k with
   | zero =>
    unfold jxR at hn
    rw [Nat.add_zero] at hk
    rw [hk] at hn
    simp only [hq] at hn
    cases hn
   | succ k =>
    have hlt := jjv hk
    obtain ⟨q, hq0⟩ : ∃ q, t[jj4 t e.path]? = some q := ⟨_, List.getElem?_eq_getElem (by omega)⟩
    have h3 := List.pairwise_iff_getElem.1 ha (jj4 t e.path) (jj4 t e.path + (k + 1)) (jjv hq0) hlt (by omega)
    rw [(List.getElem?_eq_some_iff.1 hq0).2, (List.getElem?_eq_some_iff.1 hk).2] at h3
    have h4 := jqu (p := e.path) ha _ q hq0
    rw [← eq_of_beq hq, h3] at h4
    simp at h4
 unfold Asc jQd
 refine List.pairwise_append.2 ⟨List.pairwise_append.2 ⟨ha.take _, by simp, ?_⟩, List.Pairwise.sublist (List.drop_sublist _ _) ha, ?_⟩
 ·intro a h b hb
  have hb : b = e := by simpa using hb
  subst hb
  exact hlow a h
 ·intro a h b hb
  rcases List.mem_append.1 h with h | h
  ·exact jJR _ _ _ (hlow a h) (hhigh b hb)
  ·have h : a = e := by simpa using h
   subst h
   exact hhigh b hb
theorem stepJ_asc {out o : List Entry} {e : Entry} (ha : Asc out) (h : jxH out e = some o) : Asc o := by
 unfold jxH at h
 have hno : ∀ {b : Bool}, jxR out e.path = b → b = false → Asc (jQd out (jj4 out e.path) e) := fun h1 h2 => asc_ins ha (h1.trans h2)
 split at h
 ·rename_i q hq
  cases hp : (q.path == e.path) with
  | true =>
   rw [hp] at h
   cases hc : conf e q with
   | true => rw [hc] at h; cases h
   | false => rw [hc] at h; cases h; exact ha
  | false => rw [hp] at h; cases h; exact hno (by unfold jxR; rw [hq]) hp
 ·rename_i hq; cases h; exact hno (by unfold jxR; rw [hq]) rfl
theorem v_l2Join (a) (ha : BdEs a.1.1) (hb : BdEs a.1.2.1) (hl : a.1.1.length + a.1.2.1.length ≤ 2097152) : f80 a =
  some (match jq9 a.1.1 a.1.2.1 with | some out => (((), (jjS out, ())), (out, ())) | none => (((), (false, ())), (([] : List Entry), ()))) := by
 obtain ⟨⟨xs, ys, u⟩, u'⟩ := a
 have hl : xs.length + ys.length ≤ 2097152 := hl
 have hc : f86 ((xs, ()), ()) = some (((), ()), (xs, ())) := by
  simp only [f86]
  rw [jj0 (by decide) (by unfold Sm; simp only [List.length_nil]; omega)]
  rfl
 have key : l80_58 ((ys, ((), ((0 : Int), ()))), (xs, ())) = _ := jq4 g80_58 ys (fun i (out : List Entry) => ((ys, ((), ((i : Int), ()))), (out, ())))
  (fun i e out => some (match jxH out e with | some o => .inl o | none => .inr ((.inl (((), (false, ())), (([] : List Entry), ()))) : YS jz6))) (fun out => ((.inr (((), ()), (out, ()))) : YS jz6))
  (fun i out => out.length ≤ xs.length + i ∧ ∀ e, e ∈ out → BdE e) xs ⟨Nat.le_refl _, ha.2⟩ (fun i x out hx hI => ?_) (fun out _ => ?_)
 ·have fold : ∀ (r : List Entry) (k : Nat) (out : List Entry), jqD (fun i e out => some (match jxH out e with | some o => .inl o | none => .inr ((.inl (((), (false, ())), (([] : List Entry), ()))) : YS jz6))) (fun out => ((.inr (((), ()), (out, ()))) : YS jz6)) k r out =
    some (match jq9 out r with | some o => .inr (((), ()), (o, ())) | none => .inl (((), (false, ())), (([] : List Entry), ()))) := by
   intro r
   induction r with
   | nil => intro k out; rfl
   | cons e r ih =>
    intro k out
    rw [jqI]
    simp only [jqD]
    cases jxH out e with
    | none => rfl
    | some o => simp only [Option.bind_some]; exact ih _ _
  have mem : ∀ (r : List Entry) (out o : List Entry), (∀ e, e ∈ r → BdE e) → (∀ e, e ∈ out → BdE e) → jq9 out r = some o → o.length ≤ out.length + r.length ∧ ∀ e, e ∈ o → BdE e := by
   intro r
   induction r with
   | nil => intro out o _ h2 h; cases h; exact ⟨Nat.le_refl _, h2⟩
   | cons e r ih =>
    intro out o h1 h2 h
    rw [jqI] at h
    obtain ⟨o1, h3, h4⟩ := Option.bind_eq_some_iff.1 h
    have h5 := ih o1 o (fun x hx => h1 x (List.mem_cons_of_mem _ hx)) (fun x hx => by
     rcases stepJ_mem h3 hx with rfl | h
     ·exact h1 x List.mem_cons_self
     ·exact h2 x h) h4
    have h6 := stepJ_len h3
    exact ⟨by simp only [List.length_cons]; omega, h5.2⟩
  rw [fold] at key
  simp only [f80, hc, Option.bind_some, key]
  cases hj : jq9 xs ys with
  | none => rfl
  | some o =>
   have hm := mem ys xs o hb.2 ha.2 hj
   simp only [Option.bind_some]
   rw [v_TreeOk _ ⟨show o.length ≤ 2097152 by omega, hm.2⟩]
   rfl
 ·have hi := jjv hx
  have hw : Sm i := by unfold Sm; omega
  refine ⟨?_, fun s' h' => ?_⟩
  ·have hat := v_l2At ((out, (x.path, ())), ()) (show out.length ≤ 2097152 by omega)
   have hpl := jJ7 out x.path
   simp only [g80_58, jjA hi, cond_true, jjs, hx, Option.bind_some, hat, jJI, jxR, jxH]
   have grow : ((jqJ out 0 (jj4 out x.path : Int)).bind fun x527 => (apd 48 ([] : List Entry) x527).bind fun x528 => (apd 48 x528 ([x] : List Entry)).bind fun x530 => (jqJ out (jj4 out x.path : Int) (out.length : Int)).bind fun x531 => (apd 48 x530 x531).bind fun x532 =>
     (some (.inl ((ys, ((), ((IntKind.i64.wrap ((i : Int) + (1 : Int))), ()))), (x532, ()))) : Option (Sum s80_58.Y (YS jz6)))) = some (.inl ((ys, ((), (((i + 1 : Nat) : Int), ()))), (jQd out (jj4 out x.path) x, ()))) := by
    have hlen : (out.take (jj4 out x.path)).length ≤ out.length := by rw [List.length_take]; omega
    have hlen2 : (out.drop (jj4 out x.path)).length ≤ out.length := by rw [List.length_drop]; omega
    rw [jzw hpl, Option.bind_some, jj0 (by decide) (by unfold Sm; simp only [List.length_nil]; omega), Option.bind_some, jj0 (by decide) (by unfold Sm; simp only [List.length_nil, List.length_cons, List.nil_append]; omega), Option.bind_some, jxG hpl, Option.bind_some,
     jj0 (by decide) (by unfold Sm; simp only [List.length_append, List.length_nil, List.length_cons, List.nil_append]; omega), Option.bind_some, jjj hw]
    rfl
   cases hq : out[jj4 out x.path]? with
   | none => simp only [cond_false, Option.bind_some, Bool.not_false, cond_true, jjs, hx]; exact grow
   | some q =>
    have hin := jqQ (jjv hq)
    simp only
    cases hp : (q.path == x.path) with
    | false => simp only [cond_false, Option.bind_some, Bool.not_false, cond_true, jjs, hx]; exact grow
    | true =>
     have hce : ((x.path == q.path) && ((x.kind == q.kind) && ((x.mode == q.mode) && (x.text == q.text)))) = eqE x q := rfl
     rw [conf_eq]
     simp only [cond_true, hin, hq, Option.bind_some, jjs, hx, hce]
     cases hk : (q.kind != 1) with
     | true => rfl
     | false =>
      simp only [cond_false, Option.bind_some, Bool.false_or]
      cases eqE x q with
      | false => rfl
      | true => simp only [Bool.not_true, cond_false, Option.bind_some, jjj hw]; rfl
  ·simp only [Option.some.injEq] at h'
   cases hs : jxH out x with
   | none => rw [hs] at h'; cases h'
   | some o =>
    rw [hs] at h'
    cases h'
    have h6 := stepJ_len hs
    refine ⟨by omega, fun e he => ?_⟩
    rcases stepJ_mem hs he with rfl | h
    ·exact hb.2 e (List.mem_of_getElem? hx)
    ·exact hI.2 e h
 ·simp only [g80_58, jjI, cond_false]
noncomputable def c83 : Ctx := { tt := tt, fs := fun n => match n with | _ => none }
theorem k83 (h : ∀ T, (tt T).ok Pz T) : CtxGood Pz c83 := ⟨⟨h⟩, fun g S hg => (by cases hg), jjp, fun _ _ h => (by cases h), fun _ h => (by cases h)⟩
noncomputable def b83 : Code := jji Tryz.f83
@[reducible] noncomputable def i83 : Shape := ⟨[(0, .lf (.d (.sl .entry)))], [], 8⟩
@[reducible] noncomputable def o83 : Shape := ⟨[(2, .lf (.own 3000128))], [(3000128, .row .entry, .slot 2 0)], 8⟩
noncomputable def f83 (a : i83.Y) : Option o83.Y :=
 jxn (t := .entry) a.1.1 (some (((), ()), (([] : List Entry), ()))) ((apd 48 ([] : List Entry) a.1.1).bind fun x2477 =>
 some (((), ()), (x2477, ())))
theorem e83 : ∀ a, f83 a = jjo (jjd c83 []) b83 i83 o83 a := fun a => by kernel_rfl
noncomputable def S83 : jjF := jjf tt 8 i83 o83 [.tmp 2] [] f83
theorem z83 (h : ∀ T, (tt T).ok Pz T) : jja Pz 83 S83 :=
 have H := k83 h
 jjk (fn := Tryz.f83) (fr := []) H (by kernel_rfl) (by kernel_rfl) (by kernel_rfl) (by kernel_rfl) (by kernel_rfl) jje (by kernel_rfl) (fun y => ⟨_, _, rfl, rfl, rfl⟩) e83
end Go.Proofs
